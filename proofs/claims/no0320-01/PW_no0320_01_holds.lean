import PyProof.Rows.All
import Wide.All
import OpenK.AllK
import Wide.FinOn
import KE.KSuper
import PySem.Challenge.RW_no0320_01
open PySem PySem.W PyProof.Rows
set_option Elab.async false

namespace Mine
noncomputable abbrev pw : Program := PySem.Challenge.pw_no0320_01

/-- room -/
structure Rm (n : Nat) (A : Around) : Prop where
  handled : A.handled = none
  depth : A.depth + n ≤ 900
  units : A.units + 8 * n ≤ 9000
theorem Rm.mono {n m : Nat} {A : Around} (r : Rm n A) (h : m ≤ n) : Rm m A := ⟨r.handled, by have := r.depth; omega, by have := r.units; omega⟩
theorem Rm.deeper {n : Nat} {A : Around} {env : Env} (r : Rm (n + 1) A) : Rm n (A.deeper env) :=
  ⟨r.handled, by have := r.depth; show A.depth + 1 + n ≤ 900; omega, by have := r.units; show A.units + 3 + 8 * n ≤ 9000; omega⟩
theorem Rm.in1 {n : Nat} {A : Around} (r : Rm (n + 1) A) : Rm n A.in1 :=
  ⟨r.handled, by have := r.depth; show A.depth + n ≤ 900; omega, by have := r.units; show A.units + 1 + 8 * n ≤ 9000; omega⟩
theorem Rm.lim {n : Nat} {A : Around} (r : Rm n A) : A.depth < recursionLimit := by
  have := r.depth; show A.depth < 1000; omega
theorem Rm.cline {n : Nat} {A : Around} (r : Rm n A) : A.units + 64 < cLine := by
  have := r.units; rw [cLine_is]; omega
theorem Rm.cline' {n : Nat} {A : Around} (r : Rm n A) : A.units < cLine := by
  have := r.units; rw [cLine_is]; omega

/-- a heap keeps all objects but those of W -/
noncomputable def Kp (W : List Addr) (h h' : Heap) : Prop := ∀ a o, a ∉ W → h.get? a = some o → h'.get? a = some o
theorem Kp.refl {W : List Addr} {h : Heap} : Kp W h h := fun _ _ _ e => e
theorem Kp.trans {W : List Addr} {h h' h'' : Heap} (x : Kp W h h') (y : Kp W h' h'') : Kp W h h'' := fun a o n e => y a o n (x a o n e)
theorem Kp.more {W W' : List Addr} {h h' : Heap} (x : Kp W h h') (s : ∀ a ∈ W, a ∈ W') : Kp W' h h' := fun a o n e => x a o (fun m => n (s a m)) e
theorem Kp.nil {W : List Addr} {h h' : Heap} (x : Kp [] h h') : Kp W h h' := x.more fun _ h => nomatch h
theorem Kp.all {h h' : Heap} (x : Kp [] h h') : ∀ a o, h.get? a = some o → h'.get? a = some o := fun a o e => x a o (fun h => nomatch h) e
theorem Kp.of {h h' : Heap} (x : ∀ a o, h.get? a = some o → h'.get? a = some o) : Kp [] h h' := fun a o _ e => x a o e
theorem Kp.push {h : Heap} {o : Obj} : Kp [] h (h.push o) := fun _ _ _ e => Heap.get?_push_of_some o e
theorem Kp.sameBut {a : Addr} {h h' : Heap} (x : Heap.SameBut a h h') : Kp [a] h h' := fun b _ n e => (x.2 b (fun q => n (by simp [q]))).trans e
theorem Kp.extBut {a : Addr} {h h' : Heap} (x : Heap.ExtBut a h h') : Kp [a] h h' := fun b o n e => x b o (fun q => n (by simp [q])) e
/-- what is written did not stand at the start -/
theorem Kp.drop {W : List Addr} {h h' h'' : Heap} (x : Kp [] h h') (y : Kp W h' h'') (f : ∀ a ∈ W, h.get? a = none) : Kp [] h h'' := fun a o _ e =>
  y a o (fun m => by rw [f a m] at e; cases e) (x.all a o e)
theorem Kp.fresh {W : List Addr} {h h'' : Heap} (y : Kp W h h'') (f : ∀ a ∈ W, h.get? a = none) : Kp [] h h'' := Kp.refl.drop y f

noncomputable abbrev big : Nat := 100000
mutual
inductive Rp (M : List Addr) (h : Heap) : Value → PyData → Prop
  | none : Rp M h .none .none
  | bool (b) : Rp M h (.bool b) (.bool b)
  | int (i t) : Rp M h (.int i t) (.int i)
  | str (x t) : Rp M h (.str x t) (.str x)
  | list {a vs n xs} : a ∉ M → xs.length ≤ big → h.get? a = some { cls := .type "list", data := .seq vs n } → RpAll M h vs.toList xs → Rp M h (.ref a) (.list xs)
  | tuple {a vs n xs} : a ∉ M → xs.length ≤ big → h.get? a = some { cls := .type "tuple", data := .seq vs n } → RpAll M h vs.toList xs → Rp M h (.ref a) (.tuple xs)
inductive RpAll (M : List Addr) (h : Heap) : List Value → List PyData → Prop
  | nil : RpAll M h [] []
  | cons {v vs d ds} : Rp M h v d → RpAll M h vs ds → RpAll M h (v :: vs) (d :: ds)
end
section
variable {M : List Addr} {h : Heap} {A : List Addr} {g : Heap}
theorem Rp.gen (f : ∀ a o, a ∉ M → h.get? a = some o → a ∉ A ∧ g.get? a = some o) {v : Value} {d : PyData} (x : Rp M h v d) : Rp A g v d :=
  Rp.rec (motive_1 := fun v d _ => Rp A g v d) (motive_2 := fun v d _ => RpAll A g v d) .none .bool .int .str (fun m z e _ k => .list (f _ _ m e).1 z (f _ _ m e).2 k) (fun m z e _ k => .tuple (f _ _ m e).1 z (f _ _ m e).2 k) .nil (fun _ _ a b => .cons a b) x
theorem RpAll.gen (f : ∀ a o, a ∉ M → h.get? a = some o → a ∉ A ∧ g.get? a = some o) {v : List Value} {d : List PyData} (x : RpAll M h v d) : RpAll A g v d :=
  RpAll.rec (motive_1 := fun v d _ => Rp A g v d) (motive_2 := fun v d _ => RpAll A g v d) .none .bool .int .str (fun m z e _ k => .list (f _ _ m e).1 z (f _ _ m e).2 k) (fun m z e _ k => .tuple (f _ _ m e).1 z (f _ _ m e).2 k) .nil (fun _ _ a b => .cons a b) x
theorem Kp.gen {W : List Addr} {h' : Heap} (hk : Kp W h h') (hW : ∀ a ∈ W, a ∈ M ∨ h.get? a = none) (a : Addr) (o : Obj) (m : a ∉ M) (e : h.get? a = some o) : a ∉ M ∧ h'.get? a = some o := ⟨m, hk _ _ (fun q => (hW _ q).elim m fun z => by rw [z] at e; cases e) e⟩
theorem gen_avoid {M' : List Addr} (hW : ∀ a ∈ M', a ∈ M ∨ h.get? a = none) (a : Addr) (o : Obj) (m : a ∉ M) (e : h.get? a = some o) : a ∉ M' ∧ h.get? a = some o := ⟨fun q => (hW _ q).elim m (fun z => by rw [z] at e; cases e), e⟩
end
theorem Rp.kp {M W : List Addr} {h h' : Heap} (hk : Kp W h h') (hW : ∀ a ∈ W, a ∈ M ∨ h.get? a = Option.none) {v : Value} {d : PyData} (x : Rp M h v d) : Rp M h' v d := x.gen (hk.gen hW)
theorem RpAll.kp {M W : List Addr} {h h' : Heap} (hk : Kp W h h') (hW : ∀ a ∈ W, a ∈ M ∨ h.get? a = none) {v : List Value} {d : List PyData} (x : RpAll M h v d) : RpAll M h' v d := x.gen (hk.gen hW)
theorem Rp.avoid {M M' : List Addr} {h : Heap} (hW : ∀ a ∈ M', a ∈ M ∨ h.get? a = Option.none) {v : Value} {d : PyData} (x : Rp M h v d) : Rp M' h v d := x.gen (gen_avoid hW)
theorem RpAll.avoid {M M' : List Addr} {h : Heap} (hW : ∀ a ∈ M', a ∈ M ∨ h.get? a = none) {v : List Value} {d : List PyData} (x : RpAll M h v d) : RpAll M' h v d := x.gen (gen_avoid hW)
theorem RpAll.reads {M : List Addr} {h : Heap} {v : List Value} {d : List PyData} (x : RpAll M h v d) : ∃ as, ReadsAll h v d as :=
  RpAll.rec (motive_1 := fun v d _ => ∃ as, Reads h v d as) (motive_2 := fun v d _ => ∃ as, ReadsAll h v d as) ⟨_, .none⟩ (fun b => ⟨_, .bool b⟩) (fun i t => ⟨_, .int i t⟩) (fun x t => ⟨_, .str x t⟩) (fun _ _ e _ k => k.elim fun _ q => ⟨_, .list e rfl rfl q⟩) (fun _ _ e _ k => k.elim fun _ q => ⟨_, .tuple e rfl rfl q⟩) ⟨_, .nil⟩ (fun _ _ a c => a.elim fun _ q => c.elim fun _ p => ⟨_, .cons q p⟩) x
theorem Rp.reads {M : List Addr} {h : Heap} {v : Value} {d : PyData} (x : Rp M h v d) : ∃ as, Reads h v d as :=
  Rp.rec (motive_1 := fun v d _ => ∃ as, Reads h v d as) (motive_2 := fun v d _ => ∃ as, ReadsAll h v d as) ⟨_, .none⟩ (fun b => ⟨_, .bool b⟩) (fun i t => ⟨_, .int i t⟩) (fun x t => ⟨_, .str x t⟩) (fun _ _ e _ k => k.elim fun _ q => ⟨_, .list e rfl rfl q⟩) (fun _ _ e _ k => k.elim fun _ q => ⟨_, .tuple e rfl rfl q⟩) ⟨_, .nil⟩ (fun _ _ a c => a.elim fun _ q => c.elim fun _ p => ⟨_, .cons q p⟩) x
inductive SInv (c : String) (M : List Addr) (h : Heap) (v : Value) (xs : List PyData) : Prop
  | mk (a : Addr) (vs : Array Value) (n : Nat) (hv : v = .ref a) (m : a ∉ M) (z : xs.length ≤ big) (e : h.get? a = some { cls := .type c, data := .seq vs n }) (r : RpAll M h vs.toList xs) : SInv c M h v xs
section
variable {M : List Addr} {h : Heap} {v : Value} {d : PyData} {vs ws : List Value} {ds es : List PyData}
theorem RpAll.length (r : RpAll M h vs ds) : vs.length = ds.length := by
  induction vs generalizing ds with
  | nil => cases r; rfl
  | cons v vs ih => cases r with | cons _ r => rw [List.length_cons, List.length_cons, ih r]
theorem RpAll.append (r : RpAll M h vs ds) (k : RpAll M h ws es) : RpAll M h (vs ++ ws) (ds ++ es) := by
  induction vs generalizing ds with
  | nil => cases r; exact k
  | cons v vs ih => cases r with | cons a r => exact .cons a (ih r)
theorem RpAll.one (r : Rp M h v d) : RpAll M h [v] [d] := .cons r .nil
theorem RpAll.get (r : RpAll M h vs ds) {k : Nat} {d : PyData} (hk : ds[k]? = some d) : ∃ v, vs[k]? = some v ∧ Rp M h v d := by
  induction vs generalizing ds k with
  | nil => cases r; simp at hk
  | cons v vs ih =>
    cases r with
    | cons a r =>
      cases k with
      | zero => simp at hk; subst hk; exact ⟨v, rfl, a⟩
      | succ k => exact ih r (by simpa using hk)
theorem RpAll.get' (r : RpAll M h vs ds) {k : Nat} {v : Value} (hk : vs[k]? = some v) : ∃ d, ds[k]? = some d ∧ Rp M h v d := by
  induction vs generalizing ds k with
  | nil => simp at hk
  | cons v vs ih =>
    cases r with
    | cons a r =>
      cases k with
      | zero => simp at hk; subst hk; exact ⟨_, rfl, a⟩
      | succ k => exact ih r (by simpa using hk)
theorem RpAll.take (r : RpAll M h vs ds) (k : Nat) : RpAll M h (vs.take k) (ds.take k) := by
  induction vs generalizing ds k with
  | nil => cases r; simp; exact .nil
  | cons v vs ih =>
    cases r with
    | cons a r =>
      cases k with
      | zero => exact .nil
      | succ k => exact .cons a (ih r k)
theorem RpAll.drop (r : RpAll M h vs ds) (k : Nat) : RpAll M h (vs.drop k) (ds.drop k) := by
  induction vs generalizing ds k with
  | nil => cases r; simp; exact .nil
  | cons v vs ih =>
    cases r with
    | cons a r =>
      cases k with
      | zero => exact .cons a r
      | succ k => exact ih r k
theorem RpAll.set (r : RpAll M h vs ds) (a : Rp M h v d) (k : Nat) : RpAll M h (vs.set k v) (ds.set k d) := by
  induction vs generalizing ds k with
  | nil => cases r; exact .nil
  | cons v vs ih =>
    cases r with
    | cons b r =>
      cases k with
      | zero => exact .cons a r
      | succ k => exact .cons b (ih r k)
theorem RpAll.mk (hl : vs.length = ds.length) (hi : ∀ (k : Nat) v d, vs[k]? = some v → ds[k]? = some d → Rp M h v d) : RpAll M h vs ds := by
  induction vs generalizing ds with
  | nil => cases ds with | nil => exact .nil | cons => cases hl
  | cons v vs ih =>
    cases ds with
    | nil => cases hl
    | cons d ds => exact .cons (hi 0 v d rfl rfl) (ih (by simpa using hl) fun k v d a b => hi (k + 1) v d a b)
theorem Rp.int_inv {i : Int} (r : Rp M h v (.int i)) : ∃ t, v = .int i t := by cases r; exact ⟨_, rfl⟩
theorem Rp.bool_inv {b : Bool} (r : Rp M h v (.bool b)) : v = .bool b := by cases r; rfl
theorem Rp.str_inv {x : Str} (r : Rp M h v (.str x)) : ∃ t, v = .str x t := by cases r; exact ⟨_, rfl⟩
theorem Rp.none_inv (r : Rp M h v .none) : v = .none := by cases r; rfl
theorem Rp.list_inv {xs : List PyData} (r : Rp M h v (.list xs)) : SInv "list" M h v xs := by
  cases r with | list m z e r => exact ⟨_, _, _, rfl, m, z, e, r⟩
theorem Rp.tuple_inv {xs : List PyData} (r : Rp M h v (.tuple xs)) : SInv "tuple" M h v xs := by
  cases r with | tuple m z e r => exact ⟨_, _, _, rfl, m, z, e, r⟩
end

/-- what a name may hold: data, or a value as it is -/
inductive D where
  | dat (d : PyData)
  | raw (v : Value)
  | rng (lo hi : Int)
  | trip (u : Addr) (d : PyData) (w : Addr)
noncomputable abbrev D.int (i : Int) : D := .dat (.int i)
noncomputable abbrev D.bool (b : Bool) : D := .dat (.bool b)
noncomputable abbrev D.str (x : Str) : D := .dat (.str x)
noncomputable abbrev D.none : D := .dat .none
noncomputable abbrev D.list (xs : List PyData) : D := .dat (.list xs)
noncomputable abbrev D.tup (xs : List PyData) : D := .dat (.tuple xs)
noncomputable def Dp (M : List Addr) (h : Heap) (v : Value) : D → Prop
  | .dat d => Rp M h v d
  | .raw w => v = w
  | .rng lo hi => ∃ r t u c, v = .ref r ∧ r ∉ M ∧ IsRange h r lo hi 1 t u c
  | .trip u d w => ∃ a x n, v = .ref a ∧ a ∉ M ∧ h.get? a = some { cls := .type "tuple", data := .seq #[.ref u, x, .ref w] n } ∧ Rp M h x d
theorem Dp.kp {M W : List Addr} {h h' : Heap} {v : Value} {d : D} (x : Dp M h v d) (hk : Kp W h h') (hW : ∀ a ∈ W, a ∈ M ∨ h.get? a = none) : Dp M h' v d := by
  cases d with
  | dat d => exact Rp.kp hk hW x
  | raw w => exact x
  | rng lo hi => obtain ⟨r, t, u, c, e, m, q⟩ := x; exact ⟨r, t, u, c, e, m, hk _ _ (fun z => (hW _ z).elim m fun y => by cases y.symm.trans q) q⟩
  | trip u d w => obtain ⟨a, y, n, e, m, q, r⟩ := x; exact ⟨a, y, n, e, m, hk _ _ (fun z => (hW _ z).elim m fun y => by cases y.symm.trans q) q, r.kp hk hW⟩
theorem Dp.keep {M : List Addr} {h h' : Heap} {v : Value} {d : D} (x : Dp M h v d) (hk : Kp [] h h') : Dp M h' v d := x.kp hk fun _ h => nomatch h
theorem Dp.avoid {M M' : List Addr} {h : Heap} {v : Value} {d : D} (x : Dp M h v d) (hW : ∀ a ∈ M', a ∈ M ∨ h.get? a = none) : Dp M' h v d := by
  cases d with
  | dat d => exact Rp.avoid hW x
  | raw w => exact x
  | rng lo hi => obtain ⟨r, t, u, c, e, m, q⟩ := x; exact ⟨r, t, u, c, e, (fun z => (hW _ z).elim m fun y => by cases y.symm.trans q), q⟩
  | trip u d w => obtain ⟨a, y, n, e, m, q, r⟩ := x; exact ⟨a, y, n, e, (fun z => (hW _ z).elim m fun y => by cases y.symm.trans q), q, r.avoid hW⟩
inductive DpAll (M : List Addr) (h : Heap) : List Value → List D → Prop
  | nil : DpAll M h [] []
  | cons {v vs d ds} : Dp M h v d → DpAll M h vs ds → DpAll M h (v :: vs) (d :: ds)
section
variable {M : List Addr} {h : Heap} {vs : List Value} {d e : D} {ds : List D} {P : List Value → Prop}
theorem DpAll.d0 (x : DpAll M h vs []) (k : P []) : P vs := by cases x; exact k
theorem DpAll.dc (x : DpAll M h vs (d :: ds)) (k : ∀ u us, Dp M h u d → DpAll M h us ds → P (u :: us)) : P vs := by cases x with | cons a r => exact k _ _ a r
theorem DpAll.d1 (x : DpAll M h vs [d]) (k : ∀ u, Dp M h u d → P [u]) : P vs := x.dc fun u _ a r => r.d0 (P := fun us => P (u :: us)) (k u a)
theorem DpAll.d2 (x : DpAll M h vs [d, e]) (k : ∀ u v, Dp M h u d → Dp M h v e → P [u, v]) : P vs := x.dc fun u _ a r => r.d1 (P := fun us => P (u :: us)) fun v c => k u v a c
theorem DpAll.d3 {f : D} (x : DpAll M h vs [d, e, f]) (k : ∀ u v w, Dp M h u d → Dp M h v e → Dp M h w f → P [u, v, w]) : P vs := x.dc fun u _ a r => r.d2 (P := fun us => P (u :: us)) fun v w c z => k u v w a c z
end
theorem DpAll.imp {M M' : List Addr} {h h' : Heap} (f : ∀ v d, Dp M h v d → Dp M' h' v d) {vs : List Value} {ds : List D} (x : DpAll M h vs ds) : DpAll M' h' vs ds := by
  induction x with
  | nil => exact .nil
  | cons a _ ih => exact .cons (f _ _ a) ih
theorem DpAll.keep {M : List Addr} {h h' : Heap} {vs : List Value} {ds : List D} (x : DpAll M h vs ds) (hk : Kp [] h h') : DpAll M h' vs ds := x.imp fun _ _ y => y.keep hk
theorem DpAll.rp {M : List Addr} {h : Heap} {vs : List Value} {ds : List PyData} (x : DpAll M h vs (ds.map .dat)) : RpAll M h vs ds := by
  induction ds generalizing vs with
  | nil => cases x; exact .nil
  | cons d ds ih => cases x with | cons a b => exact .cons a (ih b)
theorem RpAll.ints {M : List Addr} {h : Heap} {vs : List Value} {is : List Int} (x : RpAll M h vs (is.map .int)) : IntsAre vs is := by
  induction is generalizing vs with
  | nil => cases x; exact .nil
  | cons d ds ih => cases x with | cons a b => obtain ⟨t, rfl⟩ := Rp.int_inv a; exact .cons _ _ (ih b)
theorem RpAll.of_ints {M : List Addr} {h : Heap} {vs : List Value} {is : List Int} (x : IntsAre vs is) : RpAll M h vs (is.map .int) := by
  induction x with
  | nil => exact .nil
  | cons n t _ ih => exact .cons (.int _ _) ih


structure Bas where
  w : World
  B : Heap
  os : OsState
  mg : Str → Option Value
  mb : Str → Option Value
  ng : B.Ns mainGlobals mg
  nb : B.Ns builtinsNs mb
  lim : B.NoLimit
  K : Frag
  hK : K.In B

/-- what a global name holds -/
noncomputable def Bas.Gl (b : Bas) (x : Str) (v : Value) : Prop := b.mg x = some v ∨ (b.mg x = none ∧ b.mb x = some v)

/-- a str-keyed dict's entries -/
inductive EnAll (P : Params) (M : List Addr) (h : Heap) : List DictEntry → List (Str × D) → Prop
  | nil : EnAll P M h [] []
  | cons {k : Str} {t : Tok} {v : Value} {d : D} {es kvs} : Dp M h v d → EnAll P M h es kvs → EnAll P M h (⟨PyData.keyHash P k, .str k t, v⟩ :: es) ((k, d) :: kvs)
theorem EnAll.imp {P : Params} {M M' : List Addr} {h h' : Heap} (f : ∀ v d, Dp M h v d → Dp M' h' v d) {es : List DictEntry} {kvs : List (Str × D)} (x : EnAll P M h es kvs) : EnAll P M' h' es kvs := by
  induction x with
  | nil => exact .nil
  | cons a _ ih => exact .cons (f _ _ a) ih

/-- the same for a dict met by keys -/
inductive SAll (M : List Addr) (h : Heap) : List (Str × Value) → List (Str × D) → Prop
  | nil : SAll M h [] []
  | cons {k : Str} {v : Value} {d : D} {vs kvs} : Dp M h v d → SAll M h vs kvs → SAll M h ((k, v) :: vs) ((k, d) :: kvs)
theorem SAll.imp {M M' : List Addr} {h h' : Heap} (f : ∀ v d, Dp M h v d → Dp M' h' v d) {es : List (Str × Value)} {kvs : List (Str × D)} (x : SAll M h es kvs) : SAll M' h' es kvs := by
  induction x with
  | nil => exact .nil
  | cons a _ ih => exact .cons (f _ _ a) ih
/-- a mutable object of the call's own -/
inductive MO where
  | list (a : Addr) (xs : List PyData)
  | dict (a : Addr) (kvs : List (Str × D))
  | idict (a : Addr) (n : Nat)
  | sdict (a : Addr) (kvs : List (Str × D))
  | inst (a C dx : Addr)
noncomputable def MO.addr : MO → Addr
  | .list a _ => a
  | .dict a _ => a
  | .idict a _ => a
  | .sdict a _ => a
  | .inst a _ _ => a
noncomputable abbrev instO (C dx : Addr) : Obj := ⟨.ref C, some dx, .plain, #[]⟩
noncomputable def MO.holds (b : Bas) (M : List Addr) (h : Heap) : MO → Prop
  | .list a xs => ∃ vs n, h.get? a = some { cls := .type "list", data := .seq vs n } ∧ RpAll M h vs.toList xs
  | .dict a kvs => ∃ es n, h.get? a = some (dictOf es n) ∧ EnAll b.w.params M h es kvs
  | .idict a n => ∃ kvs : List (Int × Value), h.DictOf (intKind pw b.w) a kvs ∧ ∀ p ∈ kvs, 0 ≤ p.1 ∧ p.1 < (n : Int)
  | .sdict a kvs => ∃ vs : List (Str × Value), h.DictOf (PySem.strKind pw b.w) a vs ∧ SAll M h vs kvs
  | .inst a C dx => h.get? a = some (instO C dx)
theorem MO.holds.kp {b : Bas} {M W : List Addr} {h h' : Heap} {t : MO} (x : t.holds b M h) (hk : Kp W h h') (hW : ∀ a ∈ W, a ∈ M ∨ h.get? a = none) (ht : t.addr ∉ W) : t.holds b M h' := by
  cases t with
  | list a xs => obtain ⟨vs, n, e, r⟩ := x; exact ⟨vs, n, hk _ _ ht e, RpAll.kp hk hW r⟩
  | dict a kvs => obtain ⟨es, n, e, r⟩ := x; exact ⟨es, n, hk _ _ ht e, r.imp fun v d y => y.kp hk hW⟩
  | idict a n => obtain ⟨kvs, ⟨o, es, ep, e, r⟩, q⟩ := x; exact ⟨kvs, ⟨o, es, ep, hk _ _ ht e, r⟩, q⟩
  | sdict a kvs => obtain ⟨vs, ⟨o, es, ep, e, r⟩, q⟩ := x; exact ⟨vs, ⟨o, es, ep, hk _ _ ht e, r⟩, q.imp fun v d y => y.kp hk hW⟩
  | inst a C dx => exact hk _ _ ht x
theorem MO.holds.keep {b : Bas} {M : List Addr} {h h' : Heap} {t : MO} (x : t.holds b M h) (hk : Kp [] h h') : t.holds b M h' := x.kp hk (fun _ h => nomatch h) (fun h => nomatch h)
theorem MO.holds.avoid {b : Bas} {M M' : List Addr} {h : Heap} {t : MO} (x : t.holds b M h) (hW : ∀ a ∈ M', a ∈ M ∨ h.get? a = none) : t.holds b M' h := by
  cases t with
  | list a xs => obtain ⟨vs, n, e, r⟩ := x; exact ⟨vs, n, e, RpAll.avoid hW r⟩
  | dict a kvs => obtain ⟨es, n, e, r⟩ := x; exact ⟨es, n, e, r.imp fun v d y => y.avoid hW⟩
  | idict a n => exact x
  | sdict a kvs => obtain ⟨vs, e, r⟩ := x; exact ⟨vs, e, r.imp fun v d y => y.avoid hW⟩
  | inst a C dx => exact x
theorem MO.holds.at_ {b : Bas} {M : List Addr} {h : Heap} {t : MO} (x : t.holds b M h) : ∃ o, h.get? t.addr = some o := by
  cases t with
  | list a xs => obtain ⟨vs, n, e, _⟩ := x; exact ⟨_, e⟩
  | dict a kvs => obtain ⟨vs, n, e, _⟩ := x; exact ⟨_, e⟩
  | idict a n => obtain ⟨vs, ⟨o, es, ep, e, _⟩, _⟩ := x; exact ⟨_, e⟩
  | sdict a kvs => obtain ⟨vs, ⟨o, es, ep, e, _⟩, _⟩ := x; exact ⟨_, e⟩
  | inst a C dx => exact ⟨_, x⟩

structure EnvOk (sc : Scope) (env : Env) : Prop where
  scope : env.scope = sc
  fn : sc.kind = .function
  globals : env.globals = mainGlobals
  builtins : env.builtins = builtinsNs
  apart : env.cells.Pairwise fun x y => x.2 ≠ y.2
  off : ∀ n a, (n, a) ∈ env.cells → a ≠ env.locals
  has : ∀ x, sc.names.lookup x = some .cell ∨ sc.names.lookup x = some .free → (env.cells.lookup x).isSome = true
theorem EnvOk.kind {sc : Scope} {env : Env} (x : EnvOk sc env) : env.scope.kind = .function := x.scope ▸ x.fn
theorem EnvOk.kindOf {sc : Scope} {env : Env} (x : EnvOk sc env) (n : Str) : env.kindOf n = sc.names.lookup n := by unfold Env.kindOf; rw [x.scope]

structure Fm (env : Env) (h : Heap) (m cm : Str → Option Value) : Prop where
  ns : h.Ns env.locals m
  cell : ∀ n a, env.cells.lookup n = some a → h.IsCell a (cm n)
theorem Fm.keep {env : Env} {h h' : Heap} {m cm : Str → Option Value} (x : Fm env h m cm) (hk : Kp [] h h') : Fm env h' m cm := ⟨x.ns.keeps hk.all, fun n a e => (x.cell n a e).keeps hk.all⟩

noncomputable def Bd (env : Env) (m cm : Str → Option Value) (x : Str) (v : Value) : Prop :=
  (env.kindOf x = some .local ∧ m x = some v) ∨ ((env.kindOf x = some .cell ∨ env.kindOf x = some .free) ∧ (x == ("__classdict__" : Str)) = false ∧ (env.cells.lookup x).isSome = true ∧ cm x = some v)

/-- a call may have moved on -/
structure Pr (s s' : Shared) : Prop where
  kp : Kp [] s.heap s'.heap
  gens : s'.gens = s.gens
  os : s'.os = s.os
theorem Pr.refl {s : Shared} : Pr s s := ⟨Kp.refl, rfl, rfl⟩
theorem Pr.trans {s s' s'' : Shared} (x : Pr s s') (y : Pr s' s'') : Pr s s'' := ⟨x.kp.trans y.kp, y.gens.trans x.gens, y.os.trans x.os⟩
theorem Pr.tok {s : Shared} {t : Nat} : Pr s { s with toks := t } := ⟨Kp.refl, rfl, rfl⟩
theorem Pr.heap {s : Shared} {h : Heap} {t : Nat} (k : Kp [] s.heap h) : Pr s { s with heap := h, toks := t } := ⟨k, rfl, rfl⟩

/-- what holds of the state where no frame is looked at -/
structure St (b : Bas) (M : List Addr) (X : List MO) (s : Shared) : Prop where
  base : Kp [] b.B s.heap
  gens : s.gens = #[]
  os : s.os = b.os
  mo : ∀ t ∈ X, t.holds b M s.heap
  moM : ∀ t ∈ X, t.addr ∈ M
  ndX : (X.map MO.addr).Nodup
  exM : ∀ a ∈ M, ∃ o, s.heap.get? a = some o
  newM : ∀ a ∈ M, b.B.get? a = none
theorem St.pure {b : Bas} {M : List Addr} {X : List MO} {s s' : Shared} (x : St b M X s) (p : Pr s s') : St b M X s' :=
  ⟨x.base.trans p.kp, p.gens.trans x.gens, p.os.trans x.os, fun t ht => (x.mo t ht).keep p.kp, x.moM, x.ndX, fun a ha => let ⟨o, e⟩ := x.exM a ha; ⟨o, p.kp.all _ _ e⟩, x.newM⟩
theorem St.ns {b : Bas} {M : List Addr} {X : List MO} {s : Shared} (x : St b M X s) : s.heap.Ns mainGlobals b.mg := b.ng.keeps x.base.all
theorem St.nb {b : Bas} {M : List Addr} {X : List MO} {s : Shared} (x : St b M X s) : s.heap.Ns builtinsNs b.mb := b.nb.keeps x.base.all
theorem St.lim {b : Bas} {M : List Addr} {X : List MO} {s : Shared} (x : St b M X s) : s.heap.NoLimit := b.lim.keeps x.base.all
theorem St.inK {b : Bas} {M : List Addr} {X : List MO} {s : Shared} (x : St b M X s) : b.K.In s.heap := b.hK.keeps x.base.all
theorem St.new {b : Bas} {M : List Addr} {X : List MO} {s : Shared} (x : St b M X s) : s.heap.objs.size ∉ M := fun h => by
  obtain ⟨o, e⟩ := x.exM _ h
  exact Nat.lt_irrefl _ (Heap.lt_size e)

structure Sv (b : Bas) (sc : Scope) (env : Env) (M : List Addr) (ρ : List (Str × D)) (X : List MO) (s : Shared) : Prop where
  st : St b M X s
  eo : EnvOk sc env
  fr : ∃ m cm, Fm env s.heap m cm ∧ ∀ p ∈ ρ, ∃ v, Bd env m cm p.1 v ∧ Dp M s.heap v p.2
  locM : env.locals ∈ M
  celM : ∀ p ∈ env.cells, p.2 ∈ M
  apX : ∀ t ∈ X, t.addr ≠ env.locals ∧ ∀ p ∈ env.cells, p.2 ≠ t.addr
theorem Sv.pure {b : Bas} {sc : Scope} {env : Env} {M : List Addr} {ρ : List (Str × D)} {X : List MO} {s s' : Shared} (x : Sv b sc env M ρ X s) (p : Pr s s') : Sv b sc env M ρ X s' :=
  ⟨x.st.pure p, x.eo, let ⟨m, cm, f, r⟩ := x.fr; ⟨m, cm, f.keep p.kp, fun q hq => let ⟨v, h1, h2⟩ := r q hq; ⟨v, h1, h2.keep p.kp⟩⟩, x.locM, x.celM, x.apX⟩

noncomputable abbrev Mo (b : Bas) : Model := model pw b.w
noncomputable abbrev noE : Value → Shared → Prop := fun _ _ => False

/-- what a pure one leaves -/
structure EvR (M : List Addr) (s : Shared) (d : D) (v : Value) (s' : Shared) : Prop where
  a : Dp M s'.heap v d
  p : Pr s s'
structure EqR {α : Type} (s : Shared) (c : α) (t : α) (s' : Shared) : Prop where
  e : t = c
  p : Pr s s'
/-- an expression that changes nothing -/
noncomputable def Ev (b : Bas) (n : Nat) (sc : Scope) (ρ : List (Str × D)) (X : List MO) (e : PySem.Expr) (d : D) : Prop :=
  ∀ A env M s, Rm n A → Sv b sc env M ρ X s → wpAny (Mo b) A (eval e env) (EvR M s d) noE s
/-- a test that changes nothing -/
noncomputable def Tv (b : Bas) (n : Nat) (sc : Scope) (ρ : List (Str × D)) (X : List MO) (e : PySem.Expr) (c : Bool) : Prop :=
  ∀ A env M s, Rm n A → Sv b sc env M ρ X s → wpAny (Mo b) A (isTrue e env (eval e env)) (EqR s c) noE s
/-- a call that changes nothing -/
noncomputable def Fn (b : Bas) (n : Nat) (X : List MO) (f : Value) (args : List D) (r : D) : Prop :=
  ∀ A M s vs, Rm n A → St b M X s → DpAll M s.heap vs args → wpAny (Mo b) A (call f vs) (EvR M s r) noE s

theorem wp_weak {α : Type} {M : Model} {A : Around} {t : Sem α} {Q Q' : α → Shared → Prop} {s : Shared} {E : Value → Shared → Prop} (h : wpAny M A t Q noE s) (hq : ∀ a s', Q a s' → Q' a s') : wpAny M A t Q' E s :=
  wpAny_mono h hq fun _ _ e => e.elim
theorem wp_noE {α : Type} {M : Model} {A : Around} {t : Sem α} {Q : α → Shared → Prop} {s : Shared} {E : Value → Shared → Prop} (h : wpAny M A t Q noE s) : wpAny M A t Q E s := wp_weak h fun _ _ q => q

section
variable {b : Bas} {n : Nat} {sc : Scope} {ρ : List (Str × D)} {X : List MO}

theorem ev_name {x : Str} {pos : Pos} {d : D} (h : (x, d) ∈ ρ) (hd : (x == ("__debug__" : Str)) = false := by decide +kernel) : Ev b n sc ρ X (.Name x pos) d := fun A env M s _ S => by
  obtain ⟨m, cm, F, r⟩ := S.fr
  obtain ⟨v, hb, hv⟩ := r _ h
  refine wpAny_Name ?_ hd
  rcases hb with ⟨hk, hm⟩ | ⟨hk, hcd, hc, hm⟩
  · exact wpAny_loadName_local S.eo.kind hk F.ns hm ⟨hv, Pr.refl⟩
  · obtain ⟨a, ha⟩ := Option.isSome_iff_exists.mp hc
    have hcell := F.cell _ _ ha
    rw [show cm x = some v from hm] at hcell
    rcases hk with hk | hk
    · exact wpAny_loadName_cell S.eo.kind hk ha hcell ⟨hv, Pr.refl⟩
    · exact wpAny_loadName_free S.eo.kind hk ha hcell ⟨hv, Pr.refl⟩ hcd
theorem ev_glob {x : Str} {pos : Pos} {v : Value} (h : b.Gl x v) (hk : sc.names.lookup x = some .globalImplicit := by decide +kernel) (hd : (x == ("__debug__" : Str)) = false := by decide +kernel) : Ev b n sc ρ X (.Name x pos) (.raw v) := fun A env M s _ S => by
  refine Calls.Name_function_global S.eo.kind ((S.eo.kindOf x).trans hk) ?_ hd
  have g := S.st.ns
  have g' := S.st.nb
  rw [← S.eo.globals] at g
  rw [← S.eo.builtins] at g'
  rcases h with h | ⟨h, h'⟩
  · exact Calls.loadGlobal_global g h ⟨rfl, Pr.refl⟩
  · exact Calls.loadGlobal_builtin g h g' h' ⟨rfl, Pr.refl⟩
theorem ev_int {i : Int} {k : Nat} {pos : Pos} : Ev b n sc ρ X (.Constant (.int i) k pos) (.int i) := fun _ _ _ _ _ _ => wpAny_Constant_int ⟨.int _ _, Pr.tok⟩
theorem ev_str {x : Str} {k : Nat} {pos : Pos} : Ev b n sc ρ X (.Constant (.str x) k pos) (.str x) := fun _ _ _ _ _ _ => wpAny_Constant_str ⟨.str _ _, Pr.tok⟩
theorem ev_none {k : Nat} {pos : Pos} : Ev b n sc ρ X (.Constant .none k pos) .none := fun _ _ _ _ _ _ => wpAny_Constant_none ⟨.none, Pr.refl⟩
theorem ev_bool {x : Bool} {k : Nat} {pos : Pos} : Ev b n sc ρ X (.Constant (.bool x) k pos) (.bool x) := fun _ _ _ _ _ _ => wpAny_Constant_bool ⟨.bool _, Pr.refl⟩
theorem ev_ifexp {t a c : PySem.Expr} {pos : Pos} {x : Bool} {d : D} (ht : Tv b n sc ρ X t x) (h1 : x = true → Ev b n sc ρ X a d) (h2 : x = false → Ev b n sc ρ X c d) : Ev b n sc ρ X (.IfExp t a c pos) d := fun A env M s r S => by
  refine wpAny_IfExp (wp_weak (ht A env M s r S) fun y s' ⟨e, p⟩ => ?_)
  subst e
  cases y with
  | true => exact wp_weak (h1 rfl A env M s' r (S.pure p)) fun _ _ ⟨u, v⟩ => ⟨u, p.trans v⟩
  | false => exact wp_weak (h2 rfl A env M s' r (S.pure p)) fun _ _ ⟨u, v⟩ => ⟨u, p.trans v⟩
end

section
variable {b : Bas} {n : Nat} {sc : Scope} {ρ : List (Str × D)} {X : List MO}

theorem big_line {k : Nat} (h : k ≤ big) : k ≤ sizeLine := by rw [sizeLine_eq]; simp only [big] at h; omega
theorem big_two {k l : Nat} (h : k ≤ big) (h' : l ≤ big) : k + l ≤ sizeLine := by rw [sizeLine_eq]; simp only [big] at h h'; omega

/-- a binary operation of two values -/
noncomputable def Bin (b : Bas) (op : Operator) (d e r : D) : Prop := ∀ A n M X s u v, Rm n A → St b M X s → Dp M s.heap u d → Dp M s.heap v e → wpAny (Mo b) A (binaryOp op u v) (EvR M s r) noE s
noncomputable def Cmp (b : Bas) (op : CmpOp) (d e : D) (c : Bool) : Prop := ∀ A n M X s u v, Rm n A → St b M X s → Dp M s.heap u d → Dp M s.heap v e → wpAny (Mo b) A (compareOp op u v) (EqR s (.bool c)) noE s
/-- truth of a value -/
noncomputable def Tr (b : Bas) (d : D) (c : Bool) : Prop := ∀ A n M X s u, Rm n A → St b M X s → Dp M s.heap u d → wpAny (Mo b) A (truthy u) (EqR s c) noE s

theorem ev_bin {op : Operator} {l r : PySem.Expr} {pos : Pos} {d e f : D} (h1 : Ev b n sc ρ X l d) (h2 : Ev b n sc ρ X r e) (h3 : Bin b op d e f) : Ev b n sc ρ X (.BinOp l op r pos) f := fun A env M s R S => by
  refine wpAny_BinOp (wp_weak (h1 A env M s R S) fun u s₁ ⟨a1, p1⟩ => wp_weak (h2 A env M s₁ R (S.pure p1)) fun v s₂ ⟨a2, p2⟩ => ?_)
  exact wp_weak (h3 A n M X s₂ u v R ((S.pure p1).pure p2).st (a1.keep p2.kp) a2) fun x s₃ ⟨a3, p3⟩ => ⟨a3, (p1.trans p2).trans p3⟩
theorem ev_cmp {op : CmpOp} {l r : PySem.Expr} {pos : Pos} {d e : D} {c : Bool} (h1 : Ev b n sc ρ X l d) (h2 : Ev b n sc ρ X r e) (h3 : Cmp b op d e c) (hm : behindInMarks op r = false := by with_unfolding_all rfl) : Ev b n sc ρ X (.Compare l [op] [r] pos) (.bool c) := fun A env M s R S => by
  refine wpAny_Compare1 (wp_weak (h1 A env M s R S) fun u s₁ ⟨a1, p1⟩ => wp_weak (h2 A env M s₁ R (S.pure p1)) fun v s₂ ⟨a2, p2⟩ => ?_) hm
  refine wp_weak (h3 A n M X s₂ u v R ((S.pure p1).pure p2).st (a1.keep p2.kp) a2) fun x s₃ ⟨a3, p3⟩ => ?_
  subst a3
  exact ⟨.bool _, (p1.trans p2).trans p3⟩
theorem tv_cmp {op : CmpOp} {l r : PySem.Expr} {pos : Pos} {d e : D} {c : Bool} (h1 : Ev b n sc ρ X l d) (h2 : Ev b n sc ρ X r e) (h3 : Cmp b op d e c) (hm : behindInMarks op r = false := by with_unfolding_all rfl) : Tv b n sc ρ X (.Compare l [op] [r] pos) c := fun A env M s R S => by
  refine wpAny_isTrue_Compare1 (wp_weak (h1 A env M s R S) fun u s₁ ⟨a1, p1⟩ => wp_weak (h2 A env M s₁ R (S.pure p1)) fun v s₂ ⟨a2, p2⟩ => ?_) hm
  refine wp_weak (h3 A n M X s₂ u v R ((S.pure p1).pure p2).st (a1.keep p2.kp) a2) fun x s₃ ⟨a3, p3⟩ => ?_
  subst a3
  exact wpAny_truthy_bool ⟨rfl, (p1.trans p2).trans p3⟩
theorem tv_value {e : PySem.Expr} {d : D} {c : Bool} (h1 : Ev b n sc ρ X e d) (h2 : Tr b d c)
    (he : ∀ env whole, isTrue e env whole = (do let v ← whole; standAt e.pos; holding [v] (truthy v)) := by intro _ _; rfl) : Tv b n sc ρ X e c := fun A env M s R S => by
  refine wpAny_isTrue_value (wp_weak (h1 A env M s R S) fun u s₁ ⟨a1, p1⟩ => ?_) (he _ _)
  exact wp_weak (h2 A n M X s₁ u R (S.pure p1).st a1) fun x s₂ ⟨a2, p2⟩ => ⟨a2, p1.trans p2⟩
theorem tr_bool {c : Bool} : Tr b (.bool c) c := fun A n M X s u R S a => by
  obtain rfl := Rp.bool_inv a
  exact wpAny_truthy_bool ⟨rfl, Pr.refl⟩
theorem tv_not {x : PySem.Expr} {pos : Pos} {c : Bool} (h : Tv b n sc ρ X x c) : Tv b n sc ρ X (.UnaryOp .Not x pos) (!c) := fun A env M s R S =>
  wpAny_isTrue_Not (wp_weak (h A env M s R S) fun t s' ⟨e, p⟩ => ⟨by rw [e], p⟩)
/-- tests one behind the other -/
noncomputable def Al (b : Bas) (n : Nat) (sc : Scope) (ρ : List (Str × D)) (X : List MO) (op : BoolOp) (es : List PySem.Expr) (c : Bool) : Prop :=
  ∀ A env M s, Rm n A → Sv b sc env M ρ X s → wpAny (Mo b) A (allTrue op es env) (EqR s c) noE s
theorem tv_bool {op : BoolOp} {es : List PySem.Expr} {pos : Pos} {c : Bool} (h : Al b n sc ρ X op es c) : Tv b n sc ρ X (.BoolOp op es pos) c := fun A env M s R S => wpAny_isTrue_BoolOp (h A env M s R S)
theorem al_and_nil : Al b n sc ρ X .And [] true := fun _ _ _ _ _ _ => wpAny_allTrue_And_nil ⟨rfl, Pr.refl⟩
theorem al_or_nil : Al b n sc ρ X .Or [] false := fun _ _ _ _ _ _ => wpAny_allTrue_Or_nil ⟨rfl, Pr.refl⟩
theorem al_and {x : PySem.Expr} {es : List PySem.Expr} {c c' : Bool} (h : Tv b n sc ρ X x c) (h' : c = true → Al b n sc ρ X .And es c') : Al b n sc ρ X .And (x :: es) (c && c') := fun A env M s R S => by
  refine wpAny_allTrue_And_cons (wp_weak (h A env M s R S) fun t s' ⟨e, p⟩ => ?_)
  subst e
  cases t with
  | true => exact wp_weak (h' rfl A env M s' R (S.pure p)) fun t s'' ⟨e, p'⟩ => ⟨by rw [e]; rfl, p.trans p'⟩
  | false => exact ⟨rfl, p⟩
theorem al_or {x : PySem.Expr} {es : List PySem.Expr} {c c' : Bool} (h : Tv b n sc ρ X x c) (h' : c = false → Al b n sc ρ X .Or es c') : Al b n sc ρ X .Or (x :: es) (c || c') := fun A env M s R S => by
  refine wpAny_allTrue_Or_cons (wp_weak (h A env M s R S) fun t s' ⟨e, p⟩ => ?_)
  subst e
  cases t with
  | false => exact wp_weak (h' rfl A env M s' R (S.pure p)) fun t s'' ⟨e, p'⟩ => ⟨by rw [e]; rfl, p.trans p'⟩
  | true => exact ⟨rfl, p⟩
theorem tv_ifexp {t a c : PySem.Expr} {pos : Pos} {x y : Bool} (ht : Tv b n sc ρ X t x) (h1 : x = true → Tv b n sc ρ X a y) (h2 : x = false → Tv b n sc ρ X c y) : Tv b n sc ρ X (.IfExp t a c pos) y := fun A env M s r S => by
  show wpAny _ _ (isTrue (.IfExp t a c pos) env _) _ _ _
  rw [show isTrue (.IfExp t a c pos) env (eval (.IfExp t a c pos) env) = (do if ← isTrue t env (eval t env) then isTrue a env (eval a env) else isTrue c env (eval c env)) from by rfl]
  refine wpAny_bind (wp_weak (ht A env M s r S) fun y s' ⟨e, p⟩ => ?_)
  subst e
  cases y with
  | true => exact wp_weak (h1 rfl A env M s' r (S.pure p)) fun _ _ ⟨u, v⟩ => ⟨u, p.trans v⟩
  | false => exact wp_weak (h2 rfl A env M s' r (S.pure p)) fun _ _ ⟨u, v⟩ => ⟨u, p.trans v⟩
theorem ev_and2 {x y : PySem.Expr} {pos : Pos} {c c' : Bool} (h1 : Ev b n sc ρ X x (.bool c)) (h2 : c = true → Ev b n sc ρ X y (.bool c')) : Ev b n sc ρ X (.BoolOp .And [x, y] pos) (.bool (c && c')) := fun A env M s R S => by
  refine wpAny_And2 (wp_weak (h1 A env M s R S) fun u s₁ ⟨a1, p1⟩ => ?_)
  obtain rfl := Rp.bool_inv a1
  refine wpAny_truthy_bool ?_
  cases c with
  | true => exact wp_weak (h2 rfl A env M s₁ R (S.pure p1)) fun v s₂ ⟨a2, p2⟩ => ⟨a2, p1.trans p2⟩
  | false => exact ⟨.bool _, p1⟩
theorem ev_or2 {x y : PySem.Expr} {pos : Pos} {c c' : Bool} (h1 : Ev b n sc ρ X x (.bool c)) (h2 : c = false → Ev b n sc ρ X y (.bool c')) : Ev b n sc ρ X (.BoolOp .Or [x, y] pos) (.bool (c || c')) := fun A env M s R S => by
  refine wpAny_Or2 (wp_weak (h1 A env M s R S) fun u s₁ ⟨a1, p1⟩ => ?_)
  obtain rfl := Rp.bool_inv a1
  refine wpAny_truthy_bool ?_
  cases c with
  | false => exact wp_weak (h2 rfl A env M s₁ R (S.pure p1)) fun v s₂ ⟨a2, p2⟩ => ⟨a2, p1.trans p2⟩
  | true => exact ⟨.bool _, p1⟩
theorem ev_neg {x : PySem.Expr} {pos : Pos} {i : Int} (h : Ev b n sc ρ X x (.int i)) : Ev b n sc ρ X (.UnaryOp .USub x pos) (.int (-i)) := fun A env M s R S => by
  refine wpAny_UnaryOp (wp_weak (h A env M s R S) fun u s₁ ⟨a1, p1⟩ => ?_)
  obtain ⟨t, rfl⟩ := Rp.int_inv a1
  exact neg_int ⟨.int _ _, p1.trans Pr.tok⟩
theorem ev_not {x : PySem.Expr} {pos : Pos} {d : D} {c : Bool} (h : Ev b n sc ρ X x d) (ht : Tr b d c) : Ev b n sc ρ X (.UnaryOp .Not x pos) (.bool (!c)) := fun A env M s R S => by
  refine wpAny_UnaryOp (wp_weak (h A env M s R S) fun u s₁ ⟨a1, p1⟩ => not_value ?_)
  exact wp_weak (ht A n M X s₁ u R (S.pure p1).st a1) fun x s₂ ⟨a2, p2⟩ => ⟨by rw [a2]; exact .bool _, p1.trans p2⟩

theorem bin_add {i j : Int} : Bin b .Add (.int i) (.int j) (.int (i + j)) := fun A n M X s u v _ _ a c => by
  obtain ⟨t, rfl⟩ := Rp.int_inv a; obtain ⟨t', rfl⟩ := Rp.int_inv c
  exact add_int ⟨.int _ _, Pr.tok⟩
theorem bin_sub {i j : Int} : Bin b .Sub (.int i) (.int j) (.int (i - j)) := fun A n M X s u v _ _ a c => by
  obtain ⟨t, rfl⟩ := Rp.int_inv a; obtain ⟨t', rfl⟩ := Rp.int_inv c
  exact sub_int ⟨.int _ _, Pr.tok⟩
theorem bin_mul {i j : Int} (h : IntMulOk i j) : Bin b .Mult (.int i) (.int j) (.int (i * j)) := fun A n M X s u v _ _ a c => by
  obtain ⟨t, rfl⟩ := Rp.int_inv a; obtain ⟨t', rfl⟩ := Rp.int_inv c
  exact mul_int ⟨.int _ _, Pr.tok⟩ h
theorem bin_mod {i j : Int} (h : j ≠ 0) : Bin b .Mod (.int i) (.int j) (.int (i.fmod j)) := fun A n M X s u v _ _ a c => by
  obtain ⟨t, rfl⟩ := Rp.int_inv a; obtain ⟨t', rfl⟩ := Rp.int_inv c
  exact mod_int' h ⟨.int _ _, Pr.tok⟩
theorem bin_div {i j : Int} (h : j ≠ 0) (h' : Builtin.divisionGoesByPylong i j = false) : Bin b .FloorDiv (.int i) (.int j) (.int (i.fdiv j)) := fun A n M X s u v _ _ a c => by
  obtain ⟨t, rfl⟩ := Rp.int_inv a; obtain ⟨t', rfl⟩ := Rp.int_inv c
  exact floordiv_int h ⟨.int _ _, Pr.tok⟩ (.inl h')
theorem bin_list {xs ys : List PyData} (h : xs.length + ys.length ≤ big) : Bin b .Add (.list xs) (.list ys) (.list (xs ++ ys)) := fun A n M X s u v _ S a c => by
  obtain ⟨x, vs, k, rfl, m1, z1, e1, r1⟩ := Rp.list_inv a
  obtain ⟨y, ws, k', rfl, m2, z2, e2, r2⟩ := Rp.list_inv c
  have l1 := r1.length
  have l2 := r2.length
  rw [Array.length_toList] at l1 l2
  refine P.add_list e1 e2 ⟨?_, Pr.heap Kp.push⟩ (by rw [l1, l2]; exact big_two z1 z2)
  refine .list S.new (by rw [List.length_append]; exact h) (Heap.get?_push_size _ rfl) ?_
  have := (r1.append r2).kp (Kp.push (o := { cls := .type "list", data := .seq (vs ++ ws) })) (fun _ h => nomatch h)
  simpa using this
theorem bin_tup {xs ys : List PyData} (h : xs.length + ys.length ≤ big) (hx : xs ≠ []) (hy : ys ≠ []) : Bin b .Add (.tup xs) (.tup ys) (.tup (xs ++ ys)) := fun A n M X s u v _ S a c => by
  obtain ⟨x, vs, k, rfl, m1, z1, e1, r1⟩ := Rp.tuple_inv a
  obtain ⟨y, ws, k', rfl, m2, z2, e2, r2⟩ := Rp.tuple_inv c
  have l1 := r1.length
  have l2 := r2.length
  rw [Array.length_toList] at l1 l2
  have n1 : ¬ vs.isEmpty = true := by rw [Array.isEmpty_iff_size_eq_zero, l1]; exact fun q => hx (List.eq_nil_of_length_eq_zero q)
  have n2 : ¬ ws.isEmpty = true := by rw [Array.isEmpty_iff_size_eq_zero, l2]; exact fun q => hy (List.eq_nil_of_length_eq_zero q)
  refine P.add_tuple e1 e2 n1 n2 ⟨?_, Pr.heap Kp.push⟩ (by rw [l1, l2]; exact big_two z1 z2)
  refine .tuple S.new (by rw [List.length_append]; exact h) (Heap.get?_push_size _ rfl) ?_
  have := (r1.append r2).kp (Kp.push (o := { cls := .type "tuple", data := .seq (vs ++ ws) })) (fun _ h => nomatch h)
  simpa using this
theorem cmp_lt {i j : Int} : Cmp b .Lt (.int i) (.int j) (decide (i < j)) := fun A n M X s u v _ _ a c => by
  obtain ⟨t, rfl⟩ := Rp.int_inv a; obtain ⟨t', rfl⟩ := Rp.int_inv c
  exact lt_int ⟨rfl, Pr.refl⟩
theorem cmp_le {i j : Int} : Cmp b .LtE (.int i) (.int j) (decide (i ≤ j)) := fun A n M X s u v _ _ a c => by
  obtain ⟨t, rfl⟩ := Rp.int_inv a; obtain ⟨t', rfl⟩ := Rp.int_inv c
  exact le_int ⟨rfl, Pr.refl⟩
theorem cmp_gt {i j : Int} : Cmp b .Gt (.int i) (.int j) (decide (i > j)) := fun A n M X s u v _ _ a c => by
  obtain ⟨t, rfl⟩ := Rp.int_inv a; obtain ⟨t', rfl⟩ := Rp.int_inv c
  exact gt_int ⟨rfl, Pr.refl⟩
theorem cmp_ge {i j : Int} : Cmp b .GtE (.int i) (.int j) (decide (i ≥ j)) := fun A n M X s u v _ _ a c => by
  obtain ⟨t, rfl⟩ := Rp.int_inv a; obtain ⟨t', rfl⟩ := Rp.int_inv c
  exact ge_int ⟨rfl, Pr.refl⟩
theorem cmp_eq {i j : Int} : Cmp b .Eq (.int i) (.int j) (i == j) := fun A n M X s u v _ _ a c => by
  obtain ⟨t, rfl⟩ := Rp.int_inv a; obtain ⟨t', rfl⟩ := Rp.int_inv c
  exact eq_int ⟨rfl, Pr.refl⟩
theorem cmp_eqD {d e : PyData} (h1 : SeqAt.shaped d = true) (h2 : SeqAt.shaped e = true) : Cmp b .Eq (.dat d) (.dat e) (d.eqv e) := fun A n M X s u v R _ a c => by
  obtain ⟨_, ra⟩ := Rp.reads a; obtain ⟨_, rc⟩ := Rp.reads c
  exact eq_dataH ra rc h1 h2 R.cline ⟨rfl, Pr.refl⟩
theorem cmp_neD {d e : PyData} (h1 : SeqAt.shaped d = true) (h2 : SeqAt.shaped e = true) : Cmp b .NotEq (.dat d) (.dat e) (!d.eqv e) := fun A n M X s u v R _ a c => by
  obtain ⟨_, ra⟩ := Rp.reads a; obtain ⟨_, rc⟩ := Rp.reads c
  exact ne_dataH ra rc h1 h2 R.cline ⟨rfl, Pr.refl⟩
theorem cmp_isNone {d : PyData} : Cmp b .Is (.dat d) .none (match d with | .none => true | _ => false) := fun A n M X s u v R _ a c => by
  obtain rfl := Rp.none_inv c
  refine is_none ⟨?_, Pr.refl⟩
  cases a <;> rfl
theorem in_room {n : Nat} {A : Around} {d : PyData} {xs : List PyData} (R : Rm n A) (h2 : SeqAt.shaped d = true) : A.units + 1 + min (PyData.depthAll xs) d.depth < cLine := by
  have := R.cline
  have h3 : d.depth ≤ 64 := of_decide_eq_true (Bool.and_eq_true_iff.mp h2).2
  have := R.units
  rw [cLine_is]; omega
theorem cmp_inT {d : PyData} {xs : List PyData} (h1 : SeqAt.shaped d = true) (h2 : PyData.canLayAll0 xs = true) : Cmp b .In (.dat d) (.tup xs) (xs.any fun y => y.eqv d) := fun A n M X s u v R _ a c => by
  obtain ⟨_, ra⟩ := Rp.reads a; obtain ⟨_, rc⟩ := Rp.reads c
  exact SeqAt.in_tuple_reads rc ra h2 (Bool.and_eq_true_iff.mp h1).1 (in_room R h1) ⟨rfl, Pr.refl⟩
theorem cmp_inL {d : PyData} {xs : List PyData} (h1 : SeqAt.shaped d = true) (h2 : PyData.canLayAll0 xs = true) : Cmp b .In (.dat d) (.list xs) (xs.any fun y => y.eqv d) := fun A n M X s u v R _ a c => by
  obtain ⟨_, ra⟩ := Rp.reads a; obtain ⟨_, rc⟩ := Rp.reads c
  exact SeqAt.in_list_reads rc ra h2 (Bool.and_eq_true_iff.mp h1).1 (in_room R h1) ⟨rfl, Pr.refl⟩
theorem cmp_notInL {d : PyData} {xs : List PyData} (h1 : SeqAt.shaped d = true) (h2 : PyData.canLayAll0 xs = true) : Cmp b .NotIn (.dat d) (.list xs) (!xs.any fun y => y.eqv d) := fun A n M X s u v R _ a c => by
  obtain ⟨_, ra⟩ := Rp.reads a; obtain ⟨_, rc⟩ := Rp.reads c
  exact SeqAt.notIn_list_reads rc ra h2 (Bool.and_eq_true_iff.mp h1).1 (in_room R h1) ⟨rfl, Pr.refl⟩

structure EvsR (M : List Addr) (s : Shared) (ds : List D) (vs : List Value) (s' : Shared) : Prop where
  a : DpAll M s'.heap vs ds
  p : Pr s s'
/-- items of a display, or arguments -/
noncomputable def Evs (b : Bas) (n : Nat) (sc : Scope) (ρ : List (Str × D)) (X : List MO) (es : List PySem.Expr) (ds : List D) : Prop :=
  ∀ A env M s pos, Rm n A → Sv b sc env M ρ X s → wpAny (Mo b) A (spliced (backTo pos (starEach es env))) (EvsR M s ds) noE s
theorem evs_nil : Evs b n sc ρ X [] [] := fun _ _ _ _ _ _ _ => wpAny_items_nil ⟨.nil, Pr.refl⟩
theorem evs_cons {e : PySem.Expr} {es : List PySem.Expr} {d : D} {ds : List D} (h1 : Ev b n sc ρ X e d) (h2 : Evs b n sc ρ X es ds)
    (he : ∀ env, starEach (e :: es) env = (false, eval e env) :: starEach es env := by intro _; rfl) : Evs b n sc ρ X (e :: es) (d :: ds) := fun A env M s pos R S =>
  wpAny_items_cons (wp_weak (h1 A env M s R S) fun v s₁ ⟨a1, p1⟩ => wp_weak (h2 A env M s₁ pos R (S.pure p1)) fun vs s₂ ⟨a2, p2⟩ => ⟨.cons (a1.keep p2.kp) a2, p1.trans p2⟩) (he env)
theorem ev_tup {es : List PySem.Expr} {k : Nat} {pos : Pos} {ds : List PyData} (h : Evs b n sc ρ X es (ds.map .dat)) (hz : ds.length ≤ big := by decide) : Ev b n sc ρ X (.Tuple es k pos) (.tup ds) := fun A env M s R S => by
  refine PySem.wpAny_Tuple (wp_weak (h A env M s pos R S) fun vs s₁ ⟨a1, p1⟩ => ?_)
  have r := a1.rp
  have l := r.length
  refine ⟨by rw [l]; exact big_line hz, .tuple (S.pure p1).st.new hz (Heap.get?_push_size _ rfl) ?_, p1.trans (Pr.heap Kp.push)⟩
  simpa using r.kp (Kp.push (o := { cls := .type "tuple", data := .seq vs.toArray })) (fun _ h => nomatch h)
theorem ev_list {es : List PySem.Expr} {pos : Pos} {ds : List PyData} (h : Evs b n sc ρ X es (ds.map .dat)) (hz : ds.length ≤ big := by decide) : Ev b n sc ρ X (.List es pos) (.list ds) := fun A env M s R S => by
  refine PySem.wpAny_List (wp_weak (h A env M s pos R S) fun vs s₁ ⟨a1, p1⟩ => ?_)
  have r := a1.rp
  have l := r.length
  refine ⟨by rw [l]; exact big_line hz, .list (S.pure p1).st.new hz (Heap.get?_push_size _ rfl) ?_, p1.trans (Pr.heap Kp.push)⟩
  simpa using r.kp (Kp.push (o := { cls := .type "list", data := .seq vs.toArray })) (fun _ h => nomatch h)

/-- an item at an int -/
noncomputable def Itm (b : Bas) (X : List MO) (d : D) (i : D) (r : D) : Prop := ∀ A n M s u v, Rm n A → St b M X s → Dp M s.heap u d → Dp M s.heap v i →
  ∃ T id, s.TypeIs u T ∧ typeLookup (.type T) "__getitem__" = pure (some (.builtin id)) ∧ wpAny (Mo b) A (getItem u v) (EvR M s r) noE s
theorem ev_item {value slice : PySem.Expr} {pos : Pos} {d i r : D} (h1 : Ev b n sc ρ X value d) (h2 : Ev b n sc ρ X slice i) (h3 : Itm b X d i r)
    (hs : ∀ o i, subscripted slice false o i = operate [o, i] (getItem o i) := by intro _ _; rfl) : Ev b n sc ρ X (.Subscript value slice pos) r := fun A env M s R S => by
  refine Subscript_ (wp_weak (h1 A env M s R S) fun o s₁ ⟨a1, p1⟩ => wp_weak (h2 A env M s₁ R (S.pure p1)) fun i s₂ ⟨a2, p2⟩ => ?_)
  obtain ⟨T, id, hT, hl, hg⟩ := h3 A n M s₂ o i R ((S.pure p1).pure p2).st (a1.keep p2.kp) a2
  exact tail_any hT hl (wp_weak hg fun x s₃ ⟨a3, p3⟩ => ⟨a3, (p1.trans p2).trans p3⟩) (hs _ _)
theorem big_idx {k : Nat} (h : k ≤ big) : (k : Int) < 2 ^ 63 := by simp only [big] at h; omega
theorem seqIndex_fits {i : Int} {k j : Nat} (h : seqIndex? i k = some j) (hk : k ≤ big) : -2 ^ 63 ≤ i ∧ i < 2 ^ 63 ∧ j < k := by
  unfold seqIndex? at h
  simp only [big] at hk
  split at h <;> rename_i h1 <;> simp at h h1 <;> omega
theorem itm_tup {xs : List PyData} {i : Int} {j : Nat} {d : PyData} (hj : seqIndex? i xs.length = some j) (hx : xs[j]? = some d) : Itm b X (.tup xs) (.int i) (.dat d) := fun A n M s u v R S a c => by
  obtain ⟨x, vs, k, rfl, m1, z1, e1, r1⟩ := Rp.tuple_inv a
  obtain ⟨t, rfl⟩ := Rp.int_inv c
  obtain ⟨y, hy, ry⟩ := r1.get hx
  have l1 := r1.length
  rw [Array.length_toList] at l1
  obtain ⟨f1, f2, _⟩ := seqIndex_fits hj z1
  exact ⟨"tuple", _, ⟨_, e1, rfl⟩, F.slot_tuple_getitem.lookup, P.getItem_tuple e1 f1 f2 (by rw [l1]; exact hj) (by simpa using hy) ⟨ry, Pr.refl⟩⟩
theorem itm_list {xs : List PyData} {i : Int} {j : Nat} {d : PyData} (hj : seqIndex? i xs.length = some j) (hx : xs[j]? = some d) : Itm b X (.list xs) (.int i) (.dat d) := fun A n M s u v R S a c => by
  obtain ⟨x, vs, k, rfl, m1, z1, e1, r1⟩ := Rp.list_inv a
  obtain ⟨t, rfl⟩ := Rp.int_inv c
  obtain ⟨y, hy, ry⟩ := r1.get hx
  have l1 := r1.length
  rw [Array.length_toList] at l1
  obtain ⟨f1, f2, _⟩ := seqIndex_fits hj z1
  have hl : s.heap.IsList x vs := ⟨_, e1, rfl, _, rfl⟩
  refine ⟨"list", _, ⟨_, e1, rfl⟩, slot_list_getitem.lookup, ?_⟩
  unfold seqIndex? at hj
  by_cases h0 : i < 0
  · simp only [h0, if_true] at hj
    split at hj
    · rename_i h3
      simp only [Bool.and_eq_true, decide_eq_true_eq] at h3
      simp only [Option.some.injEq] at hj
      subst hj
      exact PySem.wpAny_getItem_list_neg hl h0 (by rw [l1]; omega) f1 (by rw [l1]; simpa using hy) ⟨ry, Pr.refl⟩
    · cases hj
  · simp only [h0, if_false] at hj
    split at hj
    · simp only [Option.some.injEq] at hj
      subst hj
      exact PySem.wpAny_getItem_list hl (by omega) f2 (by simpa using hy) ⟨ry, Pr.refl⟩
    · cases hj

/-- a bound of a slice -/
noncomputable def Part (b : Bas) (n : Nat) (sc : Scope) (ρ : List (Str × D)) (X : List MO) (e : Option PySem.Expr) (k : Option Int) : Prop :=
  ∀ A env M s, Rm n A → Sv b sc env M ρ X s → wpAny (Mo b) A (evalPart e env) (fun v s' => IsPart v k ∧ Pr s s') noE s
theorem part_none : Part b n sc ρ X none none := fun _ _ _ _ _ _ => by
  rw [evalPart_none]
  exact wpAny_pure ⟨.none, Pr.refl⟩
theorem part_some {e : PySem.Expr} {i : Int} (h : Ev b n sc ρ X e (.int i)) : Part b n sc ρ X (some e) (some i) := fun A env M s R S => by
  show wpAny _ _ (eval e env) _ _ _
  refine wp_weak (h A env M s R S) fun v s' ⟨a, p⟩ => ?_
  obtain ⟨t, rfl⟩ := Rp.int_inv a
  exact ⟨.int _ _, p⟩
/-- what a plain slice takes -/
noncomputable def cut (xs : List PyData) (lo hi : Option Int) : List PyData :=
  (xs.drop (lo.elim 0 (clipAt xs.length))).take ((hi.elim xs.length (clipAt xs.length)) - (lo.elim 0 (clipAt xs.length)))
theorem cut_le (xs : List PyData) (lo hi : Option Int) : (cut xs lo hi).length ≤ xs.length := by
  unfold cut
  rw [List.length_take, List.length_drop]
  omega
theorem ev_sliceL {value : PySem.Expr} {lower upper : Option PySem.Expr} {p pos : Pos} {xs : List PyData} {lo hi : Option Int} (h1 : Ev b n sc ρ X value (.list xs)) (h2 : Part b n sc ρ X lower lo) (h3 : Part b n sc ρ X upper hi)
    (ht : ∀ o r, letTemporaryGo value o r = pure () := by intro _ _; rfl) : Ev b n sc ρ X (.Subscript value (.Slice lower upper none p) pos) (.list (cut xs lo hi)) := fun A env M s R S => by
  refine wpAny_Subscript_list_slice (wp_weak (h1 A env M s R S) fun o s₁ ⟨a1, p1⟩ => wp_weak (h2 A env M s₁ R (S.pure p1)) fun vl s₂ ⟨a2, p2⟩ => wp_weak (h3 A env M s₂ R ((S.pure p1).pure p2)) fun vu s₃ ⟨a3, p3⟩ => ?_) ht
  obtain ⟨x, vs, k, rfl, m1, z1, e1, r1⟩ := Rp.list_inv ((a1.keep p2.kp).keep p3.kp)
  have l1 := r1.length
  rw [Array.length_toList] at l1
  refine ⟨x, vs, lo, hi, rfl, ⟨_, e1, rfl, _, rfl⟩, by rw [l1]; exact big_line z1, a2, a3, ?_, ((p1.trans p2).trans p3).trans ⟨Kp.push.trans Kp.push, rfl, rfl⟩⟩
  have St3 := (((S.pure p1).pure p2).pure p3).st
  have St4 := St3.pure (s' := { s₃ with heap := s₃.heap.push { cls := .type "slice", data := .fields #[vl, vu, .none] } }) ⟨Kp.push, rfl, rfl⟩
  have nw := St4.new
  have sz : (s₃.heap.push { cls := .type "slice", data := .fields #[vl, vu, .none] }).objs.size = s₃.heap.objs.size + 1 := Heap.size_push ..
  rw [← sz]
  refine .list nw (Nat.le_trans (cut_le ..) z1) (Heap.get?_push_size _ rfl) ?_
  have q := (((r1.drop (lo.elim 0 (clipAt xs.length))).take ((hi.elim xs.length (clipAt xs.length)) - (lo.elim 0 (clipAt xs.length)))).kp (Kp.push (o := { cls := .type "slice", data := .fields #[vl, vu, .none] })) (fun _ h => nomatch h)).kp (Kp.push (o := { cls := .type "list", data := .seq (slicePick vs lo hi none) })) (fun _ h => nomatch h)
  rw [slicePick_plain]
  rw [show vs.size = xs.length from l1]
  rw [slicePick_plain] at q
  simpa [cut, l1] using q
end

theorem adjust_but (n : Nat) (h : 1 ≤ n) : Builtin.Slice.sliceAdjust none (some (-1)) 1 (n : Int) = (0, ((n - 1 : Nat) : Int)) := by
  unfold Builtin.Slice.sliceAdjust
  simp
  omega
theorem places_but (n : Nat) : Builtin.Slice.slicePlaces 0 ((n : Nat) : Int) 1 = n := by
  unfold Builtin.Slice.slicePlaces
  have h1 : (1 : Int) > 0 := by omega
  simp only [h1, if_true, Int.ediv_one]
  split <;> omega
section
variable {prog : Program} {w : World} {A : Around} {E : Value → Shared → Prop} {s : Shared}
theorem sliceApplied_but {sl : Addr} {n : Nat} {u : Tok} {Q : Int × Int × Nat → Shared → Prop} (hs : s.heap.IsSliceOf sl .none (.int (-1) u) .none) (hn : 1 ≤ n) (h : Q (0, 1, n - 1) s) :
    wpAny (model prog w) A (Builtin.Slice.sliceApplied (.ref sl) (pure (n : Int))) Q E s := by
  obtain ⟨os, hos, hcs, hds⟩ := id hs
  unfold Builtin.Slice.sliceApplied Builtin.Slice.sliceFields
  refine wpAny_bind (wpAny_bind (wpAny_field hos hds (x := .none) rfl (wpAny_bind (wpAny_field hos hds (x := .int (-1) u) rfl (wpAny_bind (wpAny_field hos hds (x := .none) rfl (wpAny_pure ?_)))))))
  refine wpAny_bind (slicePart_none ?_)
  show wpAny _ _ (if ((1 : Int) == 0) = true then _ else _) _ _ s
  rw [if_neg (by decide)]
  refine wpAny_bind (slicePart_none (wpAny_bind (slicePart_int (wpAny_bind (wpAny_pure ?_)))))
  show wpAny _ _ (match Builtin.Slice.sliceAdjust none (some (-1)) 1 (n : Int) with | (lo, hi) => pure (lo, (1 : Int), Builtin.Slice.slicePlaces lo hi 1)) _ _ s
  rw [adjust_but n hn]
  show wpAny _ _ (pure ((0 : Int), (1 : Int), Builtin.Slice.slicePlaces 0 ((n - 1 : Nat) : Int) 1)) _ _ s
  rw [places_but]
  exact wpAny_pure h
theorem pick_but (xs : Array Value) (a : Nat) : ((List.range a).filterMap fun (k : Nat) => xs[((0 : Int) + (k : Int) * 1).toNat]?).toArray = (xs.toList.take a).toArray := by
  have e : (fun (k : Nat) => xs[((0 : Int) + (k : Int) * 1).toNat]?) = (fun x => xs[x]?) ∘ fun k => 0 + k := by
    funext k
    have : ((0 : Int) + (k : Int) * 1).toNat = 0 + k := by omega
    rw [this]; rfl
  rw [e, ← List.filterMap_map, pick_run xs 0 a, List.drop_zero]
theorem getItem_tuple_but {t sl : Addr} {items : Array Value} {u : Tok} {Q : Value → Shared → Prop} (ht : IsTup s.heap t items) (hs : s.heap.IsSliceOf sl .none (.int (-1) u) .none) (h1 : 1 ≤ items.size)
    (h : Q (.ref s.heap.objs.size) { s with heap := s.heap.push { cls := .type "tuple", data := .seq (items.toList.take (items.size - 1)).toArray } })
    (hsz : items.size ≤ sizeLine := by size_fits) : wpAny (model prog w) A (getItem (.ref t) (.ref sl)) Q E s := by
  have hdrop : sizeOk (.seq (items.toList.take (items.size - 1)).toArray) := by
    show (items.toList.take (items.size - 1)).toArray.size ≤ sizeLine
    rw [List.size_toArray, List.length_take, Array.length_toList]
    omega
  obtain ⟨os, hos, hcs, hds⟩ := id hs
  have hTs : s.TypeIs (.ref sl) "slice" := ⟨os, hos, hcs⟩
  unfold getItem
  try with_reducible refine wpAny_holding ?_
  first | refine wpAny_bind (wpAny_pure ?_) | skip
  refine wpAny_bind (wpAny_sequenceKey ht.typeIs (by decide) ?_)
  refine wpAny_bind (wpAny_callSpecial?_slot (name := Str.ofString "__getitem__") ht.typeIs slot_tuple_getitem
    (wpAny_call_entry slot_tuple_getitem ht.typeIs entry_tuple_getitem ?_ (args_tuple_getitem _ _)))
  show wpAny _ _ (Builtin.Tuple.tupleItemsOf (.ref t) >>= _) _ _ s
  refine wpAny_bind (tupleItemsOf_ ht ?_)
  refine wpAny_bind (wpAny_typeOf hTs ?_)
  rw [if_pos (by decide)]
  refine wpAny_bind (sliceApplied_but hs h1 ?_)
  have hno : ¬ (((0 : Int) == 0 && (1 : Int) == 1 && (items.size - 1) == items.size) = true) := by
    have : ((items.size - 1) == items.size) = false := by rw [beq_eq_false_iff_ne]; omega
    rw [this]; simp
  show wpAny _ _ (if ((0 : Int) == 0 && (1 : Int) == 1 && (items.size - 1) == items.size) = true then _ else _) _ _ s
  rw [if_neg hno, pick_but]
  first
    | exact wpAny_bind (m := Builtin.Tuple.tupleExact _) (wpAny_newObj_type (wpAny_pure ⟨_, rfl, wpAny_pure h⟩) hdrop)
    | exact wpAny_bind (m := Builtin.Tuple.tupleExact _) (wpAny_newObj_type (wpAny_bind (wpAny_pure (wpAny_pure ⟨_, rfl, wpAny_pure h⟩))) hdrop)
    | exact wpAny_bind (wpAny_bind (m := Builtin.Tuple.tupleExact _) (wpAny_newObj_type (wpAny_pure (wpAny_pure ⟨_, rfl, wpAny_pure h⟩)) hdrop))
    | exact wpAny_bind (wpAny_bind (m := Builtin.Tuple.tupleExact _) (wpAny_newObj_type (wpAny_pure ⟨_, rfl, wpAny_pure h⟩) hdrop))
end
section
variable {b : Bas} {n : Nat} {sc : Scope} {ρ : List (Str × D)} {X : List MO}
theorem ev_butT {value : PySem.Expr} {upper : PySem.Expr} {p pos : Pos} {xs : List PyData} (h1 : Ev b n sc ρ X value (.tup xs)) (h3 : Ev b n sc ρ X upper (.int (-1))) (hx : xs ≠ []) : Ev b n sc ρ X (.Subscript value (.Slice none (some upper) none p) pos) (.tup xs.dropLast) := fun A env M s R S => by
  refine Subscript_ (wp_weak (h1 A env M s R S) fun o s₁ ⟨a1, p1⟩ => wpAny_Slice ?_)
  rw [evalPart_none]
  refine wpAny_pure ?_
  show wpAny _ _ (eval upper env) _ _ _
  refine wp_weak (h3 A env M s₁ R (S.pure p1)) fun vu s₂ ⟨a2, p2⟩ => ?_
  refine wpAny_pure ?_
  obtain ⟨x, vs, k, rfl, m1, z1, e1, r1⟩ := Rp.tuple_inv (a1.keep p2.kp)
  obtain ⟨t, rfl⟩ := Rp.int_inv a2
  have l1 := r1.length
  rw [Array.length_toList] at l1
  have St3 := ((S.pure p1).pure p2).st
  have pz : Pr s₂ { s₂ with heap := s₂.heap.push { cls := .type "slice", data := .fields #[.none, .int (-1) t, .none] } } := ⟨Kp.push, rfl, rfl⟩
  have St4 := St3.pure pz
  have e2 := pz.kp.all _ _ e1
  have hxl : 1 ≤ xs.length := by
    cases xs with
    | nil => exact absurd rfl hx
    | cons => simp
  have hT : IsTup (s₂.heap.push { cls := .type "slice", data := .fields #[.none, .int (-1) t, .none] }) x vs := ⟨_, e2, rfl, _, rfl⟩
  refine tail_any (T := "tuple") (ops := [_, _]) ⟨_, e2, rfl⟩ slot_tuple_getitem.lookup (getItem_tuple_but hT (Heap.IsSliceOf.new ..) (by rw [l1]; exact hxl) ⟨?_, ((p1.trans p2).trans pz).trans ⟨Kp.push, rfl, rfl⟩⟩ (by rw [l1]; exact big_line z1)) rfl
  refine .tuple St4.new (by rw [List.length_dropLast]; omega) (Heap.get?_push_size _ rfl) ?_
  have q := ((r1.take (xs.length - 1)).kp pz.kp (fun _ h => nomatch h)).kp (Kp.push (o := { cls := .type "tuple", data := .seq (vs.toList.take (vs.size - 1)).toArray })) (fun _ h => nomatch h)
  rw [List.dropLast_eq_take]
  simpa [l1] using q
end

theorem St.sub {b : Bas} {M : List Addr} {X X' : List MO} {s : Shared} (x : St b M X s) (h : X'.Sublist X) : St b M X' s :=
  ⟨x.base, x.gens, x.os, fun t ht => x.mo t (h.subset ht), fun t ht => x.moM t (h.subset ht), (h.map _).nodup x.ndX, x.exM, x.newM⟩

noncomputable def plainArgs : List PySem.Expr → Bool
  | [] => true
  | .Starred .. :: _ => false
  | _ :: r => plainArgs r
theorem plain_any {env : Env} {pos : Pos} : ∀ {es : List PySem.Expr}, plainArgs es = true → (backTo pos (starEach es env)).any (·.1) = false
  | [], _ => rfl
  | e :: r, h => by
    have ih : plainArgs r = true → (backTo pos (starEach r env)).any (·.1) = false := plain_any
    cases e <;> first | (simp [plainArgs] at h; done) | (have h' : plainArgs r = true := h; have := ih h'; show ((false || (backTo pos (starEach r env)).any (·.1)) = false); rw [this]; rfl)
theorem plain_cons {env : Env} {e : PySem.Expr} {r : List PySem.Expr} (h : plainArgs (e :: r) = true) : starEach (e :: r) env = (false, eval e env) :: starEach r env := by
  cases e <;> first | rfl | (simp [plainArgs] at h)
theorem plain_tail {e : PySem.Expr} {r : List PySem.Expr} (h : plainArgs (e :: r) = true) : plainArgs r = true := by
  cases e <;> first | exact h | (simp [plainArgs] at h)

/-- what keeps the callee alive is known -/
noncomputable def Ke (b : Bas) (f : Value) : Prop := ∀ h : Heap, Kp [] b.B h → ∃ k, (k = Keeper.frame ∨ k = Keeper.machine ∨ k = Keeper.boundFrame) ∧ Looks (Mo b) h (keeperOf f) k
theorem ke_builtin {b : Bas} {id : String} : Ke b (.builtin id) := fun _ _ => ⟨.machine, .inr (.inl rfl), Looks.of_pure rfl⟩
theorem ke_type {b : Bas} {id : String} : Ke b (.type id) := fun _ _ => ⟨.machine, .inr (.inl rfl), Looks.of_pure rfl⟩
structure FnAt (b : Bas) (a : Addr) (fd : FuncData) : Prop where
  at_ : b.B.get? a = some { cls := .type "function", data := .func fd }
  code : b.B.CodeRec fd.code fd.qualname
theorem FnAt.ke {b : Bas} {a : Addr} {fd : FuncData} (x : FnAt b a fd) : Ke b (.ref a) := fun _ k =>
  ⟨.frame, .inl rfl, (Looks.ld (part := none) (k.all _ _ x.at_)).andThen .now⟩

section
variable {b : Bas} {n : Nat} {sc : Scope} {ρ : List (Str × D)} {X : List MO}
theorem args_of {A : Around} {env : Env} {M : List Addr} {s : Shared} {f : Value} {pos : Pos} {es : List PySem.Expr} {ds : List D} (R : Rm n A) (S : Sv b sc env M ρ X s) (h : Evs b n sc ρ X es ds) (hp : plainArgs es = true) :
    wpAny (Mo b) A (evalArgs f true (backTo pos (starEach es env)) []) (fun a s' => ∃ vs, a = ⟨vs, []⟩ ∧ EvsR M s ds vs s') noE s := by
  have h' := h A env M s pos R S
  cases es with
  | nil =>
    have h'' : wpAny (Mo b) A (spliced []) (EvsR M s ds) noE s := h'
    show wpAny _ _ (evalArgs f true [] []) _ _ _
    unfold evalArgs
    show wpAny _ _ (spliced [] >>= _) _ _ _
    refine wpAny_bind (wp_weak h'' fun vs s' q => ?_)
    first
      | (refine wpAny_bind (wpAny_pure ?_); refine wpAny_holding ?_; exact wpAny_bind (wpAny_pure (wpAny_bind (wpAny_pure (wpAny_pure ⟨vs, rfl, q⟩)))))
      | (refine wpAny_holding ?_; exact wpAny_bind (wpAny_pure (wpAny_bind (wpAny_pure (wpAny_pure ⟨vs, rfl, q⟩)))))
  | cons e r =>
    rw [plain_cons hp] at h' ⊢
    exact Calls.evalArgs_plain (wp_weak h' fun vs s' q => ⟨vs, rfl, q⟩)

/-- a call of a value: the callee and the arguments change nothing, the call may -/
theorem wp_callWith {A : Around} {env : Env} {M : List Addr} {s : Shared} {f : Value} {pos : Pos} {first : List Value} {es : List PySem.Expr} {ds : List D} {Q : Value → Shared → Prop} (R : Rm n A) (S : Sv b sc env M ρ X s) (ke : Ke b f) (h : Evs b n sc ρ X es ds) (hp : plainArgs es = true)
    (k : ∀ vs s', DpAll M s'.heap vs ds → Pr s s' → wpAny (Mo b) A (call f (first ++ vs)) Q noE s') :
    wpAny (Mo b) A (callWith pos f first (backTo pos (starEach es env)) []) Q noE s := by
  refine callWith_of (P := fun h => Kp [] b.B h) (by rw [plain_any hp]; rfl) (fun h q => ke h q) (wp_weak (args_of (pos := pos) R S h hp) fun a s' ⟨vs, e, d, p⟩ => ?_)
  subst e
  exact ⟨(S.pure p).st.base, k vs s' d p⟩
theorem ev_call {func : PySem.Expr} {es : List PySem.Expr} {pos : Pos} {f : Value} {ds : List D} {r : D} {X' : List MO} {m : Nat} (h1 : Ev b n sc ρ X func (.raw f)) (h2 : Evs b n sc ρ X es ds) (ke : Ke b f) (h3 : Fn b m X' f ds r) (hm : m ≤ n) (hX : X'.Sublist X) (hp : plainArgs es = true := by rfl)
    (he : ∀ env, eval (.Call func es [] pos) env = (do callWith pos (← eval func env) [] (backTo pos (starEach es env)) []) := by intro _; rfl) : Ev b n sc ρ X (.Call func es [] pos) r := fun A env M s R S => by
  rw [he]
  refine wpAny_bind (wp_weak (h1 A env M s R S) fun v s₁ ⟨a1, p1⟩ => ?_)
  obtain rfl : v = f := a1
  refine wp_callWith R (S.pure p1) ke h2 hp fun vs s₂ d p2 => ?_
  have St2 := ((S.pure p1).pure p2).st.sub hX
  exact wp_weak (h3 A M s₂ vs (R.mono hm) St2 d) fun x s₃ ⟨a3, p3⟩ => ⟨a3, (p1.trans p2).trans p3⟩
end

section
variable {b : Bas} {n : Nat} {X : List MO}
theorem fn_abs {i : Int} : Fn b n X (.builtin "abs") [.int i] (.int (if i < 0 then -i else i)) := fun A M s vs R S a => by
  cases a with | cons a r => cases r; obtain ⟨t, rfl⟩ := Rp.int_inv a; exact call_abs_int fun u tk => ⟨.int _ _, Pr.tok⟩
theorem fn_lenL {xs : List PyData} : Fn b n X (.builtin "len") [.list xs] (.int xs.length) := fun A M s vs R S a => by
  apply a.d1; intro _ a
  obtain ⟨x, vs, k, rfl, m1, z1, e1, r1⟩ := Rp.list_inv a
  have l1 := r1.length
  rw [Array.length_toList] at l1
  refine PyProof.Rows.len_list ⟨_, e1, rfl, _, rfl⟩ (by rw [l1]; exact big_idx z1) ⟨?_, Pr.tok⟩
  rw [l1]; exact .int _ _
theorem fn_lenT {xs : List PyData} : Fn b n X (.builtin "len") [.tup xs] (.int xs.length) := fun A M s vs R S a => by
  apply a.d1; intro _ a
  obtain ⟨x, vs, k, rfl, m1, z1, e1, r1⟩ := Rp.tuple_inv a
  have l1 := r1.length
  rw [Array.length_toList] at l1
  refine PyProof.Rows.len_tuple ⟨_, e1, rfl, _, rfl⟩ (by rw [l1]; exact big_idx z1) ⟨?_, Pr.tok⟩
  rw [l1]; exact .int _ _
theorem fn_max2 {i j : Int} : Fn b n X (.builtin "max") [.int i, .int j] (.int (if j > i then j else i)) := fun A M s vs R S a => by
  apply a.d2; intro _ _ a c
  obtain ⟨t, rfl⟩ := Rp.int_inv a
  obtain ⟨t', rfl⟩ := Rp.int_inv c
  refine max_two_ints R.handled fun h' tk hk => ⟨?_, Pr.heap (Kp.of hk)⟩
  split <;> exact .int _ _
theorem fn_min2 {i j : Int} : Fn b n X (.builtin "min") [.int i, .int j] (.int (if j < i then j else i)) := fun A M s vs R S a => by
  apply a.d2; intro _ _ a c
  obtain ⟨t, rfl⟩ := Rp.int_inv a
  obtain ⟨t', rfl⟩ := Rp.int_inv c
  refine min_two_ints R.handled fun h' tk hk => ⟨?_, Pr.heap (Kp.of hk)⟩
  split <;> exact .int _ _
theorem fn_tupT {xs : List PyData} : Fn b n X (.type "tuple") [.tup xs] (.tup xs) := fun A M s vs R S a => by
  apply a.d1; intro _ a
  have a' := a
  obtain ⟨x, vs, k, rfl, m1, z1, e1, r1⟩ := Rp.tuple_inv a
  exact PySem.call_tuple_same ⟨_, e1, rfl, _, rfl⟩ ⟨a', Pr.refl⟩
theorem fn_tupL {xs : List PyData} : Fn b n X (.type "tuple") [.list xs] (.tup xs) := fun A M s vs R S a => by
  apply a.d1; intro _ a
  obtain ⟨x, vs, k, rfl, m1, z1, e1, r1⟩ := Rp.list_inv a
  have l1 := r1.length
  rw [Array.length_toList] at l1
  refine PySem.call_tuple_list ⟨_, e1, rfl, _, rfl⟩ (fun h' hk => ?_) (by rw [l1]; exact big_line z1)
  have p : Pr s { s with heap := h' } := ⟨Kp.of hk, rfl, rfl⟩
  have St2 := S.pure p
  refine ⟨.tuple St2.new z1 (Heap.get?_push_size _ rfl) ?_, p.trans ⟨Kp.push, rfl, rfl⟩⟩
  exact (r1.kp p.kp (fun _ h => nomatch h)).kp (Kp.push (o := { cls := .type "tuple", data := .seq vs })) (fun _ h => nomatch h)
theorem fn_range1 {i : Int} : Fn b n X (.type "range") [.int i] (.rng 0 i) := fun A M s vs R S a => by
  apply a.d1; intro _ a
  obtain ⟨t, rfl⟩ := Rp.int_inv a
  exact call_range_1 ⟨⟨_, _, _, _, rfl, S.new, IsRange.new ..⟩, ⟨Kp.push, rfl, rfl⟩⟩
theorem fn_range2 {i j : Int} : Fn b n X (.type "range") [.int i, .int j] (.rng i j) := fun A M s vs R S a => by
  apply a.d2; intro _ _ a c
  obtain ⟨t, rfl⟩ := Rp.int_inv a
  obtain ⟨t', rfl⟩ := Rp.int_inv c
  exact call_range_2 ⟨⟨_, _, _, _, rfl, S.new, IsRange.new ..⟩, ⟨Kp.push, rfl, rfl⟩⟩
/-- the nums of a range by ones -/
noncomputable def nums (lo hi : Int) : List Int := (List.range (hi - lo).toNat).map fun k : Nat => lo + k
theorem nums_length (lo hi : Int) : (nums lo hi).length = (hi - lo).toNat := by simp [nums]
theorem mem_nums {lo hi x : Int} : x ∈ nums lo hi ↔ lo ≤ x ∧ x < hi := by
  simp only [nums, List.mem_map, List.mem_range]
  constructor
  · rintro ⟨k, hk, rfl⟩; omega
  · rintro ⟨h1, h2⟩; exact ⟨(x - lo).toNat, by omega, by omega⟩
noncomputable def Small (lo hi : Int) : Prop := -(2 ^ 62) ≤ lo ∧ lo < 2 ^ 62 ∧ -(2 ^ 62) ≤ hi ∧ hi < 2 ^ 62 ∧ (hi - lo).toNat ≤ big
theorem Small.rng {lo hi : Int} (h : Small lo hi) : Builtin.Range.small lo hi 1 = true := small_one h.1 h.2.1 h.2.2.1 h.2.2.2.1
theorem size_rng (lo hi : Int) : Builtin.Range.rangeSize lo hi 1 = ((hi - lo).toNat : Int) := by
  rw [rangeSize_one]; split <;> omega
theorem lr_core {i j : Int} (hs : Small i j) {A : Around} {M : List Addr} {s : Shared} {vs : List Value} (R : Rm n A) (a : DpAll M s.heap vs [.rng i j]) : wpAny (Mo b) A (call (.type "list") vs) (fun v s' => ∃ us k, v = .ref s.heap.objs.size ∧ s'.heap.get? s.heap.objs.size = some { cls := .type "list", data := .seq us k } ∧ (∀ M', RpAll M' s'.heap us.toList ((nums i j).map .int)) ∧ Pr s s') noE s := by
  apply a.d1; intro _ a
  obtain ⟨r, t, u, c, rfl, m, q⟩ := a
  have hz := hs.2.2.2.2
  refine call_list_range R.handled q hs.rng (size_rng i j) (by simp only [big] at hz; omega) fun h' tk acc c' hk hd hI => ?_
  have p : Pr s { s with heap := h', toks := tk } := ⟨Kp.of hk, rfl, rfl⟩
  refine ⟨_, _, rfl, hd, fun M' => ?_, p⟩
  refine RpAll.mk (by rw [List.length_map, nums_length, Array.length_toList]; exact hI.1) fun k v d hv hdk => ?_
  obtain ⟨t', rfl⟩ := hI.2 k v (by simpa using hv)
  rw [List.getElem?_map] at hdk
  cases hk' : (nums i j)[k]? with
  | none => rw [hk'] at hdk; cases hdk
  | some z =>
    rw [hk'] at hdk
    have hz : z = i + k := by
      unfold nums at hk'
      rw [List.getElem?_map] at hk'
      cases hr : (List.range (j - i).toNat)[k]? with
      | none => rw [hr] at hk'; cases hk'
      | some y =>
        rw [hr] at hk'
        obtain ⟨h1, h2⟩ := List.getElem?_eq_some_iff.mp hr
        simp at h2 hk'
        omega
    simp at hdk
    subst hdk
    rw [hz, Int.mul_one]
    exact .int _ _
theorem fn_listRange {i j : Int} (hs : Small i j) : Fn b n X (.type "list") [.rng i j] (.list ((nums i j).map .int)) := fun A M s vs R S a => by
  refine wp_weak (lr_core hs R a) fun v s' ⟨us, k, e, hd, r, p⟩ => ?_
  subst e
  exact ⟨.list S.new (by rw [List.length_map, nums_length]; exact hs.2.2.2.2) hd (r M), p⟩
theorem fn_sorted {is : List Int} (h64 : is.length < 64) : Fn b n X (.builtin "sorted") [.list (is.map .int)] (.list ((is.mergeSort fun x y => decide (x ≤ y)).map .int)) := fun A M s vs R S a => by
  apply a.d1; intro _ a
  obtain ⟨x, vs, k, rfl, m1, z1, e1, r1⟩ := Rp.list_inv a
  have l1 := r1.length
  have hI := r1.ints
  rw [List.length_map] at l1
  refine sorted_ints (vs := vs.toList) ⟨_, e1, rfl, _, rfl⟩ hI (by rw [l1]; exact h64) fun out ns' a1 a2 a3 => ?_
  obtain ⟨e, he⟩ := sortedAll_at s.heap vs.toList out
  have p : Pr s { s with heap := sortedAll s.heap vs.toList out } := ⟨Kp.of fun _ _ => sortedAll_old, rfl, rfl⟩
  have hn : ns' = is.mergeSort fun x y => decide (x ≤ y) := by
    refine List.Perm.eq_of_pairwise (le := (· ≤ ·)) (fun a b _ _ h1 h2 => Int.le_antisymm h1 h2) a3 ?_ (a2.trans (List.mergeSort_perm _ _).symm)
    have := List.pairwise_mergeSort (le := fun x y : Int => decide (x ≤ y)) (fun a b c h1 h2 => by simp at *; omega) (fun a b => by simp; omega) is
    simpa using this
  have hnew : s.heap.objs.size + 1 ∉ M := fun h => by
    obtain ⟨o, ho⟩ := S.exM _ h
    exact absurd (Heap.lt_size ho) (Nat.not_lt.mpr (Nat.le_succ _))
  refine ⟨.list hnew (by rw [List.length_map, List.length_mergeSort]; simpa using z1) he ?_, p⟩
  rw [← hn]
  exact RpAll.of_ints a1
theorem fn_sum {is : List Int} (hf : PySem.SumFits is) : Fn b n X (.builtin "sum") [.list (is.map .int)] (.int is.sum) := fun A M s vs R S a => by
  apply a.d1; intro _ a
  obtain ⟨x, vs, k, rfl, m1, z1, e1, r1⟩ := Rp.list_inv a
  have hI := r1.ints
  obtain ⟨xs, hx⟩ := (show AllInts vs from by simpa using hI.allInts).items
  have hn : xs.toList.map (·.1) = is := by
    rw [← nums_intItems, ← hx, hI.numsOf]
  refine sum_intList (xs := xs) R.handled ⟨_, e1, rfl, _, by rw [hx]⟩ (fun j hj => ?_) fun h' tk t' hk => ⟨?_, ⟨Kp.of hk, rfl, rfl⟩⟩
  · rw [numAt_eq, preSum_eq, hn]; exact hf j (by rw [← hn]; simpa using hj)
  · rw [preSum_eq, List.take_of_length_le (by simp), hn]; exact .int _ _
theorem fn_maxL {is : List Int} {m : Int} (hne : 0 < is.length) (hm : m ∈ is) (hle : ∀ x ∈ is, x ≤ m) : Fn b n X (.builtin "max") [.list (is.map .int)] (.int m) := fun A M s vs R S a => by
  apply a.d1; intro _ a
  obtain ⟨x, vs, k, rfl, m1, z1, e1, r1⟩ := Rp.list_inv a
  have hI := r1.ints
  obtain ⟨xs, hx⟩ := (show AllInts vs from by simpa using hI.allInts).items
  have hn : xs.toList.map (·.1) = is := by
    rw [← nums_intItems, ← hx, hI.numsOf]
  have hsz : 0 < xs.size := by rw [← hn] at hne; simpa using hne
  refine max_intList (xs := xs) R.handled ⟨_, e1, rfl, _, by rw [hx]⟩ hsz fun v h' tk hv hk => ⟨?_, ⟨Kp.of hk, rfl, rfl⟩⟩
  obtain ⟨t, rfl⟩ := intItems_at hv
  obtain ⟨h1, h2⟩ := argBest_gt (numAt xs) (xs.size - 1)
  have q1 : numAt xs (argBest (fun i j => decide (numAt xs i > numAt xs j)) (xs.size - 1)) ≤ m := hle _ (by
    rw [← hn, numAt_eq]; exact getD_mem (by rw [List.length_map, Array.length_toList]; omega))
  have q2 : m ≤ numAt xs (argBest (fun i j => decide (numAt xs i > numAt xs j)) (xs.size - 1)) := by
    rw [← hn] at hm
    obtain ⟨j, hj, rfl⟩ := mem_getD hm
    rw [List.length_map, Array.length_toList] at hj
    rw [← numAt_eq]; exact h2 j (by omega)
  rw [Int.le_antisymm q1 q2]
  exact .int _ _
theorem fn_minL {is : List Int} {m : Int} (hne : 0 < is.length) (hm : m ∈ is) (hle : ∀ x ∈ is, m ≤ x) : Fn b n X (.builtin "min") [.list (is.map .int)] (.int m) := fun A M s vs R S a => by
  apply a.d1; intro _ a
  obtain ⟨x, vs, k, rfl, m1, z1, e1, r1⟩ := Rp.list_inv a
  have hI := r1.ints
  obtain ⟨xs, hx⟩ := (show AllInts vs from by simpa using hI.allInts).items
  have hn : xs.toList.map (·.1) = is := by
    rw [← nums_intItems, ← hx, hI.numsOf]
  have hsz : 0 < xs.size := by rw [← hn] at hne; simpa using hne
  refine min_intList (xs := xs) R.handled ⟨_, e1, rfl, _, by rw [hx]⟩ hsz fun v h' tk hv hk => ⟨?_, ⟨Kp.of hk, rfl, rfl⟩⟩
  obtain ⟨t, rfl⟩ := intItems_at hv
  obtain ⟨h1, h2⟩ := argBest_lt (numAt xs) (xs.size - 1)
  have q1 : m ≤ numAt xs (argBest (fun i j => decide (numAt xs i < numAt xs j)) (xs.size - 1)) := hle _ (by
    rw [← hn, numAt_eq]; exact getD_mem (by rw [List.length_map, Array.length_toList]; omega))
  have q2 : numAt xs (argBest (fun i j => decide (numAt xs i < numAt xs j)) (xs.size - 1)) ≤ m := by
    rw [← hn] at hm
    obtain ⟨j, hj, rfl⟩ := mem_getD hm
    rw [List.length_map, Array.length_toList] at hj
    rw [← numAt_eq]; exact h2 j (by omega)
  rw [Int.le_antisymm q2 q1]
  exact .int _ _
end


/-- the cells that an inner block takes along -/
noncomputable def closOf (cells : List (Str × Addr)) : List (Str × NameKind) → List (Str × Addr) → List (Str × Addr)
  | [], acc => acc
  | (x, k) :: r, acc => if k == .free then (match cells.lookup x with | some a => closOf cells r ((x, a) :: acc) | none => closOf cells r acc) else closOf cells r acc
theorem closure_run (env : Env) : ∀ (names : List (Str × NameKind)) (acc : List (Str × Addr)), (∀ x ∈ names, x.2 = .free → (env.cells.lookup x.1).isSome = true) →
    (forIn names acc (fun (x : Str × NameKind) (cs : List (Str × Addr)) => (if x.2 == .free then (do let a ← cellOf env x.1; pure (.yield ((x.1, a) :: cs))) else pure (.yield cs) : Sem (ForInStep (List (Str × Addr)))))) = pure (closOf env.cells names acc)
  | [], acc, _ => rfl
  | (x, k) :: r, acc, h => by
    rw [List.forIn_cons]
    have hr := closure_run env r
    cases hk : k == NameKind.free with
    | false =>
      simp only [hk, Bool.false_eq_true, if_false, closOf]
      exact hr acc fun y hy => h y (List.mem_cons_of_mem _ hy)
    | true =>
      have hk' : k = .free := by simpa using hk
      obtain ⟨a, ha⟩ := Option.isSome_iff_exists.mp (h (x, k) List.mem_cons_self hk')
      have hc : cellOf env x = pure a := by unfold cellOf; rw [ha]
      simp only [hk, if_true, closOf, ha, hc]
      exact hr _ fun y hy => h y (List.mem_cons_of_mem _ hy)
theorem closure_is {scope : Scope} {env : Env} (h : ∀ x ∈ scope.names, x.2 = .free → (env.cells.lookup x.1).isSome = true) : closureFor scope env = pure (closOf env.cells scope.names []) := by
  have := closure_run env scope.names [] h
  unfold closureFor
  show ((forIn scope.names [] (fun (x : Str × NameKind) (cs : List (Str × Addr)) => (if x.2 == .free then (do let a ← cellOf env x.1; pure (.yield ((x.1, a) :: cs))) else pure (.yield cs) : Sem (ForInStep (List (Str × Addr))))) : Sem (List (Str × Addr))) >>= fun s => pure s) = _
  rw [this]; rfl
theorem clos_mem {cells : List (Str × Addr)} : ∀ {names : List (Str × NameKind)} {acc : List (Str × Addr)} {p : Str × Addr}, p ∈ closOf cells names acc → p ∈ acc ∨ (cells.lookup p.1 = some p.2 ∧ (p.1, NameKind.free) ∈ names)
  | [], _, _, h => .inl h
  | (x, k) :: r, acc, p, h => by
    unfold closOf at h
    split at h
    · rename_i hk
      have hk' : k = .free := by simpa using hk
      subst hk'
      split at h
      · rename_i a ha
        rcases clos_mem h with h | h
        · rcases List.mem_cons.mp h with rfl | h
          · exact .inr ⟨ha, List.mem_cons_self⟩
          · exact .inl h
        · exact .inr ⟨h.1, List.mem_cons_of_mem _ h.2⟩
      · rcases clos_mem h with h | h
        · exact .inl h
        · exact .inr ⟨h.1, List.mem_cons_of_mem _ h.2⟩
    · rcases clos_mem h with h | h
      · exact .inl h
      · exact .inr ⟨h.1, List.mem_cons_of_mem _ h.2⟩
theorem clos_acc {cells : List (Str × Addr)} : ∀ {names : List (Str × NameKind)} {acc : List (Str × Addr)} {p : Str × Addr}, p ∈ acc → p ∈ closOf cells names acc
  | [], _, _, h => h
  | (x, k) :: r, acc, p, h => by
    unfold closOf
    split
    · split
      · exact clos_acc (List.mem_cons_of_mem _ h)
      · exact clos_acc h
    · exact clos_acc h
theorem clos_has {cells : List (Str × Addr)} : ∀ {names : List (Str × NameKind)} {acc : List (Str × Addr)} {x : Str} {a : Addr}, (x, NameKind.free) ∈ names → cells.lookup x = some a → (x, a) ∈ closOf cells names acc
  | (y, k) :: r, acc, x, a, h, ha => by
    unfold closOf
    rcases List.mem_cons.mp h with e | h
    · cases e
      simp only [beq_self_eq_true, if_true, ha]
      exact clos_acc List.mem_cons_self
    · split
      · split
        · exact clos_has h ha
        · exact clos_has h ha
      · exact clos_has h ha
theorem lookup_of_mem {cs : List (Str × Addr)} (hn : (cs.map (·.1)).Nodup) {x : Str} {a : Addr} (h : (x, a) ∈ cs) : cs.lookup x = some a := by
  induction cs with
  | nil => cases h
  | cons p r ih =>
    obtain ⟨y, b⟩ := p
    rw [List.map_cons, List.nodup_cons] at hn
    rcases List.mem_cons.mp h with e | h
    · cases e; simp [List.lookup_cons]
    · have hne : x ≠ y := fun e => hn.1 (List.mem_map.mpr ⟨(x, a), h, e⟩)
      rw [List.lookup_cons]
      have : (x == y) = false := by simpa using hne
      rw [this]
      exact ih hn.2 h

/-- the scope of a comprehension, told where it stands -/
noncomputable def relab (scope sc : Scope) : Scope :=
  { scope with names := scope.names.map fun (n, k) => if (k == .free && sc.kind == .function && sc.names.lookup n == some .cell) then (n, .cell) else (n, k) }
theorem relabel_is {scope sc : Scope} {env : Env} (h : env.scope = sc) : relabel scope env = relab scope sc := by
  unfold relabel relab Env.kindOf
  rw [h]
theorem relab_lookup (scope sc : Scope) (x : Str) : (relab scope sc).names.lookup x = (scope.names.lookup x).map fun k => if (k == .free && sc.kind == .function && sc.names.lookup x == some .cell) then .cell else k := by
  unfold relab
  induction scope.names with
  | nil => rfl
  | cons p r ih =>
    obtain ⟨y, k⟩ := p
    simp only [List.map_cons]
    by_cases hx : x = y
    · subst hx
      by_cases hc : (k == NameKind.free && sc.kind == .function && sc.names.lookup x == some .cell) = true
      · rw [if_pos hc]; simp only [List.lookup_cons, beq_self_eq_true, Option.map_some, hc, if_true]
      · rw [if_neg hc]; simp only [List.lookup_cons, beq_self_eq_true, Option.map_some, hc, if_false]; rfl
    · have hb : (x == y) = false := by simpa using hx
      by_cases hc : (k == NameKind.free && sc.kind == .function && sc.names.lookup y == some .cell) = true
      · rw [if_pos hc]; simp only [List.lookup_cons, hb]; exact ih
      · rw [if_neg hc]; simp only [List.lookup_cons, hb]; exact ih

noncomputable abbrev Wr (env : Env) : List Addr := env.locals :: env.cells.map (·.2)
/-- a state moved on, the objects of W written -/
structure Pw (W : List Addr) (s s' : Shared) : Prop where
  kp : Kp W s.heap s'.heap
  gens : s'.gens = s.gens
  os : s'.os = s.os
theorem Pw.refl {W : List Addr} {s : Shared} : Pw W s s := ⟨Kp.refl, rfl, rfl⟩
theorem Pw.trans {W : List Addr} {s s' s'' : Shared} (x : Pw W s s') (y : Pw W s' s'') : Pw W s s'' := ⟨x.kp.trans y.kp, y.gens.trans x.gens, y.os.trans x.os⟩
theorem Pw.more {W W' : List Addr} {s s' : Shared} (x : Pw W s s') (h : ∀ a ∈ W, a ∈ W') : Pw W' s s' := ⟨x.kp.more h, x.gens, x.os⟩
theorem Pr.pw {W : List Addr} {s s' : Shared} (x : Pr s s') : Pw W s s' := ⟨x.kp.nil, x.gens, x.os⟩
theorem Pw.pr {s s' : Shared} (x : Pw [] s s') : Pr s s' := ⟨x.kp, x.gens, x.os⟩
/-- what is written did not stand at the start -/
theorem Pw.fresh {W V : List Addr} {s s' : Shared} (x : Pw W s s') (f : ∀ a ∈ W, a ∈ V ∨ s.heap.get? a = none) : Pw V s s' :=
  ⟨fun a o n e => x.kp a o (fun m => (f a m).elim n fun z => by cases z.symm.trans e) e, x.gens, x.os⟩
theorem Pw.ex {W : List Addr} {s s' : Shared} (x : Pw W s s') {a : Addr} {o : Obj} (h : s.heap.get? a = some o) (n : a ∉ W) : s'.heap.get? a = some o := x.kp a o n h

theorem St.kp {b : Bas} {M W : List Addr} {X : List MO} {s s' : Shared} (x : St b M X s) (p : Pw W s s') (hM : ∀ a ∈ W, a ∈ M ∨ s.heap.get? a = none) (hX : ∀ t ∈ X, t.addr ∉ W) (hex : ∀ a ∈ W, ∃ o, s'.heap.get? a = some o) : St b M X s' where
  base := fun a o _ e => p.kp a o (fun m => (hM a m).elim (fun q => by cases (x.newM a q).symm.trans e) fun z => by cases z.symm.trans (x.base.all a o e)) (x.base.all a o e)
  gens := p.gens.trans x.gens
  os := p.os.trans x.os
  mo := fun t ht => (x.mo t ht).kp p.kp hM (hX t ht)
  moM := x.moM
  ndX := x.ndX
  exM := fun a ha => by
    by_cases h : a ∈ W
    · exact hex a h
    · obtain ⟨o, e⟩ := x.exM a ha; exact ⟨o, p.kp a o h e⟩
  newM := x.newM
theorem Fm.kp {env : Env} {W : List Addr} {h h' : Heap} {m cm : Str → Option Value} (x : Fm env h m cm) (p : Kp W h h') (hE : ∀ a ∈ W, a ∉ Wr env) : Fm env h' m cm :=
  ⟨x.ns.at' fun o e => p _ o (fun q => hE _ q List.mem_cons_self) e, fun n a e => by
    obtain ⟨o, ho, hd⟩ := x.cell n a e
    exact ⟨o, p _ o (fun q => hE _ q (List.mem_cons_of_mem _ (List.mem_map.mpr ⟨(n, a), mem_of_lookup e, rfl⟩))) ho, hd⟩⟩
section
variable {b : Bas} {sc : Scope} {env : Env} {M : List Addr} {ρ : List (Str × D)} {X : List MO} {s s' : Shared}
theorem Sv.ap (S : Sv b sc env M ρ X s) : ∀ t ∈ X, t.addr ∉ Wr env := fun t ht m => by
  rcases List.mem_cons.mp m with e | m
  · exact (S.apX t ht).1 e
  · obtain ⟨p, hp, e⟩ := List.mem_map.mp m; exact (S.apX t ht).2 p hp e
theorem Sv.wrM (S : Sv b sc env M ρ X s) : ∀ a ∈ Wr env, a ∈ M := fun a m => by
  rcases List.mem_cons.mp m with e | m
  · subst e; exact S.locM
  · obtain ⟨p, hp, e⟩ := List.mem_map.mp m; subst e; exact S.celM p hp
theorem Sv.kp {W : List Addr} (S : Sv b sc env M ρ X s) (p : Pw W s s') (hM : ∀ a ∈ W, a ∈ M ∨ s.heap.get? a = none) (hX : ∀ t ∈ X, t.addr ∉ W) (hex : ∀ a ∈ W, ∃ o, s'.heap.get? a = some o) (hE : ∀ a ∈ W, a ∉ Wr env) : Sv b sc env M ρ X s' :=
  ⟨S.st.kp p hM hX hex, S.eo, let ⟨m, cm, f, r⟩ := S.fr; ⟨m, cm, f.kp p.kp hE, fun q hq => let ⟨v, h1, h2⟩ := r q hq; ⟨v, h1, h2.kp p.kp hM⟩⟩, S.locM, S.celM, S.apX⟩
theorem St.grow (x : St b M X s) (p : Pr s s') {I : Addr} (hn : s.heap.get? I = none) (he : ∃ o, s'.heap.get? I = some o) : St b (I :: M) X s' := by
  have hW : ∀ a ∈ I :: M, a ∈ M ∨ s.heap.get? a = none := fun a h => (List.mem_cons.mp h).elim (fun e => .inr (e ▸ hn)) .inl
  refine ⟨x.base.trans p.kp, p.gens.trans x.gens, p.os.trans x.os, fun t ht => ((x.mo t ht).avoid hW).keep p.kp, fun t ht => List.mem_cons_of_mem _ (x.moM t ht), x.ndX, fun a ha => ?_, fun a ha => ?_⟩
  · rcases List.mem_cons.mp ha with e | ha
    · subst e; exact he
    · obtain ⟨o, e⟩ := x.exM a ha; exact ⟨o, p.kp.all _ _ e⟩
  · rcases List.mem_cons.mp ha with e | ha
    · subst e
      cases q : b.B.get? a with
      | none => rfl
      | some o => cases hn.symm.trans (x.base.all _ _ q)
    · exact x.newM a ha
theorem Sv.grow (S : Sv b sc env M ρ X s) (p : Pr s s') {I : Addr} (hn : s.heap.get? I = none) (he : ∃ o, s'.heap.get? I = some o) : Sv b sc env (I :: M) ρ X s' := by
  have hW : ∀ a ∈ I :: M, a ∈ M ∨ s.heap.get? a = none := fun a h => (List.mem_cons.mp h).elim (fun e => .inr (e ▸ hn)) .inl
  exact ⟨S.st.grow p hn he, S.eo, let ⟨m, cm, f, r⟩ := S.fr; ⟨m, cm, f.keep p.kp, fun q hq => let ⟨v, h1, h2⟩ := r q hq; ⟨v, h1, (h2.avoid hW).keep p.kp⟩⟩, List.mem_cons_of_mem _ S.locM, fun p hp => List.mem_cons_of_mem _ (S.celM p hp), S.apX⟩
theorem St.less {M' : List Addr} (x : St b M' X s') (y : ∀ t ∈ X, t.addr ∈ M) (hs : ∀ a ∈ M, a ∈ M') : St b M X s' :=
  ⟨x.base, x.gens, x.os, fun t ht => (x.mo t ht).avoid fun a h => .inl (hs a h), y, x.ndX, fun a ha => x.exM a (hs a ha), fun a ha => x.newM a (hs a ha)⟩
theorem Sv.less {M' : List Addr} {ρ' : List (Str × D)} (S : Sv b sc env M' ρ X s') (y : Sv b sc env M ρ' X s) (hs : ∀ a ∈ M, a ∈ M') : Sv b sc env M ρ X s' :=
  ⟨S.st.less y.st.moM hs, S.eo, let ⟨m, cm, f, r⟩ := S.fr; ⟨m, cm, f, fun q hq => let ⟨v, h1, h2⟩ := r q hq; ⟨v, h1, h2.avoid fun a h => .inl (hs a h)⟩⟩, y.locM, y.celM, S.apX⟩
theorem Sv.sub {ρ' : List (Str × D)} (S : Sv b sc env M ρ X s) (h : ∀ p ∈ ρ', p ∈ ρ) : Sv b sc env M ρ' X s :=
  ⟨S.st, S.eo, let ⟨m, cm, f, r⟩ := S.fr; ⟨m, cm, f, fun q hq => r q (h q hq)⟩, S.locM, S.celM, S.apX⟩
end

/-- an iterator under way: what is left -/
noncomputable def ItAt (M : List Addr) (h : Heap) (I : Addr) (ds : List D) : Prop :=
  (∃ l vs n xs i, h.get? l = some { cls := .type "list", data := .seq vs n } ∧ h.IsListIter I l i ∧ l ∉ M ∧ l ≠ I ∧ RpAll M h vs.toList xs ∧ ds = (xs.drop i).map .dat) ∨
  (∃ l vs n xs i, h.get? l = some { cls := .type "tuple", data := .seq vs n } ∧ IsTupIter h I l i ∧ l ∉ M ∧ l ≠ I ∧ RpAll M h vs.toList xs ∧ ds = (xs.drop i).map .dat) ∨
  (∃ x k, IsRangeIter h I x (k : Nat) 1 ∧ ds = (nums x (x + (k : Nat))).map D.int)
theorem ItAt.kp {M W : List Addr} {h h' : Heap} {I : Addr} {ds : List D} (x : ItAt M h I ds) (hk : Kp W h h') (hW : ∀ a ∈ W, a ∈ M ∨ h.get? a = none) (hI : I ∉ W) : ItAt M h' I ds := by
  rcases x with ⟨l, vs, n, xs, i, e, a, m, ne, r, q⟩ | ⟨l, vs, n, xs, i, e, a, m, ne, r, q⟩ | ⟨x, k, a, q⟩
  · exact .inl ⟨l, vs, n, xs, i, hk _ _ (fun z => (hW _ z).elim m fun y => by cases y.symm.trans e) e, a.at fun o e => hk _ o hI e, m, ne, r.kp hk hW, q⟩
  · exact .inr (.inl ⟨l, vs, n, xs, i, hk _ _ (fun z => (hW _ z).elim m fun y => by cases y.symm.trans e) e, let ⟨o, e, r⟩ := a; ⟨o, hk _ o hI e, r⟩, m, ne, r.kp hk hW, q⟩)
  · exact .inr (.inr ⟨x, k, hk _ _ hI a, q⟩)
theorem ItAt.ex {M : List Addr} {h : Heap} {I : Addr} {ds : List D} (x : ItAt M h I ds) : ∃ o, h.get? I = some o := by
  rcases x with ⟨l, vs, n, xs, i, e, ⟨o, a, _⟩, m, ne, r, q⟩ | ⟨l, vs, n, xs, i, e, ⟨o, a, _⟩, m, ne, r, q⟩ | ⟨x, k, a, q⟩ <;> exact ⟨_, a⟩
theorem ItAt.avoid {M M' : List Addr} {h : Heap} {I : Addr} {ds : List D} (x : ItAt M h I ds) (hW : ∀ a ∈ M', a ∈ M ∨ h.get? a = none) : ItAt M' h I ds := by
  rcases x with ⟨l, vs, n, xs, i, e, a, m, ne, r, q⟩ | ⟨l, vs, n, xs, i, e, a, m, ne, r, q⟩ | ⟨x, k, a, q⟩
  · exact .inl ⟨l, vs, n, xs, i, e, a, (fun z => (hW _ z).elim m fun y => by cases y.symm.trans e), ne, r.avoid hW, q⟩
  · exact .inr (.inl ⟨l, vs, n, xs, i, e, a, (fun z => (hW _ z).elim m fun y => by cases y.symm.trans e), ne, r.avoid hW, q⟩)
  · exact .inr (.inr ⟨x, k, a, q⟩)
theorem nums_cons (x : Int) (k : Nat) : nums x (x + ((k + 1 : Nat) : Int)) = x :: nums (x + 1) (x + 1 + (k : Nat)) := by
  unfold nums
  have e1 : (x + ((k + 1 : Nat) : Int) - x).toNat = k + 1 := by omega
  have e2 : (x + 1 + (k : Int) - (x + 1)).toNat = k := by omega
  rw [e1, e2, List.range_succ_eq_map, List.map_cons, List.map_map]
  congr 1
  · simp
  · apply List.map_congr_left; intro j _; simp; omega
theorem nums_none (x : Int) : nums x x = [] := by simp [nums]
section
variable {b : Bas} {A : Around} {M : List Addr} {s : Shared} {n : Nat}
inductive NxR (M : List Addr) (I : Addr) (d : D) (ds : List D) (s : Shared) (r : Option Value) (s' : Shared) : Prop
  | mk (v : Value) (hr : r = some v) (a : Dp M s'.heap v d) (it : ItAt M s'.heap I ds) (p : Pw [I] s s') : NxR M I d ds s r s'
theorem next_cons {I : Addr} {d : D} {ds : List D} (x : ItAt M s.heap I (d :: ds)) (hI : I ∈ M) :
    wpAny (Mo b) A (pyNext (.ref I)) (NxR M I d ds s) noE s := by
  have hW : ∀ a ∈ [I], a ∈ M ∨ s.heap.get? a = none := fun a h => .inl (by rw [List.mem_singleton.mp h]; exact hI)
  rcases x with ⟨l, vs, n, xs, i, e, a, m, ne, r, q⟩ | ⟨l, vs, n, xs, i, e, a, m, ne, r, q⟩ | ⟨x, k, a, q⟩
  · cases hd : xs.drop i with
    | nil => rw [hd] at q; cases q
    | cons y ys =>
      rw [hd] at q
      obtain ⟨rfl, rfl⟩ := List.cons.inj q
      have hy : xs[i]? = some y := by rw [← List.head?_drop, hd]; rfl
      have hys : xs.drop (i + 1) = ys := by rw [← List.tail_drop, hd]; rfl
      obtain ⟨v, hv, rv⟩ := r.get hy
      refine wpAny_pyNext_list_item a ⟨_, e, rfl, _, rfl⟩ (by simpa using hv) fun h' hit hs => ?_
      have k : Kp [I] s.heap h' := Kp.sameBut hs
      exact ⟨v, rfl, Rp.kp k hW rv, .inl ⟨l, vs, n, xs, i + 1, k _ _ (by simpa using ne) e, hit, m, ne, RpAll.kp k hW r, by rw [hys]⟩, ⟨k, rfl, rfl⟩⟩
  · cases hd : xs.drop i with
    | nil => rw [hd] at q; cases q
    | cons y ys =>
      rw [hd] at q
      obtain ⟨rfl, rfl⟩ := List.cons.inj q
      have hy : xs[i]? = some y := by rw [← List.head?_drop, hd]; rfl
      have hys : xs.drop (i + 1) = ys := by rw [← List.tail_drop, hd]; rfl
      obtain ⟨v, hv, rv⟩ := r.get hy
      refine next_tuple_item a ⟨_, e, rfl, _, rfl⟩ (by simpa using hv) fun h' hit hs => ?_
      have k : Kp [I] s.heap h' := Kp.sameBut hs
      exact ⟨v, rfl, Rp.kp k hW rv, .inr (.inl ⟨l, vs, n, xs, i + 1, k _ _ (by simpa using ne) e, hit, m, ne, RpAll.kp k hW r, by rw [hys]⟩), ⟨k, rfl, rfl⟩⟩
  · cases k with
    | zero => rw [show x + ((0 : Nat) : Int) = x by simp, nums_none] at q; cases q
    | succ k =>
      rw [nums_cons] at q
      obtain ⟨rfl, rfl⟩ := List.cons.inj q
      refine wpAny_pyNext_range_item a (by omega) fun h' hit hs => ?_
      exact ⟨_, rfl, .int _ _, .inr (.inr ⟨x + 1, k, by rw [show (k : Int) = ((k + 1 : Nat) : Int) - 1 by omega]; exact hit, rfl⟩), ⟨Kp.sameBut hs, rfl, rfl⟩⟩
theorem next_nil {I : Addr} (x : ItAt M s.heap I []) (R : Rm n A) :
    wpAny (Mo b) A (pyNext (.ref I)) (fun r s' => r = none ∧ Pw [I] s s') noE s := by
  rcases x with ⟨l, vs, n, xs, i, e, a, m, ne, r, q⟩ | ⟨l, vs, n, xs, i, e, a, m, ne, r, q⟩ | ⟨x, k, a, q⟩
  · have hi : vs[i]? = none := by
      have : xs.drop i = [] := by simpa using q.symm
      have h1 := List.drop_eq_nil_iff.mp this
      have h2 := r.length
      rw [Array.length_toList] at h2
      simp; omega
    exact wpAny_pyNext_list_end R.handled a ⟨_, e, rfl, _, rfl⟩ hi fun h' hs => ⟨rfl, Kp.extBut hs, rfl, rfl⟩
  · have hi : vs[i]? = none := by
      have : xs.drop i = [] := by simpa using q.symm
      have h1 := List.drop_eq_nil_iff.mp this
      have h2 := r.length
      rw [Array.length_toList] at h2
      simp; omega
    exact next_tuple_end R.handled a ⟨_, e, rfl, _, rfl⟩ hi fun h' hs => ⟨rfl, Kp.extBut hs, rfl, rfl⟩
  · cases k with
    | zero => exact wpAny_pyNext_range_end R.handled a (by simp) fun h' hs => ⟨rfl, Kp.extBut hs, rfl, rfl⟩
    | succ k => rw [nums_cons] at q; cases q
theorem iter_self {I : Addr} {ds : List D} (x : ItAt M s.heap I ds) {Q : Value → Shared → Prop} {E : Value → Shared → Prop} (h : Q (.ref I) s) : wpAny (Mo b) A (pyIter (.ref I)) Q E s := by
  rcases x with ⟨l, vs, n, xs, i, e, a, m, ne, r, q⟩ | ⟨l, vs, n, xs, i, e, a, m, ne, r, q⟩ | ⟨x, k, a, q⟩
  · exact wpAny_pyIter_listiter a h
  · exact wpAny_pyIter_tupleiter a h
  · exact wpAny_pyIter_rangeiter a h
theorem owned_go {I : Addr} {ds : List D} {tgt : PySem.Expr} {v : Value} (x : ItAt M s.heap I ds) {Q : Unit → Shared → Prop} {E : Value → Shared → Prop} (h : Q () s) : wpAny (Mo b) A (letOwnedTupleGo tgt (.ref I) v) Q E s := by
  have key : ∀ (o : Obj) (nm : String) (fs : Array Value), s.heap.get? I = some o → o.cls = .type nm → o.data = .fields fs → ["enumerate", "zip", "dict_itemiterator", "dict_reverseitemiterator", "odict_iterator", "itertools.zip_longest", "itertools.pairwise"].contains nm = false → wpAny (Mo b) A (letOwnedTupleGo tgt (.ref I) v) Q E s := by
    intro o nm fs ho hc hd hn
    unfold letOwnedTupleGo
    split
    · split
      · rename_i r a e
        cases e
        refine wpAny_bind (wpAny_load ho ?_)
        rw [hc, hd]
        dsimp only
        rw [hn, Bool.false_and, if_neg (by decide)]
        exact wpAny_pure h
      · exact wpAny_pure h
    · split
      · rename_i r a e
        cases e
        refine wpAny_bind (wpAny_load ho ?_)
        rw [hc, hd]
        dsimp only
        rw [hn, Bool.false_and, if_neg (by decide)]
        exact wpAny_pure h
      · exact wpAny_pure h
    · exact wpAny_pure h
  rcases x with ⟨l, vs, n, xs, i, e, ⟨o, ho, hc, hd⟩, m, ne, r, q⟩ | ⟨l, vs, n, xs, i, e, ⟨o, ho, hc, hd⟩, m, ne, r, q⟩ | ⟨x, k, a, q⟩
  · exact key _ _ _ ho hc hd (by decide)
  · exact key _ _ _ ho hc hd (by decide)
  · exact key _ _ _ a rfl rfl (by decide)
end
/-- what an iterator of a value gives -/
inductive Iter : D → List D → Prop
  | list (xs) : Iter (.list xs) (xs.map .dat)
  | tup (xs) : Iter (.tup xs) (xs.map .dat)
  | rng {lo hi} : Small lo hi → Iter (.rng lo hi) ((nums lo hi).map D.int)
theorem nums_over (lo hi : Int) : nums lo (lo + ((hi - lo).toNat : Int)) = nums lo hi := by
  unfold nums
  have : (lo + ((hi - lo).toNat : Int) - lo).toNat = (hi - lo).toNat := by omega
  rw [this]
theorem iter_of {b : Bas} {A : Around} {M : List Addr} {X : List MO} {s : Shared} {v : Value} {d : D} {ds : List D} (S : St b M X s) (h : Iter d ds) (hv : Dp M s.heap v d) :
    wpAny (Mo b) A (pyIter v) (fun it s' => ∃ I, it = .ref I ∧ s.heap.get? I = none ∧ ItAt (I :: M) s'.heap I ds ∧ Pr s s') noE s := by
  have hnew : s.heap.get? s.heap.objs.size = none := by
    cases e : s.heap.get? s.heap.objs.size with
    | none => rfl
    | some o => exact absurd (Heap.lt_size e) (Nat.lt_irrefl _)
  have hW : ∀ a ∈ s.heap.objs.size :: M, a ∈ M ∨ s.heap.get? a = none := fun a h => (List.mem_cons.mp h).elim (fun e => .inr (e ▸ hnew)) .inl
  cases h with
  | list xs =>
    obtain ⟨x, vs, k, rfl, m1, z1, e1, r1⟩ := Rp.list_inv hv
    have hne : x ≠ s.heap.objs.size := Nat.ne_of_lt (Heap.lt_size e1)
    refine wpAny_pyIter_list ⟨_, e1, rfl, _, rfl⟩ ⟨_, rfl, hnew, ?_, Kp.push, rfl, rfl⟩
    refine .inl ⟨x, vs, k, xs, 0, Heap.get?_push_of_some _ e1, ⟨_, Heap.get?_push_size _ rfl, rfl, rfl⟩, ?_, hne, (r1.avoid hW).kp Kp.push (fun _ h => nomatch h), by simp⟩
    exact fun h => (List.mem_cons.mp h).elim hne m1
  | tup xs =>
    obtain ⟨x, vs, k, rfl, m1, z1, e1, r1⟩ := Rp.tuple_inv hv
    have hne : x ≠ s.heap.objs.size := Nat.ne_of_lt (Heap.lt_size e1)
    refine iter_tuple ⟨_, e1, rfl, _, rfl⟩ ⟨_, rfl, hnew, ?_, Kp.push, rfl, rfl⟩
    refine .inr (.inl ⟨x, vs, k, xs, 0, Heap.get?_push_of_some _ e1, ⟨_, Heap.get?_push_size _ rfl, rfl, rfl⟩, ?_, hne, (r1.avoid hW).kp Kp.push (fun _ h => nomatch h), by simp⟩)
    exact fun h => (List.mem_cons.mp h).elim hne m1
  | @rng lo hi hs =>
    obtain ⟨r, t, u, c, rfl, m, q⟩ := hv
    refine wpAny_pyIter_range q hs.rng ⟨_, rfl, hnew, ?_, Kp.push, rfl, rfl⟩
    refine .inr (.inr ⟨lo, (hi - lo).toNat, ?_, by rw [nums_over]⟩)
    rw [← size_rng]; exact Heap.get?_push_size _ rfl

noncomputable abbrev Del (x : Str) (ρ : List (Str × D)) : List (Str × D) := ρ.filter fun p => p.1 != x
theorem mem_del {x : Str} {ρ : List (Str × D)} {p : Str × D} : p ∈ Del x ρ ↔ p ∈ ρ ∧ p.1 ≠ x := by simp [Del]
/-- a name that may be stored to -/
noncomputable def Own (sc : Scope) (x : Str) : Bool := match sc.names.lookup x with | some .local => true | some .cell => x != ("__classdict__" : Str) | _ => false
/-- the addresses that the names ns are kept in -/
noncomputable abbrev Wn (env : Env) (ns : List Str) : List Addr := env.locals :: ns.filterMap fun x => env.cells.lookup x
theorem wn_wr {env : Env} {ns : List Str} : ∀ a ∈ Wn env ns, a ∈ Wr env := fun a h => by
  rcases List.mem_cons.mp h with e | h
  · exact e ▸ List.mem_cons_self
  · obtain ⟨x, _, hx⟩ := List.mem_filterMap.mp h
    exact List.mem_cons_of_mem _ (List.mem_map.mpr ⟨(x, a), mem_of_lookup hx, rfl⟩)
theorem sv_store {b : Bas} {sc : Scope} {env : Env} {M : List Addr} {ρ : List (Str × D)} {X : List MO} {s : Shared} {A : Around} {x : Str} {v : Value} {d : D} {ns : List Str} (S : Sv b sc env M ρ X s) (hx : Own sc x = true) (hns : x ∈ ns) (hv : Dp M s.heap v d) :
    wpAny (Mo b) A (storeName env x v) (fun _ s' => Sv b sc env M ((x, d) :: Del x ρ) X s' ∧ Pw (Wn env ns) s s') noE s := by
  have key : ∀ (a : Addr) (h' : Heap) (tk : Nat) (m' cm' : Str → Option Value), a ∈ Wn env ns → Heap.SameBut a s.heap h' → (∃ o, h'.get? a = some o) → Fm env h' m' cm' → Bd env m' cm' x v → (∀ p ∈ ρ, p.1 ≠ x → ∃ v, Bd env m' cm' p.1 v ∧ Dp M s.heap v p.2) →
      Sv b sc env M ((x, d) :: Del x ρ) X { s with heap := h', toks := tk } ∧ Pw (Wn env ns) s { s with heap := h', toks := tk } := by
    intro a h' tk m' cm' ha hs hex hF hB hr
    have p1 : Pw [a] s { s with heap := h', toks := tk } := ⟨Kp.sameBut hs, rfl, rfl⟩
    have haM := S.wrM a (wn_wr a ha)
    have hW : ∀ c ∈ [a], c ∈ M ∨ s.heap.get? c = none := fun c hc => .inl (by rw [List.mem_singleton.mp hc]; exact haM)
    refine ⟨⟨S.st.kp p1 hW (fun t ht m => S.ap t ht (by rw [List.mem_singleton.mp m]; exact wn_wr a ha)) (fun c hc => by rw [List.mem_singleton.mp hc]; exact hex), S.eo, ⟨m', cm', hF, fun p hp => ?_⟩, S.locM, S.celM, S.apX⟩, p1.more fun c hc => by rw [List.mem_singleton.mp hc]; exact ha⟩
    rcases List.mem_cons.mp hp with rfl | hp
    · exact ⟨v, hB, hv.kp p1.kp hW⟩
    · obtain ⟨hp, hne⟩ := mem_del.mp hp
      obtain ⟨w, h1, h2⟩ := hr p hp hne
      exact ⟨w, h1, h2.kp p1.kp hW⟩
  obtain ⟨m, cm, F, r⟩ := S.fr
  unfold Own at hx
  split at hx
  · rename_i hk
    have hk' : env.kindOf x = some .local := (S.eo.kindOf x).trans hk
    refine wpAny_storeName_local hk' F.ns (fun h' hn hs => ?_) (by rw [S.eo.kind]; rfl)
    refine key env.locals h' _ _ cm List.mem_cons_self hs (let ⟨o, _, _, e, _⟩ := hn; ⟨o, e⟩) ⟨hn, fun n a e => (F.cell n a e).sameBut hs (S.eo.off _ _ (mem_of_lookup e))⟩ (.inl ⟨hk', by simp⟩) ?_
    · intro p hp hne
      obtain ⟨w, hb, hd⟩ := r p hp
      refine ⟨w, ?_, hd⟩
      rcases hb with ⟨a1, a2⟩ | hb
      · exact .inl ⟨a1, by simpa [hne] using a2⟩
      · exact .inr hb
  · rename_i hk
    have hk' : env.kindOf x = some .cell := (S.eo.kindOf x).trans hk
    obtain ⟨a, ha⟩ := Option.isSome_iff_exists.mp (S.eo.has x (.inl hk))
    have haW : a ∈ Wn env ns := List.mem_cons_of_mem _ (List.mem_filterMap.mpr ⟨x, hns, ha⟩)
    refine wpAny_storeName_cell S.eo.kind hk' ha (F.cell x a ha) fun h' hc hs => ?_
    refine key a h' _ m (fun y => if y = x then some v else cm y) haW hs (let ⟨o, e, _⟩ := hc; ⟨o, e⟩) ⟨F.ns.sameBut hs (Ne.symm (S.eo.off _ _ (mem_of_lookup ha))), fun n c e => ?_⟩ (.inr ⟨.inl hk', by simpa using hx, by rw [ha]; rfl, by simp⟩) ?_
    · by_cases hn : n = x
      · subst hn; rw [ha] at e; cases e; simpa using hc
      · have hca : c ≠ a := fun q => hn (name_of_addr S.eo.apart (mem_of_lookup e) (q ▸ mem_of_lookup ha))
        simpa [hn] using (F.cell n c e).sameBut hs hca
    · intro p hp hne
      obtain ⟨w, hb, hd⟩ := r p hp
      refine ⟨w, ?_, hd⟩
      rcases hb with hb | ⟨a1, a2, a3, a4⟩
      · exact .inl hb
      · exact .inr ⟨a1, a2, a3, by simpa [hne] using a4⟩
  · cases hx

noncomputable def Asg (b : Bas) (sc : Scope) (X : List MO) (ns : List Str) (tgt : PySem.Expr) (d : D) (ρ ρ' : List (Str × D)) : Prop :=
  ∀ A n env M s v, Rm n A → Sv b sc env M ρ X s → Dp M s.heap v d → wpAny (Mo b) A (assign tgt env v) (fun _ s' => Sv b sc env M ρ' X s' ∧ Pw (Wn env ns) s s') noE s
noncomputable def putAll : List Str → List PyData → List (Str × D) → List (Str × D)
  | x :: xs, d :: ds, ρ => putAll xs ds ((x, .dat d) :: Del x ρ)
  | _, _, ρ => ρ
section
variable {b : Bas} {sc : Scope} {X : List MO} {ρ : List (Str × D)} {ns : List Str}
theorem asg_name {x : Str} {pos : Pos} {d : D} (hx : Own sc x = true := by decide +kernel) (hns : x ∈ ns := by decide +kernel) : Asg b sc X ns (.Name x pos) d ρ ((x, d) :: Del x ρ) := fun _ _ _ _ _ _ _ S hv =>
  PyProof.Rows.assign_Name (sv_store S hx hns hv)
theorem in_order {A : Around} {n : Nat} {env : Env} {M : List Addr} {xs : List (Str × Pos)} {ds : List PyData} {vs : List Value} {ρ : List (Str × D)} {s : Shared} (R : Rm n A) (S : Sv b sc env M ρ X s) (hx : ∀ x ∈ xs, Own sc x.1 = true) (hns : ∀ x ∈ xs, x.1 ∈ ns) (hl : xs.length = ds.length) (r : RpAll M s.heap vs ds) :
    wpAny (Mo b) A (assignInOrder (xs.map fun p => assign (.Name p.1 p.2) env) vs) (fun _ s' => Sv b sc env M (putAll (xs.map (·.1)) ds ρ) X s' ∧ Pw (Wn env ns) s s') noE s := by
  induction xs generalizing ds vs ρ s with
  | nil =>
    cases ds with
    | nil => rw [List.map_nil]; exact assignInOrder_nil ⟨S, Pw.refl⟩
    | cons => cases hl
  | cons x xs ih =>
    obtain ⟨x, px⟩ := x
    cases ds with
    | nil => cases hl
    | cons d ds =>
      cases r with
      | @cons v vs _ _ r1 r2 =>
        rw [List.map_cons]
        have h1 := asg_name (pos := px) (d := .dat d) (hx _ List.mem_cons_self) (hns _ List.mem_cons_self) A n env M s v R S r1
        refine assignInOrder_cons (wp_weak h1 fun _ s₁ ⟨S1, p1⟩ => ?_)
        exact wp_weak (ih S1 (fun y hy => hx y (List.mem_cons_of_mem _ hy)) (fun y hy => hns y (List.mem_cons_of_mem _ hy)) (by simpa using hl) (r2.kp p1.kp fun a h => .inl (S.wrM a (wn_wr a h)))) fun _ s₂ ⟨S2, p2⟩ => ⟨S2, p1.trans p2⟩
theorem each_names {env : Env} : ∀ xs : List (Str × Pos), assignEach (xs.map fun p => PySem.Expr.Name p.1 p.2) env = xs.map fun p => (false, assign (.Name p.1 p.2) env)
  | [] => rfl
  | (x, px) :: xs => by show (false, assign (.Name x px) env) :: assignEach (xs.map fun p => PySem.Expr.Name p.1 p.2) env = _; rw [each_names xs]; rfl
theorem asg_tupN {xs : List (Str × Pos)} {k : Nat} {pos : Pos} {ds : List PyData} (hx : ∀ x ∈ xs, Own sc x.1 = true) (hns : ∀ x ∈ xs, x.1 ∈ ns) (hl : xs.length = ds.length) :
    Asg b sc X ns (.Tuple (xs.map fun p => .Name p.1 p.2) k pos) (.tup ds) ρ (putAll (xs.map (·.1)) ds ρ) := fun A n env M s v R S hv => by
  obtain ⟨a, vs, m, rfl, m1, z1, e1, r1⟩ := Rp.tuple_inv hv
  have l1 := r1.length
  rw [Array.length_toList] at l1
  refine assign_Tuple_tuple R.handled ⟨_, e1, rfl, _, rfl⟩ (by rw [each_names]; simp [l1, hl]) (by rw [each_names]; rw [List.findIdx?_map]; exact List.findIdx?_eq_none_iff.mpr fun _ _ => rfl) fun h' he => ?_
  have p : Pr s { s with heap := h' } := ⟨fun a o _ e => he a o (Nat.ne_of_lt (Heap.lt_size e)) e, rfl, rfl⟩
  rw [each_names, List.map_map]
  show wpAny (Mo b) A (assignInOrder (xs.map fun p => assign (.Name p.1 p.2) env) vs.toList) _ _ _
  have h1 := in_order R (S.pure p) hx hns hl (r1.kp p.kp fun _ h => nomatch h)
  exact wp_weak h1 fun _ s₂ q => ⟨q.1, p.pw.trans q.2⟩
theorem asg_tup2 {x y : Str} {px py : Pos} {k : Nat} {pos : Pos} {d e : PyData} (hx : Own sc x = true := by decide +kernel) (hy : Own sc y = true := by decide +kernel) (mx : x ∈ ns := by decide +kernel) (my : y ∈ ns := by decide +kernel) :
    Asg b sc X ns (.Tuple [.Name x px, .Name y py] k pos) (.tup [d, e]) ρ ((y, .dat e) :: Del y ((x, .dat d) :: Del x ρ)) :=
  asg_tupN (b := b) (sc := sc) (X := X) (ρ := ρ) (ns := ns) (k := k) (pos := pos) (ds := [d, e]) (xs := [(x, px), (y, py)]) (by intro p hp; simp at hp; rcases hp with rfl | rfl <;> first | exact hx | exact hy) (by intro p hp; simp at hp; rcases hp with rfl | rfl <;> first | exact mx | exact my) rfl
theorem asg_tup3 {x y z : Str} {px py pz : Pos} {k : Nat} {pos : Pos} {d e f : PyData} (hx : Own sc x = true := by decide +kernel) (hy : Own sc y = true := by decide +kernel) (hz : Own sc z = true := by decide +kernel) (mx : x ∈ ns := by decide +kernel) (my : y ∈ ns := by decide +kernel) (mz : z ∈ ns := by decide +kernel) :
    Asg b sc X ns (.Tuple [.Name x px, .Name y py, .Name z pz] k pos) (.tup [d, e, f]) ρ ((z, .dat f) :: Del z ((y, .dat e) :: Del y ((x, .dat d) :: Del x ρ))) :=
  asg_tupN (b := b) (sc := sc) (X := X) (ρ := ρ) (ns := ns) (k := k) (pos := pos) (ds := [d, e, f]) (xs := [(x, px), (y, py), (z, pz)]) (by intro p hp; simp at hp; rcases hp with rfl | rfl | rfl <;> first | exact hx | exact hy | exact hz) (by intro p hp; simp at hp; rcases hp with rfl | rfl | rfl <;> first | exact mx | exact my | exact mz) rfl
end

/-- the tests of a comprehension's clause -/
noncomputable def Ts (b : Bas) (n : Nat) (sc : Scope) (ρ : List (Str × D)) (X : List MO) (ifs : List PySem.Expr) (c : Bool) : Prop :=
  ∀ A env M s, Rm n A → Sv b sc env M ρ X s → wpAny (Mo b) A (forIn ifs true fun c r => if r = true then do let ok ← isTrue c env (eval c env); pure (ForInStep.yield ok) else pure (ForInStep.yield r)) (EqR s c) noE s
section
variable {b : Bas} {n : Nat} {sc : Scope} {ρ : List (Str × D)} {X : List MO}
theorem ts_nil : Ts b n sc ρ X [] true := fun _ _ _ _ _ _ => wpAny_pure ⟨rfl, Pr.refl⟩
theorem ts_one {t : PySem.Expr} {c : Bool} (h : Tv b n sc ρ X t c) : Ts b n sc ρ X [t] c := fun A env M s R S => wpAny_tests_one (h A env M s R S)
end
noncomputable abbrev lstO (vs : Array Value) (n : Nat) : Obj := { cls := .type "list", data := .seq vs n }
/-- the iterator is left behind -/
theorem Sv.leave {b : Bas} {sc : Scope} {env : Env} {M : List Addr} {ρ ρ' : List (Str × D)} {X : List MO} {s₀ s s' : Shared} {I : Addr} (S : Sv b sc env (I :: M) ρ X s) (y : Sv b sc env M ρ' X s₀) (hI : I ∉ M) (p : Pw [I] s s') : Sv b sc env M ρ X s' := by
  have hW : ∀ a ∈ [I], a ∈ I :: M ∨ s.heap.get? a = none := fun a h => .inl (by rw [List.mem_singleton.mp h]; exact List.mem_cons_self)
  have hs : ∀ {h : Heap}, ∀ a ∈ M, a ∈ I :: M ∨ h.get? a = none := fun a h => .inl (List.mem_cons_of_mem _ h)
  have hne : ∀ a, a ∈ M → a ∉ [I] := fun a h q => hI (List.mem_singleton.mp q ▸ h)
  refine ⟨⟨fun a o _ e => p.kp a o (fun q => ?_) (S.st.base.all a o e), p.gens.trans S.st.gens, p.os.trans S.st.os, fun t ht => ((S.st.mo t ht).kp p.kp hW (hne _ (y.st.moM t ht))).avoid hs, y.st.moM, y.st.ndX, fun a ha => ?_, fun a ha => S.st.newM a (List.mem_cons_of_mem _ ha)⟩, S.eo, ?_, y.locM, y.celM, S.apX⟩
  · rw [List.mem_singleton.mp q] at e; cases (S.st.newM I List.mem_cons_self).symm.trans e
  · obtain ⟨o, e⟩ := S.st.exM a (List.mem_cons_of_mem _ ha); exact ⟨o, p.kp a o (hne a ha) e⟩
  · obtain ⟨m, cm, f, r⟩ := S.fr
    exact ⟨m, cm, f.kp p.kp (fun a h q => hne a (y.wrM a q) h), fun q hq => let ⟨v, h1, h2⟩ := r q hq; ⟨v, h1, (h2.kp p.kp hW).avoid hs⟩⟩
/-- what a comprehension's list holds by then -/
inductive EmR (b : Bas) (sc : Scope) (env : Env) (M : List Addr) (ρ : List (Str × D)) (X : List MO) (W : List Addr) (s : Shared) (ax : Addr) (out : List PyData) (s' : Shared) : Prop
  | mk (S : Sv b sc env M ρ X s') (p : Pw W s s') (ys' : Array Value) (n'' : Nat) (e : s'.heap.get? ax = some (lstO ys' n'')) (r : RpAll M s'.heap ys'.toList out) : EmR b sc env M ρ X W s ax out s'
/-- amid its loop -/
inductive EmT {α : Type} (b : Bas) (sc : Scope) (env : Env) (M : List Addr) (ρ : List (Str × D)) (X : List MO) (ns : List Str) (s : Shared) (ax I : Addr) (items : List α) (g : α → D) (f : α → List PyData) (don : List PyData) (k : Nat) (s' : Shared) : Prop
  | mk (done rest : List α) (ys : Array Value) (n' : Nat) (e1 : items = done ++ rest) (e2 : k = rest.length) (S : Sv b sc env (I :: M) ρ X s') (p : Pw (ax :: I :: Wn env ns) s s') (it : ItAt (I :: M) s'.heap I (rest.map g)) (e : s'.heap.get? ax = some (lstO ys n')) (r : RpAll (I :: M) s'.heap ys.toList (don ++ done.flatMap f)) : EmT b sc env M ρ X ns s ax I items g f don k s'
/-- a loop of a comprehension, at depth k: what it puts out -/
noncomputable def CL (b : Bas) (n : Nat) (sc : Scope) (ρ : List (Str × D)) (X : List MO) (ns : List Str) (e : PySem.Expr) (k : Nat) (ds : List D) (out : List PyData) : Prop :=
  ∀ A env M s₀ s ax I don ys n', Rm n A → Sv b sc env M ρ X s₀ → Sv b sc env (I :: M) ρ X s → ax ∈ M → I ∉ M → ax ∉ Wr env → (∀ t ∈ X, t.addr ≠ ax) → ItAt (I :: M) s.heap I ds →
    s.heap.get? ax = some (lstO ys n') → RpAll (I :: M) s.heap ys.toList don → don.length + out.length ≤ big →
    codeAny (Mo b) A (.compLoop e k (.ref I) (.ref ax) env) (fun r s' => r = .ok .next ∧ EmR b sc env M ρ X (ax :: I :: Wn env ns) s ax (don ++ out) s') s
/-- what is put out for one item -/
noncomputable def Em (b : Bas) (n : Nat) (sc : Scope) (ρ : List (Str × D)) (X : List MO) (ns : List Str) (m : Value → Env → Sem Unit) (out : List PyData) : Prop :=
  ∀ A env M s ax don ys n', Rm n A → Sv b sc env M ρ X s → ax ∈ M → ax ∉ Wr env → (∀ t ∈ X, t.addr ≠ ax) → s.heap.get? ax = some (lstO ys n') → RpAll M s.heap ys.toList don → don.length + out.length ≤ big →
    wpAny (Mo b) A (m (.ref ax) env) (fun _ s' => EmR b sc env M ρ X (ax :: Wn env ns) s ax (don ++ out) s') noE s
noncomputable def Turn (b : Bas) (n : Nat) (sc : Scope) (ρ : List (Str × D)) (X : List MO) (ns : List Str) (tgt : PySem.Expr) (ifs : List PySem.Expr) (m : Value → Env → Sem Unit) (d : D) (out : List PyData) : Prop :=
  ∃ ρ' c, Asg b sc X ns tgt d ρ ρ' ∧ (∀ p ∈ ρ, p ∈ ρ') ∧ Ts b n sc ρ' X ifs c ∧ (c = true → Em b n sc ρ' X ns m out) ∧ (c = false → out = [])

theorem wp_in1 {α : Type} {M : Model} {A : Around} {t : Sem α} {Q : α → Shared → Prop} {E : Value → Shared → Prop} {s : Shared} (h : wpAny M A t Q E s) : wpAny M A t Q E s := h
section
variable {b : Bas} {n : Nat} {sc : Scope} {ρ : List (Str × D)} {X : List MO} {ns : List Str}
theorem em_one {elt : PySem.Expr} {y : PyData} (h : Ev b n sc ρ X elt (.dat y)) : Em b n sc ρ X ns (fun acc env => do let _ ← call (.builtin "list.append") [acc, ← eval elt env]) [y] := fun A env M s ax don ys n' R S ha hw hX e r hz => by
  refine wpAny_bind (wp_weak (h A env M s R S) fun v s₁ ⟨rv, p1⟩ => ?_)
  have hl := r.length
  rw [Array.length_toList] at hl
  have S1 := S.pure p1
  refine wpAny_bind (wpAny_list_append_plain ⟨n', p1.kp.all _ _ e⟩ (fun h' ⟨k, hp⟩ hs => wpAny_pure ?_) (by rw [hl]; exact big_line (by simp at hz; omega)))
  have p2 : Pw [ax] s₁ { s₁ with heap := h' } := ⟨Kp.sameBut hs, rfl, rfl⟩
  have hM : ∀ a ∈ [ax], a ∈ M ∨ s₁.heap.get? a = none := fun a h => .inl (by rw [List.mem_singleton.mp h]; exact ha)
  refine ⟨S1.kp p2 hM (fun t ht m => hX t ht (List.mem_singleton.mp m)) (fun a m => by rw [List.mem_singleton.mp m]; exact ⟨_, hp⟩) (fun a m => by rw [List.mem_singleton.mp m]; exact hw), p1.pw.trans (p2.more (by simp)), _, _, hp, ?_⟩
  rw [Array.toList_push]
  exact ((r.kp p1.kp fun _ h => nomatch h).kp p2.kp hM).append (RpAll.one (Rp.kp p2.kp hM rv))
theorem em_nest {e it2 : PySem.Expr} {d2 : D} {ds2 : List D} {k : Nat} {out : List PyData} (h : Ev b n sc ρ X it2 d2) (hi : Iter d2 ds2) (hc : CL b n sc ρ X ns e k ds2 out) {m : Value → Env → Sem Unit}
    (hm : ∀ acc env, m acc env = (do let x ← eval it2 env; standAt it2.pos; let x ← foldedSetIterable it2 env x; let _ ← runOwn (.compStart e k (← holding [x] (pyIter x)) acc env) env))
    (hs : ∀ env x, foldedSetIterable it2 env x = pure x) (hst : ∀ A it acc env R s, codeAny (Mo b) A (.compLoop e k it acc env) R s → wpAny (Mo b) A (pyIter it) (fun it' s' => codeAny (Mo b) A (.compLoop e k it' acc env) R s') (notedBy (Mo b) A env fun x s' => R (.error x) s') s → codeAny (Mo b) A (.compStart e k it acc env) R s) :
    Em b n sc ρ X ns m out := fun A env M s ax don ys n' R S ha hw hX e' r hz => by
  rw [hm]
  refine wpAny_bind (wp_weak (h A env M s R S) fun v s₁ ⟨rv, p1⟩ => ?_)
  have S1 := S.pure p1
  refine wpAny_bind (wpAny_standAt (wpAny_bind (wpAny_of_eq (hs env v) ?_)))
  refine wpAny_bind (wpAny_holding (wp_weak (iter_of S1.st hi rv) fun it s₂ ⟨I, hI, hnew, hit, p2⟩ => ?_))
  subst hI
  refine wpAny_bind (wpAny_runOwn ?_)
  have S2 := S1.grow p2 hnew hit.ex
  have p12 := p1.trans p2
  have hIne : I ≠ ax := fun q => by subst q; cases hnew.symm.trans (p1.kp.all _ _ e')
  have hIM : I ∉ M := fun q => by obtain ⟨o, h⟩ := S1.st.exM _ q; cases hnew.symm.trans h
  have hIW : I ∉ Wr env := fun q => hIM (S.wrM _ q)
  have hW : ∀ a ∈ I :: M, a ∈ M ∨ s₁.heap.get? a = none := fun a h => (List.mem_cons.mp h).elim (fun e => .inr (e ▸ hnew)) .inl
  have body : codeAny (Mo b) A (.compLoop e k (.ref I) (.ref ax) env) (fun r s' => match r with | .ok f => wpAny (Mo b) A (pure ()) (fun _ s' => EmR b sc env M ρ X (ax :: Wn env ns) s ax (don ++ out) s') noE s' | .error x => cameBackBy (Mo b) A env noE x s') s₂ := by
    refine codeAny_mono (hc A env M s₁ s₂ ax I don ys n' R S1 S2 ha hIM hw hX hit (p12.kp.all _ _ e')
      (((r.kp p1.kp fun _ h => nomatch h).avoid hW).kp p2.kp fun _ h => nomatch h) hz) ?_
    rintro r s' ⟨rfl, S3, p3, ys', n'', h1, h2⟩
    refine wpAny_pure ⟨S3, ?_, ys', n'', h1, h2⟩
    refine (p12.pw (W := ax :: I :: Wn env ns) |>.trans p3).fresh fun a h => ?_
    rcases List.mem_cons.mp h with rfl | h
    · exact .inl List.mem_cons_self
    · rcases List.mem_cons.mp h with rfl | h
      · refine .inr ?_
        cases q : s.heap.get? a with
        | none => rfl
        | some o => cases hnew.symm.trans (p1.kp.all _ _ q)
      · exact .inl (List.mem_cons_of_mem _ h)
  exact hst A _ _ env _ s₂ body (iter_self hit body)

theorem cl_run {elt : PySem.Expr} {gens : List Comprehension} {scope : Scope} {epos : Pos} {tgt : PySem.Expr} {ifs : List PySem.Expr} {k : Nat} {m : Value → Env → Sem Unit} {mm : Value → Value → Env → Sem PySem.Fin} {pos : Pos}
    (hden : ∀ it acc env, compTurn (.ListComp elt gens scope epos) k it acc env = (do
      standAt pos
      match ← pyNext it with
      | none => pure (.done .next)
      | some v =>
        letOwnedTupleGo tgt it v
        assign tgt env v
        let mut ok := true
        for c in ifs do
          if ok then ok ← isTrue c env (eval c env)
        if ok then mm it acc env else again (.compLoop (.ListComp elt gens scope epos) k it acc env)))
    (hmm : ∀ A it acc env Q E s, wpAny (Mo b) A (m acc env) (fun _ s' => wpAny (Mo b) A (again (.compLoop (.ListComp elt gens scope epos) k it acc env)) Q E s') E s → wpAny (Mo b) A (mm it acc env) Q E s) {α : Type} {items : List α} {g : α → D} {f : α → List PyData} {ds : List D} {out : List PyData} (hds : ds = items.map g) (hout : out = items.flatMap f)
    (ht : ∀ a ∈ items, Turn b n sc ρ X ns tgt ifs m (g a) (f a)) : CL b n sc ρ X ns (.ListComp elt gens scope epos) k ds out := by
  subst hds hout
  intro A env M s₀ s ax I don ys n' R S0 S ha hI hw hX hit e' r hz
  have hne : I ≠ ax := fun q => hI (q ▸ ha)
  have hIX : ∀ t ∈ X, t.addr ≠ I := fun t ht q => hI (q ▸ S0.st.moM t ht)
  have hIW : I ∉ Wr env := fun q => hI (S0.wrM _ q)
  refine codeAny_loop rfl (EmT b sc env M ρ X ns s ax I items g f don) ?_ _
    ⟨[], items, ys, n', rfl, rfl, S, Pw.refl, hit, e', by simpa using r⟩
  rintro j s₁ ⟨done, rest, ys₁, n₁, rfl, rfl, S1, p1, hit1, e1, r1⟩
  show wpAny _ A ((compTurn (.ListComp elt gens scope epos) k (.ref I) (.ref ax) env).onRaise (fun x => do noteFrame x env; theTreesLotGoes x)) _ _ s₁
  refine wpAny_noted ?_
  rw [hden]
  refine wpAny_bind (wpAny_standAt (wpAny_bind ?_))
  have q2 : ∀ a ∈ [I], a ∈ I :: M ∨ s₁.heap.get? a = none := fun a h => .inl (by rw [List.mem_singleton.mp h]; exact List.mem_cons_self)
  cases rest with
  | nil =>
    refine wp_weak (next_nil hit1 R) fun r s₂ ⟨hr, p2⟩ => ?_
    subst hr
    refine wpAny_pure ⟨rfl, S1.leave S0 hI p2, p1.trans (p2.more (by simp)), ys₁, n₁, p2.kp _ _ (by simpa using Ne.symm hne) e1, ?_⟩
    simpa using (r1.kp p2.kp q2).avoid fun a h => .inl (List.mem_cons_of_mem _ h)
  | cons a rest =>
    refine wp_weak (next_cons hit1 List.mem_cons_self) fun r s₂ ⟨v, hr, rv, hit2, p2⟩ => ?_
    subst hr
    refine wpAny_bind (owned_go hit2 ?_)
    obtain ⟨ρ', c, h1, h2, h3, h4, h5⟩ := ht a (by simp)
    have S2 := S1.kp p2 q2 (fun t ht m => hIX t ht (List.mem_singleton.mp m)) (fun a m => by rw [List.mem_singleton.mp m]; exact hit2.ex) (fun a m => by rw [List.mem_singleton.mp m]; exact hIW)
    have e2 := p2.kp ax _ (by simpa using Ne.symm hne) e1
    have r2 := r1.kp p2.kp q2
    refine wpAny_bind (wp_weak (h1 A n env _ s₂ v R S2 rv) fun _ s₃ ⟨S3, p3⟩ => ?_)
    have e3 := p3.kp ax _ (fun q => hw (wn_wr _ q)) e2
    have w3 : ∀ a ∈ Wn env ns, a ∈ I :: M ∨ s₂.heap.get? a = none := fun a h => .inl (S2.wrM a (wn_wr a h))
    have r3 := r2.kp p3.kp w3
    have hit3 := hit2.kp p3.kp w3 fun q => hIW (wn_wr _ q)
    refine wpAny_bind (wp_weak (h3 A env _ s₃ R S3) fun t s₄ ⟨ht, p4⟩ => ?_)
    subst ht
    have S4 := S3.pure p4
    have e4 := p4.kp.all _ _ e3
    have r4 := r3.kp p4.kp fun _ h => nomatch h
    have hit4 := hit3.kp p4.kp (fun _ h => nomatch h) (fun h => nomatch h)
    have p14 : Pw (ax :: I :: Wn env ns) s s₄ := ((p1.trans (p2.more (by simp))).trans (p3.more fun a h => List.mem_cons_of_mem _ (List.mem_cons_of_mem _ h))).trans p4.pw
    cases t with
    | false =>
      have hfa := h5 rfl
      exact wpAny_pure ⟨rfl, rest.length, by simp, done ++ [a], rest, ys₁, n₁, by simp, rfl, S4.sub h2, p14, hit4, e4, by simpa [hfa] using r4⟩
    | true =>
      have hz' : (don ++ done.flatMap f).length + (f a).length ≤ big := by
        simp [List.flatMap_append] at hz ⊢; omega
      refine hmm _ _ _ _ _ _ _ (wp_weak (h4 rfl A env _ s₄ ax _ ys₁ n₁ R S4 (List.mem_cons_of_mem _ ha) hw hX e4 r4 hz') fun _ s₅ ⟨S5, p5, ys', n'', e5, r5⟩ => wpAny_pure ?_)
      have w5 : ∀ c ∈ ax :: Wn env ns, c ∈ I :: M ∨ s₄.heap.get? c = none := fun c h => .inl ((List.mem_cons.mp h).elim (fun q => q ▸ List.mem_cons_of_mem _ ha) fun q => S2.wrM c (wn_wr c q))
      refine ⟨rfl, rest.length, by simp, done ++ [a], rest, ys', n'', by simp, rfl, S5.sub h2, p14.trans (p5.more fun c h => (List.mem_cons.mp h).elim (fun q => q ▸ List.mem_cons_self) fun q => List.mem_cons_of_mem _ (List.mem_cons_of_mem _ q)), hit4.kp p5.kp w5 (fun q => (List.mem_cons.mp q).elim hne fun q => hIW (wn_wr _ q)), e5, by simpa using r5⟩
end

theorem cellsFrom_app : ∀ (names : List (Str × NameKind)) (n : Nat) (acc : List (Str × Addr)), cellsFrom n names acc = cellsFrom n names [] ++ acc
  | [], _, _ => rfl
  | (x, k) :: r, n, acc => by
    unfold cellsFrom
    split
    · rw [cellsFrom_app r (n + 1) ((x, n) :: acc), cellsFrom_app r (n + 1) [(x, n)], List.append_assoc]; rfl
    · exact cellsFrom_app r n acc
theorem cellsFrom_mem : ∀ {names : List (Str × NameKind)} {n : Nat} {acc : List (Str × Addr)} {p : Str × Addr}, p ∈ cellsFrom n names acc → p ∈ acc ∨ (p.1, NameKind.cell) ∈ names
  | [], _, _, _, h => .inl h
  | (x, k) :: r, n, acc, p, h => by
    unfold cellsFrom at h
    split at h
    · rename_i hk
      have hk' : k = .cell := by simpa using hk
      rcases cellsFrom_mem h with h | h
      · rcases List.mem_cons.mp h with rfl | h
        · subst hk'; exact .inr List.mem_cons_self
        · exact .inl h
      · exact .inr (List.mem_cons_of_mem _ h)
    · rcases cellsFrom_mem h with h | h
      · exact .inl h
      · exact .inr (List.mem_cons_of_mem _ h)
theorem cellsFrom_acc : ∀ {names : List (Str × NameKind)} {n : Nat} {acc : List (Str × Addr)} {p : Str × Addr}, p ∈ acc → p ∈ cellsFrom n names acc
  | [], _, _, _, h => h
  | (x, k) :: r, n, acc, p, h => by
    unfold cellsFrom
    split
    · exact cellsFrom_acc (List.mem_cons_of_mem _ h)
    · exact cellsFrom_acc h
theorem cellsFrom_has : ∀ {names : List (Str × NameKind)} {n : Nat} {acc : List (Str × Addr)} {x : Str}, (x, NameKind.cell) ∈ names → ∃ a, (x, a) ∈ cellsFrom n names acc
  | (y, k) :: r, n, acc, x, h => by
    unfold cellsFrom
    rcases List.mem_cons.mp h with e | h
    · cases e
      simp only [beq_self_eq_true, if_true]
      exact ⟨n, cellsFrom_acc List.mem_cons_self⟩
    · split
      · exact cellsFrom_has h
      · exact cellsFrom_has h
theorem lookup_some_of_mem {cs : List (Str × Addr)} {x : Str} {a : Addr} (h : (x, a) ∈ cs) : ∃ a', cs.lookup x = some a' := by
  induction cs with
  | nil => cases h
  | cons p r ih =>
    obtain ⟨y, c⟩ := p
    rw [List.lookup_cons]
    split
    · exact ⟨_, rfl⟩
    · rename_i hb
      rcases List.mem_cons.mp h with e | h
      · cases e; simp at hb
      · exact ih h
theorem lookup_app {cs ds : List (Str × Addr)} {x : Str} : (cs ++ ds).lookup x = (cs.lookup x).or (ds.lookup x) := by
  induction cs with
  | nil => rfl
  | cons p r ih =>
    obtain ⟨y, c⟩ := p
    rw [List.cons_append, List.lookup_cons, List.lookup_cons]
    split
    · rfl
    · exact ih
theorem lookup_none_of {cs : List (Str × Addr)} {x : Str} (h : ∀ a, (x, a) ∉ cs) : cs.lookup x = none := by
  cases e : cs.lookup x with
  | none => rfl
  | some a => exact absurd (mem_of_lookup e) (h a)
/-- what a comprehension's scope must be -/
noncomputable def CompOk (scope sc : Scope) : Bool := scope.kind == .function && (scope.names.map (·.1)).Nodup && scope.names.all fun p => match p.2 with | .free => (match sc.names.lookup p.1 with | some .cell | some .free => p.1 != ("__classdict__" : Str) | _ => false) | _ => true
theorem compOk_out {scope sc : Scope} (h : CompOk scope sc = true) : scope.kind = .function ∧ (scope.names.map (·.1)).Nodup ∧ ∀ x, (x, NameKind.free) ∈ scope.names → (x != ("__classdict__" : Str)) = true ∧ (sc.names.lookup x = some .cell ∨ sc.names.lookup x = some .free) := by
  unfold CompOk at h
  rw [Bool.and_eq_true, Bool.and_eq_true] at h
  refine ⟨by simpa using h.1.1, by simpa using h.1.2, fun x hx => ?_⟩
  have := List.all_eq_true.mp h.2 _ hx
  dsimp only at this
  split at this
  · exact ⟨this, .inl (by assumption)⟩
  · exact ⟨this, .inr (by assumption)⟩
  · cases this
theorem nodup_name {names : List (Str × NameKind)} (hn : (names.map (·.1)).Nodup) {x : Str} {k k' : NameKind} (h : (x, k) ∈ names) (h' : (x, k') ∈ names) : k = k' := by
  induction names with
  | nil => cases h
  | cons p r ih =>
    rw [List.map_cons, List.nodup_cons] at hn
    rcases List.mem_cons.mp h with e | h <;> rcases List.mem_cons.mp h' with e' | h'
    · rw [← e'] at e; exact (Prod.mk.inj e).2
    · exact absurd (List.mem_map.mpr ⟨_, h', by rw [← e]⟩) hn.1
    · exact absurd (List.mem_map.mpr ⟨_, h, by rw [← e']⟩) hn.1
    · exact ih hn.2 h h'
theorem nodup_look {names : List (Str × NameKind)} (hn : (names.map (·.1)).Nodup) {x : Str} {k : NameKind} (h : (x, k) ∈ names) : names.lookup x = some k := by
  induction names with
  | nil => cases h
  | cons p r ih =>
    obtain ⟨y, c⟩ := p
    rw [List.map_cons, List.nodup_cons] at hn
    rcases List.mem_cons.mp h with e | h
    · cases e; simp [List.lookup_cons]
    · have hne : x ≠ y := fun e => hn.1 (List.mem_map.mpr ⟨(x, k), h, e⟩)
      rw [List.lookup_cons]
      have : (x == y) = false := by simpa using hne
      rw [this]
      exact ih hn.2 h
/-- what a comprehension takes along of what is known -/
noncomputable abbrev Cap (scope : Scope) (ρ : List (Str × D)) : List (Str × D) := ρ.filter fun p => scope.names.lookup p.1 == some .free

section
variable {b : Bas} {sc : Scope} {env : Env} {M : List Addr} {ρ : List (Str × D)} {X : List MO} {s : Shared} {scope : Scope}
theorem none_at {h : Heap} {a : Addr} (ha : h.objs.size ≤ a) : h.get? a = none := by
  cases e : h.get? a with
  | none => rfl
  | some o => exact absurd (Heap.lt_size e) (Nat.not_lt.mpr ha)
/-- the block of a comprehension is laid -/
theorem comp_env {A : Around} {Q : Env → Shared → Prop} {E : Value → Shared → Prop} (S : Sv b sc env M ρ X s) (hok : CompOk scope sc = true)
    (h : ∀ cenv s', Pr s s' → cenv.locals = s.heap.objs.size → (∀ p ∈ cenv.cells, p ∈ env.cells ∨ s.heap.get? p.2 = none) → (∀ x a, scope.names.lookup x = some .cell → cenv.cells.lookup x = some a → s.heap.get? a = none) → (∀ x, scope.names.lookup x = some .local → cenv.cells.lookup x = none) →
      (∀ M', (∀ t ∈ X, t.addr ∈ M') → cenv.locals ∈ M' → (∀ p ∈ cenv.cells, p.2 ∈ M') → (∀ a ∈ M', a ∈ M ∨ a = cenv.locals ∨ ∃ p ∈ cenv.cells, a = p.2) → Sv b (relab scope sc) { cenv with scope := relabel scope env } M' (Cap scope ρ) X s') → Q cenv s') :
    wpAny (Mo b) A (newFunctionEnv scope env.globals (closOf env.cells scope.names []) [] env.qual none .none (some env)) Q E s := by
  obtain ⟨hk, hnd, hfr⟩ := compOk_out hok
  simp only [newFunctionEnv, Option.isSome_some, if_true]
  refine wpAny_bind (wpAny_alloc ?_)
  refine wpAny_bind (wpAny_layCells _ (fun name kind cells => by cases hkc : kind == NameKind.cell <;> simp [hkc]) _ _ _ _ ?_)
  have ok := cellsFrom_ok scope.names (s.heap.push { cls := .type "dict", data := .dict #[] }) (s.heap.objs.size + 1) [] ⟨fun _ _ hm => (nomatch hm), List.Pairwise.nil⟩ (by rw [Heap.size_push]; exact Nat.le_refl _)
  rw [Heap.size_push] at ok
  rw [show ({ s with heap := s.heap.push { cls := .type "dict", data := .dict #[] } } : Shared).heap.objs.size = s.heap.objs.size + 1 from Heap.size_push ..]
  rw [cellsFrom_app]
  refine wpAny_bind (wpAny_pure (wpAny_pure ?_))
  generalize hN : cellsFrom (s.heap.objs.size + 1) scope.names [] = N at ok ⊢
  generalize hH : pushCells (s.heap.push { cls := .type "dict", data := .dict #[] }) scope.names = H at ok ⊢
  have hkp : Kp [] s.heap H := hH ▸ Kp.of fun a o e => pushCells_keeps _ _ a o (Heap.get?_push_of_some _ e)
  have hC : s.heap.get? s.heap.objs.size = none := none_at (Nat.le_refl _)
  have hnew : ∀ p ∈ N, s.heap.get? p.2 = none := fun p hp => none_at (Nat.le_of_succ_le (ok.empty _ _ hp).2)
  have hcl : ∀ p ∈ closOf env.cells scope.names [], env.cells.lookup p.1 = some p.2 ∧ (p.1, NameKind.free) ∈ scope.names := fun p hp => (clos_mem hp).elim (fun h => nomatch h) id
  have hNc : ∀ p ∈ N, (p.1, NameKind.cell) ∈ scope.names := fun p hp => (cellsFrom_mem (hN ▸ hp)).elim (fun h => (List.not_mem_nil h).elim) id
  have old : ∀ p ∈ closOf env.cells scope.names [], ∃ o, s.heap.get? p.2 = some o := fun p hp => S.st.exM _ (S.celM _ (mem_of_lookup (hcl p hp).1))
  have look : ∀ x a, (N ++ closOf env.cells scope.names []).lookup x = some a → ((x, a) ∈ N) ∨ (env.cells.lookup x = some a ∧ (x, NameKind.free) ∈ scope.names) := fun x a h => by
    rw [lookup_app] at h
    cases e : N.lookup x with
    | none => rw [e, Option.none_or] at h; exact .inr (hcl _ (mem_of_lookup h))
    | some c => rw [e] at h; cases h; exact .inl (mem_of_lookup e)
  have p0 : Pr s { s with heap := H } := ⟨hkp, rfl, rfl⟩
  refine h _ _ p0 rfl (fun p hp => ?_) (fun x a hx hl => ?_) (fun x hx => lookup_none_of fun a h => ?_) (fun M' hM hloc hcel hM' => ?_)
  · rcases List.mem_append.mp hp with hp | hp
    · exact .inr (hnew p hp)
    · exact .inl (mem_of_lookup (hcl p hp).1)
  · rcases look x a hl with h | ⟨_, h⟩
    · exact hnew _ h
    · have := nodup_look hnd h; rw [hx] at this; cases this
  · rcases List.mem_append.mp h with hp | hp
    · have := nodup_look hnd (hNc _ hp); rw [hx] at this; cases this
    · have := nodup_look hnd (hcl _ hp).2; rw [hx] at this; cases this
  · obtain ⟨m, cm, F, r⟩ := S.fr
    have hnew' : ∀ a ∈ M', a ∈ M ∨ s.heap.get? a = none := fun a ha => by
      rcases hM' a ha with h | rfl | ⟨p, hp, rfl⟩
      · exact .inl h
      · exact .inr hC
      · rcases List.mem_append.mp hp with hp | hp
        · exact .inr (hnew p hp)
        · exact .inl (S.celM _ (mem_of_lookup (hcl p hp).1))
    have hex : ∀ a ∈ M', ∃ o, H.get? a = some o := fun a ha => by
      rcases hM' a ha with h | rfl | ⟨p, hp, rfl⟩
      · obtain ⟨o, e⟩ := S.st.exM a h; exact ⟨o, hkp.all _ _ e⟩
      · exact ⟨_, hH ▸ pushCells_keeps _ _ _ _ (Heap.get?_push_size _ rfl)⟩
      · rcases List.mem_append.mp hp with hp | hp
        · obtain ⟨o, e, _⟩ := (ok.empty _ _ hp).1; exact ⟨o, e⟩
        · obtain ⟨o, e⟩ := old p hp; exact ⟨o, hkp.all _ _ e⟩
    have hlk : ∀ x, (relab scope sc).names.lookup x = some .cell ∨ (relab scope sc).names.lookup x = some .free → scope.names.lookup x = some .cell ∨ scope.names.lookup x = some .free := fun x h => by
      rw [relab_lookup] at h
      cases e : scope.names.lookup x with
      | none => rw [e] at h; simp at h
      | some k => cases k <;> simp [e] at h ⊢
    refine ⟨⟨S.st.base.trans hkp, S.st.gens, S.st.os, fun t ht => ((S.st.mo t ht).avoid hnew').keep hkp, fun t ht => hM t ht, S.st.ndX, hex, fun a ha => ?_⟩, ⟨relabel_is S.eo.scope, hk, S.eo.globals, S.eo.builtins, ?_, ?_, fun x hx => ?_⟩, ⟨fun _ => none, fun x => if (N.lookup x).isSome then none else cm x, ⟨?_, fun x a hl => ?_⟩, fun p hp => ?_⟩, hloc, hcel, fun t ht => ⟨?_, fun p hp => ?_⟩⟩
    · rcases hnew' a ha with h | h
      · exact S.st.newM a h
      · cases q : b.B.get? a with
        | none => rfl
        | some o => cases h.symm.trans (S.st.base.all _ _ q)
    · refine List.pairwise_append.mpr ⟨ok.apart, ?_, fun p hp q hq e => ?_⟩
      · have hpw : ∀ (names : List (Str × NameKind)) (acc : List (Str × Addr)), (names.map (·.1)).Nodup → (∀ p ∈ acc, p.1 ∉ names.map (·.1)) → (∀ p ∈ acc, env.cells.lookup p.1 = some p.2) → acc.Pairwise (fun x y => x.2 ≠ y.2) → (closOf env.cells names acc).Pairwise fun x y => x.2 ≠ y.2 := by
          intro names
          induction names with
          | nil => intro acc _ _ _ h; exact h
          | cons p r ih =>
            obtain ⟨x, k⟩ := p
            intro acc h1 h2 h3 h4
            rw [List.map_cons, List.nodup_cons] at h1
            have rest : ∀ p ∈ acc, p.1 ∉ r.map (·.1) := fun p hp h => h2 p hp (List.mem_cons_of_mem _ h)
            unfold closOf
            split
            · split
              · rename_i a ha
                refine ih _ h1.2 (fun p hp => ?_) (fun p hp => ?_) ?_
                · rcases List.mem_cons.mp hp with rfl | hp
                  · exact h1.1
                  · exact rest p hp
                · rcases List.mem_cons.mp hp with rfl | hp
                  · exact ha
                  · exact h3 p hp
                · refine List.pairwise_cons.mpr ⟨fun y hy e => h2 y hy ?_, h4⟩
                  have := name_of_addr S.eo.apart (mem_of_lookup (h3 y hy)) (by rw [← e]; exact mem_of_lookup ha)
                  rw [this]; exact List.mem_cons_self
              · exact ih _ h1.2 rest h3 h4
            · exact ih _ h1.2 rest h3 h4
        exact hpw _ [] hnd (fun _ h => nomatch h) (fun _ h => nomatch h) List.Pairwise.nil
      · obtain ⟨o, h⟩ := old q hq
        cases (hnew p hp).symm.trans (e ▸ h)
    · intro x a hp e
      rcases List.mem_append.mp hp with hp | hp
      · have h1 : s.heap.objs.size + 1 ≤ a := (ok.empty _ _ hp).2; have e' : a = s.heap.objs.size := e; exact absurd h1 (by rw [e']; exact Nat.not_succ_le_self _)
      · obtain ⟨o, h⟩ := old _ hp; have e' : a = s.heap.objs.size := e; rw [show ((x, a) : Str × Addr).2 = s.heap.objs.size from e'] at h; cases hC.symm.trans h
    · show ((N ++ closOf env.cells scope.names []).lookup x).isSome = true
      rw [lookup_app]
      rcases hlk x hx with h | h
      · obtain ⟨a, ha⟩ := cellsFrom_has (n := s.heap.objs.size + 1) (acc := []) (mem_of_lookup h)
        rw [hN] at ha
        obtain ⟨a', h'⟩ := lookup_some_of_mem ha
        rw [h']; rfl
      · have hf := mem_of_lookup h
        obtain ⟨a, ha⟩ := Option.isSome_iff_exists.mp (S.eo.has x (hfr x hf).2)
        obtain ⟨a', h'⟩ := lookup_some_of_mem (clos_has (acc := []) hf ha)
        rw [h']; cases N.lookup x <;> rfl
    · exact hH ▸ (Heap.Ns.new s.heap (.type "dict")).keeps (pushCells_keeps _ _)
    · rcases look x a hl with h | ⟨h, h'⟩
      · obtain ⟨a', e⟩ := lookup_some_of_mem h
        simp only [e, Option.isSome_some, if_true]
        exact (ok.empty _ _ h).1
      · have : N.lookup x = none := lookup_none_of fun c hc => by cases nodup_name hnd (hNc _ hc) h'
        simp only [this, Option.isSome_none, Bool.false_eq_true, if_false]
        exact (F.cell x a h).keeps hkp.all
    · obtain ⟨hp, hf⟩ := List.mem_filter.mp hp
      have hf' : scope.names.lookup p.1 = some .free := by simpa using hf
      have hfm := mem_of_lookup hf'
      obtain ⟨v, hb, hd⟩ := r p hp
      refine ⟨v, .inr ?_, (hd.avoid hnew').keep hkp⟩
      obtain ⟨hcd, hkk⟩ := hfr _ hfm
      have hcm : cm p.1 = some v := by
        rcases hb with ⟨a1, _⟩ | ⟨_, _, _, a4⟩
        · rw [S.eo.kindOf] at a1; rcases hkk with h | h <;> rw [h] at a1 <;> cases a1
        · exact a4
      have hN0 : N.lookup p.1 = none := lookup_none_of fun c hc => by cases nodup_name hnd (hNc _ hc) hfm
      obtain ⟨a, ha⟩ := Option.isSome_iff_exists.mp (S.eo.has p.1 hkk)
      obtain ⟨a', h'⟩ := lookup_some_of_mem (clos_has (acc := []) hfm ha)
      refine ⟨?_, by simpa using hcd, ?_, by simp only [hN0, Option.isSome_none, Bool.false_eq_true, if_false]; exact hcm⟩
      · show (relabel scope env).names.lookup p.1 = some .cell ∨ (relabel scope env).names.lookup p.1 = some .free
        rw [relabel_is S.eo.scope, relab_lookup, hf', Option.map_some]
        split
        · exact .inl rfl
        · exact .inr rfl
      · show ((N ++ closOf env.cells scope.names []).lookup p.1).isSome = true
        rw [lookup_app, hN0, h']; rfl
    · obtain ⟨o, e⟩ := (S.st.mo t ht).at_
      intro q
      have q' : t.addr = s.heap.objs.size := q
      rw [q'] at e; cases hC.symm.trans e
    · obtain ⟨o, e⟩ := (S.st.mo t ht).at_
      intro q
      rcases List.mem_append.mp hp with hp | hp
      · rw [← q] at e; cases (hnew p hp).symm.trans e
      · exact (S.apX t ht).2 _ (mem_of_lookup (hcl p hp).1) q

noncomputable def NsOk (scope : Scope) (ns : List Str) : Bool := ns.all fun x => match scope.names.lookup x with | some .local | some .cell => true | _ => false
theorem fresh_of {s s' : Shared} (p : Pr s s') {a : Addr} (h : s'.heap.get? a = none) : s.heap.get? a = none := by
  cases q : s.heap.get? a with
  | none => rfl
  | some o => cases h.symm.trans (p.kp.all _ _ q)
theorem comp_walk {A : Around} {n : Nat} {e : PySem.Expr} {elt tgt iter : PySem.Expr} {ifs : List PySem.Expr} {rest : List Comprehension} {pos : Pos} {ns : List Str} {d : D} {ds : List D} {out : List PyData} {use : Option (Value → Sem Unit)} {Q : Value → Shared → Prop}
    (he : e = .ListComp elt (⟨tgt, iter, ifs, 0⟩ :: rest) scope pos) (hok : CompOk scope sc = true) (hns : NsOk scope ns = true) (hs : ∀ x, foldedSetIterable iter env x = pure x) (R : Rm n A) (S : Sv b sc env M ρ X s)
    (h1 : Ev b n sc ρ X iter d) (hi : Iter d ds) (hc : CL b n (relab scope sc) (Cap scope ρ) X ns e 0 ds out) (hz : out.length ≤ big)
    (k : ∀ ax C s' m, s.heap.get? ax = none → s.heap.get? C = none → ax ≠ C → s'.heap.Ns C m → Dp (C :: M) s'.heap (.ref ax) (.list out) → Pr s s' → (∀ h', Heap.SameBut C s'.heap h' → Dp M h' (.ref ax) (.list out) ∧ Pr s { s' with heap := h' }) → compPost (Mo b) A noE use Q (.ref ax) C (.ok .next) s') :
    wpAny (Mo b) A (comprehension e scope env (firstIterPos (⟨tgt, iter, ifs, 0⟩ :: rest) pos) (newList []) false (eval iter env) use) Q noE s := by
  subst he
  obtain ⟨hk, hnd, hfr⟩ := compOk_out hok
  have hclos : closureFor scope env = pure (closOf env.cells scope.names []) := closure_is fun x hx hf => S.eo.has x.1 (hfr x.1 (by rw [← hf]; exact hx)).2
  refine wpAny_comprehension_free (use := use) rfl hs hclos hk (fun x hx hl => hl ▸ nodup_look hnd hx) (wp_weak (h1 A env M s R S) fun v s₁ ⟨rv, p1⟩ => ?_)
  have S1 := S.pure p1
  refine wp_weak (iter_of S1.st hi rv) fun it s₂ ⟨I, hI, hnew, hit, p2⟩ => ?_
  subst hI
  have S2 := S1.grow p2 hnew hit.ex
  refine wpAny_newObj_type ?_
  generalize hs3 : ({ s₂ with heap := s₂.heap.push { cls := .type "list", data := .seq ([] : List Value).toArray } } : Shared) = s₃
  have hax2 : s₂.heap.get? s₂.heap.objs.size = none := none_at (Nat.le_refl _)
  generalize hax : s₂.heap.objs.size = ax at hax2
  have p3 : Pr s₂ s₃ := hs3 ▸ ⟨Kp.push, rfl, rfl⟩
  have hlst : s₃.heap.get? ax = some (lstO #[] 0) := by rw [← hs3, ← hax]; exact Heap.get?_push_size _ rfl
  have S3 := S2.grow p3 hax2 ⟨_, hlst⟩
  have p13 := (p1.trans p2).trans p3
  refine comp_env S3 hok fun cenv s₄ p4 hC hcells hown hloc hSv => ?_
  generalize hcenv : ({ cenv with scope := relabel scope env } : Env) = cenv'
  have hl' : cenv'.locals = cenv.locals := by rw [← hcenv]
  have hc' : cenv'.cells = cenv.cells := by rw [← hcenv]
  rw [hcenv] at hSv
  have hIM : I ∉ M := fun q => by obtain ⟨o, h⟩ := S1.st.exM _ q; cases hnew.symm.trans h
  have haxM : ax ∉ M := fun q => by obtain ⟨o, h⟩ := S1.st.exM _ q; cases hax2.symm.trans (p2.kp.all _ _ h)
  have hIne : I ≠ ax := fun q => by obtain ⟨o, h⟩ := hit.ex; rw [q] at h; cases hax2.symm.trans h
  have hI3 : ∃ o, s₃.heap.get? I = some o := let ⟨o, h⟩ := hit.ex; ⟨o, p3.kp.all _ _ h⟩
  have hCn : s₃.heap.get? cenv.locals = none := hC ▸ none_at (Nat.le_refl _)
  have hCI : I ≠ cenv.locals := fun q => by obtain ⟨o, h⟩ := hI3; rw [q] at h; cases hCn.symm.trans h
  have hCax : ax ≠ cenv.locals := fun q => by rw [q] at hlst; cases hCn.symm.trans hlst
  have hcel : ∀ p ∈ cenv.cells, p.2 ≠ I ∧ p.2 ≠ ax := fun p hp => by
    rcases hcells p hp with h | h
    · exact ⟨fun q => hIM (q ▸ S.celM p h), fun q => haxM (q ▸ S.celM p h)⟩
    · exact ⟨fun q => (by obtain ⟨o, h'⟩ := hI3; rw [q] at h; cases h.symm.trans h'), fun q => (by rw [q] at h; cases h.symm.trans hlst)⟩
  let M1 := cenv.locals :: ax :: (cenv.cells.map (·.2) ++ M)
  have hIM1 : I ∉ M1 := fun q => by
    rcases List.mem_cons.mp q with q | q
    · exact hCI q
    · rcases List.mem_cons.mp q with q | q
      · exact hIne q
      · rcases List.mem_append.mp q with q | q
        · obtain ⟨p, hp, q⟩ := List.mem_map.mp q; exact (hcel p hp).1 q
        · exact hIM q
  have hM1 : ∀ a ∈ M1, a ∈ ax :: I :: M ∨ a = cenv.locals ∨ ∃ p ∈ cenv.cells, a = p.2 := fun a q => by
    rcases List.mem_cons.mp q with q | q
    · exact .inr (.inl q)
    · rcases List.mem_cons.mp q with q | q
      · exact .inl (q ▸ List.mem_cons_self)
      · rcases List.mem_append.mp q with q | q
        · obtain ⟨p, hp, q⟩ := List.mem_map.mp q; exact .inr (.inr ⟨p, hp, q.symm⟩)
        · exact .inl (List.mem_cons_of_mem _ (List.mem_cons_of_mem _ q))
  have mM1 : ∀ a ∈ M, a ∈ M1 := fun a h => List.mem_cons_of_mem _ (List.mem_cons_of_mem _ (List.mem_append_right _ h))
  have cM1 : ∀ p ∈ cenv.cells, p.2 ∈ M1 := fun p hp => List.mem_cons_of_mem _ (List.mem_cons_of_mem _ (List.mem_append_left _ (List.mem_map.mpr ⟨p, hp, rfl⟩)))
  have S4 := hSv M1 (fun t ht => mM1 _ (S.st.moM t ht)) List.mem_cons_self cM1 hM1
  have S4' := hSv (I :: M1) (fun t ht => List.mem_cons_of_mem _ (mM1 _ (S.st.moM t ht))) (List.mem_cons_of_mem _ List.mem_cons_self) (fun p hp => List.mem_cons_of_mem _ (cM1 p hp)) (fun a q => by
    rcases List.mem_cons.mp q with q | q
    · exact .inl (q ▸ List.mem_cons_of_mem _ List.mem_cons_self)
    · exact hM1 a q)
  have haxW : ax ∉ Wr cenv' := fun q => by
    rcases List.mem_cons.mp q with q | q
    · exact hCax (q.trans hl')
    · obtain ⟨p, hp, q⟩ := List.mem_map.mp q; rw [hc'] at hp; exact (hcel p hp).2 q
  have hW2 : ∀ a ∈ I :: M1, a ∈ I :: M ∨ s₂.heap.get? a = none := fun a q => by
    rcases List.mem_cons.mp q with q | q
    · exact .inl (q ▸ List.mem_cons_self)
    · rcases hM1 a q with q | q | ⟨p, hp, q⟩
      · rcases List.mem_cons.mp q with q | q
        · exact .inr (q ▸ hax2)
        · exact .inl q
      · exact .inr (q ▸ fresh_of p3 hCn)
      · rcases hcells p hp with h | h
        · exact .inl (List.mem_cons_of_mem _ (q ▸ S.celM p h))
        · exact .inr (q ▸ fresh_of p3 h)
  have p34 := p3.trans p4
  have hit4 : ItAt (I :: M1) s₄.heap I ds := (hit.avoid hW2).kp p34.kp (fun _ h => nomatch h) (fun h => nomatch h)
  have hloop : codeAny (Mo b) A (.compLoop (.ListComp elt (⟨tgt, iter, ifs, 0⟩ :: rest) scope pos) 0 (.ref I) (.ref ax) cenv') (compPost (Mo b) A noE use Q (.ref ax) cenv.locals) s₄ := by
    refine codeAny_mono (hc A cenv' M1 s₄ s₄ ax I [] #[] 0 R S4 S4' (List.mem_cons_of_mem _ List.mem_cons_self) hIM1 haxW (fun t ht q => haxM (q ▸ S.st.moM t ht)) hit4 (p4.kp.all _ _ hlst) .nil (by simpa using hz)) ?_
    rintro r s' ⟨rfl, S5, p5, ys', n'', h5, r5⟩
    obtain ⟨m, cm, F, _⟩ := S5.fr
    have p14 := p13.trans p4
    have hCs : s.heap.get? cenv.locals = none := fresh_of p13 hCn
    have haxs : s.heap.get? ax = none := fresh_of (p1.trans p2) hax2
    have hfr5 : ∀ a ∈ ax :: I :: Wn cenv' ns, a ∈ ([] : List Addr) ∨ s.heap.get? a = none := fun a q => .inr (by
      rcases List.mem_cons.mp q with q | q
      · exact q ▸ haxs
      · rcases List.mem_cons.mp q with q | q
        · exact q ▸ fresh_of p1 hnew
        · rcases List.mem_cons.mp q with q | q
          · rw [q, hl']; exact hCs
          · obtain ⟨x, hx, q⟩ := List.mem_filterMap.mp q
            rw [hc'] at q
            have := List.all_eq_true.mp hns x hx
            split at this
            · rename_i hk; rw [hloc x hk] at q; cases q
            · rename_i hk; exact fresh_of p13 (hown x a hk q)
            · cases this)
    have p15 : Pr s s' := ((p14.pw (W := ax :: I :: Wn cenv' ns)).trans p5).fresh hfr5 |>.pr
    have hdp : Dp (cenv.locals :: M) s'.heap (.ref ax) (.list out) := .list (fun q => (List.mem_cons.mp q).elim hCax haxM) hz h5 (by simpa using r5.avoid fun a h => .inl ((List.mem_cons.mp h).elim (fun q => q ▸ List.mem_cons_self) (mM1 a)))
    refine k ax cenv.locals s' m haxs hCs hCax (hl' ▸ F.ns) hdp p15 fun h' hs => ?_
    have k' : Kp [cenv.locals] s'.heap h' := Kp.sameBut hs
    have kW : ∀ a ∈ [cenv.locals], a ∈ M1 ∨ s'.heap.get? a = none := fun a q => .inl (by rw [List.mem_singleton.mp q]; exact List.mem_cons_self)
    refine ⟨.list haxM hz (k' _ _ (by simpa using hCax) h5) (by simpa using (r5.kp k' kW).avoid fun a h => .inl (mM1 a h)), ⟨p15.kp.drop k' (fun a q => by rw [List.mem_singleton.mp q]; exact hCs), p15.gens, p15.os⟩⟩
  exact codeAny_compStart_list hloop (iter_self hit4 hloop)
theorem ev_comp {n : Nat} {elt tgt iter : PySem.Expr} {ifs : List PySem.Expr} {rest : List Comprehension} {pos : Pos} (ns : List Str) {d : D} {ds : List D} {out : List PyData}
    (h1 : Ev b n sc ρ X iter d) (hi : Iter d ds) (hc : CL b n (relab scope sc) (Cap scope ρ) X ns (.ListComp elt (⟨tgt, iter, ifs, 0⟩ :: rest) scope pos) 0 ds out) (hz : out.length ≤ big)
    (hok : CompOk scope sc = true := by decide +kernel) (hns : NsOk scope ns = true := by decide +kernel) (hs : ∀ env x, foldedSetIterable iter env x = pure x := by intro _ _; rfl) :
    Ev b n sc ρ X (.ListComp elt (⟨tgt, iter, ifs, 0⟩ :: rest) scope pos) (.list out) := fun A env M s R S => by
  rw [eval_ListComp]
  refine comp_walk (use := none) rfl hok hns (hs env) R S h1 hi hc hz fun ax C s' m h1 h2 h3 h4 h5 h6 h7 => ⟨m, h4, fun _ q => ⟨(h7 _ q).1, (h7 _ q).2⟩⟩
/-- one clause -/
theorem cl_one {n : Nat} {elt tgt iter : PySem.Expr} {ifs : List PySem.Expr} {pos : Pos} {ns : List Str} {α : Type} (items : List α) (g : α → D) (f : α → List PyData) {ds : List D} {out : List PyData} (hds : ds = items.map g) (hout : out = items.flatMap f)
    (ht : ∀ a ∈ items, ∃ ρ' c, Asg b sc X ns tgt (g a) ρ ρ' ∧ (∀ p ∈ ρ, p ∈ ρ') ∧ Ts b n sc ρ' X ifs c ∧ (c = true → ∃ y, f a = [y] ∧ Ev b n sc ρ' X elt (.dat y)) ∧ (c = false → f a = [])) :
    CL b n sc ρ X ns (.ListComp elt [⟨tgt, iter, ifs, 0⟩] scope pos) 0 ds out :=
  cl_run (m := fun acc env => do let _ ← call (.builtin "list.append") [acc, ← eval elt env]) (mm := fun it acc env => (do let _ ← call (.builtin "list.append") [acc, ← eval elt env] : Sem Unit) >>= fun _ => again (.compLoop (.ListComp elt [⟨tgt, iter, ifs, 0⟩] scope pos) 0 it acc env)) (pos := iter.pos) (fun it acc env => by rfl) (fun _ _ _ _ _ _ _ h => by have := wpAny_bind h; simpa only [bind_assoc, pure_bind] using this) hds hout fun a ha =>
    let ⟨ρ', c, h1, h2, h3, h4, h5⟩ := ht a ha
    ⟨ρ', c, h1, h2, h3, fun hc => let ⟨_, e, h⟩ := h4 hc; e ▸ em_one h, h5⟩
/-- two clauses -/
theorem cl_two {n : Nat} {elt tgt iter tgt2 iter2 : PySem.Expr} {ifs ifs2 : List PySem.Expr} {pos : Pos} {ns : List Str} {α : Type} (items : List α) (g : α → D) (f : α → List PyData) {ds : List D} {out : List PyData} (hds : ds = items.map g) (hout : out = items.flatMap f)
    (hs : ∀ env x, foldedSetIterable iter2 env x = pure x)
    (ht : ∀ a ∈ items, ∃ ρ' c, Asg b sc X ns tgt (g a) ρ ρ' ∧ (∀ p ∈ ρ, p ∈ ρ') ∧ Ts b n sc ρ' X ifs c ∧ (c = false → f a = []) ∧ (c = true → ∃ d2 ds2, Ev b n sc ρ' X iter2 d2 ∧ Iter d2 ds2 ∧
      ∃ (β : Type) (its : List β) (g2 : β → D) (f2 : β → List PyData), ds2 = its.map g2 ∧ f a = its.flatMap f2 ∧ ∀ c ∈ its, ∃ ρ2 c2, Asg b sc X ns tgt2 (g2 c) ρ' ρ2 ∧ (∀ p ∈ ρ', p ∈ ρ2) ∧ Ts b n sc ρ2 X ifs2 c2 ∧ (c2 = true → ∃ y, f2 c = [y] ∧ Ev b n sc ρ2 X elt (.dat y)) ∧ (c2 = false → f2 c = []))) :
    CL b n sc ρ X ns (.ListComp elt [⟨tgt, iter, ifs, 0⟩, ⟨tgt2, iter2, ifs2, 0⟩] scope pos) 0 ds out := by
  refine cl_run (tgt := tgt) (ifs := ifs) (m := fun acc env => do let x ← eval iter2 env; standAt iter2.pos; let x ← foldedSetIterable iter2 env x; let _ ← runOwn (.compStart (.ListComp elt [⟨tgt, iter, ifs, 0⟩, ⟨tgt2, iter2, ifs2, 0⟩] scope pos) 1 (← holding [x] (pyIter x)) acc env) env) (mm := fun it acc env => do let x ← eval iter2 env; standAt iter2.pos; let x ← foldedSetIterable iter2 env x; let _ ← runOwn (.compStart (.ListComp elt [⟨tgt, iter, ifs, 0⟩, ⟨tgt2, iter2, ifs2, 0⟩] scope pos) 1 (← holding [x] (pyIter x)) acc env) env; again (.compLoop (.ListComp elt [⟨tgt, iter, ifs, 0⟩, ⟨tgt2, iter2, ifs2, 0⟩] scope pos) 0 it acc env)) (pos := iter.pos) (fun it acc env => by rfl) (fun _ _ _ _ _ _ _ h => by have := wpAny_bind h; simpa only [bind_assoc, pure_bind] using this) hds hout fun a ha => ?_
  obtain ⟨ρ', c, h1, h2, h3, h5, h4⟩ := ht a ha
  refine ⟨ρ', c, h1, h2, h3, fun hc => ?_, h5⟩
  obtain ⟨d2, ds2, e1, e2, β, its, g2, f2, e3, e4, e5⟩ := h4 hc
  refine em_nest e1 e2 (k := 1) (e := .ListComp elt [⟨tgt, iter, ifs, 0⟩, ⟨tgt2, iter2, ifs2, 0⟩] scope pos) (out := f a) ?_ (fun _ _ => rfl) hs ?_
  · refine cl_run (tgt := tgt2) (ifs := ifs2) (m := fun acc env => do let _ ← call (.builtin "list.append") [acc, ← eval elt env]) (mm := fun it acc env => (do let _ ← call (.builtin "list.append") [acc, ← eval elt env] : Sem Unit) >>= fun _ => again (.compLoop (.ListComp elt [⟨tgt, iter, ifs, 0⟩, ⟨tgt2, iter2, ifs2, 0⟩] scope pos) 1 it acc env)) (pos := iter2.pos) (fun it acc env => by rfl) (fun _ _ _ _ _ _ _ h => by have := wpAny_bind h; simpa only [bind_assoc, pure_bind] using this) e3 e4 fun a ha => ?_
    obtain ⟨ρ', c, h1, h2, h3, h4, h5⟩ := e5 a ha
    exact ⟨ρ', c, h1, h2, h3, fun hc => let ⟨_, e, h⟩ := h4 hc; e ▸ em_one h, h5⟩
  · intro A it acc env R s h0 h
    refine codeAny_of_tree ?_
    show wpAny _ _ ((compStart (.ListComp elt [⟨tgt, iter, ifs, 0⟩, ⟨tgt2, iter2, ifs2, 0⟩] scope pos) 1 it acc env).onRaise (fun x => do noteFrame x env; standAt theWindowsPlace)) _ _ s
    refine wpAny_notedAt ?_
    unfold compStart
    show wpAny _ _ (ask >>= _) _ _ s
    refine wpAny_bind (wpAny_askSetting (wpAny_ite ?_))
    split
    · first
        | exact wpAny_bind (wpAny_pure (wpAny_pure (And.intro rfl h0)))
        | exact wpAny_pure (And.intro rfl h0)
    · first
        | exact wpAny_bind (wpAny_rule (wpAny_bind (wpAny_standAt (wpAny_bind (wpAny_mono h (fun it' s' h' => wpAny_pure (And.intro rfl h')) fun _ _ x => x)))))
        | (refine wpAny_bind (wpAny_rule ?_); show wpAny _ _ (standAt iter2.pos >>= _) _ _ s; exact wpAny_bind (wpAny_standAt (wpAny_bind (wpAny_mono h (fun it' s' h' => wpAny_pure (And.intro rfl h')) fun _ _ x => x))))
end

set_option linter.unusedVariables false
/-- a call under way -/
structure Cx (b : Bas) (n : Nat) (sc : Scope) where
  A : Around
  frm : Env
  M0 : List Addr
  s0 : Shared
  V : List Addr
  W : List Addr
  rm : Rm n A
  wM : ∀ a ∈ W, a ∈ M0
  lk : List (Addr × Obj)
  exM0 : ∀ a ∈ M0, ∃ o, s0.heap.get? a = some o
structure Cx.At {b : Bas} {n : Nat} {sc : Scope} (c : Cx b n sc) (M : List Addr) (ρ : List (Str × D)) (X : List MO) (s : Shared) : Prop where
  sv : Sv b sc c.frm M ρ X s
  sub : ∀ a ∈ c.M0, a ∈ M
  new : ∀ a ∈ M, a ∈ c.M0 ∨ c.s0.heap.get? a = none
  pw : Pw c.W c.s0 s
  wr : ∀ a ∈ Wr c.frm, c.s0.heap.get? a = none
  xs : ∀ t ∈ X, t.addr ∈ c.V ∨ c.s0.heap.get? t.addr = none
  lk : ∀ p ∈ c.lk, s.heap.get? p.1 = some p.2 ∧ p.1 ∈ M ∧ p.1 ∉ Wr c.frm ∧ ∀ t ∈ X, t.addr ≠ p.1
/-- a move that keeps data -/
structure Mv (M : List Addr) (s : Shared) (M' : List Addr) (s' : Shared) : Prop where
  sub : ∀ a ∈ M, a ∈ M'
  new : ∀ a ∈ M', a ∈ M ∨ s.heap.get? a = none
  pw : Pw M s s'
theorem Mv.refl {M : List Addr} {s : Shared} : Mv M s M s := ⟨fun _ h => h, fun _ h => .inl h, Pw.refl⟩
theorem Pr.mv {M : List Addr} {s s' : Shared} (p : Pr s s') : Mv M s M s' := ⟨fun _ h => h, fun _ h => .inl h, p.pw⟩
theorem Mv.none_of {M M' : List Addr} {s s' : Shared} (x : Mv M s M' s') {a : Addr} (h : a ∉ M) (hn : s'.heap.get? a = none) : s.heap.get? a = none := by
  cases q : s.heap.get? a with
  | none => rfl
  | some o => cases hn.symm.trans (x.pw.kp a o h q)
theorem Mv.trans {M M' M'' : List Addr} {s s' s'' : Shared} (x : Mv M s M' s') (y : Mv M' s' M'' s'') : Mv M s M'' s'' := by
  refine ⟨fun a h => y.sub a (x.sub a h), fun a h => ?_, ?_⟩
  · rcases y.new a h with h | h
    · exact x.new a h
    · by_cases hm : a ∈ M
      · exact .inl hm
      · exact .inr (x.none_of hm h)
  · exact (x.pw.more x.sub).trans y.pw |>.fresh x.new
theorem Dp.mv {M M' : List Addr} {s s' : Shared} {v : Value} {d : D} (x : Dp M s.heap v d) (m : Mv M s M' s') : Dp M' s'.heap v d :=
  (x.avoid m.new).kp m.pw.kp fun a h => .inl (m.sub a h)
theorem DpAll.mv {M M' : List Addr} {s s' : Shared} {v : List Value} {d : List D} (x : DpAll M s.heap v d) (m : Mv M s M' s') : DpAll M' s'.heap v d := x.imp fun _ _ y => y.mv m

theorem none_new {s s' : Shared} {W : List Addr} (p : Pw W s s') {a : Addr} (h : a ∉ W) (hn : s'.heap.get? a = none) : s.heap.get? a = none := by
  cases q : s.heap.get? a with
  | none => rfl
  | some o => cases hn.symm.trans (p.kp a o h q)

section
variable {b : Bas} {n : Nat} {sc : Scope} {c : Cx b n sc} {M : List Addr} {ρ ρ' : List (Str × D)} {X : List MO} {s s' : Shared}
theorem Cx.At.pure (S : c.At M ρ X s) (p : Pr s s') : c.At M ρ X s' := ⟨S.sv.pure p, S.sub, S.new, S.pw.trans p.pw, S.wr, S.xs, fun q hq => ⟨p.kp.all _ _ (S.lk q hq).1, (S.lk q hq).2⟩⟩
theorem Cx.At.fresh (S : c.At M ρ X s) {a : Addr} (h : s.heap.get? a = none) : c.s0.heap.get? a = none := by
  refine none_new S.pw (fun hw => ?_) h
  obtain ⟨o, e⟩ := S.sv.st.exM a (S.sub a (c.wM a hw))
  cases h.symm.trans e
theorem Cx.At.sub' (S : c.At M ρ X s) (h : ∀ p ∈ ρ', p ∈ ρ) : c.At M ρ' X s := ⟨S.sv.sub h, S.sub, S.new, S.pw, S.wr, S.xs, S.lk⟩
end

inductive Fl where
  | nxt
  | ret (d : D)
noncomputable def Fl.res : Fl → D
  | .nxt => .none
  | .ret d => d
/-- what the flow of a block must be -/
inductive FlowIs {b : Bas} {n : Nat} {sc : Scope} (c : Cx b n sc) (M : List Addr) (s : Shared) (Q : List (Str × D) → List MO → Fl → Prop) (f : Flow) (s' : Shared) : Prop
  | mk (M' : List Addr) (ρ : List (Str × D)) (X : List MO) (S : c.At M' ρ X s') (h : match f with
    | .next => Mv M s M' s' ∧ Q ρ X .nxt
    | .ret v => ∃ d, Dp M' s'.heap v d ∧ Q ρ X (.ret d)
    | _ => False) : FlowIs c M s Q f s'
/-- what an expression leaves -/
inductive EfR {b : Bas} {n : Nat} {sc : Scope} (c : Cx b n sc) (ρ : List (Str × D)) (M : List Addr) (s : Shared) (Q : D → List MO → Prop) (v : Value) (s' : Shared) : Prop
  | mk (M' : List Addr) (X' : List MO) (d : D) (S : c.At M' ρ X' s') (m : Mv M s M' s') (a : Dp M' s'.heap v d) (q : Q d X') : EfR c ρ M s Q v s'
inductive EtR {b : Bas} {n : Nat} {sc : Scope} (c : Cx b n sc) (ρ : List (Str × D)) (M : List Addr) (s : Shared) (Q : Bool → List MO → Prop) (t : Bool) (s' : Shared) : Prop
  | mk (M' : List Addr) (X' : List MO) (S : c.At M' ρ X' s') (m : Mv M s M' s') (q : Q t X') : EtR c ρ M s Q t s'
inductive EsR {b : Bas} {n : Nat} {sc : Scope} (c : Cx b n sc) (ρ : List (Str × D)) (M : List Addr) (s : Shared) (Q : List D → List MO → Prop) (vs : List Value) (s' : Shared) : Prop
  | mk (M' : List Addr) (X' : List MO) (ds : List D) (S : c.At M' ρ X' s') (m : Mv M s M' s') (a : DpAll M' s'.heap vs ds) (q : Q ds X') : EsR c ρ M s Q vs s'
noncomputable def Cx.Go {b : Bas} {n : Nat} {sc : Scope} (c : Cx b n sc) (ρ : List (Str × D)) (X : List MO) (ss : List Stmt) (Q : List (Str × D) → List MO → Fl → Prop) : Prop :=
  ∀ M s, c.At M ρ X s → wpAny (Mo b) c.A (execs ss c.frm) (FlowIs c M s Q) noE s
/-- one statement -/
noncomputable def Cx.Do {b : Bas} {n : Nat} {sc : Scope} (c : Cx b n sc) (ρ : List (Str × D)) (X : List MO) (st : Stmt) (Q : List (Str × D) → List MO → Fl → Prop) : Prop :=
  ∀ M s, c.At M ρ X s → wpAny (Mo b) c.A (exec st c.frm) (FlowIs c M s Q) noE s
/-- an expression that may change things -/
noncomputable def Cx.Ef {b : Bas} {n : Nat} {sc : Scope} (c : Cx b n sc) (ρ : List (Str × D)) (X : List MO) (e : PySem.Expr) (Q : D → List MO → Prop) : Prop :=
  ∀ M s, c.At M ρ X s → wpAny (Mo b) c.A (eval e c.frm) (EfR c ρ M s Q) noE s
noncomputable def Cx.Et {b : Bas} {n : Nat} {sc : Scope} (c : Cx b n sc) (ρ : List (Str × D)) (X : List MO) (e : PySem.Expr) (Q : Bool → List MO → Prop) : Prop :=
  ∀ M s, c.At M ρ X s → wpAny (Mo b) c.A (isTrue e c.frm (eval e c.frm)) (EtR c ρ M s Q) noE s

/-- then go on -/
noncomputable def Cx.Then {b : Bas} {n : Nat} {sc : Scope} (c : Cx b n sc) (rest : List Stmt) (Q : List (Str × D) → List MO → Fl → Prop) : List (Str × D) → List MO → Fl → Prop := fun ρ X fl => match fl with
  | .nxt => c.Go ρ X rest Q
  | .ret d => Q ρ X (.ret d)

section
variable {b : Bas} {n : Nat} {sc : Scope} {c : Cx b n sc} {ρ : List (Str × D)} {X : List MO} {Q : List (Str × D) → List MO → Fl → Prop} {rest : List Stmt}
theorem flow_mono {Q' : List (Str × D) → List MO → Fl → Prop} {f : Flow} {M : List Addr} {s s' : Shared} (h : FlowIs c M s Q f s') (k : ∀ ρ X fl, Q ρ X fl → Q' ρ X fl) : FlowIs c M s Q' f s' := by
  obtain ⟨M', ρ, X, S, h⟩ := h
  refine ⟨M', ρ, X, S, ?_⟩
  cases f with
  | next => exact ⟨h.1, k _ _ _ h.2⟩
  | ret v => obtain ⟨d, h1, h2⟩ := h; exact ⟨d, h1, k _ _ _ h2⟩
  | brk => exact h
  | cont => exact h
theorem flow_trans {f : Flow} {M M1 : List Addr} {s s1 s' : Shared} (m : Mv M s M1 s1) (h : FlowIs c M1 s1 Q f s') : FlowIs c M s Q f s' := by
  obtain ⟨M', ρ, X, S, h⟩ := h
  refine ⟨M', ρ, X, S, ?_⟩
  cases f with
  | next => exact ⟨m.trans h.1, h.2⟩
  | ret v => exact h
  | brk => exact h
  | cont => exact h
theorem go_mono {ss : List Stmt} {Q' : List (Str × D) → List MO → Fl → Prop} (h : c.Go ρ X ss Q) (k : ∀ ρ X fl, Q ρ X fl → Q' ρ X fl) : c.Go ρ X ss Q' := fun M s S => wp_weak (h M s S) fun _ _ q => flow_mono q k
theorem go_nil (h : Q ρ X .nxt) : c.Go ρ X [] Q := fun M s S => wpAny_execs_nil ⟨M, ρ, X, S, Mv.refl, h⟩
theorem go_sub {ρ' : List (Str × D)} {ss : List Stmt} (h : ∀ p ∈ ρ', p ∈ ρ) (k : c.Go ρ' X ss Q) : c.Go ρ X ss Q := fun M s S => k M s (S.sub' h)
theorem go_cons {st : Stmt} (h : c.Do ρ X st (c.Then rest Q)) : c.Go ρ X (st :: rest) Q := fun M s S => by
  refine wpAny_execs_cons (wp_weak (h M s S) fun f s' ⟨M', ρ', X', S', q⟩ => ?_)
  cases f with
  | next => exact wp_weak (q.2 M' s' S') fun _ _ z => flow_trans q.1 z
  | ret v => exact ⟨M', ρ', X', S', q⟩
  | brk => exact q.elim
  | cont => exact q.elim
theorem ef_pure {e : PySem.Expr} {d : D} {Q : D → List MO → Prop} (h : Ev b n sc ρ X e d) (k : Q d X) : c.Ef ρ X e Q := fun M s S =>
  wp_weak (h c.A c.frm M s c.rm S.sv) fun _ s' ⟨a, p⟩ => ⟨M, X, d, S.pure p, p.mv, a, k⟩
theorem et_pure {e : PySem.Expr} {t : Bool} {Q : Bool → List MO → Prop} (h : Tv b n sc ρ X e t) (k : Q t X) : c.Et ρ X e Q := fun M s S =>
  wp_weak (h c.A c.frm M s c.rm S.sv) fun _ s' ⟨a, p⟩ => ⟨M, X, S.pure p, p.mv, a ▸ k⟩
theorem et_value {e : PySem.Expr} {Q : Bool → List MO → Prop} (h : c.Ef ρ X e fun d X' => ∃ t, Tr b d t ∧ Q t X')
    (he : ∀ whole, isTrue e c.frm whole = (do let v ← whole; standAt e.pos; holding [v] (truthy v)) := by intro _; rfl) : c.Et ρ X e Q := fun M s S => by
  refine wpAny_isTrue_value (wp_weak (h M s S) fun u s₁ ⟨M1, X1, d, S1, m1, a1, t, h2, q⟩ => ?_) (he _)
  exact wp_weak (h2 c.A n M1 X1 s₁ u c.rm S1.sv.st a1) fun x s₂ ⟨a2, p2⟩ => ⟨M1, X1, S1.pure p2, m1.trans p2.mv, a2 ▸ q⟩
theorem et_not {x : PySem.Expr} {pos : Pos} {Q : Bool → List MO → Prop} (h : c.Et ρ X x fun t X' => Q (!t) X') : c.Et ρ X (.UnaryOp .Not x pos) Q := fun M s S =>
  wpAny_isTrue_Not (wp_weak (h M s S) fun _ _ ⟨M1, X1, S1, m1, q⟩ => ⟨M1, X1, S1, m1, q⟩)
noncomputable def Cx.Ea {b : Bas} {n : Nat} {sc : Scope} (c : Cx b n sc) (ρ : List (Str × D)) (X : List MO) (op : BoolOp) (es : List PySem.Expr) (Q : Bool → List MO → Prop) : Prop :=
  ∀ M s, c.At M ρ X s → wpAny (Mo b) c.A (allTrue op es c.frm) (EtR c ρ M s Q) noE s
theorem et_bool {op : BoolOp} {es : List PySem.Expr} {pos : Pos} {Q : Bool → List MO → Prop} (h : c.Ea ρ X op es Q) : c.Et ρ X (.BoolOp op es pos) Q := fun M s S => wpAny_isTrue_BoolOp (h M s S)
theorem ea_and_nil {Q : Bool → List MO → Prop} (h : Q true X) : c.Ea ρ X .And [] Q := fun M s S => wpAny_allTrue_And_nil ⟨M, X, S, Mv.refl, h⟩
theorem ea_or_nil {Q : Bool → List MO → Prop} (h : Q false X) : c.Ea ρ X .Or [] Q := fun M s S => wpAny_allTrue_Or_nil ⟨M, X, S, Mv.refl, h⟩
theorem ea_and {x : PySem.Expr} {es : List PySem.Expr} {Q : Bool → List MO → Prop} (h : c.Et ρ X x fun t X' => if t then c.Ea ρ X' .And es Q else Q false X') : c.Ea ρ X .And (x :: es) Q := fun M s S => by
  refine wpAny_allTrue_And_cons (wp_weak (h M s S) fun t s' ⟨M1, X1, S1, m1, q⟩ => ?_)
  cases t with
  | true => exact wp_weak (q M1 s' S1) fun t s'' ⟨M2, X2, S2, m2, q⟩ => ⟨M2, X2, S2, m1.trans m2, q⟩
  | false => exact ⟨M1, X1, S1, m1, q⟩
theorem ea_or {x : PySem.Expr} {es : List PySem.Expr} {Q : Bool → List MO → Prop} (h : c.Et ρ X x fun t X' => if t then Q true X' else c.Ea ρ X' .Or es Q) : c.Ea ρ X .Or (x :: es) Q := fun M s S => by
  refine wpAny_allTrue_Or_cons (wp_weak (h M s S) fun t s' ⟨M1, X1, S1, m1, q⟩ => ?_)
  cases t with
  | false => exact wp_weak (q M1 s' S1) fun t s'' ⟨M2, X2, S2, m2, q⟩ => ⟨M2, X2, S2, m1.trans m2, q⟩
  | true => exact ⟨M1, X1, S1, m1, q⟩
theorem ef_bin {op : Operator} {l r : PySem.Expr} {pos : Pos} {Q : D → List MO → Prop} (h : c.Ef ρ X l fun d X1 => c.Ef ρ X1 r fun e X2 => ∃ f, Bin b op d e f ∧ Q f X2) : c.Ef ρ X (.BinOp l op r pos) Q := fun M s S => by
  refine wpAny_BinOp (wp_weak (h M s S) fun u s₁ ⟨M1, X1, d, S1, m1, a1, h1⟩ => wp_weak (h1 M1 s₁ S1) fun v s₂ ⟨M2, X2, e, S2, m2, a2, f, h3, q⟩ => ?_)
  exact wp_weak (h3 c.A n M2 X2 s₂ u v c.rm S2.sv.st (a1.mv m2) a2) fun x s₃ ⟨a3, p3⟩ => ⟨M2, X2, f, S2.pure p3, (m1.trans m2).trans p3.mv, a3, q⟩
theorem ef_cmp {op : CmpOp} {l r : PySem.Expr} {pos : Pos} {Q : D → List MO → Prop} (h : c.Ef ρ X l fun d X1 => c.Ef ρ X1 r fun e X2 => ∃ t, Cmp b op d e t ∧ Q (.bool t) X2) (hm : behindInMarks op r = false := by with_unfolding_all rfl) : c.Ef ρ X (.Compare l [op] [r] pos) Q := fun M s S => by
  refine wpAny_Compare1 (wp_weak (h M s S) fun u s₁ ⟨M1, X1, d, S1, m1, a1, h1⟩ => wp_weak (h1 M1 s₁ S1) fun v s₂ ⟨M2, X2, e, S2, m2, a2, f, h3, q⟩ => ?_) hm
  refine wp_weak (h3 c.A n M2 X2 s₂ u v c.rm S2.sv.st (a1.mv m2) a2) fun x s₃ ⟨a3, p3⟩ => ?_
  subst a3
  exact ⟨M2, X2, .bool f, S2.pure p3, (m1.trans m2).trans p3.mv, Rp.bool _, q⟩
theorem et_cmp {op : CmpOp} {l r : PySem.Expr} {pos : Pos} {Q : Bool → List MO → Prop} (h : c.Ef ρ X l fun d X1 => c.Ef ρ X1 r fun e X2 => ∃ t, Cmp b op d e t ∧ Q t X2) (hm : behindInMarks op r = false := by with_unfolding_all rfl) : c.Et ρ X (.Compare l [op] [r] pos) Q := fun M s S => by
  refine wpAny_isTrue_Compare1 (wp_weak (h M s S) fun u s₁ ⟨M1, X1, d, S1, m1, a1, h1⟩ => wp_weak (h1 M1 s₁ S1) fun v s₂ ⟨M2, X2, e, S2, m2, a2, f, h3, q⟩ => ?_) hm
  refine wp_weak (h3 c.A n M2 X2 s₂ u v c.rm S2.sv.st (a1.mv m2) a2) fun x s₃ ⟨a3, p3⟩ => ?_
  subst a3
  exact wpAny_truthy_bool ⟨M2, X2, S2.pure p3, (m1.trans m2).trans p3.mv, q⟩
theorem ef_item {value slice : PySem.Expr} {pos : Pos} {Q : D → List MO → Prop} (h : c.Ef ρ X value fun d X1 => c.Ef ρ X1 slice fun e X2 => ∃ f, Itm b X2 d e f ∧ Q f X2)
    (hs : ∀ o i, subscripted slice false o i = operate [o, i] (getItem o i) := by intro _ _; rfl) : c.Ef ρ X (.Subscript value slice pos) Q := fun M s S => by
  refine Subscript_ (wp_weak (h M s S) fun o s₁ ⟨M1, X1, d, S1, m1, a1, h1⟩ => wp_weak (h1 M1 s₁ S1) fun i s₂ ⟨M2, X2, e, S2, m2, a2, f, h3, q⟩ => ?_)
  obtain ⟨T, id, hT, hl, hg⟩ := h3 c.A n M2 s₂ o i c.rm S2.sv.st (a1.mv m2) a2
  exact tail_any hT hl (wp_weak hg fun x s₃ ⟨a3, p3⟩ => ⟨M2, X2, f, S2.pure p3, (m1.trans m2).trans p3.mv, a3, q⟩) (hs _ _)
theorem ef_ifexp {t a e : PySem.Expr} {pos : Pos} {Q : D → List MO → Prop} (h : c.Et ρ X t fun t X1 => if t then c.Ef ρ X1 a Q else c.Ef ρ X1 e Q) : c.Ef ρ X (.IfExp t a e pos) Q := fun M s S => by
  refine wpAny_IfExp (wp_weak (h M s S) fun y s' ⟨M1, X1, S1, m1, q⟩ => ?_)
  cases y with
  | true => exact wp_weak (q M1 s' S1) fun _ _ ⟨M2, X2, d, S2, m2, a2, q⟩ => ⟨M2, X2, d, S2, m1.trans m2, a2, q⟩
  | false => exact wp_weak (q M1 s' S1) fun _ _ ⟨M2, X2, d, S2, m2, a2, q⟩ => ⟨M2, X2, d, S2, m1.trans m2, a2, q⟩
theorem ef_mono {e : PySem.Expr} {Q Q' : D → List MO → Prop} (h : c.Ef ρ X e Q) (k : ∀ d X, Q d X → Q' d X) : c.Ef ρ X e Q' := fun M s S =>
  wp_weak (h M s S) fun _ _ ⟨M', X', d, a, b, e, q⟩ => ⟨M', X', d, a, b, e, k _ _ q⟩

/-- stores -/
theorem at_put {M : List Addr} {s s' : Shared} {ρ' : List (Str × D)} (S : c.At M ρ X s) (S' : Sv b sc c.frm M ρ' X s') (p : Pw (Wr c.frm) s s') : c.At M ρ' X s' :=
  ⟨S', S.sub, S.new, (S.pw.more (W' := c.W ++ Wr c.frm) fun a h => List.mem_append_left _ h).trans (p.more fun a h => List.mem_append_right _ h) |>.fresh fun a h => (List.mem_append.mp h).imp id fun h => S.wr a h, S.wr, S.xs, fun q hq => ⟨p.kp _ _ (S.lk q hq).2.2.1 (S.lk q hq).1, (S.lk q hq).2⟩⟩
theorem mv_put {M : List Addr} {s s' : Shared} (S : c.At M ρ X s) (p : Pw (Wr c.frm) s s') : Mv M s M s' := ⟨fun _ h => h, fun _ h => .inl h, p.more S.sv.wrM⟩
theorem do_assign {x : Str} {pos' pos : Pos} {value : PySem.Expr} (h : c.Ef ρ X value fun d X1 => Q ((x, d) :: Del x ρ) X1 .nxt) (hx : Own sc x = true := by decide +kernel)
    (hs : ∀ env, swapsWith value (some (.Name x pos')) pos.line env = pure false := by intro _; rfl) : c.Do ρ X (.Assign [.Name x pos'] value pos) Q := fun M s S => by
  refine wpAny_Assign_Name (wp_weak (h M s S) fun v s₁ ⟨M1, X1, d, S1, m1, a1, q⟩ => ?_) (hs _)
  refine wp_weak (sv_store (ns := [x]) S1.sv hx (by simp) a1) fun _ s₂ ⟨S2, p2⟩ => ⟨M1, _, X1, at_put S1 S2 (p2.more wn_wr), m1.trans (mv_put S1 (p2.more wn_wr)), q⟩
/-- a value given to several names -/
theorem do_assignT {elts : List PySem.Expr} {k : Nat} {tpos pos : Pos} {value : PySem.Expr} (ns : List Str) (h : c.Ef ρ X value fun d X1 => ∃ ρ', Asg b sc X1 ns (.Tuple elts k tpos) d ρ ρ' ∧ Q ρ' X1 .nxt)
    (hs : ∀ env, swapsWithSole [.Tuple elts k tpos] value pos.line env = pure false := by intro _; rfl) (hw : ∀ env, swappedStores [.Tuple elts k tpos] value env = pure none := by intro _; rfl) : c.Do ρ X (.Assign [.Tuple elts k tpos] value pos) Q := fun M s S => by
  refine Assign_Tuple (wp_weak (h M s S) fun v s₁ ⟨M1, X1, d, S1, m1, a1, ρ', h1, q⟩ => ?_) (hs _) (hw _)
  exact wp_weak (h1 c.A n c.frm M1 s₁ v c.rm S1.sv a1) fun _ s₂ ⟨S2, p2⟩ => ⟨M1, _, X1, at_put S1 S2 (p2.more wn_wr), m1.trans (mv_put S1 (p2.more wn_wr)), q⟩
theorem do_if {t : PySem.Expr} {body orelse : List Stmt} {pos : Pos} (h : c.Et ρ X t fun t X1 => if t then c.Go ρ X1 body Q else c.Go ρ X1 orelse Q) : c.Do ρ X (.If t body orelse pos) Q := fun M s S => by
  refine wpAny_If (wp_weak (h M s S) fun t s₁ ⟨M1, X1, S1, m1, q⟩ => ?_)
  cases t with
  | true => exact wp_weak (q M1 s₁ S1) fun _ _ z => flow_trans m1 z
  | false => exact wp_weak (q M1 s₁ S1) fun _ _ z => flow_trans m1 z
theorem do_return {e : PySem.Expr} {pos : Pos} (h : c.Ef ρ X e fun d X1 => Q ρ X1 (.ret d)) : c.Do ρ X (.Return (some e) pos) Q := fun M s S =>
  wpAny_Return_some (wp_weak (h M s S) fun v s₁ ⟨M1, X1, d, S1, m1, a1, q⟩ => ⟨M1, ρ, X1, S1, d, a1, q⟩)
theorem do_return0 {pos : Pos} (h : Q ρ X (.ret .none)) : c.Do ρ X (.Return none pos) Q := fun M s S =>
  wpAny_Return_none ⟨M, ρ, X, S, .none, .none, h⟩
theorem do_expr {e : PySem.Expr} {pos : Pos} (h : c.Ef ρ X e fun d X1 => (match d with | .dat .none | .dat (.bool _) | .dat (.int _) => True | _ => False) ∧ Q ρ X1 .nxt)
    (hs : ∀ env, swapsWith e none pos.line env = pure false := by intro _; rfl) : c.Do ρ X (.Expr e pos) Q := fun M s S => by
  refine wpAny_Expr (wp_weak (h M s S) fun v s₁ ⟨M1, X1, d, S1, m1, a1, hd, q⟩ => ?_) ?_ (hs _)
  · have : FlowIs c M s Q .next s₁ := ⟨M1, ρ, X1, S1, m1, q⟩
    split at hd
    · obtain rfl := Rp.none_inv a1; exact this
    · obtain rfl := Rp.bool_inv a1; exact this
    · obtain ⟨t, rfl⟩ := Rp.int_inv a1; exact this
    · exact hd.elim
  · unfold interactive; rw [S.sv.eo.kind]; rfl
end

/-- a call that may change the objects of X -/
inductive CnR (b : Bas) (X : List MO) (W : List Addr) (Q : D → List MO → Prop) (M : List Addr) (s : Shared) (v : Value) (s' : Shared) : Prop
  | mk (M' : List Addr) (X' : List MO) (d : D) (S : St b M' X' s') (m : Mv M s M' s') (p : Pw W s s') (hx : ∀ t ∈ X', t.addr ∈ X.map MO.addr ∨ s.heap.get? t.addr = none) (a : Dp M' s'.heap v d) (q : Q d X') : CnR b X W Q M s v s'
noncomputable def Cn (b : Bas) (n : Nat) (X : List MO) (f : Value) (args : List D) (Q : D → List MO → Prop) : Prop :=
  ∀ A M s vs, Rm n A → St b M X s → DpAll M s.heap vs args → wpAny (Mo b) A (call f vs) (CnR b X (X.map MO.addr) Q M s) noE s
theorem Fn.cn {b : Bas} {n : Nat} {X : List MO} {f : Value} {args : List D} {r : D} {Q : D → List MO → Prop} (h : Fn b n X f args r) (q : Q r X) : Cn b n X f args Q := fun A M s vs R S a =>
  wp_weak (h A M s vs R S a) fun v s' ⟨x, p⟩ => ⟨M, X, r, S.pure p, p.mv, p.pw, fun t ht => .inl (List.mem_map_of_mem ht), x, q⟩
theorem Cn.mono {b : Bas} {n : Nat} {X : List MO} {f : Value} {args : List D} {Q Q' : D → List MO → Prop} (h : Cn b n X f args Q) (k : ∀ d X, Q d X → Q' d X) : Cn b n X f args Q' := fun A M s vs R S a =>
  wp_weak (h A M s vs R S a) fun v s' ⟨M', X', d, h1, h2, h3, h4, h5, q⟩ => ⟨M', X', d, h1, h2, h3, h4, h5, k _ _ q⟩

theorem nodup_mid {α : Type} {l m r : List α} (h : (l ++ (m ++ r)).Nodup) : (∀ x ∈ l, x ∉ m) ∧ (∀ x ∈ r, x ∉ m) ∧ m.Nodup ∧ (l ++ r).Nodup := by
  rw [List.nodup_append] at h
  obtain ⟨h1, h2, h3⟩ := h
  rw [List.nodup_append] at h2
  obtain ⟨h4, h5, h6⟩ := h2
  refine ⟨fun x hx hm => h3 x hx x (List.mem_append_left _ hm) rfl, fun x hx hm => h6 x hm x hx rfl, h4, ?_⟩
  rw [List.nodup_append]
  exact ⟨h1, h5, fun a ha c hc => h3 a ha c (List.mem_append_right _ hc)⟩
section
variable {b : Bas} {n : Nat} {sc : Scope} {c : Cx b n sc} {ρ : List (Str × D)} {X : List MO}
/-- the objects of Xa have changed, those around it stay -/
theorem at_replace {M M' : List Addr} {s s' : Shared} {L Xa X' R : List MO} (S : c.At M ρ (L ++ (Xa ++ R)) s) (hW : ∀ t ∈ Xa, t.addr ∈ c.W ∨ c.s0.heap.get? t.addr = none) (S1 : St b M' X' s') (m1 : Mv M s M' s') (p1 : Pw (Xa.map MO.addr) s s') (hx : ∀ t ∈ X', t.addr ∈ Xa.map MO.addr ∨ s.heap.get? t.addr = none) :
    c.At M' ρ (L ++ (X' ++ R)) s' := by
  have hnd := S.sv.st.ndX
  rw [List.map_append, List.map_append] at hnd
  obtain ⟨n1, n2, n3, n4⟩ := nodup_mid hnd
  have hLR : ∀ t, t ∈ L ∨ t ∈ R → t ∈ L ++ (Xa ++ R) := fun t h => h.elim (fun h => List.mem_append_left _ h) fun h => List.mem_append_right _ (List.mem_append_right _ h)
  have hXa : ∀ t, t ∈ Xa → t ∈ L ++ (Xa ++ R) := fun t h => List.mem_append_right _ (List.mem_append_left _ h)
  have off : ∀ t, t ∈ L ∨ t ∈ R → t.addr ∉ Xa.map MO.addr := fun t h => h.elim (fun h => n1 _ (List.mem_map_of_mem h)) fun h => n2 _ (List.mem_map_of_mem h)
  have hWM : ∀ a ∈ Xa.map MO.addr, a ∈ M := fun a h => by obtain ⟨t, ht, rfl⟩ := List.mem_map.mp h; exact S.sv.st.moM t (hXa t ht)
  have hE : ∀ a ∈ Xa.map MO.addr, a ∉ Wr c.frm := fun a h => by obtain ⟨t, ht, rfl⟩ := List.mem_map.mp h; exact S.sv.ap t (hXa t ht)
  have exN : ∀ t ∈ L ++ (Xa ++ R), ∃ o, s.heap.get? t.addr = some o := fun t ht => (S.sv.st.mo t ht).at_
  refine ⟨⟨⟨S1.base, S1.gens, S1.os, fun t ht => ?_, fun t ht => ?_, ?_, S1.exM, S1.newM⟩, S.sv.eo, ?_, m1.sub _ S.sv.locM, fun p hp => m1.sub _ (S.sv.celM p hp), fun t ht => ?_⟩, fun a h => m1.sub a (S.sub a h), fun a h => ?_, ?_, S.wr, fun t ht => ?_, fun q hq => ?_⟩
  · rcases List.mem_append.mp ht with h | h
    · exact ((S.sv.st.mo t (hLR t (.inl h))).avoid m1.new).kp p1.kp (fun a h => .inl (m1.sub a (hWM a h))) (off t (.inl h))
    · rcases List.mem_append.mp h with h | h
      · exact S1.mo t h
      · exact ((S.sv.st.mo t (hLR t (.inr h))).avoid m1.new).kp p1.kp (fun a h => .inl (m1.sub a (hWM a h))) (off t (.inr h))
  · rcases List.mem_append.mp ht with h | h
    · exact m1.sub _ (S.sv.st.moM t (hLR t (.inl h)))
    · rcases List.mem_append.mp h with h | h
      · exact S1.moM t h
      · exact m1.sub _ (S.sv.st.moM t (hLR t (.inr h)))
  · rw [List.map_append, List.map_append]
    rw [List.nodup_append] at n4
    obtain ⟨k1, k2, k3⟩ := n4
    have key : ∀ a, a ∈ L.map MO.addr ∨ a ∈ R.map MO.addr → a ∉ X'.map MO.addr := fun a ha hb => by
      obtain ⟨t', ht', rfl⟩ := List.mem_map.mp hb
      have ht : ∃ t, (t ∈ L ∨ t ∈ R) ∧ t.addr = t'.addr := ha.elim (fun h => let ⟨t, h1, h2⟩ := List.mem_map.mp h; ⟨t, .inl h1, h2⟩) fun h => let ⟨t, h1, h2⟩ := List.mem_map.mp h; ⟨t, .inr h1, h2⟩
      obtain ⟨t, ht, e⟩ := ht
      rcases hx t' ht' with h | h
      · exact off t ht (e ▸ h)
      · obtain ⟨o, ho⟩ := exN t (hLR t ht)
        rw [e] at ho; cases h.symm.trans ho
    rw [List.nodup_append]
    refine ⟨k1, ?_, fun a ha d hd e => ?_⟩
    · rw [List.nodup_append]
      exact ⟨S1.ndX, k2, fun a ha d hd e => key d (.inr hd) (e ▸ ha)⟩
    · rcases List.mem_append.mp hd with h | h
      · exact key a (.inl ha) (e ▸ h)
      · exact k3 a ha d h e
  · obtain ⟨mm, cm, F, r⟩ := S.sv.fr
    exact ⟨mm, cm, F.kp p1.kp hE, fun p hp => let ⟨v, h1, h2⟩ := r p hp; ⟨v, h1, h2.mv m1⟩⟩
  · rcases List.mem_append.mp ht with h | h
    · exact S.sv.apX t (hLR t (.inl h))
    · rcases List.mem_append.mp h with h | h
      · rcases hx t h with h | h
        · obtain ⟨t', ht', e⟩ := List.mem_map.mp h; rw [← e]; exact S.sv.apX t' (hXa t' ht')
        · refine ⟨fun e => ?_, fun p hp e => ?_⟩
          · obtain ⟨o, ho⟩ := S.sv.st.exM _ S.sv.locM; rw [e] at h; cases h.symm.trans ho
          · obtain ⟨o, ho⟩ := S.sv.st.exM _ (S.sv.celM p hp); rw [e] at ho; cases h.symm.trans ho
      · exact S.sv.apX t (hLR t (.inr h))
  · rcases m1.new a h with h | h
    · exact S.new a h
    · exact .inr (S.fresh h)
  · exact (S.pw.more (W' := c.W ++ Xa.map MO.addr) fun a h => List.mem_append_left _ h).trans (p1.more fun a h => List.mem_append_right _ h) |>.fresh fun a h => (List.mem_append.mp h).elim .inl fun h => by obtain ⟨t, ht, rfl⟩ := List.mem_map.mp h; exact hW t ht
  · rcases List.mem_append.mp ht with h | h
    · exact S.xs t (hLR t (.inl h))
    · rcases List.mem_append.mp h with h | h
      · rcases hx t h with h | h
        · obtain ⟨t', ht', e⟩ := List.mem_map.mp h; rw [← e]; exact S.xs t' (hXa t' ht')
        · exact .inr (S.fresh h)
      · exact S.xs t (hLR t (.inr h))
  · obtain ⟨q1, q2, q3, q4⟩ := S.lk q hq
    refine ⟨p1.kp _ _ (fun h => ?_) q1, m1.sub _ q2, q3, fun t ht => ?_⟩
    · obtain ⟨t, ht, e⟩ := List.mem_map.mp h; exact q4 t (hXa t ht) e
    · rcases List.mem_append.mp ht with h | h
      · exact q4 t (hLR t (.inl h))
      · rcases List.mem_append.mp h with h | h
        · rcases hx t h with h | h
          · obtain ⟨t', ht', e⟩ := List.mem_map.mp h; rw [← e]; exact q4 t' (hXa t' ht')
          · intro e; rw [e] at h; cases h.symm.trans q1
        · exact q4 t (hLR t (.inr h))
/-- a call within a frame: the objects of Xa may change, those around it stay -/
theorem at_call {m : Nat} {M : List Addr} {s : Shared} {L Xa R : List MO} {f : Value} {vs : List Value} {ds : List D} {Q : D → List MO → Prop} (S : c.At M ρ (L ++ (Xa ++ R)) s) (hm : m ≤ n) (hW : ∀ t ∈ Xa, t.addr ∈ c.W ∨ c.s0.heap.get? t.addr = none) (h : Cn b m Xa f ds fun d X' => Q d (L ++ (X' ++ R))) (hv : DpAll M s.heap vs ds) :
    wpAny (Mo b) c.A (call f vs) (EfR c ρ M s Q) noE s := by
  have St0 : St b M Xa s := S.sv.st.sub ((List.sublist_append_left _ _).trans (List.sublist_append_right _ _))
  refine wp_weak (h c.A M s vs (c.rm.mono hm) St0 hv) fun v s' ⟨M', X', d, S1, m1, p1, hx, hd, q⟩ => ⟨M', _, d, at_replace S hW S1 m1 p1 hx, m1, hd, q⟩

/-- arguments, one behind the other -/
noncomputable def Cx.Es (c : Cx b n sc) (ρ : List (Str × D)) (X : List MO) (es : List PySem.Expr) (Q : List D → List MO → Prop) : Prop :=
  ∀ M s pos, c.At M ρ X s → wpAny (Mo b) c.A (spliced (backTo pos (starEach es c.frm))) (EsR c ρ M s Q) noE s
theorem es_pure {es : List PySem.Expr} {ds : List D} {Q : List D → List MO → Prop} (h : Evs b n sc ρ X es ds) (q : Q ds X) : c.Es ρ X es Q := fun M s pos S =>
  wp_weak (h c.A c.frm M s pos c.rm S.sv) fun vs s' ⟨a, p⟩ => ⟨M, X, ds, S.pure p, p.mv, a, q⟩
theorem es_nil {Q : List D → List MO → Prop} (q : Q [] X) : c.Es ρ X [] Q := es_pure evs_nil q
theorem es_cons {e : PySem.Expr} {es : List PySem.Expr} {Q : List D → List MO → Prop} (h : c.Ef ρ X e fun d X1 => c.Es ρ X1 es fun ds X2 => Q (d :: ds) X2)
    (he : ∀ env, starEach (e :: es) env = (false, eval e env) :: starEach es env := by intro _; rfl) : c.Es ρ X (e :: es) Q := fun M s pos S =>
  wpAny_items_cons (wp_weak (h M s S) fun v s₁ ⟨M1, X1, d, S1, m1, a1, h1⟩ => wp_weak (h1 M1 s₁ pos S1) fun vs s₂ ⟨M2, X2, ds, S2, m2, a2, q⟩ => ⟨M2, X2, d :: ds, S2, m1.trans m2, .cons (a1.mv m2) a2, q⟩) (he _)
theorem ef_args {M : List Addr} {s : Shared} {f : Value} {pos : Pos} {es : List PySem.Expr} {Q : List D → List MO → Prop} (S : c.At M ρ X s) (h : c.Es ρ X es Q) (hp : plainArgs es = true) :
    wpAny (Mo b) c.A (evalArgs f true (backTo pos (starEach es c.frm)) []) (fun a s' => ∃ vs, a = ⟨vs, []⟩ ∧ EsR c ρ M s Q vs s') noE s := by
  have h' := h M s pos S
  cases es with
  | nil =>
    have h'' : wpAny (Mo b) c.A (spliced []) (EsR c ρ M s Q) noE s := h'
    show wpAny _ _ (evalArgs f true [] []) _ _ _
    unfold evalArgs
    show wpAny _ _ (spliced [] >>= _) _ _ _
    refine wpAny_bind (wp_weak h'' fun vs s' q => ?_)
    first
      | (refine wpAny_bind (wpAny_pure ?_); refine wpAny_holding ?_; exact wpAny_bind (wpAny_pure (wpAny_bind (wpAny_pure (wpAny_pure ⟨vs, rfl, q⟩)))))
      | (refine wpAny_holding ?_; exact wpAny_bind (wpAny_pure (wpAny_bind (wpAny_pure (wpAny_pure ⟨vs, rfl, q⟩)))))
  | cons e r =>
    rw [plain_cons hp] at h' ⊢
    exact Calls.evalArgs_plain (wp_weak h' fun vs s' q => ⟨vs, rfl, q⟩)
theorem ef_callWith {M : List Addr} {s : Shared} {f : Value} {pos : Pos} {first : List Value} {es : List PySem.Expr} {Q : List D → List MO → Prop} {Q' : Value → Shared → Prop} (S : c.At M ρ X s) (ke : Ke b f) (h : c.Es ρ X es Q) (hp : plainArgs es = true)
    (k : ∀ vs s' M' X' ds, c.At M' ρ X' s' → Mv M s M' s' → DpAll M' s'.heap vs ds → Q ds X' → wpAny (Mo b) c.A (call f (first ++ vs)) Q' noE s') :
    wpAny (Mo b) c.A (callWith pos f first (backTo pos (starEach es c.frm)) []) Q' noE s := by
  refine callWith_of (P := fun h => Kp [] b.B h) (by rw [plain_any hp]; rfl) (fun h q => ke h q) (wp_weak (ef_args (pos := pos) S h hp) fun a s' ⟨vs, e, M', X', ds, S', m, d, q⟩ => ?_)
  subst e
  exact ⟨S'.sv.st.base, k vs s' M' X' ds S' m d q⟩
/-- what a call of f with these does, within the objects X -/
inductive Cx.Cl (c : Cx b n sc) (f : Value) (ds : List D) (X : List MO) (Q : D → List MO → Prop) : Prop
  | cn (m : Nat) (L Xa R : List MO) (e : X = L ++ (Xa ++ R)) (hm : m ≤ n) (hW : ∀ t ∈ Xa, t.addr ∈ c.W ∨ c.s0.heap.get? t.addr = none) (h : Cn b m Xa f ds fun d X' => Q d (L ++ (X' ++ R)))
  | fn (m : Nat) (X' : List MO) (d : D) (hX : X'.Sublist X) (hm : m ≤ n) (h : Fn b m X' f ds d) (q : Q d X)
theorem cl_fn {m : Nat} {f : Value} {ds : List D} {d : D} (X' : List MO) {Q : D → List MO → Prop} (h : Fn b m X' f ds d) (hm : m ≤ n) (hX : X'.Sublist X) (q : Q d X) : c.Cl f ds X Q := .fn m X' d hX hm h q
theorem cl_cn {m : Nat} {f : Value} {ds : List D} (L Xa R : List MO) {Q : D → List MO → Prop} (h : Cn b m Xa f ds fun d X' => Q d (L ++ (X' ++ R))) (hm : m ≤ n) (hW : ∀ t ∈ Xa, t.addr ∈ c.W ∨ c.s0.heap.get? t.addr = none) (e : X = L ++ (Xa ++ R) := by rfl) : c.Cl f ds X Q := .cn m L Xa R e hm hW h
theorem at_cl {M : List Addr} {s : Shared} {f : Value} {vs : List Value} {ds : List D} {Q : D → List MO → Prop} (S : c.At M ρ X s) (h : c.Cl f ds X Q) (hv : DpAll M s.heap vs ds) :
    wpAny (Mo b) c.A (call f vs) (EfR c ρ M s Q) noE s := by
  cases h with
  | cn m L Xa R e hm hW hc => subst e; exact at_call S hm hW hc hv
  | fn m X' d hX hm hf q => exact wp_weak (hf c.A M s vs (c.rm.mono hm) (S.sv.st.sub hX) hv) fun v s₃ ⟨a3, p3⟩ => ⟨M, X, d, S.pure p3, p3.mv, a3, q⟩
theorem ef_call {func : PySem.Expr} {es : List PySem.Expr} {pos : Pos} {f : Value} {Q : D → List MO → Prop} (h1 : Ev b n sc ρ X func (.raw f)) (ke : Ke b f) (h2 : c.Es ρ X es fun ds X1 => c.Cl f ds X1 Q) (hp : plainArgs es = true := by rfl)
    (he : ∀ env, eval (.Call func es [] pos) env = (do callWith pos (← eval func env) [] (backTo pos (starEach es env)) []) := by intro _; rfl) : c.Ef ρ X (.Call func es [] pos) Q := fun M s S => by
  rw [he]
  refine wpAny_bind (wp_weak (h1 c.A c.frm M s c.rm S.sv) fun v s₁ ⟨a1, p1⟩ => ?_)
  obtain rfl : v = f := a1
  refine ef_callWith (S.pure p1) ke h2 hp fun vs s₂ M2 X2 ds S2 m2 d2 hc => ?_
  exact wp_weak (at_cl S2 hc d2) fun v s₃ ⟨M3, X3, d, S3, m3, a3, q⟩ => ⟨M3, X3, d, S3, (p1.mv.trans m2).trans m3, a3, q⟩

/-- a loop over what an iterator gives -/
theorem ItAt.mv {M M' : List Addr} {s s' : Shared} {I : Addr} {ds : List D} (x : ItAt M s.heap I ds) (m : Mv M s M' s') (e : s'.heap.get? I = s.heap.get? I) : ItAt M' s'.heap I ds := by
  have hW : ∀ {a}, a ∉ M → ∀ {o}, s.heap.get? a = some o → a ∉ M' ∧ s'.heap.get? a = some o := fun h o ho => ⟨fun q => (m.new _ q).elim h fun z => (by cases z.symm.trans ho), m.pw.kp _ _ h ho⟩
  have hR : ∀ {vs : List Value} {xs : List PyData}, RpAll M s.heap vs xs → RpAll M' s'.heap vs xs := fun r => (r.avoid m.new).kp m.pw.kp fun a h => .inl (m.sub a h)
  rcases x with ⟨l, vs, n, xs, i, h1, ⟨oo, e1, r1⟩, m1, ne, r, q⟩ | ⟨l, vs, n, xs, i, h1, ⟨oo, e1, r1⟩, m1, ne, r, q⟩ | ⟨x, k, e1, q⟩
  · exact .inl ⟨l, vs, n, xs, i, (hW m1 h1).2, ⟨oo, e.trans e1, r1⟩, (hW m1 h1).1, ne, hR r, q⟩
  · exact .inr (.inl ⟨l, vs, n, xs, i, (hW m1 h1).2, ⟨oo, e.trans e1, r1⟩, (hW m1 h1).1, ne, hR r, q⟩)
  · exact .inr (.inr ⟨x, k, e.trans e1, q⟩)
noncomputable abbrev Cx.lock (c : Cx b n sc) (l : List (Addr × Obj)) : Cx b n sc := { c with lk := l }
theorem at_turn {I : Addr} {o o' : Obj} {M : List Addr} {s s' : Shared} (S : (c.lock ((I, o) :: c.lk)).At M ρ X s) (h0 : c.s0.heap.get? I = none) (hl : ∀ q ∈ c.lk, q.1 ≠ I) (p : Pw [I] s s') (e : s'.heap.get? I = some o') : (c.lock ((I, o') :: c.lk)).At M ρ X s' := by
  obtain ⟨h1, h2, h3, h4⟩ := S.lk (I, o) List.mem_cons_self
  have hW : ∀ a ∈ [I], a ∈ M ∨ s.heap.get? a = none := fun a q => .inl (by rw [List.mem_singleton.mp q]; exact h2)
  refine ⟨S.sv.kp p hW (fun t ht q => h4 t ht (List.mem_singleton.mp q)) (fun a q => ⟨o', by rw [List.mem_singleton.mp q]; exact e⟩) (fun a q => by rw [List.mem_singleton.mp q]; exact h3), S.sub, S.new, ?_, S.wr, S.xs, fun q hq => ?_⟩
  · exact (S.pw.more (W' := c.W ++ [I]) fun a h => List.mem_append_left _ h).trans (p.more fun a h => List.mem_append_right _ h) |>.fresh fun a h => (List.mem_append.mp h).imp id fun h => by rw [List.mem_singleton.mp h]; exact h0
  · rcases List.mem_cons.mp hq with rfl | hq
    · exact ⟨e, h2, h3, h4⟩
    · obtain ⟨k1, k2⟩ := S.lk q (List.mem_cons_of_mem _ hq)
      exact ⟨p.kp _ _ (fun z => hl q hq (List.mem_singleton.mp z)) k1, k2⟩
theorem at_end {I : Addr} {o : Obj} {M : List Addr} {s s' : Shared} (S : (c.lock ((I, o) :: c.lk)).At M ρ X s) (h0 : c.s0.heap.get? I = none) (hM0 : I ∉ c.M0) (hl : ∀ q ∈ c.lk, q.1 ≠ I) (p : Pw [I] s s') : c.At (M.filter (· != I)) ρ X s' := by
  obtain ⟨h1, h2, h3, h4⟩ := S.lk (I, o) List.mem_cons_self
  have hm : ∀ a, a ∈ M.filter (· != I) ↔ a ∈ M ∧ a ≠ I := fun a => by simp
  have hW : ∀ a ∈ [I], a ∈ M ∨ s.heap.get? a = none := fun a h => .inl (by rw [List.mem_singleton.mp h]; exact h2)
  have hs : ∀ {h : Heap}, ∀ a ∈ M.filter (· != I), a ∈ M ∨ h.get? a = none := fun a h => .inl ((hm a).mp h).1
  refine ⟨⟨⟨fun a o _ e => p.kp a o (fun q => ?_) (S.sv.st.base.all a o e), p.gens.trans S.sv.st.gens, p.os.trans S.sv.st.os, fun t ht => ((S.sv.st.mo t ht).kp p.kp hW fun q => h4 t ht (List.mem_singleton.mp q)).avoid hs, fun t ht => (hm _).mpr ⟨S.sv.st.moM t ht, h4 t ht⟩, S.sv.st.ndX, fun a ha => ?_, fun a ha => S.sv.st.newM a ((hm a).mp ha).1⟩, S.sv.eo, ?_, (hm _).mpr ⟨S.sv.locM, fun q => h3 (q ▸ List.mem_cons_self)⟩, fun q hq => (hm _).mpr ⟨S.sv.celM q hq, fun z => h3 (z ▸ List.mem_cons_of_mem _ (List.mem_map_of_mem hq))⟩, S.sv.apX⟩, fun a h => (hm a).mpr ⟨S.sub a h, fun q => hM0 (q ▸ h)⟩, fun a h => S.new a ((hm a).mp h).1, ?_, S.wr, S.xs, fun q hq => ?_⟩
  · rw [List.mem_singleton.mp q] at e; cases (S.sv.st.newM I h2).symm.trans e
  · obtain ⟨o, e⟩ := S.sv.st.exM a ((hm a).mp ha).1; exact ⟨o, p.kp a o (fun q => ((hm a).mp ha).2 (List.mem_singleton.mp q)) e⟩
  · obtain ⟨mm, cm, f, r⟩ := S.sv.fr
    exact ⟨mm, cm, f.kp p.kp (fun a h q => h3 (List.mem_singleton.mp h ▸ q)), fun q hq => let ⟨v, h1, h2⟩ := r q hq; ⟨v, h1, (h2.kp p.kp hW).avoid hs⟩⟩
  · exact (S.pw.more (W' := c.W ++ [I]) fun a h => List.mem_append_left _ h).trans (p.more fun a h => List.mem_append_right _ h) |>.fresh fun a h => (List.mem_append.mp h).imp id fun h => by rw [List.mem_singleton.mp h]; exact h0
  · obtain ⟨k1, k2, k3, k4⟩ := S.lk q (List.mem_cons_of_mem _ hq)
    exact ⟨p.kp _ _ (fun z => hl q hq (List.mem_singleton.mp z)) k1, (hm _).mpr ⟨k2, hl q hq⟩, k3, k4⟩
theorem at_unlock {l : List (Addr × Obj)} {M : List Addr} {s : Shared} (S : (c.lock (l ++ c.lk)).At M ρ X s) : c.At M ρ X s :=
  ⟨S.sv, S.sub, S.new, S.pw, S.wr, S.xs, fun q hq => S.lk q (List.mem_append_right _ hq)⟩
inductive FoI {α : Type} {b : Bas} {n : Nat} {sc : Scope} (c : Cx b n sc) (items : List α) (g : α → D) (Inv : List α → List α → List (Str × D) → List MO → Prop) (M : List Addr) (s : Shared) (I : Addr) (k : Nat) (s' : Shared) : Prop
  | mk (done rest : List α) (M' : List Addr) (ρ' : List (Str × D)) (X' : List MO) (o : Obj) (e1 : items = done ++ rest) (e2 : k = rest.length) (S : (c.lock ((I, o) :: c.lk)).At M' ρ' X' s') (m : Mv M s M' s') (it : ItAt M' s'.heap I (rest.map g)) (inv : Inv done rest ρ' X') : FoI c items g Inv M s I k s'
theorem do_for {α : Type} {tgt iter : PySem.Expr} {body : List Stmt} {pos : Pos} {Q : List (Str × D) → List MO → Fl → Prop} {d : D} (ns : List Str) (items : List α) (g : α → D) (Inv : List α → List α → List (Str × D) → List MO → Prop)
    (h1 : Ev b n sc ρ X iter d) (hi : Iter d (items.map g)) (h0 : Inv [] items ρ X)
    (turn : ∀ lk' done a rest ρ1 X1, items = done ++ a :: rest → Inv done (a :: rest) ρ1 X1 → ∃ ρ2, Asg b sc X1 ns tgt (g a) ρ1 ρ2 ∧ Cx.Go (c.lock lk') ρ2 X1 body fun ρ' X' fl => match fl with | .nxt => Inv (done ++ [a]) rest ρ' X' | .ret d => Q ρ' X' (.ret d))
    (fin : ∀ ρ' X', Inv items [] ρ' X' → Q ρ' X' .nxt) (hs : ∀ env x, foldedSetIterable iter env x = pure x := by intro _ _; rfl) : c.Do ρ X (.For tgt iter body [] pos) Q := fun M s S => by
  refine wpAny_For (wp_weak (h1 c.A c.frm M s c.rm S.sv) fun v s₁ ⟨rv, p1⟩ => ?_) (hs _)
  have S1 := S.pure p1
  refine wp_weak (iter_of S1.sv.st hi rv) fun it s₂ ⟨I, hI, hnew, hit, p2⟩ => ?_
  subst hI
  have hnew0 := S1.fresh hnew
  have hIM : I ∉ M := fun q => by obtain ⟨o, h⟩ := S1.sv.st.exM _ q; cases hnew.symm.trans h
  have hIM0 : I ∉ c.M0 := fun q => hIM (S.sub _ q)
  have hl : ∀ q ∈ c.lk, q.1 ≠ I := fun q hq z => hIM (z ▸ (S.lk q hq).2.1)
  obtain ⟨o2, ho2⟩ := hit.ex
  have p12 := p1.trans p2
  have S2 : (c.lock ((I, o2) :: c.lk)).At (I :: M) ρ X s₂ := by
    have S' := S1.pure p2
    refine ⟨S1.sv.grow p2 hnew hit.ex, fun a h => List.mem_cons_of_mem _ (S.sub a h), fun a h => (List.mem_cons.mp h).elim (fun q => .inr (q ▸ hnew0)) (S.new a), S'.pw, S.wr, S.xs, fun q hq => ?_⟩
    rcases List.mem_cons.mp hq with rfl | hq
    · exact ⟨ho2, List.mem_cons_self, fun q => hIM (S.sv.wrM _ q), fun t ht q => hIM ((show t.addr = I from q) ▸ S.sv.st.moM t ht)⟩
    · obtain ⟨k1, k2, k3⟩ := S'.lk q hq; exact ⟨k1, List.mem_cons_of_mem _ k2, k3⟩
  have m2 : Mv M s (I :: M) s₂ := ⟨fun a h => List.mem_cons_of_mem _ h, fun a h => (List.mem_cons.mp h).elim (fun q => .inr (q ▸ fresh_of p1 hnew)) .inl, p12.pw⟩
  refine codeAny_forLoop_any (FoI c items g Inv M s I) ?_ _ ⟨[], items, I :: M, ρ, X, o2, rfl, rfl, S2, m2, hit, h0⟩
  rintro k s₃ ⟨done, rest, M3, ρ3, X3, o3, rfl, rfl, S3, m3, hit3, inv3⟩
  obtain ⟨l1, l2, l3, l4⟩ := S3.lk (I, o3) List.mem_cons_self
  cases rest with
  | nil =>
    refine wp_weak (next_nil hit3 c.rm) fun r s₄ ⟨hr, p4⟩ => ?_
    subst hr
    refine wpAny_execs_nil ?_
    have S4 := at_end S3 hnew0 hIM0 hl p4
    refine ⟨_, ρ3, X3, S4, ⟨fun a h => List.mem_filter.mpr ⟨m3.sub a h, by simpa using fun q : a = I => hIM (q ▸ h)⟩, fun a h => m3.new a (List.mem_filter.mp h).1, ?_⟩, fin _ _ (by simpa using inv3)⟩
    exact (m3.pw.more (W' := I :: M) fun a h => List.mem_cons_of_mem _ h).trans (p4.more (by simp)) |>.fresh fun a h => (List.mem_cons.mp h).elim (fun q => .inr (q ▸ fresh_of p1 hnew)) .inl
  | cons a rest =>
    refine wp_weak (next_cons hit3 l2) fun r s₄ ⟨v, hr, rv, hit4, p4⟩ => ?_
    subst hr
    obtain ⟨o4, ho4⟩ := hit4.ex
    have S4 := at_turn S3 hnew0 hl p4 ho4
    have m4 : Mv M s M3 s₄ := m3.trans ⟨fun _ h => h, fun _ h => .inl h, p4.more fun c h => by rw [List.mem_singleton.mp h]; exact l2⟩
    refine owned_go hit4 ?_
    obtain ⟨ρ2, ha, hg⟩ := turn ((I, o4) :: c.lk) done a rest ρ3 X3 rfl inv3
    refine wp_weak (ha c.A n c.frm M3 s₄ v c.rm S4.sv rv) fun _ s₅ ⟨V5, p5⟩ => ?_
    have S5 := at_put S4 V5 (p5.more wn_wr)
    have m5 := m4.trans (mv_put S4 (p5.more wn_wr))
    have w5 : ∀ a ∈ Wn c.frm ns, a ∈ M3 ∨ s₄.heap.get? a = none := fun a h => .inl (S4.sv.wrM a (wn_wr a h))
    have hit5 := hit4.kp p5.kp w5 fun q => l3 (wn_wr _ q)
    refine wp_weak (hg M3 s₅ S5) fun f s₆ ⟨M6, ρ6, X6, S6, q6⟩ => ?_
    cases f with
    | next =>
      obtain ⟨m6, inv6⟩ := q6
      refine ⟨rest.length, by simp, done ++ [a], rest, M6, ρ6, X6, o4, by simp, rfl, S6, m5.trans m6, ?_, inv6⟩
      exact hit5.mv m6 (((S6.lk _ List.mem_cons_self).1).trans ((S5.lk _ List.mem_cons_self).1).symm)
    | ret v => obtain ⟨d, h1, h2⟩ := q6; exact ⟨M6, ρ6, X6, at_unlock (l := [(I, o4)]) S6, d, h1, h2⟩
    | brk => exact q6.elim
    | cont => exact q6.elim
end

theorem bindL_off {kindOf : Str → Option NameKind} : ∀ {binds : List (Str × Value)} {m : Str → Option Value} {x : Str}, x ∉ binds.map (·.1) → bindL kindOf binds m x = m x
  | [], _, _, _ => rfl
  | (n, v) :: r, m, x, h => by
    rw [bindL, bindL_off fun q => h (List.mem_cons_of_mem _ q)]
    split
    · have : x ≠ n := fun q => h (q ▸ List.mem_cons_self)
      simp [this]
    · rfl
theorem bindL_on {kindOf : Str → Option NameKind} : ∀ {binds : List (Str × Value)} {m : Str → Option Value} {x : Str} {v : Value}, (binds.map (·.1)).Nodup → (x, v) ∈ binds → kindOf x = some .local → bindL kindOf binds m x = some v
  | (n, w) :: r, m, x, v, hn, h, hk => by
    rw [List.map_cons, List.nodup_cons] at hn
    rcases List.mem_cons.mp h with e | h
    · cases e
      rw [bindL, bindL_off hn.1, if_pos hk]; simp
    · rw [bindL]; exact bindL_on hn.2 h hk
theorem bindC_off {kindOf : Str → Option NameKind} : ∀ {binds : List (Str × Value)} {m : Str → Option Value} {x : Str}, x ∉ binds.map (·.1) → bindC kindOf binds m x = m x
  | [], _, _, _ => rfl
  | (n, v) :: r, m, x, h => by
    rw [bindC, bindC_off fun q => h (List.mem_cons_of_mem _ q)]
    split
    · rfl
    · have : x ≠ n := fun q => h (q ▸ List.mem_cons_self)
      simp [this]
theorem bindC_on {kindOf : Str → Option NameKind} {binds : List (Str × Value)} {m : Str → Option Value} {x : Str} {v : Value} (hn : (binds.map (·.1)).Nodup) (h : (x, v) ∈ binds) (hk : kindOf x = some .cell) : bindC kindOf binds m x = some v := by
  induction binds generalizing m with
  | nil => cases h
  | cons p r ih =>
    obtain ⟨n, w⟩ := p
    rw [List.map_cons, List.nodup_cons] at hn
    rcases List.mem_cons.mp h with e | h
    · cases e
      rw [bindC, bindC_off hn.1, if_neg (by rw [hk]; decide)]; simp
    · rw [bindC]; exact ih hn.2 h
/-- what a function's scope must be -/
noncomputable def DefOk (sc : Scope) (names : List Str) : Bool :=
  sc.kind == .function && (sc.names.map (·.1)).Nodup && names.Nodup && !sc.isCoroutine && !sc.isGenerator && (names.all fun x => Own sc x) && sc.names.all fun p => p.2 != .free
theorem zip_map_fst {α : Type} : ∀ {xs : List Str} {vs : List α}, xs.length = vs.length → (xs.zip vs).map (·.1) = xs
  | [], _, _ => rfl
  | _ :: _, [], h => by cases h
  | x :: xs, v :: vs, h => by rw [List.zip_cons_cons, List.map_cons, zip_map_fst (by simpa using h)]
theorem zip_dp {M : List Addr} {h : Heap} {xs : List Str} {vs : List Value} {ds : List D} {p : Str × D} (x : DpAll M h vs ds) (hl : xs.length = ds.length) (hp : p ∈ xs.zip ds) : ∃ v, (p.1, v) ∈ xs.zip vs ∧ Dp M h v p.2 := by
  induction xs generalizing vs ds with
  | nil => cases hp
  | cons n xs ih =>
    cases x with
    | nil => cases hl
    | cons a r =>
      rcases List.mem_cons.mp (List.zip_cons_cons ▸ hp) with rfl | hp
      · exact ⟨_, List.mem_cons_self, a⟩
      · exact (ih r (Nat.succ.inj hl) hp).elim fun w q => ⟨w, List.mem_cons_of_mem _ q.1, q.2⟩
theorem DpAll.length {M : List Addr} {h : Heap} : ∀ {vs : List Value} {ds : List D}, DpAll M h vs ds → vs.length = ds.length
  | _, _, .nil => rfl
  | _, _, .cons _ r => by rw [List.length_cons, List.length_cons, DpAll.length r]
structure DefS (sc : Scope) (names : List Str) : Prop where
  k : sc.kind = .function
  nd : (sc.names.map (·.1)).Nodup
  nn : names.Nodup
  co : sc.isCoroutine = false
  gen : sc.isGenerator = false
  own : ∀ x ∈ names, Own sc x = true
  free : ∀ p ∈ sc.names, p.2 ≠ .free
theorem DefOk.spec {sc : Scope} {names : List Str} (hok : DefOk sc names = true) : DefS sc names := by
  unfold DefOk at hok
  simp only [Bool.and_eq_true] at hok
  obtain ⟨⟨⟨⟨⟨⟨h1, h2⟩, h3⟩, h4⟩, h5⟩, h6⟩, h7⟩ := hok
  exact ⟨by simpa using h1, by simpa using h2, by simpa using h3, by simpa using h4, by simpa using h5, fun x hx => List.all_eq_true.mp h6 x hx, fun p hp => by simpa using List.all_eq_true.mp h7 p hp⟩
/-- the entry of a function of the program's own -/
theorem fn_enterC {b : Bas} {n : Nat} {X : List MO} {a : Addr} {fd : FuncData} {body : List Stmt} {names : List Str} {ds : List D} {A : Around} {M : List Addr} {s : Shared} {vs : List Value} (W : List Addr) {Q : D → List MO → Prop} (F : FnAt b a fd) (hbody : fd.body = .stmts body) (hclo : fd.closure = []) (hg : fd.globals = mainGlobals) (hb : fd.builtins = builtinsNs)
    (hok : DefOk fd.scope names = true) (hlen : names.length = ds.length) (hbind : ∀ vs : List Value, vs.length = names.length → bindArgs fd ⟨vs, []⟩ = pure (names.zip vs)) (R : Rm (n + 1) A) (S : St b M X s) (hv : DpAll M s.heap vs ds) (hWM : ∀ a ∈ W, a ∈ M)
    (h : ∀ c : Cx b n fd.scope, c.V = X.map MO.addr → c.W = W → c.Go (names.zip ds) X body fun _ X' fl => Q fl.res X') :
    codeAny (Mo b) A (.call (.ref a) ⟨vs, []⟩) (fun r s' => match r with | .ok (.ret v) => CnR b X W Q M s v s' | .ok _ => False | .error e => noE e s') s := by
  obtain ⟨hk, hnd, hnn, hco, hgen, hown, hfree⟩ := DefOk.spec hok
  have hvl := hv.length
  have hnv : names.length = vs.length := hlen.trans hvl.symm
  have hcell : ∀ lo x, fd.scope.names.lookup x = some .cell → ((cellsFrom lo fd.scope.names []).lookup x).isSome = true := fun lo x hx => by
    obtain ⟨c, hc⟩ := cellsFrom_has (n := lo) (acc := []) (mem_of_lookup hx)
    obtain ⟨c', hc'⟩ := lookup_some_of_mem hc
    rw [hc']; rfl
  have hkinds : ∀ x ∈ names, fd.scope.names.lookup x = some .local ∨ (fd.scope.names.lookup x = some .cell ∧ (x == ("__classdict__" : Str)) = false) := fun x hx => by
    have := hown x hx
    unfold Own at this
    split at this
    · rename_i q; exact .inl q
    · rename_i q; exact .inr ⟨q, by simpa using this⟩
    · cases this
  refine codeAny_mono (codeAny_call_cells (R := fun r s' => match r with | .ok (.ret v) => CnR b X W Q M s v s' | .ok _ => False | .error e => noE e s') R.lim (S.base.all _ _ F.at_) rfl S.lim (F.code.keeps S.base.all) hbody (hbind vs hnv.symm) hclo (fun x hx => ?_) (fun s₁ x => ?_) hco hgen hk) ?_
  · have hx' : x.1 ∈ names := by rw [← zip_map_fst hnv]; exact List.mem_map_of_mem hx
    rcases hkinds x.1 hx' with q | ⟨q, _⟩
    · exact .inl q
    · exact .inr ⟨q, hcell _ _ q⟩
  · generalize hfrm : callEnvC fd s.heap.objs.size a = frm at x ⊢
    have f1 : frm.locals = s.heap.objs.size := by rw [← hfrm]; rfl
    have f2 : frm.cells = cellsFrom (s.heap.objs.size + 1) fd.scope.names [] := by rw [← hfrm]; rfl
    have f3 : frm.scope = fd.scope := by rw [← hfrm]; rfl
    have f4 : frm.globals = mainGlobals := by rw [← hfrm, ← hg]; rfl
    have f5 : frm.builtins = builtinsNs := by rw [← hfrm, ← hb]; rfl
    have p : Pr s s₁ := by
      obtain ⟨h', tk, e⟩ := x.toInCall.same
      exact ⟨Kp.of x.toInCall.keep, by rw [e], by rw [e]⟩
    have hnew : ∀ a ∈ Wr frm, s.heap.get? a = none := fun a h => by
      rcases List.mem_cons.mp h with q | q
      · rw [q, f1]; exact none_at (Nat.le_refl _)
      · obtain ⟨q, hq, e⟩ := List.mem_map.mp q
        have := x.above q.1 q.2 hq
        rw [f1] at this
        exact none_at (by rw [← e]; exact Nat.le_of_lt this)
    have hex : ∀ a ∈ Wr frm, ∃ o, s₁.heap.get? a = some o := fun a h => by
      rcases List.mem_cons.mp h with q | q
      · obtain ⟨o, _, _, e, _⟩ := x.toInCall.ns; exact ⟨o, q ▸ e⟩
      · obtain ⟨q, hq, e⟩ := List.mem_map.mp q
        obtain ⟨a', h'⟩ := lookup_some_of_mem (x := q.1) (a := q.2) hq
        have e2 : a' = q.2 := by
          have hd : (frm.cells.map (·.1)).Nodup := by
            rw [f2]
            have key : ∀ (names : List (Str × NameKind)) (lo : Nat) (acc : List (Str × Addr)), (names.map (·.1)).Nodup → (acc.map (·.1)).Nodup → (∀ p ∈ acc, p.1 ∉ names.map (·.1)) → ((cellsFrom lo names acc).map (·.1)).Nodup := by
              intro names
              induction names with
              | nil => intro _ _ _ h _; exact h
              | cons p r ih =>
                obtain ⟨y, k⟩ := p
                intro lo acc h1 h2 h3
                rw [List.map_cons, List.nodup_cons] at h1
                unfold cellsFrom
                split
                · refine ih _ _ h1.2 ?_ ?_
                  · rw [List.map_cons, List.nodup_cons]
                    exact ⟨fun q => by obtain ⟨z, hz, e⟩ := List.mem_map.mp q; exact h3 z hz (by rw [e]; exact List.mem_cons_self), h2⟩
                  · intro z hz
                    rcases List.mem_cons.mp hz with rfl | hz
                    · exact h1.1
                    · exact fun q => h3 z hz (List.mem_cons_of_mem _ q)
                · exact ih _ _ h1.2 h2 fun z hz q => h3 z hz (List.mem_cons_of_mem _ q)
            exact key _ _ [] hnd List.nodup_nil fun _ h => nomatch h
          have := lookup_of_mem hd (x := q.1) (a := q.2) hq
          rw [h'] at this; exact Option.some.inj this
        obtain ⟨o, ho, _⟩ := x.cell q.1 a' h'
        exact ⟨o, by rw [← e, ← e2]; exact ho⟩
    have hM : ∀ a ∈ Wr frm ++ M, a ∈ M ∨ s.heap.get? a = none := fun a h => (List.mem_append.mp h).elim (fun q => .inr (hnew a q)) .inl
    have mM : ∀ a ∈ M, a ∈ Wr frm ++ M := fun a h => List.mem_append_right _ h
    let c : Cx b n fd.scope := ⟨A.deeper frm, frm, M, s, X.map MO.addr, W, R.deeper, hWM, [], S.exM⟩
    have S1 : c.At (Wr frm ++ M) (names.zip ds) X s₁ := by
      refine ⟨⟨⟨S.base.trans p.kp, p.gens.trans S.gens, p.os.trans S.os, fun t ht => ((S.mo t ht).avoid hM).keep p.kp, fun t ht => mM _ (S.moM t ht), S.ndX, fun a ha => ?_, fun a ha => ?_⟩, ⟨f3, hk, f4, f5, x.apart, fun n a h => Nat.ne_of_gt (x.above n a h), fun y hy => ?_⟩, ⟨_, _, ⟨x.toInCall.ns, fun n a h => x.cell n a h⟩, fun q hq => ?_⟩, List.mem_append_left _ List.mem_cons_self, fun q hq => List.mem_append_left _ (List.mem_cons_of_mem _ (List.mem_map_of_mem hq)), fun t ht => ?_⟩, mM, hM, p.pw, hnew, fun t ht => .inl (List.mem_map_of_mem ht), fun _ h => nomatch h⟩
      · rcases List.mem_append.mp ha with h | h
        · exact hex a h
        · obtain ⟨o, e⟩ := S.exM a h; exact ⟨o, p.kp.all _ _ e⟩
      · rcases hM a ha with h | h
        · exact S.newM a h
        · cases q : b.B.get? a with
          | none => rfl
          | some o => cases h.symm.trans (S.base.all _ _ q)
      · rcases hy with h | h
        · rw [f2]; exact hcell _ _ h
        · exact absurd rfl (hfree _ (mem_of_lookup h))
      · obtain ⟨v, hv1, hv2⟩ := zip_dp hv hlen hq
        have hq' : q.1 ∈ names := by rw [← zip_map_fst hnv]; exact List.mem_map_of_mem (f := (·.1)) hv1
        have hkf : ∀ y, frm.kindOf y = fd.scope.names.lookup y := fun y => by unfold Env.kindOf; rw [f3]
        have hz : ((names.zip vs).map (·.1)).Nodup := by rw [zip_map_fst hnv]; exact hnn
        refine ⟨v, ?_, (hv2.avoid hM).keep p.kp⟩
        rcases hkinds q.1 hq' with h | ⟨h, h'⟩
        · exact .inl ⟨(hkf _).trans h, bindL_on hz hv1 ((hkf _).trans h)⟩
        · exact .inr ⟨.inl ((hkf _).trans h), h', by rw [f2]; exact hcell _ _ h, bindC_on hz hv1 ((hkf _).trans h)⟩
      · obtain ⟨o, e⟩ := (S.mo t ht).at_
        have this : t.addr ∉ Wr frm := fun q => by cases (hnew _ q).symm.trans e
        exact ⟨fun q => this (q ▸ List.mem_cons_self), fun q hq z => this (z ▸ List.mem_cons_of_mem _ (List.mem_map_of_mem hq))⟩
    refine wp_weak (h c rfl rfl _ _ S1) fun f s₂ ⟨M2, ρ2, X2, S2, q2⟩ => ?_
    have hmv : Mv M s M2 s₂ := ⟨S2.sub, S2.new, S2.pw.more hWM⟩
    cases f with
    | next => exact ⟨M2, X2, .none, S2.sv.st, hmv, S2.pw, S2.xs, .none, q2.2⟩
    | ret v => obtain ⟨d, h1, h2⟩ := q2; exact ⟨M2, X2, d, S2.sv.st, hmv, S2.pw, S2.xs, h1, h2⟩
    | brk => exact q2.elim
    | cont => exact q2.elim
  · rintro r s' hr
    exact hr

theorem fn_enter {b : Bas} {n : Nat} {X : List MO} {a : Addr} {fd : FuncData} {body : List Stmt} {names : List Str} {ds : List D} {A : Around} {M : List Addr} {s : Shared} {vs : List Value} (W : List Addr) {Q : D → List MO → Prop} (F : FnAt b a fd) (hbody : fd.body = .stmts body) (hclo : fd.closure = []) (hg : fd.globals = mainGlobals) (hb : fd.builtins = builtinsNs)
    (hok : DefOk fd.scope names = true) (hlen : names.length = ds.length) (hbind : ∀ vs : List Value, vs.length = names.length → bindArgs fd ⟨vs, []⟩ = pure (names.zip vs)) (R : Rm (n + 1) A) (S : St b M X s) (hv : DpAll M s.heap vs ds) (hWM : ∀ a ∈ W, a ∈ M)
    (h : ∀ c : Cx b n fd.scope, c.V = X.map MO.addr → c.W = W → c.Go (names.zip ds) X body fun _ X' fl => Q fl.res X') :
    wpAny (Mo b) A (call (.ref a) vs) (CnR b X W Q M s) noE s :=
  wpAny_call (codeAny_mono (fn_enterC W F hbody hclo hg hb hok hlen hbind R S hv hWM h) fun r s' hr => hr)
/-- a function that changes nothing that stood -/
theorem fn_def {b : Bas} {n : Nat} {X : List MO} {a : Addr} {fd : FuncData} {body : List Stmt} (names : List Str) {ds : List D} {r : D} (F : FnAt b a fd) (hbody : fd.body = .stmts body) (hclo : fd.closure = []) (hg : fd.globals = mainGlobals) (hb : fd.builtins = builtinsNs)
    (hok : DefOk fd.scope names = true) (hlen : names.length = ds.length) (hbind : ∀ vs : List Value, vs.length = names.length → bindArgs fd ⟨vs, []⟩ = pure (names.zip vs))
    (h : ∀ c : Cx b n fd.scope, c.W = [] → c.Go (names.zip ds) X body fun _ _ fl => fl.res = r) : Fn b (n + 1) X (.ref a) ds r := fun A M s vs R S hv =>
  wp_weak (fn_enter (Q := fun d _ => d = r) [] F hbody hclo hg hb hok hlen hbind R S hv (fun _ h => nomatch h) fun c _ hW => h c hW) fun v s' ⟨M', X', d, S', m, p, _, hd, e⟩ => by
    subst e
    exact ⟨hd.avoid fun a h => .inl (m.sub a h), p.pr⟩
theorem cn_def {b : Bas} {n : Nat} {X : List MO} {a : Addr} {fd : FuncData} {body : List Stmt} (names : List Str) {ds : List D} {Q : D → List MO → Prop} (F : FnAt b a fd) (hbody : fd.body = .stmts body) (hclo : fd.closure = []) (hg : fd.globals = mainGlobals) (hb : fd.builtins = builtinsNs)
    (hok : DefOk fd.scope names = true) (hlen : names.length = ds.length) (hbind : ∀ vs : List Value, vs.length = names.length → bindArgs fd ⟨vs, []⟩ = pure (names.zip vs))
    (h : ∀ c : Cx b n fd.scope, c.V = X.map MO.addr → c.W = X.map MO.addr → c.Go (names.zip ds) X body fun _ X' fl => ∃ X'', X''.Sublist X' ∧ Q fl.res X'') : Cn b (n + 1) X (.ref a) ds Q := fun A M s vs R S hv =>
  wp_weak (fn_enter (Q := fun d X' => ∃ X'', X''.Sublist X' ∧ Q d X'') (X.map MO.addr) F hbody hclo hg hb hok hlen hbind R S hv (fun a h => by obtain ⟨t, ht, e⟩ := List.mem_map.mp h; exact e ▸ S.moM t ht) fun c hV hW => h c hV hW) fun v s' ⟨M', X', d, S', m, p, hx, hd, X'', hs, q⟩ =>
    ⟨M', X'', d, S'.sub hs, m, p, fun t ht => hx t (hs.subset ht), hd, q⟩

section
variable {b : Bas} {M : List Addr} {s s' : Shared}
/-- the one object of X is written -/
theorem st_write {t t' : MO} (S : St b M [t] s) (p : Pw [t.addr] s s') (e : t'.addr = t.addr) (h : t'.holds b M s'.heap) : St b M [t'] s' := by
  have hm := S.moM t List.mem_cons_self
  have hM : ∀ a ∈ [t.addr], a ∈ M ∨ s.heap.get? a = none := fun a q => .inl (by rw [List.mem_singleton.mp q]; exact hm)
  obtain ⟨o, ho⟩ := h.at_
  have S' : St b M [] s' := (S.sub (List.nil_sublist _)).kp p hM (fun _ h => nomatch h) (fun a q => ⟨o, by rw [List.mem_singleton.mp q, ← e]; exact ho⟩)
  exact ⟨S'.base, S'.gens, S'.os, fun x hx => by rw [List.mem_singleton.mp hx]; exact h, fun x hx => by rw [List.mem_singleton.mp hx, e]; exact hm, by simp, S'.exM, S'.newM⟩
theorem cn_write {n : Nat} {t : MO} {f : Value} {ds : List D} {Q : D → List MO → Prop}
    (h : ∀ A M s vs, Rm n A → St b M [t] s → DpAll M s.heap vs ds → wpAny (Mo b) A (call f vs) (fun v s' => ∃ t' d, Pw [t.addr] s s' ∧ t'.addr = t.addr ∧ t'.holds b M s'.heap ∧ Dp M s'.heap v d ∧ Q d [t']) noE s) : Cn b n [t] f ds Q := fun A M s vs R S hv =>
  wp_weak (h A M s vs R S hv) fun v s' ⟨t', d, p, e, hh, hd, q⟩ => by
    have hm := S.moM t List.mem_cons_self
    exact ⟨M, [t'], d, st_write S p e hh, ⟨fun _ h => h, fun _ h => .inl h, p.more fun a q => by rw [List.mem_singleton.mp q]; exact hm⟩, p, fun x hx => .inl (by rw [List.mem_singleton.mp hx, e]; exact List.mem_cons_self), hd, q⟩
end
theorem mapSeq_lst (vs : Array Value) (n : Nat) (f : Array Value → Array Value) : ∃ m, Obj.mapSeq f (lstO vs n) = lstO (f vs) m := by
  exact ⟨_, rfl⟩
section
variable {b : Bas} {n : Nat}
theorem upd_lst {M : List Addr} {s : Shared} {a : Addr} {xs ys : List PyData} {vs : Array Value} {k : Nat} (S : St b M [.list a xs] s) (e : s.heap.get? a = some (lstO vs k)) (f : Array Value → Array Value) (h : ∀ h', Kp [a] s.heap h' → RpAll M h' (f vs).toList ys) (tk : Nat) :
    Pw [a] s { s with heap := s.heap.update a (Obj.mapSeq f), toks := tk } ∧ (MO.list a ys).holds b M (s.heap.update a (Obj.mapSeq f)) := by
  obtain ⟨m, hm⟩ := mapSeq_lst vs k f
  have kp : Kp [a] s.heap (s.heap.update a (Obj.mapSeq f)) := Kp.sameBut (Heap.SameBut.update ..)
  refine ⟨⟨kp, rfl, rfl⟩, f vs, m, ?_, h _ kp⟩
  rw [Heap.get?_update_self _ e (by rw [hm]; rfl), hm]
theorem in_self {M : List Addr} {s : Shared} {t : MO} (S : St b M [t] s) : ∀ c ∈ [t.addr], c ∈ M ∨ s.heap.get? c = none := fun c q => .inl (by rw [List.mem_singleton.mp q]; exact S.moM t List.mem_cons_self)
theorem cn_append {a : Addr} {xs : List PyData} {d : PyData} {Q : D → List MO → Prop} (hz : xs.length ≤ big) (q : Q .none [.list a (xs ++ [d])]) : Cn b n [.list a xs] (.builtin "list.append") [.raw (.ref a), .dat d] Q := cn_write fun A M s vs R S hv => by
  apply hv.d2; intro _ _ h1 h2
  obtain rfl : _ = Value.ref a := h1
  obtain ⟨us, k, e, r⟩ := S.mo _ List.mem_cons_self
  have l1 := r.length
  rw [Array.length_toList] at l1
  refine wpAny_list_append_plain ⟨k, e⟩ (fun h' ⟨m, hp⟩ hs => ?_) (by rw [l1]; exact big_line hz)
  have kp : Kp [a] s.heap h' := Kp.sameBut hs
  refine ⟨.list a (xs ++ [d]), .none, ⟨kp, rfl, rfl⟩, rfl, ⟨_, m, hp, ?_⟩, .none, q⟩
  rw [Array.toList_push]
  exact (r.kp kp (in_self S)).append (RpAll.one (Rp.kp kp (in_self S) h2))
theorem cn_pop {a : Addr} {xs : List PyData} {d : PyData} {Q : D → List MO → Prop} (hz : xs.length < big) (q : Q (.dat d) [.list a xs]) : Cn b n [.list a (xs ++ [d])] (.builtin "list.pop") [.raw (.ref a)] Q := cn_write fun A M s vs R S hv => by
  apply hv.d1; intro _ h1
  obtain rfl : _ = Value.ref a := h1
  obtain ⟨us, k, e, r⟩ := S.mo _ List.mem_cons_self
  have l1 := r.length
  rw [Array.length_toList] at l1
  have l2 : us.size = xs.length + 1 := by rw [l1]; simp
  obtain ⟨y, hy, ry⟩ := r.get (k := xs.length) (d := d) (by simp)
  have hy' : us[us.size - 1]? = some y := by rw [l2]; simpa using hy
  refine call_meets F.slot_list_pop ⟨_, e, rfl⟩ F.entry_list_pop (F.args_list_pop_1 _) (PySem.MeetsSeq.list_pop_last a us k y hy' (by rw [l2]; exact big_line hz)) ?_
  have hr : ∀ h', Kp [a] s.heap h' → RpAll M h' (us.eraseIdxIfInBounds (us.size - 1)).toList xs := fun h' kp => by
    have : (us.eraseIdxIfInBounds (us.size - 1)).toList = us.toList.take xs.length := by
      unfold Array.eraseIdxIfInBounds
      rw [dif_pos (by omega)]
      rw [Array.toList_eraseIdx, List.eraseIdx_eq_take_drop_succ]
      rw [List.drop_eq_nil_of_le (by simp; omega), List.append_nil]
      congr 1; omega
    rw [this]
    have := (r.kp kp (in_self S)).take xs.length
    simpa using this
  obtain ⟨p, hh⟩ := upd_lst (ys := xs) S e (fun xs => xs.eraseIdxIfInBounds (us.size - 1)) hr s.toks
  exact ⟨e, .list a xs, .dat d, p, rfl, hh, Rp.kp p.kp (in_self S) ry, q⟩
theorem fn_lenM {a : Addr} {xs : List PyData} (hz : xs.length ≤ big) : Fn b n [.list a xs] (.builtin "len") [.raw (.ref a)] (.int xs.length) := fun A M s vs R S hv => by
  apply hv.d1; intro _ h1
  obtain rfl : _ = Value.ref a := h1
  obtain ⟨us, k, e, r⟩ := S.mo _ List.mem_cons_self
  have l1 := r.length
  rw [Array.length_toList] at l1
  refine PyProof.Rows.len_list ⟨_, e, rfl, _, rfl⟩ (by rw [l1]; exact big_idx hz) ⟨?_, Pr.tok⟩
  rw [l1]; exact .int _ _
theorem fn_tupM {a : Addr} {xs : List PyData} (hz : xs.length ≤ big) : Fn b n [.list a xs] (.type "tuple") [.raw (.ref a)] (.tup xs) := fun A M s vs R S hv => by
  apply hv.d1; intro _ h1
  obtain rfl : _ = Value.ref a := h1
  obtain ⟨us, k, e, r⟩ := S.mo _ List.mem_cons_self
  have l1 := r.length
  rw [Array.length_toList] at l1
  refine PySem.call_tuple_list ⟨_, e, rfl, _, rfl⟩ (fun h' hk => ?_) (by rw [l1]; exact big_line hz)
  have p : Pr s { s with heap := h' } := ⟨Kp.of hk, rfl, rfl⟩
  have St2 := S.pure p
  refine ⟨.tuple St2.new hz (Heap.get?_push_size _ rfl) ?_, p.trans ⟨Kp.push, rfl, rfl⟩⟩
  exact (r.kp p.kp (fun _ h => nomatch h)).kp (Kp.push (o := { cls := .type "tuple", data := .seq us })) (fun _ h => nomatch h)
theorem dp_app {M : List Addr} {h : Heap} {vs ws : List Value} {ds es : List D} (x : DpAll M h vs ds) (k : DpAll M h ws es) : DpAll M h (vs ++ ws) (ds ++ es) := by
  induction x with
  | nil => exact k
  | cons a _ ih => exact .cons a ih
/-- the call of a method: what is called, and with what ahead -/
noncomputable def Gm (b : Bas) (n : Nat) (X : List MO) (d : D) (name : Str) (f : Value) (first : List D) : Prop :=
  ∀ A M s v pl, Rm n A → St b M X s → Dp M s.heap v d → wpAny (Mo b) A (getMethod v name pl) (fun fx s' => fx.1 = f ∧ DpAll M s'.heap fx.2 first ∧ Pr s s') noE s
theorem gm_list {a : Addr} {xs : List PyData} {X : List MO} {name : Str} {id : String} (slot : Slot "list" name id) (ty : typeOf (.builtin id) = pure (.type "method_descriptor")) (h : MO.list a xs ∈ X) : Gm b n X (.raw (.ref a)) name (.builtin id) [.raw (.ref a)] := fun A M s v pl R S hv => by
  obtain rfl : _ = Value.ref a := hv
  obtain ⟨us, k, e, r⟩ := S.mo _ h
  exact getMethod_builtin ⟨_, e, rfl⟩ PySem.F.plainAttrs_list slot ty (fun a e' => by cases e'; exact ⟨_, e, rfl⟩) ⟨rfl, .cons rfl .nil, Pr.refl⟩
theorem gm_append {a : Addr} {xs : List PyData} {X : List MO} (h : MO.list a xs ∈ X) : Gm b n X (.raw (.ref a)) "append" (.builtin "list.append") [.raw (.ref a)] := gm_list F.slot_list_append PySem.F.type_list_append h
theorem gm_pop {a : Addr} {xs : List PyData} {X : List MO} (h : MO.list a xs ∈ X) : Gm b n X (.raw (.ref a)) "pop" (.builtin "list.pop") [.raw (.ref a)] := gm_list F.slot_list_pop PySem.F.type_list_pop h
theorem gm_extend {a : Addr} {xs : List PyData} {X : List MO} (h : MO.list a xs ∈ X) : Gm b n X (.raw (.ref a)) "extend" (.builtin "list.extend") [.raw (.ref a)] := gm_list F.slot_list_extend PySem.F.type_list_extend h
end
section
variable {b : Bas} {n : Nat} {sc : Scope} {c : Cx b n sc} {ρ : List (Str × D)} {X : List MO}
theorem ef_meth {o : PySem.Expr} {name : Str} {es : List PySem.Expr} {apos pos : Pos} {d : D} {f : Value} {first : List D} {Q : D → List MO → Prop} (h1 : Ev b n sc ρ X o d) (hg : Gm b n X d name f first) (ke : Ke b f) (h2 : c.Es ρ X es fun ds X1 => c.Cl f (first ++ ds) X1 Q) (hp : plainArgs es = true := by rfl)
    (he : ∀ env, eval (.Call (.Attribute o name apos) es [] pos) env = (do
      let ov ← eval o env
      standAt apos.atName
      let (f, first) ← holding [ov] (getMethod ov name (do return (← importBound o env).getD true))
      callWith pos f first (backTo pos (starEach es env)) []) := by intro _; rfl) : c.Ef ρ X (.Call (.Attribute o name apos) es [] pos) Q := fun M s S => by
  rw [he]
  refine wpAny_bind (wp_weak (h1 c.A c.frm M s c.rm S.sv) fun v s₁ ⟨a1, p1⟩ => ?_)
  have S1 := S.pure p1
  refine wpAny_bind (wpAny_standAt (wpAny_bind (wpAny_holding (wp_weak (hg c.A M s₁ v _ c.rm S1.sv.st a1) fun fx s₂ ⟨a2, a3, p2⟩ => ?_))))
  obtain ⟨f', first'⟩ := fx
  obtain rfl : f' = f := a2
  refine ef_callWith (S1.pure p2) ke h2 hp fun vs s₃ M3 X3 ds S3 m3 d3 hc => ?_
  have hall : DpAll M3 s₃.heap (first' ++ vs) (first ++ ds) := by
    exact dp_app (DpAll.mv a3 m3) d3
  exact wp_weak (at_cl S3 hc hall) fun v s₄ ⟨M4, X4, d, S4, m4, a4, q⟩ => ⟨M4, X4, d, S4, ((p1.trans p2).mv.trans m3).trans m4, a4, q⟩
end

section
variable {b : Bas} {n : Nat} {sc : Scope} {c : Cx b n sc} {ρ : List (Str × D)} {X : List MO}
theorem at_new {M : List Addr} {s s' : Shared} {t : MO} (S : c.At M ρ X s) (p : Pr s s') (hn : s.heap.get? t.addr = none) (h : t.holds b (t.addr :: M) s'.heap) : c.At (t.addr :: M) ρ (t :: X) s' ∧ Mv M s (t.addr :: M) s' := by
  have hex : ∃ o, s'.heap.get? t.addr = some o := h.at_
  have G := S.sv.grow p hn hex
  have hM : t.addr ∉ M := fun q => by obtain ⟨o, h⟩ := S.sv.st.exM _ q; cases hn.symm.trans h
  have hX : ∀ t' ∈ X, t'.addr ≠ t.addr := fun t' ht q => hM (q ▸ S.sv.st.moM t' ht)
  have S' := S.pure p
  refine ⟨⟨⟨⟨G.st.base, G.st.gens, G.st.os, fun t' ht => ?_, fun t' ht => ?_, ?_, G.st.exM, G.st.newM⟩, G.eo, G.fr, G.locM, G.celM, fun t' ht => ?_⟩, fun a h => List.mem_cons_of_mem _ (S.sub a h), fun a h => ?_, S'.pw, S.wr, fun t' ht => ?_, fun q hq => ?_⟩, fun a h => List.mem_cons_of_mem _ h, fun a h => ?_, p.pw⟩
  · rcases List.mem_cons.mp ht with rfl | ht
    · exact h
    · exact G.st.mo t' ht
  · rcases List.mem_cons.mp ht with rfl | ht
    · exact List.mem_cons_self
    · exact G.st.moM t' ht
  · rw [List.map_cons, List.nodup_cons]
    exact ⟨fun q => by obtain ⟨t', ht, e⟩ := List.mem_map.mp q; exact hX t' ht e, S.sv.st.ndX⟩
  · rcases List.mem_cons.mp ht with rfl | ht
    · exact ⟨fun q => hM (q ▸ S.sv.locM), fun p hp q => hM (q ▸ S.sv.celM p hp)⟩
    · exact G.apX t' ht
  · exact (List.mem_cons.mp h).elim (fun q => .inr (q ▸ S.fresh hn)) (S.new a)
  · rcases List.mem_cons.mp ht with rfl | ht
    · exact .inr (S.fresh hn)
    · exact S.xs t' ht
  · obtain ⟨k1, k2, k3, k4⟩ := S'.lk q hq
    refine ⟨k1, List.mem_cons_of_mem _ k2, k3, fun t' ht => ?_⟩
    rcases List.mem_cons.mp ht with rfl | ht
    · exact fun q' => hM (q' ▸ k2)
    · exact k4 t' ht
  · exact (List.mem_cons.mp h).elim (fun q => .inr (q ▸ hn)) .inl
/-- a list of one's own -/
noncomputable def EvF (b : Bas) (n : Nat) (sc : Scope) (ρ : List (Str × D)) (X : List MO) (e : PySem.Expr) (xs : List PyData) : Prop :=
  ∀ A env M s, Rm n A → Sv b sc env M ρ X s → wpAny (Mo b) A (eval e env) (fun v s' => ∃ a vs k, v = .ref a ∧ s.heap.get? a = none ∧ s'.heap.get? a = some (lstO vs k) ∧ RpAll (a :: M) s'.heap vs.toList xs ∧ Pr s s') noE s
theorem ef_own {e : PySem.Expr} {xs : List PyData} {Q : D → List MO → Prop} (h : EvF b n sc ρ X e xs) (k : ∀ a, c.s0.heap.get? a = none → Q (.raw (.ref a)) (.list a xs :: X)) : c.Ef ρ X e Q := fun M s S => by
  refine wp_weak (h c.A c.frm M s c.rm S.sv) fun v s' ⟨a, vs, m, hv, hn, e, r, p⟩ => ?_
  subst hv
  obtain ⟨S', m'⟩ := at_new (t := .list a xs) S p hn ⟨vs, m, e, r⟩
  exact ⟨a :: M, _, .raw (.ref a), S', m', rfl, k a (S.fresh hn)⟩
theorem evF_list {es : List PySem.Expr} {pos : Pos} {ds : List PyData} (h : Evs b n sc ρ X es (ds.map .dat)) (hz : ds.length ≤ big := by decide) : EvF b n sc ρ X (.List es pos) ds := fun A env M s R S => by
  refine PySem.wpAny_List (wp_weak (h A env M s pos R S) fun vs s₁ ⟨a1, p1⟩ => ?_)
  have r := a1.rp
  have l := r.length
  have hn : s₁.heap.get? s₁.heap.objs.size = none := none_at (Nat.le_refl _)
  refine ⟨by rw [l]; exact big_line hz, _, _, _, rfl, fresh_of p1 hn, Heap.get?_push_size _ rfl, ?_, p1.trans (Pr.heap Kp.push)⟩
  have r' := r.avoid (M' := s₁.heap.objs.size :: M) fun a h => (List.mem_cons.mp h).elim (fun q => .inr (q ▸ hn)) .inl
  simpa using r'.kp (Kp.push (o := { cls := .type "list", data := .seq vs.toArray })) (fun _ h => nomatch h)
/-- list(range(..)) as a list of one's own -/
theorem evF_range {func arg : PySem.Expr} {pos : Pos} {i j : Int} (h1 : Ev b n sc ρ X func (.raw (.type "list"))) (h2 : Ev b n sc ρ X arg (.rng i j)) (hs : Small i j) (hp : plainArgs [arg] = true := by rfl) (hst : ∀ env, starEach [arg] env = (false, eval arg env) :: starEach [] env := by intro _; rfl)
    (he : ∀ env, eval (.Call func [arg] [] pos) env = (do callWith pos (← eval func env) [] (backTo pos (starEach [arg] env)) []) := by intro _; rfl) : EvF b n sc ρ X (.Call func [arg] [] pos) ((nums i j).map .int) := fun A env M s R S => by
  rw [he]
  refine wpAny_bind (wp_weak (h1 A env M s R S) fun v s₁ h => ?_)
  obtain rfl : v = .type "list" := h.a
  refine wp_callWith R (S.pure h.p) ke_type (evs_cons h2 evs_nil hst) hp fun vs s₂ dv p2 => ?_
  refine wp_weak (lr_core hs R dv) fun v s₃ ⟨us, k, e, hd, r, p⟩ => ?_
  subst e
  exact ⟨_, us, k, rfl, fresh_of (h.p.trans p2) (none_at (Nat.le_refl _)), hd, r _, (h.p.trans p2).trans p⟩
theorem sub_list_slice {A : Around} {env : Env} {s : Shared} {value : PySem.Expr} {lower upper : Option PySem.Expr} {p pos : Pos} {Q : Value → Shared → Prop}
    (h : wpAny (Mo b) A (eval value env) (fun o s₁ => wpAny (Mo b) A (evalPart lower env) (fun vl s₂ => wpAny (Mo b) A (evalPart upper env) (fun vu s₃ =>
      ∃ l items lo hi, o = .ref l ∧ s₃.heap.IsList l items ∧ items.size ≤ sizeLine ∧ IsPart vl lo ∧ IsPart vu hi ∧
        Q (.ref (s₃.heap.objs.size + 1)) { s₃ with heap := (s₃.heap.push { cls := .type "slice", data := .fields #[vl, vu, .none] }).push { cls := .type "list", data := .seq (slicePick items lo hi none) } }) noE s₂) noE s₁) noE s) :
    wpAny (Mo b) A (eval (.Subscript value (.Slice lower upper none p) pos) env) Q noE s := by
  refine Subscript_ (wp_weak h fun o s₁ h₁ => wpAny_Slice (wp_weak h₁ fun vl s₂ h₂ => wp_weak h₂ fun vu s₃ h₃ => ?_))
  obtain ⟨l, items, lo, hi, rfl, hl, hsz, pl, pu, hQ⟩ := h₃
  rw [evalPart_none]
  refine wpAny_pure (tail_any (T := "list") (ops := [_, _]) (hl.push _).typeIs list_getitem_lookup (wpAny_getItem_list_slice (hl.push _) (Heap.IsSliceOf.new ..) pl pu .none (by simp) ?_ hsz) rfl)
  rw [Heap.size_push]
  exact hQ
/-- a slice of a list that may change -/
theorem evF_slice {value : PySem.Expr} {lower upper : Option PySem.Expr} {p pos : Pos} {a : Addr} {xs : List PyData} {lo hi : Option Int} (h1 : Ev b n sc ρ X value (.raw (.ref a))) (hx : MO.list a xs ∈ X) (hz : xs.length ≤ big) (h2 : Part b n sc ρ X lower lo) (h3 : Part b n sc ρ X upper hi) : EvF b n sc ρ X (.Subscript value (.Slice lower upper none p) pos) (cut xs lo hi) := fun A env M s R S => by
  refine sub_list_slice (wp_weak (h1 A env M s R S) fun o s₁ ⟨a1, p1⟩ => wp_weak (h2 A env M s₁ R (S.pure p1)) fun vl s₂ ⟨a2, p2⟩ => wp_weak (h3 A env M s₂ R ((S.pure p1).pure p2)) fun vu s₃ ⟨a3, p3⟩ => ?_)
  obtain rfl : o = .ref a := a1
  have S3 := ((S.pure p1).pure p2).pure p3
  obtain ⟨vs, k, e1, r1⟩ := S3.st.mo _ hx
  have l1 := r1.length
  rw [Array.length_toList] at l1
  refine ⟨a, vs, lo, hi, rfl, ⟨_, e1, rfl, _, rfl⟩, by rw [l1]; exact big_line hz, a2, a3, ?_⟩
  have St4 := S3.st.pure (s' := { s₃ with heap := s₃.heap.push { cls := .type "slice", data := .fields #[vl, vu, .none] } }) ⟨Kp.push, rfl, rfl⟩
  have sz : (s₃.heap.push { cls := .type "slice", data := .fields #[vl, vu, .none] }).objs.size = s₃.heap.objs.size + 1 := Heap.size_push ..
  rw [← sz]
  have hn0 : s₃.heap.get? (s₃.heap.objs.size + 1) = none := none_at (Nat.le_succ _)
  refine ⟨_, _, _, rfl, by rw [sz]; exact fresh_of ((p1.trans p2).trans p3) hn0, Heap.get?_push_size _ rfl, ?_, ((p1.trans p2).trans p3).trans ⟨Kp.push.trans Kp.push, rfl, rfl⟩⟩
  have r2 := r1.avoid (M' := (s₃.heap.objs.size + 1) :: M) fun a h => (List.mem_cons.mp h).elim (fun q => .inr (q ▸ hn0)) .inl
  have q := (((r2.drop (lo.elim 0 (clipAt xs.length))).take ((hi.elim xs.length (clipAt xs.length)) - (lo.elim 0 (clipAt xs.length)))).kp (Kp.push (o := { cls := .type "slice", data := .fields #[vl, vu, .none] })) (fun _ h => nomatch h)).kp (Kp.push (o := { cls := .type "list", data := .seq (slicePick vs lo hi none) })) (fun _ h => nomatch h)
  rw [slicePick_plain]
  rw [show vs.size = xs.length from l1]
  rw [slicePick_plain] at q
  rw [sz]
  simpa [cut, l1] using q
theorem EvF.ev {e : PySem.Expr} {xs : List PyData} (h : EvF b n sc ρ X e xs) (hz : xs.length ≤ big) : Ev b n sc ρ X e (.list xs) := fun A env M s R S =>
  wp_weak (h A env M s R S) fun v s' ⟨a, vs, k, e, hn, e1, r, p⟩ => by
    subst e
    exact ⟨.list (fun q => by obtain ⟨o, h⟩ := S.st.exM _ q; cases hn.symm.trans h) hz e1 (r.avoid fun a h => .inl (List.mem_cons_of_mem _ h)), p⟩
/-- an item of a list that may change -/
theorem itm_M {a : Addr} {xs : List PyData} {i : Int} {j : Nat} {d : PyData} (hx : MO.list a xs ∈ X) (hz : xs.length ≤ big) (hj : seqIndex? i xs.length = some j) (hd : xs[j]? = some d) : Itm b X (.raw (.ref a)) (.int i) (.dat d) := fun A n M s u v R S h1 h2 => by
  obtain rfl : u = .ref a := h1
  obtain ⟨t, rfl⟩ := Rp.int_inv h2
  obtain ⟨vs, k, e1, r1⟩ := S.mo _ hx
  obtain ⟨y, hy, ry⟩ := r1.get hd
  have l1 := r1.length
  rw [Array.length_toList] at l1
  obtain ⟨f1, f2, _⟩ := seqIndex_fits hj hz
  have hl : s.heap.IsList a vs := ⟨_, e1, rfl, _, rfl⟩
  refine ⟨"list", _, ⟨_, e1, rfl⟩, slot_list_getitem.lookup, ?_⟩
  unfold seqIndex? at hj
  by_cases h0 : i < 0
  · simp only [h0, if_true] at hj
    split at hj
    · rename_i h3
      simp only [Bool.and_eq_true, decide_eq_true_eq] at h3
      simp only [Option.some.injEq] at hj
      subst hj
      exact PySem.wpAny_getItem_list_neg hl h0 (by rw [l1]; omega) f1 (by rw [l1]; simpa using hy) ⟨ry, Pr.refl⟩
    · cases hj
  · simp only [h0, if_false] at hj
    split at hj
    · simp only [Option.some.injEq] at hj
      subst hj
      exact PySem.wpAny_getItem_list hl (by omega) f2 (by simpa using hy) ⟨ry, Pr.refl⟩
    · cases hj
/-- an object of one's own becomes data -/
theorem at_freeze {M : List Addr} {s : Shared} {L R : List MO} {a : Addr} {xs : List PyData} {x : Str} (S : c.At M ρ (L ++ (.list a xs :: R)) s) (hx : (x, D.raw (.ref a)) ∈ ρ) (hz : xs.length ≤ big) (hn : c.s0.heap.get? a = none) :
    c.At (M.filter (· != a)) ((x, .list xs) :: ρ) (L ++ R) s := by
  have hM0 : a ∉ c.M0 := fun q => by obtain ⟨o, h⟩ := c.exM0 a q; cases hn.symm.trans h
  have hm : ∀ d, d ∈ M.filter (· != a) ↔ d ∈ M ∧ d ≠ a := fun d => by simp
  have hs : ∀ {h : Heap}, ∀ d ∈ M.filter (· != a), d ∈ M ∨ h.get? d = none := fun d h => .inl ((hm d).mp h).1
  have hin : MO.list a xs ∈ L ++ (.list a xs :: R) := List.mem_append_right _ List.mem_cons_self
  have hLR : ∀ t, t ∈ L ++ R → t ∈ L ++ (.list a xs :: R) := fun t h => (List.mem_append.mp h).elim (fun h => List.mem_append_left _ h) fun h => List.mem_append_right _ (List.mem_cons_of_mem _ h)
  have hnd := S.sv.st.ndX
  rw [List.map_append] at hnd
  have hne : ∀ t ∈ L ++ R, t.addr ≠ a := fun t ht e => by
    rw [List.nodup_append] at hnd
    obtain ⟨h1, h2, h3⟩ := hnd
    rcases List.mem_append.mp ht with h | h
    · exact h3 _ (List.mem_map_of_mem h) a List.mem_cons_self e
    · rw [List.map_cons, List.nodup_cons] at h2
      exact h2.1 (List.mem_map.mpr ⟨t, h, e⟩)
  have apA := S.sv.ap _ hin
  refine ⟨⟨⟨S.sv.st.base, S.sv.st.gens, S.sv.st.os, fun t ht => (S.sv.st.mo t (hLR t ht)).avoid hs, fun t ht => (hm _).mpr ⟨S.sv.st.moM t (hLR t ht), hne t ht⟩, ?_, fun d hd => S.sv.st.exM d ((hm d).mp hd).1, fun d hd => S.sv.st.newM d ((hm d).mp hd).1⟩, S.sv.eo, ?_, (hm _).mpr ⟨S.sv.locM, fun q => apA (by rw [show (MO.list a xs).addr = a from rfl, ← q]; exact List.mem_cons_self)⟩, fun p hp => (hm _).mpr ⟨S.sv.celM p hp, fun q => apA (by rw [show (MO.list a xs).addr = a from rfl, ← q]; exact List.mem_cons_of_mem _ (List.mem_map_of_mem hp))⟩, fun t ht => S.sv.apX t (hLR t ht)⟩, fun d hd => (hm d).mpr ⟨S.sub d hd, fun q => hM0 (q ▸ hd)⟩, fun d hd => S.new d ((hm d).mp hd).1, S.pw, S.wr, fun t ht => S.xs t (hLR t ht), fun q hq => ?_⟩
  · exact ((S.sv.st.ndX).sublist ((List.sublist_cons_self _ _).append_left L |>.map MO.addr))
  · obtain ⟨mm, cm, F, r⟩ := S.sv.fr
    refine ⟨mm, cm, F, fun p hp => ?_⟩
    rcases List.mem_cons.mp hp with rfl | hp
    · obtain ⟨v, h1, h2⟩ := r _ hx
      obtain rfl : v = .ref a := h2
      obtain ⟨vs, k, e, rr⟩ := S.sv.st.mo _ hin
      exact ⟨_, h1, .list (fun q => ((hm a).mp q).2 rfl) hz e (rr.avoid hs)⟩
    · obtain ⟨v, h1, h2⟩ := r p hp; exact ⟨v, h1, h2.avoid hs⟩
  · obtain ⟨k1, k2, k3, k4⟩ := S.lk q hq
    exact ⟨k1, (hm _).mpr ⟨k2, fun z => k4 _ hin z.symm⟩, k3, fun t ht => k4 t (hLR t ht)⟩
/-- the same ahead of what always returns -/
theorem go_freeze {ss : List Stmt} {L R : List MO} {Q : List (Str × D) → List MO → Fl → Prop} (x : Str) (a : Addr) (xs : List PyData) (hx : (x, D.raw (.ref a)) ∈ ρ) (hz : xs.length ≤ big) (hn : c.s0.heap.get? a = none) (hQ : ∀ ρ X, ¬ Q ρ X .nxt)
    (h : c.Go ((x, .list xs) :: ρ) (L ++ R) ss Q) : c.Go ρ (L ++ (.list a xs :: R)) ss Q := fun M s S =>
  wp_weak (h _ s (at_freeze S hx hz hn)) fun f s' ⟨M', ρ', X', S', q⟩ => by
    refine ⟨M', ρ', X', S', ?_⟩
    cases f with
    | next => exact absurd q.2 (hQ _ _)
    | ret v => exact q
    | brk => exact q
    | cont => exact q
/-- a loop on a test -/
theorem do_while {t : PySem.Expr} {body : List Stmt} {pos : Pos} {Q : List (Str × D) → List MO → Fl → Prop} (Inv : Nat → List (Str × D) → List MO → Prop) (k : Nat) (h0 : Inv k ρ X)
    (turn : ∀ k ρ1 X1, Inv k ρ1 X1 → c.Et ρ1 X1 t fun t X2 => if t then c.Go ρ1 X2 body (fun ρ' X' fl => match fl with | .nxt => ∃ j, j < k ∧ Inv j ρ' X' | .ret d => Q ρ' X' (.ret d)) else Q ρ1 X2 .nxt) : c.Do ρ X (.While t body [] pos) Q := fun M s S => by
  refine wpAny_While (codeAny_whileLoop (fun k s' => ∃ M' ρ' X', c.At M' ρ' X' s' ∧ Mv M s M' s' ∧ Inv k ρ' X') ?_ k ⟨M, ρ, X, S, Mv.refl, h0⟩)
  rintro j s₁ ⟨M1, ρ1, X1, S1, m1, inv⟩
  refine wp_weak (turn j ρ1 X1 inv M1 s₁ S1) fun t s₂ ⟨M2, X2, S2, m2, q⟩ => ?_
  cases t with
  | false => exact wpAny_execs_nil ⟨M2, ρ1, X2, S2, m1.trans m2, q⟩
  | true =>
    refine wp_weak (q M2 s₂ S2) fun f s₃ ⟨M3, ρ3, X3, S3, q3⟩ => ?_
    cases f with
    | next => obtain ⟨m3, i, hi, inv'⟩ := q3; exact ⟨i, hi, M3, ρ3, X3, S3, (m1.trans m2).trans m3, inv'⟩
    | ret v => exact ⟨M3, ρ3, X3, S3, q3⟩
    | brk => exact q3.elim
    | cont => exact q3.elim
end

section
variable {b : Bas}
theorem bin_tup' {xs ys : List PyData} (h : xs.length + ys.length ≤ big) : Bin b .Add (.tup xs) (.tup ys) (.tup (xs ++ ys)) := by
  by_cases hx : xs = []
  · subst hx
    intro A n M X s u v _ S a c
    have c' := c
    obtain ⟨x, vs, k, rfl, m1, z1, e1, r1⟩ := Rp.tuple_inv a
    obtain ⟨y, ws, k', rfl, m2, z2, e2, r2⟩ := Rp.tuple_inv c
    have l1 := r1.length
    rw [Array.length_toList] at l1
    have n1 : vs.isEmpty = true := by rw [Array.isEmpty_iff_size_eq_zero, l1]; rfl
    exact concat_meets ⟨_, e1, rfl⟩ ⟨_, e2, rfl⟩ noFill_tuple_add seq_tuple_add F.slot_tuple_add F.entry_tuple_add (F.args_tuple_add_2 _ _) (AutoSeq1.tuple___add___tuple_tuple_0 x vs k y ws k' n1) ⟨e1, e2, c', Pr.refl⟩
  · by_cases hy : ys = []
    · subst hy
      intro A n M X s u v _ S a c
      have a' := a
      obtain ⟨x, vs, k, rfl, m1, z1, e1, r1⟩ := Rp.tuple_inv a
      obtain ⟨y, ws, k', rfl, m2, z2, e2, r2⟩ := Rp.tuple_inv c
      have l1 := r1.length
      have l2 := r2.length
      rw [Array.length_toList] at l1 l2
      have n1 : ¬ vs.isEmpty = true := by rw [Array.isEmpty_iff_size_eq_zero, l1]; exact fun q => hx (List.eq_nil_of_length_eq_zero q)
      have n2 : ws.isEmpty = true := by rw [Array.isEmpty_iff_size_eq_zero, l2]; rfl
      exact concat_meets ⟨_, e1, rfl⟩ ⟨_, e2, rfl⟩ noFill_tuple_add seq_tuple_add F.slot_tuple_add F.entry_tuple_add (F.args_tuple_add_2 _ _) (AutoSeq1.tuple___add___tuple_tuple_1 x vs k y ws k' n1 n2) ⟨e1, e2, by rw [List.append_nil]; exact a', Pr.refl⟩
    · exact bin_tup h hx hy
/-- an item of a list set, from either end -/
theorem wpAny_setItem_any {A : Around} {E : Value → Shared → Prop} {s : Shared} {l : Addr} {items : Array Value} {k : Int} {t : Tok} {v : Value} {j m : Nat} {Q : Unit → Shared → Prop} (hl : s.heap.get? l = some (lstO items m))
    (hfit : Builtin.List.listFitsIndex k = true) (hj : seqIndex? k items.size = some j) (hlt : j < items.size)
    (hQ : Q () { s with heap := s.heap.update l (Obj.mapSeq (·.setIfInBounds j v)) }) :
    wpAny (Mo b) A (setItem (.ref l) (.int k t) v) Q E s := by
  have hT : s.TypeIs (.ref l) "list" := ⟨_, hl, rfl⟩
  have hx : items[j]? = some items[j] := Array.getElem?_eq_getElem hlt
  unfold setItem
  try with_reducible refine wpAny_holding ?_
  first | refine wpAny_bind (wpAny_pure ?_) | skip
  refine wpAny_bind (wpAny_sequenceKey hT (by decide) ?_)
  refine wpAny_bind (wpAny_callSpecial?_slot (name := Str.ofString "__setitem__") hT slot_list_setitem
    (wpAny_call_entry slot_list_setitem hT entry_list_setitem ?_ (args_list_setitem _ _ _)))
  show wpAny _ _ (Builtin.List.listSubscript? (.int k t) >>= _) _ _ s
  refine wpAny_bind (wpAny_listSubscript_int hfit ?_)
  cases k with
  | ofNat i =>
    have hij : i = j := by
      unfold seqIndex? at hj
      have h0 : ¬ (Int.ofNat i < 0) := by simp
      simp only [h0, if_false] at hj
      split at hj
      · simp at hj; exact hj
      · cases hj
    subst hij
    show wpAny _ _ ((seqItemAt l i >>= fun r => pure (r.map (i, ·))) >>= _) _ _ s
    refine wpAny_bind (wpAny_bind (wpAny_seqItemAt hl rfl (wpAny_pure ?_)))
    rw [hx]
    show wpAny _ _ (setSeqItemAt l i v >>= _) _ _ s
    refine wpAny_bind (wpAny_setSeqItemAt hl rfl ?_)
    first
      | exact wpAny_bind (wpAny_pure (wpAny_pure ⟨.none, rfl, wpAny_pure hQ⟩))
      | exact wpAny_pure ⟨.none, rfl, wpAny_pure hQ⟩
  | negSucc i =>
    show wpAny _ _ ((Builtin.List.listItems (.ref l) >>= fun xs => pure ((seqIndex? (Int.negSucc i) xs.size).bind fun i => xs[i]?.map (i, ·))) >>= _) _ _ s
    refine wpAny_bind (wpAny_bind ?_)
    show wpAny _ _ (seqItems? (.ref l) >>= _) _ _ s
    refine wpAny_bind (wpAny_seqItems hl rfl (wpAny_pure (wpAny_pure ?_)))
    dsimp only [Option.getD]
    rw [hj]
    simp only [Option.bind_some, hx, Option.map_some]
    show wpAny _ _ (setSeqItemAt l j v >>= _) _ _ s
    refine wpAny_bind (wpAny_setSeqItemAt hl rfl ?_)
    first
      | exact wpAny_bind (wpAny_pure (wpAny_pure ⟨.none, rfl, wpAny_pure hQ⟩))
      | exact wpAny_pure ⟨.none, rfl, wpAny_pure hQ⟩
end
section
variable {b : Bas} {n : Nat} {sc : Scope} {c : Cx b n sc} {ρ : List (Str × D)} {X : List MO}
theorem at_write {M : List Addr} {s s' : Shared} {L R : List MO} {t t' : MO} (S : c.At M ρ (L ++ (t :: R)) s) (hW : t.addr ∈ c.W ∨ c.s0.heap.get? t.addr = none) (p : Pw [t.addr] s s') (e : t'.addr = t.addr) (h : t'.holds b M s'.heap) : c.At M ρ (L ++ (t' :: R)) s' ∧ Mv M s M s' := by
  have St0 : St b M [t] s := S.sv.st.sub (List.Sublist.trans (List.Sublist.cons_cons _ (List.nil_sublist _)) (List.sublist_append_right _ _))
  have hm := St0.moM t List.mem_cons_self
  have m : Mv M s M s' := ⟨fun _ h => h, fun _ h => .inl h, p.more fun a q => by rw [List.mem_singleton.mp q]; exact hm⟩
  exact ⟨at_replace (Xa := [t]) (X' := [t']) S (fun x hx => by rw [List.mem_singleton.mp hx]; exact hW) (st_write St0 p e h) m p fun x hx => .inl (by rw [List.mem_singleton.mp hx, e]; exact List.mem_cons_self), m⟩
/-- x[i] = v on a list of one's own -/
inductive SetL2 (c : Cx b n sc) (ρ : List (Str × D)) (Q : List (Str × D) → List MO → Fl → Prop) (a : Addr) (dv : PyData) (e : D) (X2 : List MO) : Prop
  | mk (L R : List MO) (xs : List PyData) (k : Int) (j : Nat) (hX : X2 = L ++ (.list a xs :: R)) (he : e = .int k) (hz : xs.length ≤ big) (hj : seqIndex? k xs.length = some j) (hW : a ∈ c.W ∨ c.s0.heap.get? a = none) (q : Q ρ (L ++ (.list a (xs.set j dv) :: R)) .nxt) : SetL2 c ρ Q a dv e X2
inductive SetL1 (c : Cx b n sc) (ρ : List (Str × D)) (o i : PySem.Expr) (Q : List (Str × D) → List MO → Fl → Prop) (d : D) (X1 : List MO) : Prop
  | mk (a : Addr) (dv : PyData) (hd : d = .dat dv) (h2 : Ev b n sc ρ X1 o (.raw (.ref a))) (h3 : c.Ef ρ X1 i (SetL2 c ρ Q a dv)) : SetL1 c ρ o i Q d X1
theorem do_setL {o i value : PySem.Expr} {pos' pos : Pos} {Q : List (Str × D) → List MO → Fl → Prop}
    (h : c.Ef ρ X value (SetL1 c ρ o i Q))
    (hs : ∀ env, swapsWith value (some (.Subscript o i pos')) pos.line env = pure false := by intro _; rfl) : c.Do ρ X (.Assign [.Subscript o i pos'] value pos) Q := fun M s S => by
  refine wpAny_Assign_Subscript (wp_weak (h M s S) fun v s₁ ⟨M1, X1, d, S1, m1, a1, a, dv, hd, h2, h3⟩ => wp_weak (h2 c.A c.frm M1 s₁ c.rm S1.sv) fun ov s₂ ⟨a2, p2⟩ => wp_weak (h3 M1 s₂ (S1.pure p2)) fun iv s₃ ⟨M3, X3, e, S3, m3, a3, L, R, xs, k, j, hX, he, hz, hj, hW, q⟩ => ?_) (hs _)
  subst hd hX he
  obtain rfl : ov = .ref a := a2
  obtain ⟨t, rfl⟩ := Rp.int_inv a3
  have hin : MO.list a xs ∈ L ++ (.list a xs :: R) := List.mem_append_right _ List.mem_cons_self
  obtain ⟨us, m, e1, r1⟩ := S3.sv.st.mo _ hin
  have l1 := r1.length
  rw [Array.length_toList] at l1
  obtain ⟨f1, f2, f3⟩ := seqIndex_fits hj hz
  refine wpAny_setItem_any e1 (by unfold Builtin.List.listFitsIndex; simp only [Bool.and_eq_true, decide_eq_true_eq]; omega) (by rw [l1]; exact hj) (by rw [l1]; exact f3) ?_
  have hd := (a1.keep p2.kp).mv m3
  have S0 : St b M3 [.list a xs] s₃ := S3.sv.st.sub (List.Sublist.trans (List.Sublist.cons_cons _ (List.nil_sublist _)) (List.sublist_append_right _ _))
  obtain ⟨p4, hh⟩ := upd_lst (ys := xs.set j dv) S0 e1 (·.setIfInBounds j v) (fun h' kp => by
    have := (r1.kp kp (in_self S0)).set (Rp.kp kp (in_self S0) hd) j
    simpa using this) s₃.toks
  obtain ⟨S4, m4⟩ := at_write (t' := .list a (xs.set j dv)) S3 hW p4 rfl hh
  exact ⟨M3, ρ, _, S4, ((m1.trans p2.mv).trans m3).trans m4, q⟩
end

theorem walks_shift {A : Around} {b : Bas} (hh : A.handled = none) (I : Addr) (a : Int) (n m : Nat) (pre : Array Value) (hp : pre.size = m) :
    Walks pw b.w A I [I] [I] (m + n) (fun i v => if i < m then pre[i]? = some v else ∃ t, v = .int (a + ((i - m : Nat) : Int)) t) (fun i h => m ≤ i ∧ IsRangeIter h I (a + ((i - m : Nat) : Int) * 1) ((n : Int) - ((i - m : Nat) : Int)) 1) := by
  have W := Walks.range (prog := pw) (w := b.w) (A := A) hh I a 1 n
  refine ⟨W.sub, fun i h h' st hk => ⟨st.1, W.frame _ _ _ st.2 hk⟩, fun i s Q E hi st hQ => ?_, fun s Q E st hQ => ?_, fun i s Q E st h => W.self _ s Q E st.2 h⟩
  · refine W.item (i - m) s Q E (by omega) st.2 fun v h' tk hv st' hk => hQ v h' tk ?_ ⟨by omega, ?_⟩ hk
    · obtain ⟨t, rfl⟩ := hv
      rw [if_neg (by omega)]
      exact ⟨t, by rw [Int.mul_one]⟩
    · rw [show i + 1 - m = i - m + 1 by omega]; exact st'
  · have := st.2
    rw [show m + n - m = n by omega] at this
    exact W.done s Q E this hQ
section
variable {b : Bas} {n : Nat}
theorem cn_extend {a : Addr} {xs : List PyData} {lo hi : Int} {Q : D → List MO → Prop} (hs : Small lo hi) (hz : xs.length + (hi - lo).toNat ≤ big) (q : Q .none [.list a (xs ++ (nums lo hi).map .int)]) : Cn b n [.list a xs] (.builtin "list.extend") [.raw (.ref a), .rng lo hi] Q := cn_write fun A M s vs R S hv => by
  apply hv.d2; intro _ _ h1 h2
  obtain rfl : _ = Value.ref a := h1
  obtain ⟨r, t, u, c, rfl, mr, hr⟩ := h2
  obtain ⟨us, k, e, rr⟩ := S.mo _ List.mem_cons_self
  have l1 := rr.length
  rw [Array.length_toList] at l1
  have haM : a ∈ M := S.moM _ List.mem_cons_self
  have har : a ≠ r := fun q => mr (q ▸ haM)
  have haI : a ≠ s.heap.objs.size := Nat.ne_of_lt (Heap.lt_size e)
  have hsz := hs.2.2.2.2
  simp only [big] at hz hsz
  refine wpAny_call (codeAny_call_builtin F.slot_list_extend.plain F.entry_list_extend (F.slot_list_extend.check _ _ _ _ _ _ _ _ ⟨_, e, rfl⟩ (F.args_list_extend_2 _ _) ?_))
  show wpAny _ _ (Builtin.List.listExtendWith (.ref a) (.ref r) .none) _ _ _
  have W := (walks_shift (b := b) (A := A.in1) (show A.in1.handled = none from R.handled) s.heap.objs.size lo (hi - lo).toNat us.size us rfl).toS
  have key : ∀ (h : Heap) (c₁ tk : Nat), IsRangeIter h s.heap.objs.size lo ((hi - lo).toNat : Int) 1 → (∀ d o, d ≠ a → s.heap.get? d = some o → h.get? d = some o) →
      h.get? a = some { cls := .type "list", data := .seq us c₁ } → codeAny (Mo b) A (.builtin "list.extend.loop" ⟨[.ref a, .ref s.heap.objs.size, .none], []⟩) (fun r s' => match r with | .ok (.ret v) => ∃ t' d, Pw [a] s s' ∧ t'.addr = a ∧ t'.holds b M s'.heap ∧ Dp M s'.heap v d ∧ Q d [t'] | .ok _ => False | .error e => noE e s') { s with heap := h, toks := tk } := by
    intro h c₁ tk hit hk hS₁
    refine codeAny_extend_loopS W (by rw [sizeLine_eq]; omega) a (fun hm => haI (List.mem_singleton.mp hm)) .none (hi - lo).toNat us.size _ us c₁ (by omega) (by omega) ⟨Nat.le_refl _, by simpa using hit⟩ hS₁ ⟨rfl, fun j v hj => ?_⟩ fun s' acc' c' hm hS' hacc => ?_
    · dsimp only
      rw [if_pos (by have := (Array.getElem?_eq_some_iff.mp hj).1; exact this)]; exact hj
    · have kp : Kp [a] s.heap s'.heap := fun d o hd ho => hm.heap d o (fun hmem => by
        rcases List.mem_cons.mp hmem with e' | hmem
        · exact hd (by rw [e']; exact List.mem_cons_self)
        · exact absurd (Heap.lt_size ho) (by rw [List.mem_singleton.mp hmem]; exact Nat.lt_irrefl _)) (hk d o (fun e' => hd (by rw [e']; exact List.mem_cons_self)) ho)
      have eqs := Moved.eq_with hm
      refine ⟨.list a (xs ++ (nums lo hi).map .int), .none, ⟨kp, by rw [eqs], by rw [eqs]⟩, rfl, ⟨acc', c', hS', ?_⟩, .none, q⟩
      refine RpAll.mk (by rw [Array.length_toList, hacc.1, List.length_append, List.length_map, nums_length, ← l1]) fun j v d hv hd => ?_
      have hP := hacc.2 j v (by simpa using hv)
      dsimp only at hP
      by_cases hj : j < us.size
      · rw [if_pos hj] at hP
        rw [List.getElem?_append_left (by omega)] at hd
        obtain ⟨d', hd', rd⟩ := rr.get' (k := j) (v := v) (by simpa using hP)
        rw [hd] at hd'; cases hd'
        exact Rp.kp kp (in_self S) rd
      · rw [if_neg hj] at hP
        obtain ⟨t', rfl⟩ := hP
        rw [List.getElem?_append_right (by omega), List.getElem?_map] at hd
        cases hk' : (nums lo hi)[j - xs.length]? with
        | none => rw [hk'] at hd; cases hd
        | some z =>
          rw [hk'] at hd
          simp at hd
          subst hd
          unfold nums at hk'
          rw [List.getElem?_map] at hk'
          cases hr' : (List.range (hi - lo).toNat)[j - xs.length]? with
          | none => rw [hr'] at hk'; cases hk'
          | some y =>
            rw [hr'] at hk'
            obtain ⟨g1, g2⟩ := List.getElem?_eq_some_iff.mp hr'
            simp at g2 hk'
            rw [show lo + ((j - us.size : Nat) : Int) = z by omega]
            exact .int _ _
  unfold Builtin.List.listExtendWith
  refine wpAny_bind (wpAny_typeOf (T := "range") ⟨_, hr, rfl⟩ ?_)
  have h1 : Builtin.List.listSameRef (.ref a) (.ref r) = false := by simp [Builtin.List.listSameRef, har]
  have h2 : (Value.type "range" == Value.type "list") = false := by decide
  have h3 : (Value.type "range" == Value.type "tuple") = false := by decide
  simp only [h1, h2, h3, Bool.or_false, Bool.false_eq_true, if_false]
  refine wpAny_bind (wpAny_pyIter_range hr hs.rng ?_)
  refine wpAny_bind (wpAny_holding (wpAny_hint_range (n := (hi - lo).toNat) (Heap.get?_push_of_some _ hr) (size_rng lo hi) (by omega) ?_))
  have hit₁ : IsRangeIter (s.heap.push { cls := .type "range_iterator", data := .fields #[rawInt lo, rawInt (Builtin.Range.rangeSize lo hi 1), rawInt 1] }) s.heap.objs.size lo ((hi - lo).toNat : Int) 1 := by
    show IsRangeIter _ _ _ _ _; rw [size_rng]; exact Heap.get?_push_size _ rfl
  have hS₁ := Heap.get?_push_of_some { cls := .type "range_iterator", data := .fields #[rawInt lo, rawInt (Builtin.Range.rangeSize lo hi 1), rawInt 1] } e
  refine wpAny_ite_split (fun _ => ?_) (fun _ => ?_)
  · refine wpAny_bind (wpAny_rule ?_)
    refine wpAny_bind ?_
    show wpAny _ _ (updateSeq a (·.push .none) >>= fun _ => updateSeq a (·.pop)) _ _ _
    refine wpAny_bind (wpAny_updateSeq (hz := by rw [l1, sizeLine_eq]; omega) (_hz' := by rw [Array.size_push, l1, sizeLine_eq]; omega) hS₁ rfl ?_)
    have hS₂ := Heap.get?_update_self (Obj.mapSeq (·.push Value.none)) hS₁ rfl
    refine wpAny_updateSeq (hz := by rw [Array.size_push, l1, sizeLine_eq]; omega) (_hz' := by rw [Array.size_pop, Array.size_push, l1, sizeLine_eq]; omega) hS₂ rfl ?_
    have hS₃ := Heap.get?_update_self (Obj.mapSeq (·.pop)) hS₂ rfl
    refine wpAny_pure ⟨plainId_quiet F.plain_extend_loop _, key _ _ _ ?_ (fun d o hb e => ?_) (hS₃.trans (by simp [Obj.mapSeq]; rfl))⟩
    · exact (Heap.get?_update_other _ _ haI).trans ((Heap.get?_update_other _ _ haI).trans hit₁)
    · exact (Heap.get?_update_other _ _ (Ne.symm hb)).trans ((Heap.get?_update_other _ _ (Ne.symm hb)).trans (Heap.get?_push_of_some _ e))
  · exact wpAny_pure ⟨plainId_quiet F.plain_extend_loop _, key _ _ _ hit₁ (fun d o _ e => Heap.get?_push_of_some _ e) hS₁⟩
end

noncomputable def putD : List Str → List D → List (Str × D) → List (Str × D)
  | x :: xs, d :: ds, ρ => putD xs ds ((x, d) :: Del x ρ)
  | _, _, ρ => ρ
/-- what stores to these names, one behind the other -/
inductive Stores (b : Bas) (env : Env) : List (Value → Sem Unit) → List Str → Prop
  | nil : Stores b env [] []
  | cons {t : Value → Sem Unit} {x : Str} {ts xs} : (∀ (A : Around) (s : Shared) (v : Value) (Q : Unit → Shared → Prop), wpAny (Mo b) A (storeName env x v) Q noE s → wpAny (Mo b) A (t v) Q noE s) → Stores b env ts xs → Stores b env (t :: ts) (x :: xs)
theorem stores_names {b : Bas} {env : Env} : ∀ xs : List (Str × Pos), Stores b env ((assignEach (xs.map fun p => PySem.Expr.Name p.1 p.2) env).map (·.2)) (xs.map (·.1))
  | [] => .nil
  | (x, p) :: xs => .cons (fun A s v Q h => PyProof.Rows.assign_Name h) (stores_names xs)
theorem stores_binds {b : Bas} {env : Env} : ∀ xs : List Str, Stores b env (xs.map fun n => bindName env n) xs
  | [] => .nil
  | x :: xs => .cons (fun A s v Q h => bindName_ h) (stores_binds xs)
section
variable {b : Bas} {n : Nat} {sc : Scope} {c : Cx b n sc} {ρ : List (Str × D)} {X : List MO}
theorem in_orderD {A : Around} {env : Env} {M : List Addr} {ts : List (Value → Sem Unit)} {xs : List Str} {ds : List D} {vs : List Value} {ρ : List (Str × D)} {s : Shared} (h : Stores b env ts xs) (S : Sv b sc env M ρ X s) (hx : ∀ x ∈ xs, Own sc x = true) (hl : xs.length = ds.length) (r : DpAll M s.heap vs ds) :
    wpAny (Mo b) A (assignInOrder ts vs) (fun _ s' => Sv b sc env M (putD xs ds ρ) X s' ∧ Pw (Wr env) s s') noE s := by
  induction h generalizing ds vs ρ s with
  | nil => cases ds with
    | nil => exact assignInOrder_nil ⟨S, Pw.refl⟩
    | cons => cases hl
  | @cons t x ts xs ht _ ih =>
    cases ds with
    | nil => cases hl
    | cons d ds =>
      cases r with
      | @cons v _ vs _ r1 r2 =>
        refine assignInOrder_cons (ht A s v _ ?_)
        refine wp_weak (sv_store (ns := [x]) S (hx _ List.mem_cons_self) (by simp) r1) fun _ s₁ ⟨S1, p1⟩ => ?_
        have p1' := p1.more (W' := Wr env) wn_wr
        exact wp_weak (ih S1 (fun y hy => hx y (List.mem_cons_of_mem _ hy)) (by simpa using hl) (r2.imp fun v d y => y.kp p1'.kp fun a h => .inl (S.wrM a h))) fun _ s₂ q => ⟨q.1, p1'.trans q.2⟩
theorem dp_rev {M : List Addr} {h : Heap} : ∀ {vs : List Value} {ds : List D}, DpAll M h vs ds → DpAll M h vs.reverse ds.reverse
  | _, _, .nil => .nil
  | _, _, .cons a r => by rw [List.reverse_cons, List.reverse_cons]; exact dp_app (dp_rev r) (.cons a .nil)
/-- several names from as many values, written side by side -/
theorem do_assignTT {xs : List (Str × Pos)} {es : List PySem.Expr} {k k' : Nat} {tpos vpos pos : Pos} {Q : List (Str × D) → List MO → Fl → Prop} (h : c.Es ρ X es fun ds X1 => xs.length = ds.length ∧ Q (putD (xs.map (·.1)) ds ρ) X1 .nxt) (hx : (xs.all fun x => Own sc x.1) = true) (hz : xs.length ≤ 10)
    (hs : ∀ env, swapsWithSole [.Tuple (xs.map fun p => PySem.Expr.Name p.1 p.2) k tpos] (.Tuple es k' vpos) pos.line env = pure false) (hw : ∀ env, env.scope = sc → swappedStores [.Tuple (xs.map fun p => PySem.Expr.Name p.1 p.2) k tpos] (.Tuple es k' vpos) env = pure none) :
    c.Do ρ X (.Assign [.Tuple (xs.map fun p => PySem.Expr.Name p.1 p.2) k tpos] (.Tuple es k' vpos) pos) Q := fun M s S => by
  refine Assign_Tuple (PySem.wpAny_Tuple (wp_weak (h M s _ S) fun vs s₁ ⟨M1, X1, ds, S1, m1, d1, hl, q⟩ => ?_)) (hs _) (hw _ S.sv.eo.scope)
  have hvl := d1.length
  have hvl' : vs.length = xs.length := hvl.trans hl.symm
  refine ⟨by rw [hvl']; exact big_line (by simp only [big]; omega), ?_⟩
  have p2 : Pr s₁ { s₁ with heap := s₁.heap.push { cls := .type "tuple", data := .seq vs.toArray } } := ⟨Kp.push, rfl, rfl⟩
  have S2 := S1.pure p2
  refine assign_Tuple_tuple (items := vs.toArray) c.rm.handled ⟨_, Heap.get?_push_size _ rfl, rfl, _, rfl⟩ (by rw [each_names]; simp [hvl']) (by rw [each_names]; rw [List.findIdx?_map]; exact List.findIdx?_eq_none_iff.mpr fun _ _ => rfl) fun h' he => ?_
  have p3 : Pr { s₁ with heap := s₁.heap.push { cls := .type "tuple", data := .seq vs.toArray } } { s₁ with heap := h' } := ⟨fun a o _ e => he a o (Nat.ne_of_lt (Heap.lt_size e)) e, rfl, rfl⟩
  have S3 := S2.pure p3
  have h3 := in_orderD (A := c.A) (stores_names (b := b) (env := c.frm) xs) S3.sv (fun x hx' => by obtain ⟨p, hp, rfl⟩ := List.mem_map.mp hx'; exact List.all_eq_true.mp hx p hp) (by rw [List.length_map]; exact hl) ((d1.keep p2.kp).keep p3.kp)
  refine wp_weak h3 fun _ s₄ ⟨S4, p4⟩ => ⟨M1, _, X1, at_put S3 S4 p4, ((m1.trans p2.mv).trans p3.mv).trans (mv_put S3 p4), q⟩
/-- the same where the stores go from behind -/
theorem do_assignTS {xs : List (Str × Pos)} {es : List PySem.Expr} {k k' : Nat} {tpos vpos pos : Pos} {Q : List (Str × D) → List MO → Fl → Prop} (h : c.Es ρ X es fun ds X1 => xs.length = ds.length ∧ Q (putD (xs.map (·.1)).reverse ds.reverse ρ) X1 .nxt) (hx : (xs.all fun x => Own sc x.1) = true) (hz : xs.length ≤ 10)
    (hs : ∀ env, swapsWithSole [.Tuple (xs.map fun p => PySem.Expr.Name p.1 p.2) k tpos] (.Tuple es k' vpos) pos.line env = pure false) (hw : ∀ env, env.scope = sc → swappedStores [.Tuple (xs.map fun p => PySem.Expr.Name p.1 p.2) k tpos] (.Tuple es k' vpos) env = pure (some (xs.map (·.1)))) :
    c.Do ρ X (.Assign [.Tuple (xs.map fun p => PySem.Expr.Name p.1 p.2) k tpos] (.Tuple es k' vpos) pos) Q := fun M s S => by
  refine Assign_Tuple_swapped (names := xs.map (·.1)) (PySem.wpAny_Tuple (wp_weak (h M s _ S) fun vs s₁ ⟨M1, X1, ds, S1, m1, d1, hl, q⟩ => ?_)) (hs _) (hw _ S.sv.eo.scope)
  have hvl := d1.length
  have hvl' : vs.length = xs.length := hvl.trans hl.symm
  refine ⟨by rw [hvl']; exact big_line (by simp only [big]; omega), ?_⟩
  have p2 : Pr s₁ { s₁ with heap := s₁.heap.push { cls := .type "tuple", data := .seq vs.toArray } } := ⟨Kp.push, rfl, rfl⟩
  have S2 := S1.pure p2
  have hlen : (xs.map (·.1)).length = vs.toArray.size := by simp [hvl']
  rw [hlen]
  refine unpackItems_tuple (items := vs.toArray) c.rm.handled ⟨_, Heap.get?_push_size _ rfl, rfl, _, rfl⟩ fun h' he => ?_
  have p3 : Pr { s₁ with heap := s₁.heap.push { cls := .type "tuple", data := .seq vs.toArray } } { s₁ with heap := h' } := ⟨fun a o _ e => he a o (Nat.ne_of_lt (Heap.lt_size e)) e, rfl, rfl⟩
  have S3 := S2.pure p3
  have h3 := in_orderD (A := c.A) (stores_binds (b := b) (env := c.frm) (xs.map (·.1)).reverse) S3.sv (fun x hx' => by obtain ⟨p, hp, rfl⟩ := List.mem_map.mp (List.mem_reverse.mp hx'); exact List.all_eq_true.mp hx p hp) (ds := ds.reverse) (by simp [hl]) (dp_rev ((d1.keep p2.kp).keep p3.kp))
  refine wp_weak h3 fun _ s₄ ⟨S4, p4⟩ => ⟨M1, _, X1, at_put S3 S4 p4, ((m1.trans p2.mv).trans p3.mv).trans (mv_put S3 p4), q⟩
/-- a comprehension given to a name of the block's own -/
theorem do_assignC {x : Str} {pos' spos pos : Pos} {elt tgt iter : PySem.Expr} {ifs : List PySem.Expr} {rest : List Comprehension} {scope : Scope} (ns : List Str) {d : D} {ds : List D} {out : List PyData} {Q : List (Str × D) → List MO → Fl → Prop}
    (h1 : Ev b n sc ρ X iter d) (hi : Iter d ds) (hc : CL b n (relab scope sc) (Cap scope ρ) X ns (.ListComp elt (⟨tgt, iter, ifs, 0⟩ :: rest) scope pos) 0 ds out) (hz : out.length ≤ big) (q : Q ((x, .list out) :: Del x ρ) X .nxt)
    (hx : Own sc x = true := by decide +kernel) (hok : CompOk scope sc = true := by decide +kernel) (hns : NsOk scope ns = true := by decide +kernel) (hs : ∀ env x, foldedSetIterable iter env x = pure x := by intro _ _; rfl)
    (hsw : ∀ env, env.scope = sc → swapsWith (.ListComp elt (⟨tgt, iter, ifs, 0⟩ :: rest) scope pos) (some (.Name x pos')) spos.line env = pure true := by intro env h; cases env; cases h; rfl) :
    c.Do ρ X (.Assign [.Name x pos'] (.ListComp elt (⟨tgt, iter, ifs, 0⟩ :: rest) scope pos) spos) Q := fun M s S => by
  rw [exec_Assign_Name_used _ _ _ _ (hsw _ S.sv.eo.scope)]
  refine wpAny_bind (wpAny_standAt (wpAny_bind ?_))
  show wpAny _ c.A (do let _ ← comprehension (.ListComp elt (⟨tgt, iter, ifs, 0⟩ :: rest) scope pos) scope c.frm _ (newList []) false (eval iter c.frm) (some (assign (.Name x pos') c.frm))) _ _ s
  refine wpAny_bind (wp_weak (comp_walk (use := some (assign (.Name x pos') c.frm)) (Q := fun _ s' => FlowIs c M s Q .next s') rfl hok hns (hs _) c.rm S.sv h1 hi hc hz fun ax C s' m g1 g2 g3 g4 g5 g6 g7 => ?_) fun _ s' hq => wpAny_pure (wpAny_pure hq))
  show wpAny _ c.A (assign (.Name x pos') c.frm (.ref ax)) _ _ s'
  have hCM : C ∉ M := fun q => by obtain ⟨o, h⟩ := S.sv.st.exM _ q; cases g2.symm.trans h
  have hCW : C ∉ Wr c.frm := fun q => hCM (S.sv.wrM _ q)
  have V1 := S.sv.grow g6 g2 (let ⟨o, _, _, e, _⟩ := g4; ⟨o, e⟩)
  refine PyProof.Rows.assign_Name (wp_weak (sv_store (ns := [x]) V1 hx (by simp) g5) fun _ s₂ ⟨V2, p2⟩ => ?_)
  have p2' := p2.more (W' := Wr c.frm) wn_wr
  refine ⟨m, g4.at' fun o e => p2'.kp _ o hCW e, fun h' hs' => ?_⟩
  have p3 : Pw [C] s₂ { s₂ with heap := h' } := ⟨Kp.sameBut hs', rfl, rfl⟩
  have V3 := V2.leave S.sv hCM p3
  have pA : Pw (Wr c.frm) s { s₂ with heap := h' } := ((g6.pw (W := C :: Wr c.frm)).trans (p2'.more fun a h => List.mem_cons_of_mem _ h)).trans (p3.more (by simp)) |>.fresh fun a h => (List.mem_cons.mp h).elim (fun q => .inr (q ▸ g2)) .inl
  exact ⟨M, _, X, at_put S V3 pA, mv_put S pA, q⟩
end

noncomputable def stOf (i : Nat) : Stmt := pw.main.body.getD i (.Pass ⟨0,0,0,0⟩)
noncomputable def bodyOf : Stmt → List Stmt
  | .FunctionDef _ _ body .. => body
  | .ClassDef _ _ _ body .. => body
  | _ => []
noncomputable def scopeOf : Stmt → Scope
  | .FunctionDef _ _ _ _ _ _ sc .. => sc
  | _ => default
noncomputable def paramsOf : Stmt → Arguments
  | .FunctionDef _ a .. => a
  | _ => default
noncomputable def methOf (i j : Nat) : Stmt := (bodyOf (stOf i)).getD j (.Pass ⟨0,0,0,0⟩)
noncomputable def fdOf (st : Stmt) (nm q : Str) (cd doc pm ct : Value) (an : Option Addr) : FuncData :=
  { name := nm, qualname := q, params := paramsOf st, body := .stmts (bodyOf st), scope := scopeOf st, globals := mainGlobals, closure := [], defaults := .none, kwdefaults := .none, doc := doc, pyModule := pm, annotations := an, code := cd, closureTuple := ct, builtins := builtinsNs }
/-- the function of a def stands at a -/
inductive IsFn (b : Bas) (st : Stmt) (a : Addr) : Prop
  | mk (nm q : Str) (cd doc pm ct : Value) (an : Option Addr) (F : FnAt b a (fdOf st nm q cd doc pm ct an)) : IsFn b st a
theorem IsFn.ke {b : Bas} {st : Stmt} {a : Addr} (h : IsFn b st a) : Ke b (.ref a) := let ⟨_, _, _, _, _, _, _, F⟩ := h; F.ke
noncomputable def BindOk (st : Stmt) (names : List Str) : Prop := ∀ nm q cd doc pm ct an (vs : List Value), vs.length = names.length → bindArgs (fdOf st nm q cd doc pm ct an) ⟨vs, []⟩ = pure (names.zip vs)
theorem fn_of {b : Bas} {n : Nat} {X : List MO} {a : Addr} {st : Stmt} (names : List Str) {ds : List D} {r : D} (F : IsFn b st a)
    (h : ∀ c : Cx b n (scopeOf st), c.W = [] → c.Go (names.zip ds) X (bodyOf st) fun _ _ fl => fl.res = r)
    (hbind : BindOk st names) (hok : DefOk (scopeOf st) names = true := by decide +kernel) (hlen : names.length = ds.length := by rfl) : Fn b (n + 1) X (.ref a) ds r := by
  obtain ⟨nm, q, cd, doc, pm, ct, an, F⟩ := F
  exact fn_def names F rfl rfl rfl rfl hok hlen (hbind nm q cd doc pm ct an) h
theorem cn_of {b : Bas} {n : Nat} {X : List MO} {a : Addr} {st : Stmt} (names : List Str) {ds : List D} {Q : D → List MO → Prop} (F : IsFn b st a)
    (h : ∀ c : Cx b n (scopeOf st), c.V = X.map MO.addr → c.W = X.map MO.addr → c.Go (names.zip ds) X (bodyOf st) fun _ X' fl => ∃ X'', X''.Sublist X' ∧ Q fl.res X'')
    (hbind : BindOk st names) (hok : DefOk (scopeOf st) names = true := by decide +kernel) (hlen : names.length = ds.length := by rfl) : Cn b (n + 1) X (.ref a) ds Q := by
  obtain ⟨nm, q, cd, doc, pm, ct, an, F⟩ := F
  exact cn_def names F rfl rfl rfl rfl hok hlen (hbind nm q cd doc pm ct an) h
theorem vs_cons {vs : List Value} {k : Nat} (h : vs.length = k + 1) : ∃ a r, vs = a :: r ∧ r.length = k := by
  cases vs with
  | nil => cases h
  | cons a r => exact ⟨a, r, rfl, by simpa using h⟩
theorem vs_nil {vs : List Value} (h : vs.length = 0) : vs = [] := List.eq_nil_of_length_eq_zero h
theorem bind1 {st : Stmt} {x : Str} (h : ∀ nm q cd doc pm ct an a, bindArgs (fdOf st nm q cd doc pm ct an) ⟨[a], []⟩ = pure [(x, a)]) : BindOk st [x] := fun nm q cd doc pm ct an vs hl => by
  obtain ⟨a, r0, rfl, k0⟩ := vs_cons hl; obtain rfl := vs_nil k0; exact h nm q cd doc pm ct an a
theorem bind2 {st : Stmt} {x y : Str} (h : ∀ nm q cd doc pm ct an a e, bindArgs (fdOf st nm q cd doc pm ct an) ⟨[a, e], []⟩ = pure [(x, a), (y, e)]) : BindOk st [x, y] := fun nm q cd doc pm ct an vs hl => by
  obtain ⟨a, r0, rfl, k0⟩ := vs_cons hl; obtain ⟨e, r1, rfl, k1⟩ := vs_cons k0; obtain rfl := vs_nil k1; exact h nm q cd doc pm ct an a e
theorem bind3 {st : Stmt} {x y z : Str} (h : ∀ nm q cd doc pm ct an a e f, bindArgs (fdOf st nm q cd doc pm ct an) ⟨[a, e, f], []⟩ = pure [(x, a), (y, e), (z, f)]) : BindOk st [x, y, z] := fun nm q cd doc pm ct an vs hl => by
  obtain ⟨a, r0, rfl, k0⟩ := vs_cons hl; obtain ⟨e, r1, rfl, k1⟩ := vs_cons k0; obtain ⟨f, r2, rfl, k2⟩ := vs_cons k1; obtain rfl := vs_nil k2; exact h nm q cd doc pm ct an a e f
theorem bind4 {st : Stmt} {x y z u : Str} (h : ∀ nm q cd doc pm ct an a e f g, bindArgs (fdOf st nm q cd doc pm ct an) ⟨[a, e, f, g], []⟩ = pure [(x, a), (y, e), (z, f), (u, g)]) : BindOk st [x, y, z, u] := fun nm q cd doc pm ct an vs hl => by
  obtain ⟨a, r0, rfl, k0⟩ := vs_cons hl; obtain ⟨e, r1, rfl, k1⟩ := vs_cons k0; obtain ⟨f, r2, rfl, k2⟩ := vs_cons k1; obtain ⟨g, r3, rfl, k3⟩ := vs_cons k2; obtain rfl := vs_nil k3; exact h nm q cd doc pm ct an a e f g
theorem bind5 {st : Stmt} {x y z u v : Str} (h : ∀ nm q cd doc pm ct an a e f g i, bindArgs (fdOf st nm q cd doc pm ct an) ⟨[a, e, f, g, i], []⟩ = pure [(x, a), (y, e), (z, f), (u, g), (v, i)]) : BindOk st [x, y, z, u, v] := fun nm q cd doc pm ct an vs hl => by
  obtain ⟨a, r0, rfl, k0⟩ := vs_cons hl; obtain ⟨e, r1, rfl, k1⟩ := vs_cons k0; obtain ⟨f, r2, rfl, k2⟩ := vs_cons k1; obtain ⟨g, r3, rfl, k3⟩ := vs_cons k2; obtain ⟨i, r4, rfl, k4⟩ := vs_cons k3; obtain rfl := vs_nil k4; exact h nm q cd doc pm ct an a e f g i
theorem in_del {x y : Str} {d : D} {ρ : List (Str × D)} (h : (x, d) ∈ ρ) (hne : (x != y) = true := by decide +kernel) : (x, d) ∈ Del y ρ := mem_del.mpr ⟨h, by simpa using hne⟩
theorem in_cap {scope : Scope} {x : Str} {d : D} {ρ : List (Str × D)} (h : (x, d) ∈ ρ) (k : scope.names.lookup x = some .free := by decide +kernel) : (x, d) ∈ Cap scope ρ := List.mem_filter.mpr ⟨h, by rw [k]; rfl⟩
theorem in_head {p : Str × D} {ρ : List (Str × D)} : p ∈ p :: ρ := List.mem_cons_self
theorem in_zh {x : Str} {d : D} {xs : List Str} {ds : List D} : (x, d) ∈ (x :: xs).zip (d :: ds) := List.mem_cons_self
theorem in_zt {p : Str × D} {x : Str} {d : D} {xs : List Str} {ds : List D} (h : p ∈ xs.zip ds) : p ∈ (x :: xs).zip (d :: ds) := List.mem_cons_of_mem _ h
theorem in_tail {p q : Str × D} {ρ : List (Str × D)} (h : p ∈ ρ) : p ∈ q :: ρ := List.mem_cons_of_mem _ h
theorem fn_max' {b : Bas} {n : Nat} {X : List MO} {i j : Int} : Fn b n X (.builtin "max") [.int i, .int j] (.int (max i j)) := by
  have := fn_max2 (b := b) (n := n) (X := X) (i := i) (j := j)
  rwa [show (if j > i then j else i) = max i j by split <;> omega] at this
theorem fn_min' {b : Bas} {n : Nat} {X : List MO} {i j : Int} : Fn b n X (.builtin "min") [.int i, .int j] (.int (min i j)) := by
  have := fn_min2 (b := b) (n := n) (X := X) (i := i) (j := j)
  rwa [show (if j < i then j else i) = min i j by split <;> omega] at this
theorem evn {b : Bas} {n : Nat} {sc : Scope} {ρ : List (Str × D)} {X : List MO} {x : Str} {pos : Pos} {d : D} (h : (x, d) ∈ ρ := by trivial) (hd : (x == ("__debug__" : Str)) = false := by decide +kernel) : Ev b n sc ρ X (.Name x pos) d := ev_name h hd
section
variable {b : Bas} {n : Nat} {sc : Scope} {ρ : List (Str × D)} {X : List MO}
noncomputable abbrev Has (x : Str) (d : D) (ρ : List (Str × D)) : Prop := (x, d) ∈ ρ
theorem ecall {func : PySem.Expr} {es : List PySem.Expr} {pos : Pos} {f : Value} {ds : List D} {r : D} {m : Nat} (h1 : Ev b n sc ρ X func (.raw f)) (h2 : Evs b n sc ρ X es ds) (ke : Ke b f) (h3 : Fn b m X f ds r) (hm : m ≤ n := by decide) (hp : plainArgs es = true := by rfl)
    (he : ∀ env, eval (.Call func es [] pos) env = (do callWith pos (← eval func env) [] (backTo pos (starEach es env)) []) := by intro _; rfl) : Ev b n sc ρ X (.Call func es [] pos) r := ev_call h1 h2 ke h3 hm (List.Sublist.refl _) hp he
theorem ecallB {func : PySem.Expr} {es : List PySem.Expr} {pos : Pos} {id : String} {ds : List D} {r : D} (h1 : Ev b n sc ρ X func (.raw (.builtin id))) (h2 : Evs b n sc ρ X es ds) (h3 : Fn b n X (.builtin id) ds r) (hp : plainArgs es = true := by rfl)
    (he : ∀ env, eval (.Call func es [] pos) env = (do callWith pos (← eval func env) [] (backTo pos (starEach es env)) []) := by intro _; rfl) : Ev b n sc ρ X (.Call func es [] pos) r := ev_call h1 h2 ke_builtin h3 (Nat.le_refl _) (List.Sublist.refl _) hp he
theorem ecallT {func : PySem.Expr} {es : List PySem.Expr} {pos : Pos} {id : String} {ds : List D} {r : D} (h1 : Ev b n sc ρ X func (.raw (.type id))) (h2 : Evs b n sc ρ X es ds) (h3 : Fn b n X (.type id) ds r) (hp : plainArgs es = true := by rfl)
    (he : ∀ env, eval (.Call func es [] pos) env = (do callWith pos (← eval func env) [] (backTo pos (starEach es env)) []) := by intro _; rfl) : Ev b n sc ρ X (.Call func es [] pos) r := ev_call h1 h2 ke_type h3 (Nat.le_refl _) (List.Sublist.refl _) hp he
theorem es1 {e : PySem.Expr} {d : D} (h1 : Ev b n sc ρ X e d) (he : ∀ env, starEach [e] env = (false, eval e env) :: starEach [] env := by intro _; rfl) : Evs b n sc ρ X [e] [d] := evs_cons h1 evs_nil he
theorem es2 {e f : PySem.Expr} {d g : D} (h1 : Ev b n sc ρ X e d) (h2 : Ev b n sc ρ X f g) (he : ∀ env, starEach [e, f] env = (false, eval e env) :: starEach [f] env := by intro _; rfl) (hf : ∀ env, starEach [f] env = (false, eval f env) :: starEach [] env := by intro _; rfl) : Evs b n sc ρ X [e, f] [d, g] := evs_cons h1 (es1 h2 hf) he
theorem es3 {e f i : PySem.Expr} {d g j : D} (h1 : Ev b n sc ρ X e d) (h2 : Ev b n sc ρ X f g) (h3 : Ev b n sc ρ X i j) (he : ∀ env, starEach [e, f, i] env = (false, eval e env) :: starEach [f, i] env := by intro _; rfl) (hf : ∀ env, starEach [f, i] env = (false, eval f env) :: starEach [i] env := by intro _; rfl) (hi : ∀ env, starEach [i] env = (false, eval i env) :: starEach [] env := by intro _; rfl) : Evs b n sc ρ X [e, f, i] [d, g, j] := evs_cons h1 (es2 h2 h3 hf hi) he
theorem etup1 {e : PySem.Expr} {k : Nat} {pos : Pos} {d : PyData} (h1 : Ev b n sc ρ X e (.dat d)) (he : ∀ env, starEach [e] env = (false, eval e env) :: starEach [] env := by intro _; rfl) : Ev b n sc ρ X (.Tuple [e] k pos) (.tup [d]) := ev_tup (ds := [d]) (es1 h1 he) (by simp [big])
theorem etup2 {e f : PySem.Expr} {k : Nat} {pos : Pos} {d g : PyData} (h1 : Ev b n sc ρ X e (.dat d)) (h2 : Ev b n sc ρ X f (.dat g)) (he : ∀ env, starEach [e, f] env = (false, eval e env) :: starEach [f] env := by intro _; rfl) (hf : ∀ env, starEach [f] env = (false, eval f env) :: starEach [] env := by intro _; rfl) : Ev b n sc ρ X (.Tuple [e, f] k pos) (.tup [d, g]) := ev_tup (ds := [d, g]) (es2 h1 h2 he hf) (by simp [big])
theorem etup3 {e f i : PySem.Expr} {k : Nat} {pos : Pos} {d g j : PyData} (h1 : Ev b n sc ρ X e (.dat d)) (h2 : Ev b n sc ρ X f (.dat g)) (h3 : Ev b n sc ρ X i (.dat j)) (he : ∀ env, starEach [e, f, i] env = (false, eval e env) :: starEach [f, i] env := by intro _; rfl) (hf : ∀ env, starEach [f, i] env = (false, eval f env) :: starEach [i] env := by intro _; rfl) (hi : ∀ env, starEach [i] env = (false, eval i env) :: starEach [] env := by intro _; rfl) : Ev b n sc ρ X (.Tuple [e, f, i] k pos) (.tup [d, g, j]) := ev_tup (ds := [d, g, j]) (es3 h1 h2 h3 he hf hi) (by simp [big])
theorem etup0 {k : Nat} {pos : Pos} : Ev b n sc ρ X (.Tuple [] k pos) (.tup []) := ev_tup (ds := []) evs_nil (by simp [big])
end
section
variable {b : Bas} {n : Nat} {sc : Scope} {c : Cx b n sc} {ρ : List (Str × D)} {X : List MO} {Q : List (Str × D) → List MO → Fl → Prop}
theorem do_mono {st : Stmt} {Q' : List (Str × D) → List MO → Fl → Prop} (h : c.Do ρ X st Q) (k : ∀ ρ X fl, Q ρ X fl → Q' ρ X fl) : c.Do ρ X st Q' := fun M s S => wp_weak (h M s S) fun _ _ q => flow_mono q k
/-- one statement, then the rest from what it leaves -/
theorem go_join {st : Stmt} {rest : List Stmt} (R : List (Str × D) → List MO → Prop) (h : c.Do ρ X st (fun ρ X fl => match fl with | .nxt => R ρ X | .ret d => Q ρ X (.ret d))) (k : ∀ ρ X, R ρ X → c.Go ρ X rest Q) : c.Go ρ X (st :: rest) Q := go_cons (do_mono h fun ρ X fl q => by
  cases fl with
  | nxt => exact k ρ X q
  | ret d => exact q)
theorem do_assign2S {x y : Str} {px py : Pos} {es : List PySem.Expr} {k k' : Nat} {tpos vpos pos : Pos} (h : c.Es ρ X es fun ds X1 => ∃ d e, ds = [d, e] ∧ Q ((x, d) :: Del x ((y, e) :: Del y ρ)) X1 .nxt) (hx : (Own sc x && Own sc y) = true := by decide +kernel)
    (hs : ∀ env, swapsWithSole [.Tuple [.Name x px, .Name y py] k tpos] (.Tuple es k' vpos) pos.line env = pure false := by intros; rfl) (hw : ∀ env, env.scope = sc → swappedStores [.Tuple [.Name x px, .Name y py] k tpos] (.Tuple es k' vpos) env = pure (some [x, y]) := by intro env h; cases env; cases h; rfl) :
    c.Do ρ X (.Assign [.Tuple [.Name x px, .Name y py] k tpos] (.Tuple es k' vpos) pos) Q := fun M s S =>
  do_assignTS (c := c) (Q := Q) (xs := [(x, px), (y, py)]) (fun M s p S => wp_weak (h M s p S) fun vs s' ⟨M', X', ds, a1, a2, a3, d, e, h1, h2⟩ => ⟨M', X', ds, a1, a2, a3, by subst h1; exact ⟨rfl, h2⟩⟩) (by simpa using hx) (by simp) hs hw M s S
theorem do_assign3S {x y z : Str} {px py pz : Pos} {es : List PySem.Expr} {k k' : Nat} {tpos vpos pos : Pos} (h : c.Es ρ X es fun ds X1 => ∃ d e f, ds = [d, e, f] ∧ Q ((x, d) :: Del x ((y, e) :: Del y ((z, f) :: Del z ρ))) X1 .nxt) (hx : (Own sc x && Own sc y && Own sc z) = true := by decide +kernel)
    (hs : ∀ env, swapsWithSole [.Tuple [.Name x px, .Name y py, .Name z pz] k tpos] (.Tuple es k' vpos) pos.line env = pure false := by intros; rfl) (hw : ∀ env, env.scope = sc → swappedStores [.Tuple [.Name x px, .Name y py, .Name z pz] k tpos] (.Tuple es k' vpos) env = pure (some [x, y, z]) := by intro env h; cases env; cases h; rfl) :
    c.Do ρ X (.Assign [.Tuple [.Name x px, .Name y py, .Name z pz] k tpos] (.Tuple es k' vpos) pos) Q := fun M s S =>
  do_assignTS (c := c) (Q := Q) (xs := [(x, px), (y, py), (z, pz)]) (fun M s p S => wp_weak (h M s p S) fun vs s' ⟨M', X', ds, a1, a2, a3, d, e, f, h1, h2⟩ => ⟨M', X', ds, a1, a2, a3, by subst h1; exact ⟨rfl, h2⟩⟩) (by simpa [Bool.and_assoc] using hx) (by simp) hs hw M s S
theorem do_assign2T {x y : Str} {px py : Pos} {es : List PySem.Expr} {k k' : Nat} {tpos vpos pos : Pos} (h : c.Es ρ X es fun ds X1 => ∃ d e, ds = [d, e] ∧ Q ((y, e) :: Del y ((x, d) :: Del x ρ)) X1 .nxt) (hx : (Own sc x && Own sc y) = true := by decide +kernel)
    (hs : ∀ env, swapsWithSole [.Tuple [.Name x px, .Name y py] k tpos] (.Tuple es k' vpos) pos.line env = pure false := by intros; rfl) (hw : ∀ env, env.scope = sc → swappedStores [.Tuple [.Name x px, .Name y py] k tpos] (.Tuple es k' vpos) env = pure none := by intro env h; cases env; cases h; rfl) :
    c.Do ρ X (.Assign [.Tuple [.Name x px, .Name y py] k tpos] (.Tuple es k' vpos) pos) Q := fun M s S =>
  do_assignTT (c := c) (Q := Q) (xs := [(x, px), (y, py)]) (fun M s p S => wp_weak (h M s p S) fun vs s' ⟨M', X', ds, a1, a2, a3, d, e, h1, h2⟩ => ⟨M', X', ds, a1, a2, a3, by subst h1; exact ⟨rfl, h2⟩⟩) (by simpa using hx) (by simp) hs hw M s S
end
/-- a name that is not among the keys -/
noncomputable def NoKey (x : Str) (ρ : List (Str × D)) : Prop := ∀ p ∈ ρ, p.1 ≠ x
theorem nk_cap {scope : Scope} {x : Str} {ρ : List (Str × D)} (k : (scope.names.lookup x != some .free) = true := by decide +kernel) : NoKey x (Cap scope ρ) := fun p hp e => by
  have := (List.mem_filter.mp hp).2
  rw [e] at this
  simp only [beq_iff_eq] at this
  rw [this] at k
  exact absurd k (by decide)
theorem nk_cons {x y : Str} {d : D} {ρ : List (Str × D)} (h : NoKey x ρ) (k : (y != x) = true := by decide +kernel) : NoKey x ((y, d) :: ρ) := fun p hp => by
  rcases List.mem_cons.mp hp with rfl | hp
  · simpa using k
  · exact h p hp
theorem nk_del {x y : Str} {ρ : List (Str × D)} (h : NoKey x ρ) : NoKey x (Del y ρ) := fun p hp => h p (mem_del.mp hp).1
theorem sub1 {x : Str} {d : D} {ρ : List (Str × D)} (h : NoKey x ρ := by trivial) : ∀ p ∈ ρ, p ∈ (x, d) :: Del x ρ := fun p hp => List.mem_cons_of_mem _ (mem_del.mpr ⟨hp, h p hp⟩)
theorem sub2 {x y : Str} {d e : D} {ρ : List (Str × D)} (h : NoKey x ρ := by trivial) (k : NoKey y ((x, d) :: Del x ρ) := by trivial) : ∀ p ∈ ρ, p ∈ (y, e) :: Del y ((x, d) :: Del x ρ) := fun p hp => sub1 k p (sub1 h p hp)
theorem ite_of {t : Bool} {A B : Prop} (h : t = true → A) (k : t = false → B) : if t then A else B := by cases t <;> simp_all

local macro_rules | `(tactic| trivial) => `(tactic| with_reducible exact in_head)
local macro_rules | `(tactic| trivial) => `(tactic| (with_reducible refine in_tail ?_; trivial))
local macro_rules | `(tactic| trivial) => `(tactic| (with_reducible refine in_del ?_; trivial))
local macro_rules | `(tactic| trivial) => `(tactic| (with_reducible refine in_cap ?_; trivial))
local macro_rules | `(tactic| trivial) => `(tactic| with_reducible exact in_zh)
local macro_rules | `(tactic| trivial) => `(tactic| (with_reducible refine in_zt ?_; trivial))
local macro_rules | `(tactic| trivial) => `(tactic| with_reducible assumption)
/-- what the base of the law's run holds -/
structure Gs (b : Bas) : Prop where
  f2 : IsFn b (stOf 2) 28
  g2 : b.Gl "put_behind" (.ref 28)
  f3 : IsFn b (stOf 3) 35
  g3 : b.Gl "from_values" (.ref 35)
  f4 : IsFn b (stOf 4) 42
  g4 : b.Gl "least" (.ref 42)
  f5 : IsFn b (stOf 5) 49
  g5 : b.Gl "greatest" (.ref 49)
  f6 : IsFn b (stOf 6) 56
  g6 : b.Gl "next_from" (.ref 56)
  f7 : IsFn b (stOf 7) 63
  g7 : b.Gl "has" (.ref 63)
  g8 : b.Gl "has_domains" (.ref 63)
  f9 : IsFn b (stOf 9) 70
  g9 : b.Gl "values" (.ref 70)
  f10 : IsFn b (stOf 10) 75
  g10 : b.Gl "up_to" (.ref 75)
  f11 : IsFn b (stOf 11) 80
  g11 : b.Gl "from_on" (.ref 80)
  f12 : IsFn b (stOf 12) 87
  g12 : b.Gl "without" (.ref 87)
  f13 : IsFn b (stOf 13) 94
  g13 : b.Gl "meet" (.ref 94)
  f14 : IsFn b (stOf 14) 101
  g14 : b.Gl "negation" (.ref 101)
  f15 : IsFn b (stOf 15) 108
  g15 : b.Gl "struck" (.ref 108)
  f16 : IsFn b (stOf 16) 115
  g16 : b.Gl "said_of" (.ref 115)
  f26 : IsFn b (stOf 26) 473
  g26 : b.Gl "_law_draw" (.ref 473)
  f27 : IsFn b (stOf 27) 478
  g27 : b.Gl "_law_list" (.ref 478)
  f28 : IsFn b (stOf 28) 485
  g28 : b.Gl "_law_says" (.ref 485)
  f29 : IsFn b (stOf 29) 490
  g29 : b.Gl "_law_meant" (.ref 490)
  f30 : IsFn b (stOf 30) 495
  g30 : b.Gl "_law_worlds" (.ref 495)
  f31 : IsFn b (stOf 31) 500
  g31 : b.Gl "_law_is_in" (.ref 500)
  f32 : IsFn b (stOf 32) 505
  g32 : b.Gl "_law_do_hold" (.ref 505)
  f33 : IsFn b (stOf 33) 510
  g33 : b.Gl "_law_are_kept" (.ref 510)
  f34 : IsFn b (stOf 34) 515
  g34 : b.Gl "_law_behind" (.ref 515)
  f35 : IsFn b (stOf 35) 520
  g35 : b.Gl "_law_has_supports" (.ref 520)
  f36 : IsFn b (stOf 36) 525
  g36 : b.Gl "_law_run" (.ref 525)
  f37 : IsFn b (stOf 37) 530
  g37 : b.Gl "_law_built" (.ref 530)
  f38 : IsFn b (stOf 38) 537
  g38 : b.Gl "_law_decided" (.ref 537)
  max : b.Gl "max" (.builtin "max")
  min : b.Gl "min" (.builtin "min")
  len : b.Gl "len" (.builtin "len")
  abs : b.Gl "abs" (.builtin "abs")
  sum : b.Gl "sum" (.builtin "sum")
  sorted : b.Gl "sorted" (.builtin "sorted")
  range : b.Gl "range" (.type "range")
  tuple : b.Gl "tuple" (.type "tuple")
  list : b.Gl "list" (.type "list")
  set : b.Gl "set" (.type "set")
noncomputable abbrev Dom := List (Int × Int)
noncomputable def dI (p : Int × Int) : PyData := .tuple [.int p.1, .int p.2]
noncomputable abbrev dD (d : Dom) : PyData := .tuple (d.map dI)
noncomputable def nextFrom : Dom → Int → Option Int
  | [], _ => none
  | (l, h) :: r, v => if v ≤ h then some (max l v) else nextFrom r v
noncomputable def leastOf (d : Dom) : Int := ((d.head?).map (·.1)).getD 0
noncomputable def greatestOf (d : Dom) : Int := ((d.getLast?).map (·.2)).getD 0
noncomputable def optI : Option Int → D
  | none => .none
  | some i => .int i
section
variable {b : Bas} {X : List MO} (G : Gs b)
theorem iter_dom {d : Dom} : Iter (.dat (dD d)) (d.map fun p => .dat (dI p)) := by
  have := Iter.tup (d.map dI)
  rwa [List.map_map] at this
include G in
theorem f_next_from (d : Dom) (v : Int) : Fn b 1 X (.ref 56) [.dat (dD d), .int v] (optI (nextFrom d v)) := by
  refine fn_of ["d", "v"] G.f6 (fun c hW => ?_) (bind2 (by intros; rfl))
  refine go_cons (do_for ["low", "high"] d (fun p => .dat (dI p)) (fun done rest ρ X' => (("v" : Str), D.int v) ∈ ρ ∧ nextFrom d v = nextFrom rest v) (evn (d := .dat (dD d))) iter_dom ⟨by trivial, rfl⟩ ?_ ?_)
  · rintro lk done ⟨l, h⟩ rest ρ1 X1 - ⟨hv, hn⟩
    refine ⟨_, asg_tup2 (d := .int l) (e := .int h), go_cons (do_if (et_pure (tv_cmp (evn (d := .int v)) (evn (d := .int h)) cmp_le) (ite_of (fun ht => ?_) fun ht => ?_)))⟩
    · refine go_cons (do_return (ef_pure (ecallB (ev_glob G.max) (es2 (evn (d := .int l)) (evn (d := .int v))) fn_max') ?_))
      show D.int _ = _
      rw [hn, nextFrom, if_pos (of_decide_eq_true ht)]; rfl
    · refine go_nil (go_nil ⟨by trivial, ?_⟩)
      rw [hn, nextFrom, if_neg (of_decide_eq_false ht)]
  · rintro ρ' X' ⟨-, h⟩
    refine go_cons (do_return (ef_pure ev_none ?_))
    show D.none = _
    rw [h]; rfl
theorem dom_head {d : Dom} (h : d ≠ []) : (d.map dI)[0]? = some (.tuple [.int (leastOf d), .int ((d.head?.map (·.2)).getD 0)]) := by
  cases d with
  | nil => exact absurd rfl h
  | cons p r => rfl
theorem seq0 {k : Nat} (h : 0 < k) : seqIndex? 0 k = some 0 := by unfold seqIndex?; simp [h]
theorem seqL {k : Nat} (h : 0 < k) : seqIndex? (-1) k = some (k - 1) := by
  unfold seqIndex?
  simp; omega
theorem map_pos {α β : Type} {f : α → β} {d : List α} (h : d ≠ []) : 0 < (d.map f).length := by
  rw [List.length_map]; exact List.length_pos_iff.mpr h
theorem dom_last {d : Dom} (h : d ≠ []) : (d.map dI)[(d.map dI).length - 1]? = some (.tuple [.int ((d.getLast?.map (·.1)).getD 0), .int (greatestOf d)]) := by
  rw [← List.getLast?_eq_getElem?, List.getLast?_map]
  unfold greatestOf
  cases e : d.getLast? with
  | none => exact absurd (List.getLast?_eq_none_iff.mp e) h
  | some p => rfl
include G in
theorem f_least {d : Dom} (h : d ≠ []) : Fn b 1 X (.ref 42) [.dat (dD d)] (.int (leastOf d)) := by
  refine fn_of ["d"] G.f4 (fun c hW => ?_) (bind1 (by intros; rfl))
  exact go_cons (do_return (ef_pure (ev_item (ev_item (evn (d := .dat (dD d))) ev_int (itm_tup (seq0 (map_pos h)) (dom_head h))) ev_int (itm_tup rfl rfl)) rfl))
include G in
theorem f_greatest {d : Dom} (h : d ≠ []) : Fn b 1 X (.ref 49) [.dat (dD d)] (.int (greatestOf d)) := by
  refine fn_of ["d"] G.f5 (fun c hW => ?_) (bind1 (by intros; rfl))
  exact go_cons (do_return (ef_pure (ev_item (ev_item (evn (d := .dat (dD d))) (ev_neg ev_int) (itm_tup (seqL (map_pos h)) (dom_last h))) ev_int (itm_tup rfl rfl)) rfl))
theorem eqv_opt {o : Option Int} {v : Int} : Cmp b .Eq (optI o) (.int v) (o == some v) := by
  cases o with
  | none => 
    have := cmp_eqD (b := b) (d := .none) (e := .int v) rfl rfl
    exact this
  | some i => 
    have := cmp_eq (b := b) (i := i) (j := v)
    rwa [show (i == v) = (some i == some v) from rfl] at this
include G in
theorem f_has (d : Dom) (v : Int) : Fn b 2 X (.ref 63) [.dat (dD d), .int v] (.bool (nextFrom d v == some v)) := by
  refine fn_of ["d", "v"] G.f7 (fun c hW => ?_) (bind2 (by intros; rfl))
  exact go_cons (do_return (ef_pure (ev_cmp (ecall (ev_glob G.g6) (es2 (evn (d := .dat (dD d))) (evn (d := .int v))) G.f6.ke (f_next_from G d v)) (evn (d := .int v)) eqv_opt) rfl))
noncomputable def valuesOf (d : Dom) : List Int := d.flatMap fun p => nums p.1 (p.2 + 1)
/-- a domain in order, within limits -/
noncomputable def Dk (m : Int) : Dom → Prop
  | [] => True
  | (l, h) :: r => m ≤ l ∧ l ≤ h ∧ h ≤ 1000 ∧ Dk (h + 2) r
noncomputable abbrev DomOk (d : Dom) : Prop := Dk (-1000) d
theorem Dk.mono {m k : Int} {d : Dom} (h : Dk m d) (hk : k ≤ m) : Dk k d := by
  cases d with
  | nil => trivial
  | cons p r => obtain ⟨l, i⟩ := p; exact ⟨Int.le_trans hk h.1, h.2⟩
theorem Dk.size {m : Int} {d : Dom} (h : Dk m d) : (valuesOf d).length ≤ (1001 - m).toNat := by
  induction d generalizing m with
  | nil => simp [valuesOf]
  | cons p r ih =>
    obtain ⟨l, i⟩ := p
    obtain ⟨h1, h2, h3, h4⟩ := h
    have := ih h4
    unfold valuesOf at this ⊢
    rw [List.flatMap_cons, List.length_append, nums_length]
    dsimp only
    omega
theorem Dk.split {m : Int} {e : Dom} {p : Int × Int} {r : Dom} (h : Dk m (e ++ p :: r)) (hm : -1000 ≤ m) : -1000 ≤ p.1 ∧ p.1 ≤ p.2 ∧ p.2 ≤ 1000 := by
  induction e generalizing m with
  | nil => obtain ⟨l, i⟩ := p; exact ⟨Int.le_trans hm h.1, h.2.1, h.2.2.1⟩
  | cons q e ih => obtain ⟨l, i⟩ := q; exact ih h.2.2.2 (by have := h.1; have := h.2.1; omega)
theorem Dk.len {m : Int} {d : Dom} (h : Dk m d) : d.length ≤ (1001 - m).toNat := by
  induction d generalizing m with
  | nil => simp
  | cons p r ih => obtain ⟨l, i⟩ := p; have := ih h.2.2.2; obtain ⟨h1, h2, h3, -⟩ := h; rw [List.length_cons]; omega
theorem DomOk.len {d : Dom} (h : DomOk d) : d.length ≤ 2001 := Dk.len h
theorem values_app (d e : Dom) : valuesOf (d ++ e) = valuesOf d ++ valuesOf e := List.flatMap_append
include G in
theorem f_values {d : Dom} (h : DomOk d) : Fn b 1 X (.ref 70) [.dat (dD d)] (.list ((valuesOf d).map .int)) := by
  have hsz := h.size
  refine fn_of ["d"] G.f9 (fun c hW => ?_) (bind1 (by intros; rfl))
  refine go_cons (do_assign (ef_own (evF_list (ds := []) evs_nil) fun a ha => ?_))
  refine go_cons (do_for ["low", "high"] d (fun p => .dat (dI p)) (fun done rest ρ X' => Has "found" (.raw (.ref a)) ρ ∧ X' = .list a ((valuesOf done).map .int) :: X) (evn (d := .dat (dD d))) iter_dom ⟨by trivial, rfl⟩ ?_ ?_)
  · rintro lk done ⟨l, i⟩ rest ρ1 X1 hd ⟨hv, rfl⟩
    have hs := Dk.split (m := -1000) (e := done) (p := (l, i)) (r := rest) (hd ▸ h) (Int.le_refl _)
    have hl : (valuesOf done).length + (i + 1 - l).toNat ≤ 2001 := by
      rw [hd] at hsz
      rw [values_app] at hsz
      rw [List.length_append] at hsz
      unfold valuesOf at hsz
      rw [List.flatMap_cons, List.length_append, nums_length] at hsz
      dsimp only at hsz
      unfold valuesOf
      omega
    refine ⟨_, asg_tup2 (d := .int l) (e := .int i), go_cons (do_expr (ef_meth (evn (d := .raw (.ref a))) (gm_extend (a := a) List.mem_cons_self) ke_builtin
      (es_pure (es1 (ecallT (ev_glob G.range) (es2 (evn (d := .int l)) (ev_bin (evn (d := .int i)) ev_int bin_add)) fn_range2))
        (cl_cn [] [_] X (cn_extend ?_ ?_ ?_) (Nat.le_refl _) ?_))))⟩
    · dsimp only at hs; simp only [Small, big]; omega
    · rw [List.length_map]; simp only [big]; omega
    · refine ⟨by trivial, go_nil ⟨by trivial, ?_⟩⟩
      rw [values_app, List.map_append]
      simp [valuesOf]
    · intro t ht; rw [List.mem_singleton.mp ht]; exact .inr ha
  · rintro ρ' X' ⟨h1, rfl⟩
    refine go_freeze (L := []) "found" a _ h1 (by rw [List.length_map]; simp only [big]; omega) ha (fun _ _ h => nomatch h) ?_
    exact go_cons (do_return (ef_pure (evn (d := .list _)) rfl))
end

local macro_rules | `(tactic| trivial) => `(tactic| with_reducible exact nk_cap)
local macro_rules | `(tactic| trivial) => `(tactic| (with_reducible refine nk_cons ?_; trivial))
local macro_rules | `(tactic| trivial) => `(tactic| (with_reducible refine nk_del ?_; trivial))
noncomputable def putBehind (d : Dom) (l h : Int) : Dom := match d.getLast? with
  | none => [(l, h)]
  | some (a, c) => if l ≤ c + 1 then (if h > c then d.dropLast ++ [(a, h)] else d) else d ++ [(l, h)]
section
variable {b : Bas} {X : List MO} (G : Gs b)
theorem last_at {e : Dom} {p : Int × Int} : ((e ++ [p]).map dI)[((e ++ [p]).map dI).length - 1]? = some (dI p) := by simp
include G in
theorem c_put_behind {a : Addr} {d : Dom} {l h : Int} {Q : D → List MO → Prop} (hz : d.length ≤ 2001) (hQ : Q .none [.list a ((putBehind d l h).map dI)]) : Cn b 1 [.list a (d.map dI)] (.ref 28) [.raw (.ref a), .int l, .int h] Q := by
  have hzz : (d.map dI).length ≤ big := by rw [List.length_map]; simp only [big]; omega
  refine cn_of ["found", "low", "high"] G.f2 (fun c hV hW => ?_) (bind3 (by intros; rfl))
  have hin : (MO.list a (d.map dI)).addr ∈ c.W := by rw [hW]; exact List.mem_cons_self
  refine go_cons (do_if (et_pure (tv_bool (al_and (c := decide (((d.map dI).length : Int) > 0)) (c' := match d.getLast? with | none => true | some (_, c) => decide (l ≤ c + 1) && true) (tv_cmp (ecallB (ev_glob G.len) (es1 (evn (d := .raw (.ref a)))) (fn_lenM hzz)) ev_int cmp_gt) fun ht => ?_)) (ite_of (fun ht => ?_) fun ht => ?_)))
  · rcases List.eq_nil_or_concat d with rfl | ⟨e, ⟨u, v⟩, rfl⟩
    · simp at ht
    · rw [List.concat_eq_append] at hzz ⊢
      rw [List.getLast?_append]
      exact al_and (tv_cmp (evn (d := .int l)) (ev_bin (ev_item (ev_item (evn (d := .raw (.ref a))) (ev_neg ev_int) (itm_M List.mem_cons_self hzz (seqL (by simp)) last_at)) ev_int (itm_tup rfl rfl)) ev_int bin_add) cmp_le) fun _ => al_and_nil
  · rcases List.eq_nil_or_concat d with rfl | ⟨e, ⟨u, v⟩, rfl⟩
    · simp at ht
    · rw [List.concat_eq_append] at hzz ht hQ hz hin ⊢
      have hlv : l ≤ v + 1 := by
        rw [List.getLast?_append] at ht
        simpa using ht
      refine go_cons (do_if (et_pure (tv_cmp (evn (d := .int h)) (ev_item (ev_item (evn (d := .raw (.ref a))) (ev_neg ev_int) (itm_M List.mem_cons_self hzz (seqL (by simp)) last_at)) ev_int (itm_tup rfl rfl)) cmp_gt) (ite_of (fun hg => ?_) fun hg => ?_)))
      · refine go_cons (do_setL (ef_pure (d := .tup [.int u, .int h]) (etup2 (ev_item (ev_item (evn (d := .raw (.ref a))) (ev_neg ev_int) (itm_M List.mem_cons_self hzz (seqL (by simp)) last_at)) ev_int (itm_tup rfl rfl)) (evn (d := .int h))) ⟨a, _, rfl, evn, ef_pure (ev_neg ev_int) ⟨[], [], _, _, _, rfl, rfl, hzz, seqL (by simp), .inl hin, ?_⟩⟩))
        refine go_nil (go_nil (go_nil ⟨_, List.Sublist.refl _, ?_⟩))
        unfold putBehind at hQ
        rw [List.getLast?_append] at hQ
        simp only [List.getLast?_singleton, Option.some_or, hlv, if_true, of_decide_eq_true hg, List.dropLast_concat] at hQ
        show Q D.none _
        simpa [dI] using hQ
      · refine go_nil (go_nil (go_nil ⟨_, List.Sublist.refl _, ?_⟩))
        unfold putBehind at hQ
        rw [List.getLast?_append] at hQ
        simp only [List.getLast?_singleton, Option.some_or, hlv, if_true, of_decide_eq_false hg, if_false] at hQ
        exact hQ
  · refine go_cons (do_expr (ef_meth (evn (d := .raw (.ref a))) (gm_append (a := a) List.mem_cons_self) ke_builtin
      (es_pure (es1 (etup2 (d := .int l) (g := .int h) evn evn)) (cl_cn [] [_] [] (cn_append hzz ?_) (Nat.le_refl _) ?_))))
    · refine ⟨by trivial, go_nil (go_nil ⟨_, List.Sublist.refl _, ?_⟩)⟩
      have : putBehind d l h = d ++ [(l, h)] := by
        unfold putBehind
        cases hd : d.getLast? with
        | none => rw [List.getLast?_eq_none_iff.mp hd]; rfl
        | some p =>
          obtain ⟨u, v⟩ := p
          rw [hd] at ht
          have hne : 0 < d.length := by
            cases d with
            | nil => cases hd
            | cons => simp
          have : ¬ l ≤ v + 1 := by
            simpa [hne] using ht
          simp only [this, if_false]
      rw [this] at hQ
      show Q D.none _
      simpa [dI] using hQ
    · intro t ht; rw [List.mem_singleton.mp ht]; exact .inl hin
noncomputable def sortI (is : List Int) : List Int := is.mergeSort fun x y => decide (x ≤ y)
noncomputable def pileOf (is : List Int) : Dom := is.foldl (fun d v => putBehind d v v) []
noncomputable def fromValues (is : List Int) : Dom := pileOf (sortI is)
theorem putBehind_len (d : Dom) (l h : Int) : (putBehind d l h).length ≤ d.length + 1 := by
  unfold putBehind
  split
  · simp
  · split
    · split
      · simp <;> omega
      · simp
    · simp
theorem pile_len (is : List Int) : (pileOf is).length ≤ is.length := by
  have key : ∀ (is : List Int) (d : Dom), (is.foldl (fun d v => putBehind d v v) d).length ≤ d.length + is.length := by
    intro is
    induction is with
    | nil => simp
    | cons x r ih =>
      intro d
      rw [List.foldl_cons]
      have := ih (putBehind d x x)
      have := putBehind_len d x x
      rw [List.length_cons]; omega
  unfold pileOf; simpa using key is []
include G in
theorem f_from_values {is : List Int} (hz : is.length < 64) : Fn b 2 X (.ref 35) [.list (is.map .int)] (.dat (dD (fromValues is))) := by
  refine fn_of ["numbers"] G.f3 (fun c hW => ?_) (bind1 (by intros; rfl))
  have hsl : (sortI is).length = is.length := List.length_mergeSort ..
  refine go_cons (do_assign (ef_own (evF_list (ds := []) evs_nil) fun a ha => ?_))
  refine go_cons (do_for ["v"] (sortI is) (fun v => .int v) (fun done rest ρ X' => Has "found" (.raw (.ref a)) ρ ∧ X' = .list a ((pileOf done).map dI) :: X) (ecallB (ev_glob G.sorted) (es1 (evn (d := .list _))) (fn_sorted hz)) (by have := Iter.list ((sortI is).map .int); rwa [List.map_map] at this) ⟨by trivial, rfl⟩ ?_ ?_)
  · rintro lk done v rest ρ1 X1 hd ⟨hv, rfl⟩
    have hdl : done.length < 64 := by
      have := congrArg List.length hd
      rw [List.length_append, List.length_cons] at this; omega
    have hpl := pile_len done
    refine ⟨_, asg_name (d := .int v), go_cons (do_expr (ef_call (ev_glob G.g2) G.f2.ke (es_pure (es3 (evn (d := .raw (.ref a))) (evn (d := .int v)) (evn (d := .int v))) (cl_cn [] [_] X (c_put_behind G (d := pileOf done) (by omega) ?_) (by decide) ?_))))⟩
    · refine ⟨by trivial, go_nil ⟨by trivial, ?_⟩⟩
      show _ = MO.list a ((pileOf (done ++ [v])).map dI) :: X
      unfold pileOf
      rw [List.foldl_append]; rfl
    · intro t ht; rw [List.mem_singleton.mp ht]; exact .inr ha
  · rintro ρ' X' ⟨h1, rfl⟩
    have hpl := pile_len (sortI is)
    have hz : ((pileOf (sortI is)).map dI).length ≤ big := by rw [List.length_map]; simp only [big]; omega
    exact go_cons (do_return (ef_pure (ev_call (ev_glob G.tuple) (es1 (evn (d := .raw (.ref a)))) ke_type (fn_tupM (n := 1) hz) (by decide) (List.Sublist.cons_cons _ (List.nil_sublist _))) rfl))
noncomputable def upTo (d : Dom) (k : Int) : Dom := d.flatMap fun p => if p.1 ≤ k then [(p.1, min p.2 k)] else []
noncomputable def fromOn (d : Dom) (k : Int) : Dom := d.flatMap fun p => if p.2 ≥ k then [(max p.1 k, p.2)] else []
theorem flat_len {α β : Type} {f : α → List β} (h : ∀ a, (f a).length ≤ 1) : ∀ d : List α, (d.flatMap f).length ≤ d.length
  | [] => Nat.le_refl _
  | a :: r => by rw [List.flatMap_cons, List.length_append, List.length_cons]; have := h a; have := flat_len h r; omega
theorem upTo_len (d : Dom) (k : Int) : (upTo d k).length ≤ d.length := flat_len (fun p => by split <;> simp) d
theorem fromOn_len (d : Dom) (k : Int) : (fromOn d k).length ≤ d.length := flat_len (fun p => by split <;> simp) d
theorem flat_map {α β γ : Type} (f : α → List β) (g : β → γ) : ∀ d : List α, (d.flatMap f).map g = d.flatMap fun a => (f a).map g
  | [] => rfl
  | a :: r => by rw [List.flatMap_cons, List.flatMap_cons, List.map_append, flat_map f g r]
include G in
theorem f_up_to {d : Dom} {k : Int} (hz : d.length ≤ 5000) : Fn b 1 X (.ref 75) [.dat (dD d), .int k] (.dat (dD (upTo d k))) := by
  have hl := upTo_len d k
  have hz' : ((upTo d k).map dI).length ≤ big := by rw [List.length_map]; simp only [big]; omega
  refine fn_of ["d", "k"] G.f10 (fun c hW => ?_) (bind2 (by intros; rfl))
  refine go_cons (do_return (ef_pure (ecallT (ev_glob G.tuple) (es1 (ev_comp (out := (upTo d k).map dI) ["low", "high"] (evn (d := .dat (dD d))) iter_dom (cl_one d (fun p => .dat (dI p)) (fun p => if p.1 ≤ k then [dI (p.1, min p.2 k)] else []) rfl ?_ ?_) hz')) fn_tupL) rfl))
  · unfold upTo
    rw [flat_map]
    congr 1; funext p; split <;> rfl
  · rintro ⟨l, h⟩ -
    exact ⟨_, decide (l ≤ k), asg_tup2 (d := .int l) (e := .int h), sub2, ts_one (tv_cmp (evn (d := .int l)) (evn (d := .int k)) cmp_le), fun hc => ⟨dI (l, min h k), by rw [if_pos (of_decide_eq_true hc)], etup2 (d := .int l) evn (ecallB (ev_glob G.min) (es2 (evn (d := .int h)) (evn (d := .int k))) fn_min')⟩, fun hc => by rw [if_neg (of_decide_eq_false hc)]⟩
include G in
theorem f_from_on {d : Dom} {k : Int} (hz : d.length ≤ 5000) : Fn b 1 X (.ref 80) [.dat (dD d), .int k] (.dat (dD (fromOn d k))) := by
  have hl := fromOn_len d k
  have hz' : ((fromOn d k).map dI).length ≤ big := by rw [List.length_map]; simp only [big]; omega
  refine fn_of ["d", "k"] G.f11 (fun c hW => ?_) (bind2 (by intros; rfl))
  refine go_cons (do_return (ef_pure (ecallT (ev_glob G.tuple) (es1 (ev_comp (out := (fromOn d k).map dI) ["low", "high"] (evn (d := .dat (dD d))) iter_dom (cl_one d (fun p => .dat (dI p)) (fun p => if p.2 ≥ k then [dI (max p.1 k, p.2)] else []) rfl ?_ ?_) hz')) fn_tupL) rfl))
  · unfold fromOn
    rw [flat_map]
    congr 1; funext p; split <;> rfl
  · rintro ⟨l, h⟩ -
    exact ⟨_, decide (h ≥ k), asg_tup2 (d := .int l) (e := .int h), sub2, ts_one (tv_cmp (evn (d := .int h)) (evn (d := .int k)) cmp_ge), fun hc => ⟨dI (max l k, h), by rw [if_pos (of_decide_eq_true hc)], etup2 (g := .int h) (ecallB (ev_glob G.max) (es2 (evn (d := .int l)) (evn (d := .int k))) fn_max') evn⟩, fun hc => by rw [if_neg (of_decide_eq_false hc)]⟩
noncomputable def withoutF (d : Dom) (v : Int) : Dom := upTo d (v - 1) ++ fromOn d (v + 1)
include G in
theorem f_without {d : Dom} {v : Int} (hz : d.length ≤ 5000) : Fn b 2 X (.ref 87) [.dat (dD d), .int v] (.dat (dD (withoutF d v))) := by
  have h1 := upTo_len d (v - 1)
  have h2 := fromOn_len d (v + 1)
  refine fn_of ["d", "v"] G.f12 (fun c hW => ?_) (bind2 (by intros; rfl))
  refine go_cons (do_return (ef_pure (ev_bin (ecall (ev_glob G.g10) (es2 (evn (d := .dat (dD d))) (ev_bin (evn (d := .int v)) ev_int bin_sub)) G.f10.ke (f_up_to G hz)) (ecall (ev_glob G.g11) (es2 (evn (d := .dat (dD d))) (ev_bin (evn (d := .int v)) ev_int bin_add)) G.f11.ke (f_from_on G hz)) (bin_tup' ?_)) ?_))
  · rw [List.length_map, List.length_map]; simp only [big]; omega
  · show D.tup _ = _
    rw [← List.map_append]; rfl
/-- what lies in both, where the other is one value -/
noncomputable def meet1 : Dom → Int → Dom
  | [], _ => []
  | (l, h) :: r, k => (if max l k ≤ min h k then [(max l k, min h k)] else []) ++ (if h < k then meet1 r k else [])
theorem meet1_len (d : Dom) (k : Int) : (meet1 d k).length ≤ d.length := by
  induction d with
  | nil => simp [meet1]
  | cons p r ih => 
    obtain ⟨l, h⟩ := p
    unfold meet1
    rw [List.length_append, List.length_cons]
    split <;> split <;> simp <;> omega
theorem at_mid {α β : Type} (f : α → β) (u : List α) (a : α) (r : List α) : ((u ++ a :: r).map f)[u.length]? = some (f a) := by simp
theorem seqAt {k j : Nat} (h : j < k) : seqIndex? (j : Int) k = some j := by unfold seqIndex?; simp; omega
noncomputable def MeetInv (a : Addr) (d : Dom) (k : Int) (X : List MO) (m : Nat) (ρ : List (Str × D)) (X' : List MO) : Prop :=
  ∃ (done rest acc : Dom) (i j : Int), d = done ++ rest ∧ (m : Int) + done.length + j = d.length + 1 ∧ j ≤ 1 ∧ acc ++ (if j = 0 then meet1 rest k else []) = meet1 d k ∧ (acc.length : Int) + (if j = 0 then (rest.length : Int) else 0) ≤ d.length ∧ Has "d" (.dat (dD d)) ρ ∧ Has "e" (.dat (dD [(k, k)])) ρ ∧ Has "found" (.raw (.ref a)) ρ ∧ Has "i" (.int i) ρ ∧ Has "j" (.int j) ρ ∧ i = (done.length : Int) ∧ 0 ≤ j ∧ X' = .list a (acc.map dI) :: X
include G in
theorem f_meet {d : Dom} {k : Int} (hzd : d.length ≤ 5000) : Fn b 1 X (.ref 94) [.dat (dD d), .dat (dD [(k, k)])] (.dat (dD (meet1 d k))) := by
  have hml := meet1_len d k
  refine fn_of ["d", "e"] G.f13 (fun c hW => ?_) (bind2 (by intros; rfl))
  refine go_cons (do_assign3S (es_cons (ef_own (evF_list (ds := []) evs_nil) fun a ha => es_cons (ef_pure ev_int (es_cons (ef_pure ev_int (es_nil ⟨_, _, _, rfl, ?_⟩)))))))
  refine go_cons (do_while (MeetInv a d k X) (d.length + 1) ⟨[], d, [], 0, 0, rfl, by simp, by omega, by simp, by simp, by trivial, by trivial, by trivial, by trivial, by trivial, rfl, by omega, rfl⟩ ?_)
  rintro m ρ1 X1 ⟨done, rest, acc, i, j, hd, hm, hj, hacc, hal, h1, h2, h3, h4, h5, hi, hj0, rfl⟩
  have hdl : d.length = done.length + rest.length := by rw [hd, List.length_append]
  have hz : (acc.map dI).length ≤ big := by
    rw [List.length_map]; simp only [big]; split at hal <;> omega
  refine et_pure (tv_bool (al_and (c' := decide (j < 1) && true) (tv_cmp (evn (d := .int i)) (ecallB (ev_glob G.len) (es1 (evn (d := .dat (dD d)))) fn_lenT) cmp_lt) fun ht => al_and (tv_cmp (evn (d := .int j)) (ecallB (ev_glob G.len) (es1 (evn (d := .dat (dD [(k, k)])))) fn_lenT) cmp_lt) fun _ => al_and_nil)) (ite_of (fun ht => ?_) fun ht => ?_)
  · simp only [Bool.and_true, Bool.and_eq_true, decide_eq_true_eq, List.length_map] at ht
    obtain rfl : j = 0 := by omega
    cases rest with
    | nil => simp at hdl; omega
    | cons p r =>
      obtain ⟨l, h⟩ := p
      have hx : (d.map dI)[done.length]? = some (.tuple [.int l, .int h]) := by rw [hd]; exact at_mid dI done (l, h) r
      have hsi : seqIndex? i (d.map dI).length = some done.length := by rw [hi]; exact seqAt (by rw [List.length_map]; rw [List.length_cons] at hdl; omega)
      have ei : ∀ {ρ X'}, Has "d" (.dat (dD d)) ρ → Has "i" (.int i) ρ → ∀ q : Bool, ∀ {p1 p2 p3 p4 p5 p6}, Ev b 0 (scopeOf (stOf 13)) ρ X' (.Subscript (.Subscript (.Name "d" p1) (.Name "i" p2) p3) (.Constant (.int (if q then 1 else 0)) p4 p5) p6) (.int (if q then h else l)) := by
        intro ρ X' g1 g2 q p1 p2 p3 p4 p5 p6
        cases q
        · exact ev_item (ev_item (evn (d := .dat (dD d))) (evn (d := .int i)) (itm_tup hsi hx)) ev_int (itm_tup rfl rfl)
        · exact ev_item (ev_item (evn (d := .dat (dD d))) (evn (d := .int i)) (itm_tup hsi hx)) ev_int (itm_tup rfl rfl)
      have ej : ∀ {ρ X'}, Has "e" (.dat (dD [(k, k)])) ρ → Has "j" (.int 0) ρ → ∀ q : Bool, ∀ {p1 p2 p3 p4 p5 p6}, Ev b 0 (scopeOf (stOf 13)) ρ X' (.Subscript (.Subscript (.Name "e" p1) (.Name "j" p2) p3) (.Constant (.int (if q then 1 else 0)) p4 p5) p6) (.int k) := by
        intro ρ X' g1 g2 q p1 p2 p3 p4 p5 p6
        cases q
        · exact ev_item (ev_item (evn (d := .dat (dD [(k, k)]))) (evn (d := .int 0)) (itm_tup (seqAt (j := 0) (by simp)) rfl)) ev_int (itm_tup rfl rfl)
        · exact ev_item (ev_item (evn (d := .dat (dD [(k, k)]))) (evn (d := .int 0)) (itm_tup (seqAt (j := 0) (by simp)) rfl)) ev_int (itm_tup rfl rfl)
      refine go_cons (do_assign2S (es_pure (es2 (ecallB (ev_glob G.max) (es2 (ei h1 h4 false) (ej h2 h5 false)) fn_max') (ecallB (ev_glob G.min) (es2 (ei h1 h4 true) (ej h2 h5 true)) fn_min')) ⟨.int (max l k), .int (min h k), rfl, ?_⟩))
      have hm1 : meet1 ((l, h) :: r) k = (if max l k ≤ min h k then [(max l k, min h k)] else []) ++ (if h < k then meet1 r k else []) := rfl
      rw [if_pos rfl] at hacc hal
      rw [hm1] at hacc
      rw [List.length_cons] at hal hdl
      refine go_join (fun ρ X' => ∃ acc' : Dom, acc' ++ (if h < k then meet1 r k else []) = meet1 d k ∧ acc'.length + r.length ≤ d.length ∧ X' = .list a (acc'.map dI) :: X ∧ Has "d" (.dat (dD d)) ρ ∧ Has "e" (.dat (dD [(k, k)])) ρ ∧ Has "found" (.raw (.ref a)) ρ ∧ Has "i" (.int i) ρ ∧ Has "j" (.int 0) ρ) (do_if (et_pure (tv_cmp (evn (d := .int (max l k))) (evn (d := .int (min h k))) cmp_le) (ite_of (fun hg => ?_) fun hg => ?_))) ?_
      · have hg' := of_decide_eq_true hg
        refine go_cons (do_expr (ef_meth (evn (d := .raw (.ref a))) (gm_append (a := a) List.mem_cons_self) ke_builtin
          (es_pure (es1 (etup2 (d := .int (max l k)) (g := .int (min h k)) evn evn)) (cl_cn [] [_] X (cn_append hz ?_) (Nat.le_refl _) ?_))))
        · refine ⟨by trivial, go_nil ⟨acc ++ [(max l k, min h k)], ?_, ?_, by simp [dI], by trivial, by trivial, by trivial, by trivial, by trivial⟩⟩
          · rw [← hacc, if_pos hg', List.append_assoc]
          · rw [List.length_append]; simp; omega
        · intro t ht; rw [List.mem_singleton.mp ht]; exact .inr ha
      · have hg' := of_decide_eq_false hg
        exact go_nil ⟨acc, by rw [← hacc, if_neg hg']; rfl, by omega, rfl, by trivial, by trivial, by trivial, by trivial, by trivial⟩
      · rintro ρ2 X2 ⟨acc', ha1, ha2, rfl, g1, g2, g3, g4, g5⟩
        refine go_cons (do_if (et_pure (tv_cmp (ei g1 g4 true) (ej g2 g5 true) (cmp_lt (i := h) (j := k))) (ite_of (fun hg => ?_) fun hg => ?_)))
        · refine go_cons (do_assign (ef_pure (ev_bin (evn (d := .int i)) ev_int bin_add) (go_nil (go_nil ⟨m - 1, by omega, done ++ [(l, h)], r, acc', i + 1, 0, by rw [hd, List.append_assoc]; rfl, by rw [List.length_append]; simp; omega, by omega, ?_, by simp; omega, by trivial, by trivial, by trivial, by trivial, by trivial, by rw [List.length_append, hi]; simp, by omega, rfl⟩))))
          rw [if_pos rfl, ← ha1, if_pos (of_decide_eq_true hg)]
        · refine go_cons (do_assign (ef_pure (ev_bin (evn (d := .int 0)) ev_int bin_add) (go_nil (go_nil ⟨m - 1, by omega, done, (l, h) :: r, acc', i, 0 + 1, hd, by omega, by omega, ?_, by simp; omega, by trivial, by trivial, by trivial, by trivial, by trivial, hi, by omega, rfl⟩))))
          rw [if_neg (by decide), ← ha1, if_neg (of_decide_eq_false hg)]
  · refine go_cons (do_return (ef_pure (ev_call (ev_glob G.tuple) (es1 (evn (d := .raw (.ref a)))) ke_type (fn_tupM (n := 0) hz) (by decide) (List.Sublist.cons_cons _ (List.nil_sublist _))) ?_))
    show D.tup _ = _
    have : acc = meet1 d k := by
      rw [← hacc]
      split
      · rename_i hj'
        subst hj'
        simp [hi] at ht
        have : rest = [] := List.eq_nil_of_length_eq_zero (by omega)
        rw [this]; simp [meet1]
      · simp
    rw [this]
end

inductive Sg where
  | le | ge | eq | ne
deriving DecidableEq
noncomputable def Sg.str : Sg → Str
  | .le => "<="
  | .ge => ">="
  | .eq => "="
  | .ne => "!="
structure Lit where
  x : Nat
  s : Sg
  k : Int
deriving DecidableEq
noncomputable abbrev dL (l : Lit) : PyData := .tuple [.int l.x, .str l.s.str, .int l.k]
noncomputable def negF : Lit → Lit
  | ⟨x, .le, k⟩ => ⟨x, .ge, k + 1⟩
  | ⟨x, .ge, k⟩ => ⟨x, .le, k - 1⟩
  | ⟨x, .eq, k⟩ => ⟨x, .ne, k⟩
  | ⟨x, .ne, k⟩ => ⟨x, .eq, k⟩
noncomputable def struckF (l : Lit) (d : Dom) : Dom := match l.s with
  | .le => upTo d l.k
  | .ge => fromOn d l.k
  | .eq => meet1 d l.k
  | .ne => withoutF d l.k
section
variable {b : Bas} {X : List MO} (G : Gs b)
theorem cmp_sign {s t : Sg} : Cmp b .Eq (.str s.str) (.str t.str) (decide (s = t)) := by
  have h := cmp_eqD (b := b) (d := .str s.str) (e := .str t.str) (by cases s <;> decide +kernel) (by cases t <;> decide +kernel)
  rwa [show (PyData.str s.str).eqv (.str t.str) = decide (s = t) by cases s <;> cases t <;> decide +kernel] at h
include G in
theorem f_negation (l : Lit) : Fn b 1 X (.ref 101) [.dat (dL l)] (.dat (dL (negF l))) := by
  obtain ⟨x, s, k⟩ := l
  refine fn_of ["literal"] G.f14 (fun c hW => ?_) (bind1 (by intros; rfl))
  refine go_cons (do_assignT ["x", "sign", "k"] (ef_pure (evn (d := .dat (dL ⟨x, s, k⟩))) ⟨_, asg_tup3 (d := .int x) (e := .str s.str) (f := .int k), ?_⟩))
  refine go_cons (do_if (et_pure (tv_cmp (evn (d := .str s.str)) ev_str (cmp_sign (t := .le))) (ite_of (fun h1 => ?_) fun h1 => ?_)))
  · obtain rfl := of_decide_eq_true h1
    exact go_cons (do_return (ef_pure (etup3 (d := .int x) evn ev_str (ev_bin (evn (d := .int k)) ev_int bin_add)) rfl))
  refine go_nil (go_cons (do_if (et_pure (tv_cmp (evn (d := .str s.str)) ev_str (cmp_sign (t := .ge))) (ite_of (fun h2 => ?_) fun h2 => ?_))))
  · obtain rfl := of_decide_eq_true h2
    exact go_cons (do_return (ef_pure (etup3 (d := .int x) evn ev_str (ev_bin (evn (d := .int k)) ev_int bin_sub)) rfl))
  refine go_nil (go_cons (do_return (ef_pure (ev_ifexp (tv_cmp (evn (d := .str s.str)) ev_str (cmp_sign (t := .eq))) (fun h3 => ?_) (fun h3 => ?_)) rfl)))
  · obtain rfl := of_decide_eq_true h3
    exact etup3 (d := .int x) (j := .int k) evn ev_str evn
  · obtain rfl : s = .ne := by
      have h1 := of_decide_eq_false h1; have h2 := of_decide_eq_false h2; have h3 := of_decide_eq_false h3
      cases s <;> first | rfl | contradiction
    exact etup3 (d := .int x) (j := .int k) evn ev_str evn
theorem itm_L1 {l : Lit} : Itm b X (.dat (dL l)) (.int 1) (.str l.s.str) := itm_tup (j := 1) rfl rfl
theorem itm_L2 {l : Lit} : Itm b X (.dat (dL l)) (.int 2) (.int l.k) := itm_tup (j := 2) rfl rfl
theorem itm_L0 {l : Lit} : Itm b X (.dat (dL l)) (.int 0) (.int l.x) := itm_tup (j := 0) rfl rfl
include G in
theorem f_struck (l : Lit) {d : Dom} (hd : d.length ≤ 5000) : Fn b 3 X (.ref 108) [.dat (dL l), .dat (dD d)] (.dat (dD (struckF l d))) := by
  obtain ⟨x, s, k⟩ := l
  refine fn_of ["literal", "d"] G.f15 (fun c hW => ?_) (bind2 (by intros; rfl))
  refine go_cons (do_assign2S (es_pure (es2 (ev_item (evn (d := .dat (dL ⟨x, s, k⟩))) ev_int itm_L1) (ev_item (evn (d := .dat (dL ⟨x, s, k⟩))) ev_int itm_L2)) ⟨.str s.str, .int k, rfl, ?_⟩))
  refine go_cons (do_if (et_pure (tv_cmp (evn (d := .str s.str)) ev_str (cmp_sign (t := .le))) (ite_of (fun h1 => ?_) fun h1 => ?_)))
  · obtain rfl := of_decide_eq_true h1
    exact go_cons (do_return (ef_pure (ecall (ev_glob G.g10) (es2 (evn (d := .dat (dD d))) (evn (d := .int k))) G.f10.ke (f_up_to G hd)) rfl))
  refine go_nil (go_cons (do_if (et_pure (tv_cmp (evn (d := .str s.str)) ev_str (cmp_sign (t := .ge))) (ite_of (fun h2 => ?_) fun h2 => ?_))))
  · obtain rfl := of_decide_eq_true h2
    exact go_cons (do_return (ef_pure (ecall (ev_glob G.g11) (es2 (evn (d := .dat (dD d))) (evn (d := .int k))) G.f11.ke (f_from_on G hd)) rfl))
  refine go_nil (go_cons (do_return (ef_pure (ev_ifexp (tv_cmp (evn (d := .str s.str)) ev_str (cmp_sign (t := .eq))) (fun h3 => ?_) (fun h3 => ?_)) rfl)))
  · obtain rfl := of_decide_eq_true h3
    exact ecall (ev_glob G.g13) (es2 (evn (d := .dat (dD d))) (etup1 (d := dI (k, k)) (etup2 (d := .int k) (g := .int k) evn evn))) G.f13.ke (f_meet G hd)
  · obtain rfl : s = .ne := by
      have h1 := of_decide_eq_false h1; have h2 := of_decide_eq_false h2; have h3 := of_decide_eq_false h3
      cases s <;> first | rfl | contradiction
    exact ecall (ev_glob G.g12) (es2 (evn (d := .dat (dD d))) (evn (d := .int k))) G.f12.ke (f_without G hd)
end

/-- data of ints, in lists and tuples at most n deep -/
noncomputable def Pn : Nat → PyData → Prop
  | 0, d => ∃ i, d = .int i
  | n + 1, d => (∃ i, d = .int i) ∨ (∃ xs, d = .list xs ∧ ∀ x ∈ xs, Pn n x) ∨ ∃ xs, d = .tuple xs ∧ ∀ x ∈ xs, Pn n x
theorem canAll {xs : List PyData} (h : ∀ x ∈ xs, x.canLay0 = true) : PyData.canLayAll0 xs = true := by
  induction xs with
  | nil => rfl
  | cons x r ih => rw [PyData.canLayAll0, h x List.mem_cons_self, ih fun y hy => h y (List.mem_cons_of_mem _ hy)]; rfl
theorem depAll {xs : List PyData} {n : Nat} (h : ∀ x ∈ xs, x.depth ≤ n) : PyData.depthAll xs ≤ n := by
  induction xs with
  | nil => exact Nat.zero_le _
  | cons x r ih =>
    rw [PyData.depthAll]
    exact Nat.max_le.mpr ⟨h x List.mem_cons_self, ih fun y hy => h y (List.mem_cons_of_mem _ hy)⟩
theorem Pn.can : ∀ {n : Nat} {d : PyData}, Pn n d → d.canLay0 = true
  | 0, _, ⟨i, rfl⟩ => rfl
  | n + 1, _, .inl ⟨i, rfl⟩ => rfl
  | n + 1, _, .inr (.inl ⟨xs, rfl, h⟩) => by rw [PyData.canLay0]; exact canAll fun x hx => Pn.can (h x hx)
  | n + 1, _, .inr (.inr ⟨xs, rfl, h⟩) => by rw [PyData.canLay0]; exact canAll fun x hx => Pn.can (h x hx)
theorem Pn.dep : ∀ {n : Nat} {d : PyData}, Pn n d → d.depth ≤ n
  | 0, _, ⟨i, rfl⟩ => by rw [PyData.depth]; exact Nat.le_refl _
  | n + 1, _, .inl ⟨i, rfl⟩ => by rw [PyData.depth]; omega
  | n + 1, _, .inr (.inl ⟨xs, rfl, h⟩) => by rw [PyData.depth]; exact Nat.succ_le_succ (depAll fun x hx => Pn.dep (h x hx))
  | n + 1, _, .inr (.inr ⟨xs, rfl, h⟩) => by rw [PyData.depth]; exact Nat.succ_le_succ (depAll fun x hx => Pn.dep (h x hx))
theorem eqvAll_iff {P : PyData → Prop} (h : ∀ x y, P x → P y → (x.eqv y = true ↔ x = y)) : ∀ {xs ys : List PyData}, (∀ x ∈ xs, P x) → (∀ y ∈ ys, P y) → (PyData.eqvAll xs ys = true ↔ xs = ys)
  | [], [], _, _ => by simp [PyData.eqvAll]
  | [], _ :: _, _, _ => by simp [PyData.eqvAll]
  | _ :: _, [], _, _ => by simp [PyData.eqvAll]
  | x :: xs, y :: ys, h1, h2 => by
    rw [PyData.eqvAll, Bool.and_eq_true, h x y (h1 x List.mem_cons_self) (h2 y List.mem_cons_self), eqvAll_iff h (fun z hz => h1 z (List.mem_cons_of_mem _ hz)) (fun z hz => h2 z (List.mem_cons_of_mem _ hz)), List.cons.injEq]
theorem Pn.eqv {n : Nat} : ∀ {d e : PyData}, Pn n d → Pn n e → (d.eqv e = true ↔ d = e) := by
  induction n with
  | zero => rintro _ _ ⟨i, rfl⟩ ⟨j, rfl⟩; simp [PyData.eqv]
  | succ n ih => rintro _ _ (⟨i, rfl⟩ | ⟨xs, rfl, h⟩ | ⟨xs, rfl, h⟩) (⟨j, rfl⟩ | ⟨ys, rfl, h'⟩ | ⟨ys, rfl, h'⟩) <;> first | (rw [PyData.eqv, eqvAll_iff (P := Pn n) (fun _ _ a b => ih a b) h h']; simp; done) | simp [PyData.eqv]
theorem Pn.shaped {n : Nat} {d : PyData} (h : Pn n d) (hn : n ≤ 60) : SeqAt.shaped d = true := by
  unfold SeqAt.shaped
  rw [h.can, Bool.true_and]
  exact decide_eq_true (Nat.le_trans h.dep (by omega))
theorem pn_ints {is : List Int} : ∀ x ∈ is.map PyData.int, Pn 0 x := fun x hx => by obtain ⟨i, _, rfl⟩ := List.mem_map.mp hx; exact ⟨i, rfl⟩
theorem Pn.list {n : Nat} {xs : List PyData} (h : ∀ x ∈ xs, Pn n x) : Pn (n + 1) (.list xs) := .inr (.inl ⟨xs, rfl, h⟩)
theorem Pn.tup {n : Nat} {xs : List PyData} (h : ∀ x ∈ xs, Pn n x) : Pn (n + 1) (.tuple xs) := .inr (.inr ⟨xs, rfl, h⟩)
theorem pn_map {α : Type} {n : Nat} {f : α → PyData} (h : ∀ a, Pn n (f a)) {xs : List α} : ∀ x ∈ xs.map f, Pn n x := fun x hx => by obtain ⟨i, _, rfl⟩ := List.mem_map.mp hx; exact h i
noncomputable abbrev dI1 (l : List Int) : PyData := .list (l.map .int)
noncomputable abbrev dI2 (l : List (List Int)) : PyData := .list (l.map dI1)
noncomputable abbrev dW (w : List Int) : PyData := .tuple (w.map .int)
noncomputable abbrev dWs (l : List (List Int)) : PyData := .list (l.map dW)
theorem pn1 (l : List Int) : Pn 1 (dI1 l) := .list pn_ints
theorem pn2 (l : List (List Int)) : Pn 2 (dI2 l) := .list (pn_map pn1)
theorem pnW (l : List Int) : Pn 1 (dW l) := .tup pn_ints
theorem pnWs (l : List (List Int)) : Pn 2 (dWs l) := .list (pn_map pnW)
theorem pnI (p : Int × Int) : Pn 1 (dI p) := .tup fun x hx => by
  rcases List.mem_cons.mp hx with rfl | hx
  · exact ⟨_, rfl⟩
  · rw [List.mem_singleton.mp hx]; exact ⟨_, rfl⟩
theorem pnD (d : Dom) : Pn 2 (dD d) := .tup (pn_map pnI)
theorem int_inj {a c : List Int} (h : a.map PyData.int = c.map PyData.int) : a = c := (List.map_inj_right fun x y h => PyData.int.inj h).mp h
theorem dI1_inj {a c : List Int} (h : dI1 a = dI1 c) : a = c := int_inj (PyData.list.inj h)
theorem dI2_inj {a c : List (List Int)} (h : dI2 a = dI2 c) : a = c := (List.map_inj_right fun x y h => dI1_inj h).mp (PyData.list.inj h)
theorem dI_inj {p q : Int × Int} (h : dI p = dI q) : p = q := by
  obtain ⟨a, c⟩ := p; obtain ⟨d, e⟩ := q
  simp only [dI, PyData.tuple.injEq, List.cons.injEq, PyData.int.injEq, and_true] at h
  rw [h.1, h.2]
theorem dD_inj {d e : Dom} (h : dD d = dD e) : d = e := (List.map_inj_right fun x y h => dI_inj h).mp (PyData.tuple.inj h)
theorem cmp_eqP {b : Bas} {n : Nat} {d e : PyData} {t : Bool} (h1 : Pn n d) (h2 : Pn n e) (hn : n ≤ 60) (ht : t = true ↔ d = e) : Cmp b .Eq (.dat d) (.dat e) t := by
  have := cmp_eqD (b := b) (h1.shaped hn) (h2.shaped hn)
  rwa [show d.eqv e = t from Bool.eq_iff_iff.mpr ((h1.eqv h2).trans ht.symm)] at this
theorem cmp_neP {b : Bas} {n : Nat} {d e : PyData} {t : Bool} (h1 : Pn n d) (h2 : Pn n e) (hn : n ≤ 60) (ht : t = true ↔ d = e) : Cmp b .NotEq (.dat d) (.dat e) (!t) := by
  have := cmp_neD (b := b) (h1.shaped hn) (h2.shaped hn)
  rwa [show d.eqv e = t from Bool.eq_iff_iff.mpr ((h1.eqv h2).trans ht.symm)] at this
/-- is it empty -/
theorem shaped_nil : SeqAt.shaped (.list []) = true := by decide +kernel
theorem eqv_nil (xs : List PyData) : (PyData.list xs).eqv (.list []) = xs.isEmpty := by cases xs <;> simp [PyData.eqv, PyData.eqvAll]
theorem shaped_list {xs : List PyData} {n : Nat} (h : ∀ x ∈ xs, x.canLay0 = true) (h' : ∀ x ∈ xs, x.depth ≤ n) (hn : n ≤ 60) : SeqAt.shaped (.list xs) = true := by
  unfold SeqAt.shaped
  rw [PyData.canLay0, canAll h, Bool.true_and, PyData.depth]
  have := depAll h'
  exact decide_eq_true (by omega)
theorem cmp_nil {b : Bas} {xs : List PyData} (h : SeqAt.shaped (.list xs) = true) : Cmp b .Eq (.list xs) (.list []) xs.isEmpty := by
  have := cmp_eqD (b := b) h shaped_nil
  rwa [eqv_nil] at this
theorem cmp_notNil {b : Bas} {xs : List PyData} (h : SeqAt.shaped (.list xs) = true) : Cmp b .NotEq (.list xs) (.list []) (!xs.isEmpty) := by
  have := cmp_neD (b := b) h shaped_nil
  rwa [eqv_nil] at this
theorem shaped_lit (l : Lit) : (dL l).canLay0 = true ∧ (dL l).depth ≤ 1 := by
  obtain ⟨x, s, k⟩ := l
  constructor
  · cases s <;> rw [show ∀ s, (PyData.canLay0 (dL ⟨x, s, k⟩)) = (true && (PyData.strOk s.str && (true && true))) from fun s => rfl] <;> decide +kernel
  · show PyData.depth (.tuple _) ≤ 1
    simp [PyData.depth, PyData.depthAll]
theorem shaped_lits (ls : List Lit) : SeqAt.shaped (.list (ls.map dL)) = true := shaped_list (n := 1) (fun x hx => by obtain ⟨l, _, rfl⟩ := List.mem_map.mp hx; exact (shaped_lit l).1) (fun x hx => by obtain ⟨l, _, rfl⟩ := List.mem_map.mp hx; exact (shaped_lit l).2) (by omega)
theorem any_int (is : List Int) (v : Int) : ((is.map PyData.int).any fun y => y.eqv (.int v)) = is.contains v := by
  induction is with
  | nil => rfl
  | cons i r ih =>
    rw [List.map_cons, List.any_cons, ih, List.contains_cons, PyData.eqv]
    rw [show (i == v) = (v == i) from by rw [Bool.beq_comm]]
theorem cmp_inI {b : Bas} {is : List Int} {v : Int} : Cmp b .In (.int v) (.dat (dI1 is)) (is.contains v) := by
  have := cmp_inL (b := b) (d := .int v) (xs := is.map .int) (Pn.shaped (n := 0) ⟨v, rfl⟩ (by omega)) (canAll fun x hx => (pn_ints x hx).can)
  rwa [any_int] at this
theorem cmp_notInI {b : Bas} {is : List Int} {v : Int} : Cmp b .NotIn (.int v) (.dat (dI1 is)) (!is.contains v) := by
  have := cmp_notInL (b := b) (d := .int v) (xs := is.map .int) (Pn.shaped (n := 0) ⟨v, rfl⟩ (by omega)) (canAll fun x hx => (pn_ints x hx).can)
  rwa [any_int] at this

noncomputable def saysF (l : Lit) (v : Int) : Bool := match l.s with
  | .le => decide (v ≤ l.k)
  | .ge => decide (v ≥ l.k)
  | .eq => v == l.k
  | .ne => !(v == l.k)
theorem map_nums (l : Int) (h : Int) : (nums l h).map PyData.int = (nums l h).flatMap fun v => [PyData.int v] := by
  induction nums l h with
  | nil => rfl
  | cons x r ih => rw [List.map_cons, List.flatMap_cons, ih]; rfl
section
variable {b : Bas} {X : List MO} (G : Gs b)
include G in
theorem f_law_list {d : Dom} (h : DomOk d) : Fn b 1 X (.ref 478) [.dat (dD d)] (.dat (dI1 (valuesOf d))) := by
  have hsz := h.size
  refine fn_of ["domain"] G.f27 (fun c hW => ?_) (bind1 (by intros; rfl))
  refine go_cons (do_return (ef_pure (ev_comp (out := (valuesOf d).map .int) ["low", "high", "v"] (evn (d := .dat (dD d))) iter_dom (cl_two d (fun p => .dat (dI p)) (fun p => (nums p.1 (p.2 + 1)).map .int) rfl ?_ (fun _ _ => rfl) ?_) (by rw [List.length_map]; simp only [big]; omega)) rfl))
  · unfold valuesOf
    rw [flat_map]
  · rintro ⟨l, i⟩ hm
    obtain ⟨e, r, he⟩ := List.append_of_mem hm
    have hs := Dk.split (m := -1000) (e := e) (p := (l, i)) (r := r) (he ▸ h) (Int.le_refl _)
    refine ⟨_, true, asg_tup2 (d := .int l) (e := .int i), sub2, ts_nil, (fun h => nomatch h), fun _ => ⟨.rng l (i + 1), _, ecallT (ev_glob G.range) (es2 (evn (d := .int l)) (ev_bin (evn (d := .int i)) ev_int bin_add)) fn_range2, .rng ?_, Int, nums l (i + 1), D.int, fun v => [.int v], rfl, map_nums _ _, fun v _ => ⟨_, true, asg_name (d := .int v), sub1, ts_nil, fun _ => ⟨_, rfl, evn (d := .int v)⟩, (fun h => nomatch h)⟩⟩⟩
    dsimp only at hs; simp only [Small, big]; omega
theorem cmp_eqB {t u : Bool} : Cmp b .Eq (.bool t) (.bool u) (t == u) := by
  have := cmp_eqD (b := b) (d := .bool t) (e := .bool u) (by decide +revert) (by decide +revert)
  rwa [show (PyData.bool t).eqv (.bool u) = (t == u) by simp [PyData.eqv]] at this
include G in
theorem f_law_says (l : Lit) (v : Int) : Fn b 1 X (.ref 485) [.dat (dL l), .int v] (.bool (saysF l v)) := by
  obtain ⟨x, s, k⟩ := l
  refine fn_of ["literal", "v"] G.f28 (fun c hW => ?_) (bind2 (by intros; rfl))
  refine go_cons (do_assign2S (es_pure (es2 (ev_item (evn (d := .dat (dL ⟨x, s, k⟩))) ev_int itm_L1) (ev_item (evn (d := .dat (dL ⟨x, s, k⟩))) ev_int itm_L2)) ⟨.str s.str, .int k, rfl, ?_⟩))
  refine go_cons (do_if (et_pure (tv_bool (al_or (c' := decide (s = .ge) || false) (tv_cmp (evn (d := .str s.str)) ev_str (cmp_sign (t := .le))) fun _ => al_or (tv_cmp (evn (d := .str s.str)) ev_str (cmp_sign (t := .ge))) fun _ => al_or_nil)) (ite_of (fun ht => ?_) fun ht => ?_)))
  · refine go_cons (do_return (ef_pure (ev_ifexp (tv_cmp (evn (d := .str s.str)) ev_str (cmp_sign (t := .le))) (fun h1 => ?_) (fun h1 => ?_)) rfl))
    · obtain rfl := of_decide_eq_true h1
      exact ev_cmp (evn (d := .int v)) (evn (d := .int k)) cmp_le
    · obtain rfl : s = .ge := by
        have h1 := of_decide_eq_false h1
        cases s <;> first | rfl | contradiction | (exact absurd ht (by decide))
      exact ev_cmp (evn (d := .int v)) (evn (d := .int k)) cmp_ge
  · refine go_nil (go_cons (do_return (ef_pure (ev_cmp (ev_cmp (evn (d := .int v)) (evn (d := .int k)) cmp_eq) (ev_cmp (evn (d := .str s.str)) ev_str (cmp_sign (t := .eq))) cmp_eqB) ?_)))
    show D.bool _ = D.bool _
    congr 2
    cases s with
    | le => exact absurd ht (by decide)
    | ge => exact absurd ht (by decide)
    | eq => simp [saysF]
    | ne => simp [saysF]
theorem filt_flat {α β : Type} (p : α → Bool) (g : α → β) : ∀ xs : List α, (xs.filter p).map g = xs.flatMap fun a => if p a then [g a] else []
  | [] => rfl
  | a :: r => by
    rw [List.flatMap_cons, ← filt_flat p g r, List.filter_cons]
    split <;> simp_all
omit G in
theorem ev_filt {n : Nat} {sc : Scope} {ρ : List (Str × D)} {elt tgt iter : PySem.Expr} {ifs : List PySem.Expr} {scope : Scope} {pos : Pos} {α : Type} (ns : List Str) (items : List α) (gi : α → D) (p : α → Bool) (go : α → PyData) {d : D}
    (h1 : Ev b n sc ρ X iter d) (hi : Iter d (items.map gi)) (hz : items.length ≤ big)
    (ht : ∀ a ∈ items, ∃ ρ', Asg b (relab scope sc) X ns tgt (gi a) (Cap scope ρ) ρ' ∧ (∀ q ∈ Cap scope ρ, q ∈ ρ') ∧ Ts b n (relab scope sc) ρ' X ifs (p a) ∧ (p a = true → Ev b n (relab scope sc) ρ' X elt (.dat (go a))))
    (hok : CompOk scope sc = true := by decide +kernel) (hns : NsOk scope ns = true := by decide +kernel) (hs : ∀ env x, foldedSetIterable iter env x = pure x := by intro _ _; rfl) :
    Ev b n sc ρ X (.ListComp elt [⟨tgt, iter, ifs, 0⟩] scope pos) (.list ((items.filter p).map go)) := by
  refine ev_comp ns h1 hi (cl_one items gi (fun a => if p a then [go a] else []) rfl (filt_flat p go items) fun a ha => ?_) (by rw [List.length_map]; exact Nat.le_trans (List.length_filter_le _ _) hz) hok hns hs
  obtain ⟨ρ', h1, h2, h3, h4⟩ := ht a ha
  exact ⟨ρ', p a, h1, h2, h3, fun hc => ⟨go a, by rw [hc]; rfl, h4 hc⟩, fun hc => by rw [hc]; rfl⟩
omit G in
theorem ev_mapc {n : Nat} {sc : Scope} {ρ : List (Str × D)} {elt tgt iter : PySem.Expr} {scope : Scope} {pos : Pos} {α : Type} (ns : List Str) (items : List α) (gi : α → D) (go : α → PyData) {d : D}
    (h1 : Ev b n sc ρ X iter d) (hi : Iter d (items.map gi)) (hz : items.length ≤ big)
    (ht : ∀ a ∈ items, ∃ ρ', Asg b (relab scope sc) X ns tgt (gi a) (Cap scope ρ) ρ' ∧ (∀ q ∈ Cap scope ρ, q ∈ ρ') ∧ Ev b n (relab scope sc) ρ' X elt (.dat (go a)))
    (hok : CompOk scope sc = true := by decide +kernel) (hns : NsOk scope ns = true := by decide +kernel) (hs : ∀ env x, foldedSetIterable iter env x = pure x := by intro _ _; rfl) :
    Ev b n sc ρ X (.ListComp elt [⟨tgt, iter, [], 0⟩] scope pos) (.list (items.map go)) := by
  have := ev_filt (X := X) (elt := elt) (pos := pos) ns items gi (fun _ => true) go h1 hi hz (fun a ha => let ⟨ρ', h1, h2, h3⟩ := ht a ha; ⟨ρ', h1, h2, ts_nil, fun _ => h3⟩) hok hns hs
  rwa [List.filter_eq_self.mpr fun _ _ => rfl] at this
noncomputable abbrev atI (w : List Int) (i : Nat) : Int := w.getD i 0
noncomputable abbrev atL (w : List (List Int)) (i : Nat) : List Int := w.getD i []
noncomputable abbrev dR (rs : List Lit) : PyData := .tuple (rs.map dL)
noncomputable def areKept (some : List Lit) (w : List Int) : Bool := (some.filter fun l => !saysF l (atI w l.x)).isEmpty
noncomputable def doHold (some : List Lit) (ls : List (List Int)) : Bool := (some.filter fun l => !((atL ls l.x).filter fun v => !saysF l v).isEmpty).isEmpty
noncomputable def isIn (w : List Int) (ls : List (List Int)) : Bool := ((List.range ls.length).filter fun i => !(atL ls i).contains (atI w i)).isEmpty
theorem iter_map {α : Type} {xs : List α} {f : α → PyData} : Iter (.list (xs.map f)) (xs.map fun a => .dat (f a)) := by
  have := Iter.list (xs.map f); rwa [List.map_map] at this
theorem iter_mapT {α : Type} {xs : List α} {f : α → PyData} : Iter (.tup (xs.map f)) (xs.map fun a => .dat (f a)) := by
  have := Iter.tup (xs.map f); rwa [List.map_map] at this
theorem itm_W {w : List Int} {i : Nat} (h : i < w.length) : Itm b X (.dat (dW w)) (.int i) (.int (atI w i)) := itm_tup (seqAt (by rwa [List.length_map])) (by rw [List.getElem?_map, List.getElem?_eq_getElem h]; simp [h])
theorem itm_I1 {w : List Int} {i : Nat} (h : i < w.length) : Itm b X (.dat (dI1 w)) (.int i) (.int (atI w i)) := itm_list (seqAt (by rwa [List.length_map])) (by rw [List.getElem?_map, List.getElem?_eq_getElem h]; simp [h])
theorem itm_I2 {w : List (List Int)} {i : Nat} (h : i < w.length) : Itm b X (.dat (dI2 w)) (.int i) (.dat (dI1 (atL w i))) := itm_list (seqAt (by rwa [List.length_map])) (by rw [List.getElem?_map, List.getElem?_eq_getElem h]; simp [h])
theorem isEmpty_map {α β : Type} (f : α → β) (xs : List α) : (xs.map f).isEmpty = xs.isEmpty := by cases xs <;> rfl
include G in
theorem f_are_kept {some : List Lit} {w : List Int} (h : ∀ l ∈ some, l.x < w.length) (hz : some.length ≤ big) : Fn b 2 X (.ref 510) [.dat (dR some), .dat (dW w)] (.bool (areKept some w)) := by
  refine fn_of ["some", "world"] G.f33 (fun c hW => ?_) (bind2 (by intros; rfl))
  refine go_cons (do_return (ef_pure (ev_cmp (ev_filt ["one"] some (fun l => .dat (dL l)) (fun l => !saysF l (atI w l.x)) dL (evn (d := .dat (dR some))) iter_mapT hz ?_) (ev_list (ds := []) evs_nil) (cmp_nil (shaped_lits _))) ?_))
  · intro l hl
    exact ⟨_, asg_name (d := .dat (dL l)), sub1, ts_one (tv_not (tv_value (ecall (ev_glob G.g28) (es2 (evn (d := .dat (dL l))) (ev_item (evn (d := .dat (dW w))) (ev_item (evn (d := .dat (dL l))) ev_int itm_L0) (itm_W (h l hl)))) G.f28.ke (f_law_says G l _)) tr_bool)), fun _ => evn (d := .dat (dL l))⟩
  · rw [isEmpty_map]; rfl
include G in
theorem f_do_hold {some : List Lit} {ls : List (List Int)} (h : ∀ l ∈ some, l.x < ls.length) (hz : some.length ≤ big) (hls : ∀ l ∈ ls, l.length ≤ big) : Fn b 2 X (.ref 505) [.dat (dR some), .dat (dI2 ls)] (.bool (doHold some ls)) := by
  refine fn_of ["some", "lists"] G.f32 (fun c hW => ?_) (bind2 (by intros; rfl))
  refine go_cons (do_return (ef_pure (ev_cmp (ev_filt ["one"] some (fun l => .dat (dL l)) (fun l => !((atL ls l.x).filter fun v => !saysF l v).isEmpty) dL (evn (d := .dat (dR some))) iter_mapT hz ?_) (ev_list (ds := []) evs_nil) (cmp_nil (shaped_lits _))) ?_))
  · intro l hl
    have hll : (atL ls l.x).length ≤ big := by
      refine hls _ ?_
      unfold atL
      rw [List.getD_eq_getElem?_getD, List.getElem?_eq_getElem (h l hl)]
      exact List.getElem_mem _
    refine ⟨_, asg_name (d := .dat (dL l)), sub1, ts_one (tv_cmp (ev_filt ["v"] (atL ls l.x) (fun v => .int v) (fun v => !saysF l v) (fun v => .int v) (ev_item (evn (d := .dat (dI2 ls))) (ev_item (evn (d := .dat (dL l))) ev_int itm_L0) (itm_I2 (h l hl))) iter_map hll ?_) (ev_list (ds := []) evs_nil) ?_), fun _ => evn (d := .dat (dL l))⟩
    · intro v hv
      exact ⟨_, asg_name (d := .int v), sub1, ts_one (tv_not (tv_value (ecall (ev_glob G.g28) (es2 (evn (d := .dat (dL l))) (evn (d := .int v))) G.f28.ke (f_law_says G l _)) tr_bool)), fun _ => evn (d := .int v)⟩
    · have := cmp_notNil (b := b) (xs := ((atL ls l.x).filter fun v => !saysF l v).map .int) ((pn1 _).shaped (by omega))
      rwa [isEmpty_map] at this
  · rw [isEmpty_map]; rfl
theorem pnN (i : Nat) : Pn 0 (.int i) := ⟨i, rfl⟩
theorem nums_nat (n : Nat) : nums 0 n = (List.range n).map fun i : Nat => (i : Int) := by
  unfold nums
  rw [show ((n : Int) - 0).toNat = n by omega]
  apply List.map_congr_left; intro j _; omega
theorem iter_nat {n : Nat} (h : n ≤ 5000) : Iter (.rng 0 n) ((List.range n).map fun i : Nat => D.int i) := by
  have := Iter.rng (lo := 0) (hi := n) (by simp only [Small, big]; omega)
  rwa [nums_nat, List.map_map] at this
include G in
theorem f_is_in {w : List Int} {ls : List (List Int)} (h : ls.length ≤ w.length) (hz : ls.length ≤ 5000) : Fn b 1 X (.ref 500) [.dat (dW w), .dat (dI2 ls)] (.bool (isIn w ls)) := by
  refine fn_of ["world", "lists"] G.f31 (fun c hW => ?_) (bind2 (by intros; rfl))
  refine go_cons (do_return (ef_pure (ev_cmp (ev_filt ["x"] (List.range ls.length) (fun i : Nat => D.int i) (fun i => !(atL ls i).contains (atI w i)) (fun i : Nat => .int i) (ecallT (ev_glob G.range) (es1 (ecallB (ev_glob G.len) (es1 (evn (d := .dat (dI2 ls)))) fn_lenL)) (by rw [List.length_map]; exact fn_range1)) (iter_nat hz) (by rw [List.length_range]; simp only [big]; omega) ?_) (ev_list (ds := []) evs_nil) (cmp_nil ?_)) ?_))
  · intro i hi
    have hi := List.mem_range.mp hi
    exact ⟨_, asg_name (d := .int i), sub1, ts_one (tv_cmp (ev_item (evn (d := .dat (dW w))) (evn (d := .int i)) (itm_W (by omega))) (ev_item (evn (d := .dat (dI2 ls))) (evn (d := .int i)) (itm_I2 hi)) cmp_notInI), fun _ => evn (d := .int i)⟩
  · exact (Pn.list (n := 0) (pn_map pnN)).shaped (by omega)
  · rw [isEmpty_map]; rfl
noncomputable def growW (found : List (List Int)) (some : List Int) : List (List Int) := found.flatMap fun w => some.map fun v => w ++ [v]
noncomputable def worldsF (lists : List (List Int)) : List (List Int) := lists.foldl growW [[]]
theorem grow_len (found : List (List Int)) (some : List Int) : (growW found some).length = found.length * some.length := by
  unfold growW
  induction found with
  | nil => simp
  | cons w r ih => rw [List.flatMap_cons, List.length_append, ih, List.length_map, List.length_cons, Nat.succ_mul]; omega
theorem worlds_len {lists : List (List Int)} (h : ∀ l ∈ lists, l.length ≤ 10) : (worldsF lists).length ≤ 10 ^ lists.length := by
  have key : ∀ (lists : List (List Int)) (found : List (List Int)), (∀ l ∈ lists, l.length ≤ 10) → (lists.foldl growW found).length ≤ found.length * 10 ^ lists.length := by
    intro lists
    induction lists with
    | nil => intro f _; simp
    | cons l r ih =>
      intro f h
      rw [List.foldl_cons, List.length_cons, Nat.pow_succ]
      refine Nat.le_trans (ih _ fun x hx => h x (List.mem_cons_of_mem _ hx)) ?_
      rw [grow_len]
      have := h l List.mem_cons_self
      calc f.length * l.length * 10 ^ r.length ≤ f.length * 10 * 10 ^ r.length := Nat.mul_le_mul_right _ (Nat.mul_le_mul_left _ this)
        _ = f.length * (10 ^ r.length * 10) := by rw [Nat.mul_assoc, Nat.mul_comm 10]
  have := key lists [[]] h
  unfold worldsF
  simpa using this
theorem worlds_each {lists : List (List Int)} : ∀ w ∈ worldsF lists, w.length = lists.length := by
  have key : ∀ (lists : List (List Int)) (found : List (List Int)) (k : Nat), (∀ w ∈ found, w.length = k) → ∀ w ∈ lists.foldl growW found, w.length = k + lists.length := by
    intro lists
    induction lists with
    | nil => intro f k h w hw; exact h w hw
    | cons l r ih =>
      intro f k h w hw
      have := ih (growW f l) (k + 1) (fun w hw => by
        obtain ⟨u, hu, hw⟩ := List.mem_flatMap.mp hw
        obtain ⟨v, hv, rfl⟩ := List.mem_map.mp hw
        rw [List.length_append, h u hu]; rfl) w hw
      rw [this, List.length_cons]; omega
  intro w hw
  have := key lists [[]] 0 (fun w hw => by rw [List.mem_singleton.mp hw]; rfl) w hw
  omega
theorem worlds_snoc (ls : List (List Int)) (l : List Int) : worldsF (ls ++ [l]) = growW (worldsF ls) l := by unfold worldsF; rw [List.foldl_append]; rfl
theorem grow_map (found : List (List Int)) (some : List Int) : (growW found some).map dW = found.flatMap fun w => some.flatMap fun v => [dW (w ++ [v])] := by
  unfold growW
  rw [flat_map]
  congr 1; funext w
  rw [List.map_map]
  induction some with
  | nil => rfl
  | cons v r ih => rw [List.map_cons, List.flatMap_cons, ih]; rfl
include G in
theorem f_worlds {lists : List (List Int)} (h : ∀ l ∈ lists, l.length ≤ 10) (hz : lists.length ≤ 4) : Fn b 1 X (.ref 495) [.dat (dI2 lists)] (.dat (dWs (worldsF lists))) := by
  refine fn_of ["lists"] G.f30 (fun c hW => ?_) (bind1 (by intros; rfl))
  refine go_cons (do_assign (ef_pure (ev_list (ds := [.tuple []]) (es1 etup0)) ?_))
  refine go_cons (do_for ["some"] lists (fun l => .dat (dI1 l)) (fun done rest ρ X' => Has "found" (.dat (dWs (worldsF done))) ρ) (evn (d := .dat (dI2 lists))) iter_map List.mem_cons_self ?_ ?_)
  · rintro lk done l rest ρ1 X1 hd hf
    have hw : (growW (worldsF done) l).length ≤ big := by
      rw [← worlds_snoc]
      refine Nat.le_trans (worlds_len fun x hx => h x ?_) ?_
      · rw [hd]; rcases List.mem_append.mp hx with q | q
        · exact List.mem_append_left _ q
        · rw [List.mem_singleton.mp q]; exact List.mem_append_right _ List.mem_cons_self
      · have : (done ++ [l]).length ≤ 4 := by rw [hd] at hz; rw [List.length_append, List.length_cons] at hz; rw [List.length_append, List.length_singleton]; omega
        exact Nat.le_trans (Nat.pow_le_pow_right (by omega) this) (by decide)
    refine ⟨_, asg_name (d := .dat (dI1 l)), go_cons (do_assignC ["world", "v"] (evn (d := .dat (dWs (worldsF done)))) iter_map (cl_two (out := (growW (worldsF done) l).map dW) (worldsF done) (fun w => .dat (dW w)) (fun w => l.flatMap fun v => [dW (w ++ [v])]) rfl (grow_map _ _) (fun _ _ => rfl) ?_) (by rw [List.length_map]; exact hw) (go_nil ?_))⟩
    · intro w hw'
      have hwl := worlds_each w hw'
      have hdl : done.length ≤ 4 := by rw [hd] at hz; rw [List.length_append] at hz; omega
      refine ⟨_, true, asg_name (d := .dat (dW w)), sub1, ts_nil, (fun h => nomatch h), fun _ => ⟨_, _, evn (d := .dat (dI1 l)), iter_map, Int, l, fun v => .int v, fun v => [dW (w ++ [v])], rfl, rfl, fun v _ => ⟨_, true, asg_name (d := .int v), sub1, ts_nil, fun _ => ⟨_, rfl, ?_⟩, (fun h => nomatch h)⟩⟩⟩
      rw [show dW (w ++ [v]) = .tuple (w.map .int ++ [.int v]) by simp [dW]]
      exact ev_bin (evn (d := .dat (dW w))) (etup1 (d := .int v) evn) (bin_tup' (by rw [List.length_map]; simp [big]; omega))
    · show Has "found" (.dat (dWs (worldsF (done ++ [l])))) _
      rw [worlds_snoc]
      trivial
  · intro ρ' X' hf
    exact go_cons (do_return (ef_pure (evn (d := .dat (dWs (worldsF lists)))) rfl))
end

theorem mul_ok {i j : Int} (h : -1000000 ≤ i) (h' : i ≤ 1000000) : IntMulOk i j := by
  refine IntMulOk.of_left ?_
  unfold Builtin.Int.intBits
  split
  · omega
  · rename_i h0
    have h1 : i.natAbs ≠ 0 := by intro h; apply h0; simp; omega
    have := (Nat.log2_lt h1 (k := 63)).mpr (by omega)
    omega
noncomputable def lastI (w : List Int) : Int := w.getLast?.getD 0
noncomputable def pastF (kind : Int) (row : List Int) (v : Int) : Bool := if kind = 1 then decide (v > lastI row) else decide (v < lastI row)
noncomputable def meantF (kind : Int) (row : List Int) : Bool :=
  if kind = 0 then decide (atI row 1 ≥ 0) && (atI row 1 * atI row 1 == atI row 0 * atI row 0)
  else row.dropLast.contains (lastI row) && (row.dropLast.filter (pastF kind row)).isEmpty
section
variable {b : Bas} {X : List MO} (G : Gs b)
theorem itm_last {w : List Int} (h : w ≠ []) : Itm b X (.dat (dI1 w)) (.int (-1)) (.int (lastI w)) := itm_list (seqL (map_pos h)) (by
  rw [← List.getLast?_eq_getElem?, List.getLast?_map]
  unfold lastI
  cases e : w.getLast? with
  | none => exact absurd (List.getLast?_eq_none_iff.mp e) h
  | some p => rfl)
theorem itm_lastW {w : List Int} (h : w ≠ []) : Itm b X (.dat (dW w)) (.int (-1)) (.int (lastI w)) := itm_tup (seqL (map_pos h)) (by
  rw [← List.getLast?_eq_getElem?, List.getLast?_map]
  unfold lastI
  cases e : w.getLast? with
  | none => exact absurd (List.getLast?_eq_none_iff.mp e) h
  | some p => rfl)
theorem cut_but (xs : List PyData) : cut xs none (some (-1)) = xs.dropLast := by
  unfold cut
  simp only [Option.elim, List.drop_zero, Nat.sub_zero]
  rw [List.dropLast_eq_take]
  unfold clipAt
  congr 1
  simp only [show (-1 : Int) < 0 from by omega, if_true]
  omega
theorem ev_butL {n : Nat} {sc : Scope} {ρ : List (Str × D)} {value upper : PySem.Expr} {p pos : Pos} {xs : List PyData} (h1 : Ev b n sc ρ X value (.list xs)) (h3 : Ev b n sc ρ X upper (.int (-1)))
    (ht : ∀ o r, letTemporaryGo value o r = pure () := by intro _ _; rfl) : Ev b n sc ρ X (.Subscript value (.Slice none (some upper) none p) pos) (.list xs.dropLast) := by
  rw [← cut_but]
  exact ev_sliceL h1 part_none (part_some h3) ht
theorem ev_butI {n : Nat} {sc : Scope} {ρ : List (Str × D)} {value upper : PySem.Expr} {p pos : Pos} {w : List Int} (h1 : Ev b n sc ρ X value (.dat (dI1 w))) (h3 : Ev b n sc ρ X upper (.int (-1)))
    (ht : ∀ o r, letTemporaryGo value o r = pure () := by intro _ _; rfl) : Ev b n sc ρ X (.Subscript value (.Slice none (some upper) none p) pos) (.dat (dI1 w.dropLast)) := by
  have := ev_butL (xs := w.map .int) (p := p) (pos := pos) h1 h3 ht
  rwa [← List.map_dropLast] at this
include G in
theorem f_meant {kind : Int} {row : List Int} (h2 : 2 ≤ row.length) (hz : row.length ≤ 5000) (hb : ∀ v ∈ row, -1000 ≤ v ∧ v ≤ 1000) : Fn b 1 X (.ref 490) [.int kind, .dat (dI1 row)] (.bool (meantF kind row)) := by
  have hne : row ≠ [] := fun h => by rw [h] at h2; simp at h2
  have hat : ∀ i, i < row.length → -1000 ≤ atI row i ∧ atI row i ≤ 1000 := fun i hi => hb _ (by
    unfold atI; rw [List.getD_eq_getElem?_getD, List.getElem?_eq_getElem hi]; exact List.getElem_mem _)
  refine fn_of ["kind", "row"] G.f29 (fun c hW => ?_) (bind2 (by intros; rfl))
  refine go_cons (do_if (et_pure (tv_cmp (evn (d := .int kind)) ev_int cmp_eq) (ite_of (fun ht => ?_) fun ht => ?_)))
  · have hk : kind = 0 := by simpa using ht
    have q1 := hat 1 (by omega)
    have q0 := hat 0 (by omega)
    refine go_cons (do_return (ef_pure (ev_and2 (ev_cmp (ev_item (evn (d := .dat (dI1 row))) ev_int (itm_I1 (i := 1) (by omega))) ev_int cmp_ge) fun _ =>
      ev_cmp (ev_bin (ev_item (evn (d := .dat (dI1 row))) ev_int (itm_I1 (i := 1) (by omega))) (ev_item (evn (d := .dat (dI1 row))) ev_int (itm_I1 (i := 1) (by omega))) (bin_mul (mul_ok (by omega) (by omega))))
        (ev_bin (ev_item (evn (d := .dat (dI1 row))) ev_int (itm_I1 (i := 0) (by omega))) (ev_item (evn (d := .dat (dI1 row))) ev_int (itm_I1 (i := 0) (by omega))) (bin_mul (mul_ok (by omega) (by omega)))) cmp_eq) ?_))
    rw [meantF, if_pos hk]; rfl
  · have hk : kind ≠ 0 := by simpa using ht
    refine go_nil (go_cons (do_return (ef_pure (ev_and2 (ev_cmp (ev_item (evn (d := .dat (dI1 row))) (ev_neg ev_int) (itm_last hne)) (ev_butI (evn (d := .dat (dI1 row))) (ev_neg ev_int)) cmp_inI) fun _ =>
      ev_cmp (ev_filt ["v"] row.dropLast (fun v => .int v) (pastF kind row) (fun v => .int v) (ev_butI (evn (d := .dat (dI1 row))) (ev_neg ev_int)) iter_map (by rw [List.length_dropLast]; simp only [big]; omega) ?_) (ev_list (ds := []) evs_nil) (cmp_nil ((pn1 _).shaped (by omega)))) ?_)))
    · intro v hv
      refine ⟨_, asg_name (d := .int v), sub1, ts_one (tv_ifexp (x := kind == 1) (tv_cmp (evn (d := .int kind)) ev_int cmp_eq) (fun h1 => ?_) (fun h1 => ?_)), fun _ => evn (d := .int v)⟩
      · rw [pastF, if_pos (by simpa using h1)]
        exact tv_cmp (evn (d := .int v)) (ev_item (evn (d := .dat (dI1 row))) (ev_neg ev_int) (itm_last hne)) cmp_gt
      · rw [pastF, if_neg (by simpa using h1)]
        exact tv_cmp (evn (d := .int v)) (ev_item (evn (d := .dat (dI1 row))) (ev_neg ev_int) (itm_last hne)) cmp_lt
    · rw [isEmpty_map, meantF, if_neg hk]; rfl
/-- an entry of the trail -/
structure Ent where
  x : Nat
  old : Dom
  lit : Lit
  why : Option (List Lit)
noncomputable abbrev dWhy : Option (List Lit) → PyData
  | none => .none
  | some rs => dR rs
noncomputable abbrev dE (e : Ent) : PyData := .tuple [.int e.x, dD e.old, dL e.lit, dWhy e.why, .int (-1)]
/-- one entry behind the lists -/
noncomputable def behind1 (kept : List (List Int)) (ls : List (List Int)) (e : Ent) : Option (List (List Int)) :=
  let late := (atL ls e.x).filter (saysF e.lit)
  let rs := e.why.getD []
  if e.lit.x ≠ e.x ∨ valuesOf e.old ≠ atL ls e.x ∨ late = [] ∨ late = atL ls e.x then none
  else if doHold rs ls = false then none
  else if (kept.filter fun w => !saysF e.lit (atI w e.x) && areKept rs w) ≠ [] then none
  else some (ls.set e.x late)
noncomputable def behindF (kept : List (List Int)) : List Ent → List (List Int) → Option (List (List Int))
  | [], ls => some ls
  | e :: r, ls => match behind1 kept ls e with
    | none => none
    | some ls' => behindF kept r ls'
end
noncomputable def optL : Option (List (List Int)) → PyData
  | none => .none
  | some l => dI2 l
section
variable {b : Bas} {X : List MO} (G : Gs b)
theorem cut_take (xs : List PyData) {i : Nat} (h : i ≤ xs.length) : cut xs none (some (i : Int)) = xs.take i := by
  unfold cut clipAt
  simp only [Option.elim, List.drop_zero, Nat.sub_zero]
  rw [if_neg (by omega)]
  congr 1; omega
theorem cut_drop (xs : List PyData) {i : Nat} (h : i ≤ xs.length) : cut xs (some (i : Int)) none = xs.drop i := by
  unfold cut clipAt
  simp only [Option.elim]
  rw [if_neg (by omega), show (max 0 (min (i : Int) xs.length)).toNat = i by omega, List.take_of_length_le (by rw [List.length_drop]; omega)]
theorem set_split {α β : Type} (f : α → β) (ls : List α) (i : Nat) (a : α) (h : i < ls.length) : ((ls.map f).take i ++ [f a]) ++ (ls.map f).drop (i + 1) = (ls.set i a).map f := by
  rw [List.set_eq_take_append_cons_drop, if_pos h, List.map_append, List.map_cons, List.map_take, List.map_drop, List.append_assoc]; rfl
theorem asg_tup5 {sc : Scope} {ρ : List (Str × D)} {ns : List Str} {x y z u v : Str} {px py pz pu pv : Pos} {k : Nat} {pos : Pos} {d e f g i : PyData} (hx : (Own sc x && Own sc y && Own sc z && Own sc u && Own sc v) = true := by decide +kernel) (mx : ([x, y, z, u, v].all fun t => ns.contains t) = true := by decide +kernel) :
    Asg b sc X ns (.Tuple [.Name x px, .Name y py, .Name z pz, .Name u pu, .Name v pv] k pos) (.tup [d, e, f, g, i]) ρ ((v, .dat i) :: Del v ((u, .dat g) :: Del u ((z, .dat f) :: Del z ((y, .dat e) :: Del y ((x, .dat d) :: Del x ρ))))) :=
  asg_tupN (b := b) (sc := sc) (X := X) (ρ := ρ) (ns := ns) (k := k) (pos := pos) (ds := [d, e, f, g, i]) (xs := [(x, px), (y, py), (z, pz), (u, pu), (v, pv)]) (by
    simp only [Bool.and_eq_true] at hx
    intro p hp; simp only [List.mem_cons, List.mem_nil_iff, or_false] at hp
    rcases hp with rfl | rfl | rfl | rfl | rfl <;> simp [hx]) (by
    intro p hp; simp only [List.mem_cons, List.mem_nil_iff, or_false] at hp
    simp only [List.all_cons, Bool.and_eq_true, List.contains_iff_mem] at mx
    rcases hp with rfl | rfl | rfl | rfl | rfl <;> simp [mx]) rfl
theorem cmp_neI {i j : Int} : Cmp b .NotEq (.int i) (.int j) (!decide (i = j)) := cmp_neP (n := 0) ⟨_, rfl⟩ ⟨_, rfl⟩ (by omega) (by simp)
theorem cmp_neN {i j : Nat} : Cmp b .NotEq (.int i) (.int j) (!decide (i = j)) := cmp_neP (n := 0) ⟨_, rfl⟩ ⟨_, rfl⟩ (by omega) (by simp; omega)
theorem cmp_eqL1 {u v : List Int} : Cmp b .Eq (.dat (dI1 u)) (.dat (dI1 v)) (decide (u = v)) := cmp_eqP (pn1 u) (pn1 v) (by omega) (by rw [decide_eq_true_iff]; exact ⟨fun h => congrArg _ h, dI1_inj⟩)
theorem cmp_neL1 {u v : List Int} : Cmp b .NotEq (.dat (dI1 u)) (.dat (dI1 v)) (!decide (u = v)) := cmp_neP (pn1 u) (pn1 v) (by omega) (by rw [decide_eq_true_iff]; exact ⟨fun h => congrArg _ h, dI1_inj⟩)
theorem cmp_nilI {u : List Int} : Cmp b .Eq (.dat (dI1 u)) (.list []) u.isEmpty := by have := cmp_nil (b := b) ((pn1 u).shaped (by omega)); rwa [isEmpty_map] at this
structure EntOk (k : Nat) (e : Ent) : Prop where
  x : e.x < k
  lit : e.lit.x = e.x
  old : DomOk e.old
  why : ∃ rs, e.why = some rs ∧ rs.length ≤ big ∧ ∀ l ∈ rs, l.x < k
include G in
theorem f_behind {es : List Ent} {ls kept : List (List Int)} (he : ∀ e ∈ es, EntOk ls.length e) (hz : es.length ≤ big) (hls : ∀ l ∈ ls, l.length ≤ 10) (hl : ls.length ≤ 4) (hk : ∀ w ∈ kept, w.length = ls.length) (hkz : kept.length ≤ big) :
    Fn b 3 X (.ref 515) [.dat (.list (es.map dE)), .dat (dI2 ls), .dat (dWs kept)] (.dat (optL (behindF kept es ls))) := by
  refine fn_of ["entries", "lists", "kept"] G.f34 (fun c hW => ?_) (bind3 (by intros; rfl))
  refine go_cons (do_for ["x", "old", "literal", "reasons", "speaker"] es (fun e => .dat (dE e)) (fun done rest ρ X' => ∃ now : List (List Int), Has "lists" (.dat (dI2 now)) ρ ∧ Has "kept" (.dat (dWs kept)) ρ ∧ now.length = ls.length ∧ (∀ l ∈ now, l.length ≤ 10) ∧ behindF kept es ls = behindF kept rest now) (evn (d := .dat (.list (es.map dE)))) iter_map ⟨ls, by trivial, by trivial, rfl, hls, rfl⟩ ?_ ?_)
  · rintro lk done ⟨x, old, lit, why⟩ rest ρ1 X1 hd ⟨now, hf, hkp, hnl, hnb, hn⟩
    obtain ⟨hx, hlx, hold, rs, hrs, hrz, hrx⟩ := he ⟨x, old, lit, why⟩ (by rw [hd]; exact List.mem_append_right _ List.mem_cons_self)
    dsimp only at hx hlx hold hrs
    subst hrs
    have hat : (atL now x).length ≤ 10 := hnb _ (by
      unfold atL; rw [List.getD_eq_getElem?_getD, List.getElem?_eq_getElem (by omega)]; exact List.getElem_mem _)
    refine ⟨_, asg_tup5 (d := .int x) (e := dD old) (f := dL lit) (g := dR rs) (i := .int (-1)), ?_⟩
    refine go_cons (do_assignC (out := ((atL now x).filter (saysF lit)).map .int) ["v"] (ev_item (evn (d := .dat (dI2 now))) (evn (d := .int x)) (itm_I2 (by omega))) iter_map (cl_one (atL now x) (fun v => .int v) (fun v => if saysF lit v then [.int v] else []) rfl (filt_flat _ _ _) fun v hv => ?_) (by rw [List.length_map]; exact Nat.le_trans (List.length_filter_le _ _) (by simp only [big]; omega)) ?_)
    · exact ⟨_, saysF lit v, asg_name (d := .int v), sub1, ts_one (tv_value (ecall (ev_glob G.g28) (es2 (evn (d := .dat (dL lit))) (evn (d := .int v))) G.f28.ke (f_law_says G lit v)) tr_bool), fun hc => ⟨.int v, by rw [hc]; rfl, evn (d := .int v)⟩, fun hc => by rw [hc]; rfl⟩
    generalize hlate : (atL now x).filter (saysF lit) = late
    have hb1 : behind1 kept now ⟨x, old, lit, some rs⟩ = if lit.x ≠ x ∨ valuesOf old ≠ atL now x ∨ late = [] ∨ late = atL now x then none
      else if doHold rs now = false then none
      else if (kept.filter fun w => !saysF lit (atI w x) && areKept rs w) ≠ [] then none
      else some (now.set x late) := by rw [← hlate]; rfl
    have hbf : behindF kept (⟨x, old, lit, some rs⟩ :: rest) now = match behind1 kept now ⟨x, old, lit, some rs⟩ with | none => none | some ls' => behindF kept rest ls' := rfl
    refine go_cons (do_if (et_pure (tv_bool (al_or (c' := !decide (valuesOf old = atL now x) || (late.isEmpty || (decide (late = atL now x) || false))) (tv_cmp (ev_item (evn (d := .dat (dL lit))) ev_int itm_L0) (evn (d := .int x)) cmp_neN) fun _ =>
      al_or (tv_cmp (ecall (ev_glob G.g27) (es1 (evn (d := .dat (dD old)))) G.f27.ke (f_law_list G hold)) (ev_item (evn (d := .dat (dI2 now))) (evn (d := .int x)) (itm_I2 (by omega))) cmp_neL1) fun _ =>
      al_or (tv_cmp (evn (d := .dat (dI1 late))) (ev_list (ds := []) evs_nil) cmp_nilI) fun _ =>
      al_or (tv_cmp (evn (d := .dat (dI1 late))) (ev_item (evn (d := .dat (dI2 now))) (evn (d := .int x)) (itm_I2 (by omega))) cmp_eqL1) fun _ => al_or_nil)) (ite_of (fun ht => ?_) fun ht => ?_)))
    · refine go_cons (do_return (ef_pure ev_none ?_))
      show D.none = _
      rw [hn, hbf, hb1, if_pos (by simpa [List.isEmpty_iff] using ht)]; rfl
    have hno : ¬(lit.x ≠ x ∨ valuesOf old ≠ atL now x ∨ late = [] ∨ late = atL now x) := by simpa [List.isEmpty_iff] using ht
    refine go_nil (go_cons (do_if (et_pure (tv_not (tv_value (ecall (ev_glob G.g32) (es2 (evn (d := .dat (dR rs))) (evn (d := .dat (dI2 now)))) G.f32.ke (f_do_hold G (fun l hl => by have := hrx l hl; omega) hrz (fun l hl => Nat.le_trans (hnb l hl) (by simp only [big]; omega)))) tr_bool)) (ite_of (fun h2 => ?_) fun h2 => ?_))))
    · refine go_cons (do_return (ef_pure ev_none ?_))
      show D.none = _
      rw [hn, hbf, hb1, if_neg hno, if_pos (by simpa using h2)]; rfl
    have hyes : ¬ doHold rs now = false := by simpa using h2
    refine go_nil (go_cons (do_if (et_pure (tv_cmp (ev_filt ["world"] kept (fun w => .dat (dW w)) (fun w => !saysF lit (atI w x) && (areKept rs w && true)) dW (evn (d := .dat (dWs kept))) iter_map hkz ?_) (ev_list (ds := []) evs_nil) (cmp_notNil ((pnWs _).shaped (by omega)))) (ite_of (fun h3 => ?_) fun h3 => ?_))))
    · intro w hw
      have hwl := hk w hw
      exact ⟨_, asg_name (d := .dat (dW w)), sub1, ts_one (tv_bool (al_and (tv_not (tv_value (ecall (ev_glob G.g28) (es2 (evn (d := .dat (dL lit))) (ev_item (evn (d := .dat (dW w))) (evn (d := .int x)) (itm_W (by omega)))) G.f28.ke (f_law_says G lit _)) tr_bool)) fun _ =>
        al_and (tv_value (ecall (ev_glob G.g33) (es2 (evn (d := .dat (dR rs))) (evn (d := .dat (dW w)))) G.f33.ke (f_are_kept G (fun l hl => by have := hrx l hl; omega) hrz)) tr_bool) fun _ => al_and_nil)), fun _ => evn (d := .dat (dW w))⟩
    · refine go_cons (do_return (ef_pure ev_none ?_))
      show D.none = _
      rw [hn, hbf, hb1, if_neg hno, if_neg hyes, if_pos (by simpa [List.isEmpty_iff] using h3)]; rfl
    have hnk : ¬ (kept.filter fun w => !saysF lit (atI w x) && areKept rs w) ≠ [] := by simpa [List.isEmpty_iff] using h3
    have hlz : late.length ≤ 10 := by rw [← hlate]; exact Nat.le_trans (List.length_filter_le _ _) hat
    refine go_nil (go_cons (do_assign (ef_pure (d := .dat (dI2 (now.set x late))) ?_ ?_)))
    · rw [show D.dat (dI2 (now.set x late)) = .list (((now.map dI1).take x ++ [dI1 late]) ++ (now.map dI1).drop (x + 1)) by rw [set_split dI1 now x late (by omega)]]
      have c1 : cut (now.map dI1) none (some (x : Int)) = (now.map dI1).take x := cut_take _ (by rw [List.length_map]; omega)
      have c2 : cut (now.map dI1) (some ((x : Int) + 1)) none = (now.map dI1).drop (x + 1) := cut_drop (i := x + 1) _ (by rw [List.length_map]; omega)
      rw [← c1, ← c2]
      refine ev_bin (ev_bin (ev_sliceL (evn (d := .dat (dI2 now))) part_none (part_some (evn (d := .int x)))) (ev_list (ds := [dI1 late]) (es1 (evn (d := .dat (dI1 late)))) (by simp [big])) (bin_list ?_)) (ev_sliceL (evn (d := .dat (dI2 now))) (part_some (ev_bin (evn (d := .int x)) ev_int bin_add)) part_none) (bin_list ?_)
      · rw [c1]; simp [big]; omega
      · rw [c1, c2]; simp [big]; omega
    · refine go_nil ⟨now.set x late, by trivial, by trivial, by rw [List.length_set]; exact hnl, fun l hl => ?_, ?_⟩
      · rcases List.mem_or_eq_of_mem_set hl with h | h
        · exact hnb l h
        · rw [h]; exact hlz
      · rw [hn, hbf, hb1, if_neg hno, if_neg hyes, if_neg hnk]
  · rintro ρ' X' ⟨now, hf, -, -, -, hn⟩
    refine go_cons (do_return (ef_pure (evn (d := .dat (dI2 now))) ?_))
    show D.dat _ = _
    rw [hn]; rfl
end

theorem atI_app {w : List Int} {v : Int} {i : Nat} : atI (w ++ [v]) i = if i < w.length then atI w i else if i = w.length then v else 0 := by
  unfold atI
  simp only [List.getD_eq_getElem?_getD]
  split
  · rename_i h; rw [List.getElem?_append_left h]
  · rename_i h
    rw [List.getElem?_append_right (by omega)]
    split
    · rename_i h'; subst h'; simp
    · rename_i h'; rw [List.getElem?_eq_none (by simp; omega)]; rfl
theorem atL_app {w : List (List Int)} {v : List Int} {i : Nat} : atL (w ++ [v]) i = if i < w.length then atL w i else if i = w.length then v else [] := by
  unfold atL
  simp only [List.getD_eq_getElem?_getD]
  split
  · rename_i h; rw [List.getElem?_append_left h]
  · rename_i h
    rw [List.getElem?_append_right (by omega)]
    split
    · rename_i h'; subst h'; simp
    · rename_i h'; rw [List.getElem?_eq_none (by simp; omega)]; rfl
theorem mem_worlds {ls : List (List Int)} {w : List Int} : w ∈ worldsF ls ↔ w.length = ls.length ∧ ∀ i, i < ls.length → atI w i ∈ atL ls i := by
  have key : ∀ (k : Nat) (ls : List (List Int)), ls.length = k → ∀ w : List Int, w ∈ worldsF ls ↔ w.length = ls.length ∧ ∀ i, i < ls.length → atI w i ∈ atL ls i := by
    intro k
    induction k with
    | zero =>
      intro ls hk w
      obtain rfl := List.eq_nil_of_length_eq_zero hk
      simp [worldsF]
    | succ k ih =>
      intro ls hk w
      rcases List.eq_nil_or_concat ls with rfl | ⟨r, l, rfl⟩
      · cases hk
      rw [List.concat_eq_append] at hk ⊢
      have hr : r.length = k := by rw [List.length_append] at hk; simpa using hk
      rw [worlds_snoc]
      constructor
      · intro h
        obtain ⟨u, hu, h⟩ := List.mem_flatMap.mp h
        obtain ⟨v, hv, rfl⟩ := List.mem_map.mp h
        obtain ⟨h1, h2⟩ := (ih r hr u).mp hu
        refine ⟨by rw [List.length_append, List.length_append, h1]; rfl, fun i hi => ?_⟩
        rw [atI_app, atL_app, h1]
        split
        · exact h2 i ‹_›
        · rw [if_pos (by rw [List.length_append, List.length_singleton] at hi; omega), if_pos (by rw [List.length_append, List.length_singleton] at hi; omega)]; exact hv
      · rintro ⟨h1, h2⟩
        rcases List.eq_nil_or_concat w with rfl | ⟨u, v, rfl⟩
        · rw [List.length_append] at h1; simp at h1
        rw [List.concat_eq_append] at h1 h2 ⊢
        have hul : u.length = r.length := by rw [List.length_append, List.length_append] at h1; simpa using h1
        refine List.mem_flatMap.mpr ⟨u, (ih r hr u).mpr ⟨hul, fun i hi => ?_⟩, List.mem_map.mpr ⟨v, ?_, rfl⟩⟩
        · have := h2 i (by rw [List.length_append]; omega)
          rwa [atI_app, atL_app, if_pos hi, if_pos (by omega)] at this
        · have := h2 r.length (by rw [List.length_append, List.length_singleton]; omega)
          rwa [atI_app, atL_app, if_neg (show ¬ r.length < u.length by omega), if_pos (show r.length = u.length by omega), if_neg (Nat.lt_irrefl _), if_pos rfl] at this
  exact key _ ls rfl w
noncomputable abbrev dN (s : List Nat) : PyData := .list (s.map fun i : Nat => .int i)
noncomputable def wideF (ls : List (List Int)) : List (List Int) := ls.map fun l => nums (atI l 0) (lastI l + 1)
noncomputable def waysF (kind : Int) (scope : List Nat) (ls kept : List (List Int)) : List (List Int) :=
  if kind = 0 then kept.filter fun w => isIn w ls else (worldsF (wideF ls)).filter fun w => meantF kind (scope.map fun x => atI w x)
noncomputable def askedF (kind : Int) (ls : List (List Int)) : List (List Int) := if kind = 0 then ls else ls.map fun l => [atI l 0, lastI l]
noncomputable def missF (kind : Int) (scope : List Nat) (ls kept : List (List Int)) (x : Nat) : List Int := (atL (askedF kind ls) x).filter fun v => !((waysF kind scope ls kept).map fun w => atI w x).contains v
noncomputable def supF (kind : Int) (scope : List Nat) (ls kept : List (List Int)) : Bool := scope.all fun x => (missF kind scope ls kept x).isEmpty
/-- small lists of small numbers -/
structure LsOk (ls : List (List Int)) : Prop where
  few : ls.length ≤ 4
  each : ∀ l ∈ ls, l.length ≤ 10 ∧ l ≠ [] ∧ ∀ v ∈ l, -4 ≤ v ∧ v ≤ 4
theorem atI_mem {l : List Int} {i : Nat} (h : i < l.length) : atI l i ∈ l := by
  unfold atI; rw [List.getD_eq_getElem?_getD, List.getElem?_eq_getElem h]; exact List.getElem_mem _
theorem atL_mem {l : List (List Int)} {i : Nat} (h : i < l.length) : atL l i ∈ l := by
  unfold atL; rw [List.getD_eq_getElem?_getD, List.getElem?_eq_getElem h]; exact List.getElem_mem _
theorem lastI_mem {l : List Int} (h : l ≠ []) : lastI l ∈ l := by
  unfold lastI
  cases e : l.getLast? with
  | none => exact absurd (List.getLast?_eq_none_iff.mp e) h
  | some p => exact List.mem_of_getLast? e
theorem atL_map {α : Type} {f : α → List Int} {l : List α} {i : Nat} (h : i < l.length) : atL (l.map f) i = f l[i] := by
  unfold atL; rw [List.getD_eq_getElem?_getD, List.getElem?_map, List.getElem?_eq_getElem h]; rfl
theorem LsOk.ends {ls : List (List Int)} (h : LsOk ls) {l : List Int} (hl : l ∈ ls) : -4 ≤ atI l 0 ∧ atI l 0 ≤ 4 ∧ -4 ≤ lastI l ∧ lastI l ≤ 4 := by
  obtain ⟨h1, h2, h3⟩ := h.each l hl
  have a := h3 _ (atI_mem (i := 0) (List.length_pos_iff.mpr h2))
  have c := h3 _ (lastI_mem h2)
  exact ⟨a.1, a.2, c.1, c.2⟩
theorem wide_len {ls : List (List Int)} (h : LsOk ls) : ∀ l ∈ wideF ls, l.length ≤ 10 := by
  intro l hl
  obtain ⟨m, hm, rfl⟩ := List.mem_map.mp hl
  have := h.ends hm
  rw [nums_length]; omega
theorem wide_world {ls : List (List Int)} (h : LsOk ls) {w : List Int} (hw : w ∈ worldsF (wideF ls)) : w.length = ls.length ∧ ∀ i, i < ls.length → -4 ≤ atI w i ∧ atI w i ≤ 4 := by
  obtain ⟨h1, h2⟩ := mem_worlds.mp hw
  have hl : (wideF ls).length = ls.length := List.length_map ..
  refine ⟨h1.trans hl, fun i hi => ?_⟩
  have := h2 i (by rw [hl]; exact hi)
  rw [wideF, atL_map hi, mem_nums] at this
  have := h.ends (List.getElem_mem hi)
  omega
section
variable {b : Bas} {X : List MO} (G : Gs b)
omit G in
/-- the same where the name is shared with a block within -/
theorem do_assignK {n : Nat} {sc : Scope} {c : Cx b n sc} {ρ : List (Str × D)} {Q : List (Str × D) → List MO → Fl → Prop} {x : Str} {pos' pos : Pos} {value : PySem.Expr} (h : c.Ef ρ X value fun d X1 => Q ((x, d) :: Del x ρ) X1 .nxt) (hx : Own sc x = true := by decide +kernel)
    (hs : ∀ env, env.scope = sc → swapsWith value (some (.Name x pos')) pos.line env = pure false := by intro env h; cases env; cases h; rfl) : c.Do ρ X (.Assign [.Name x pos'] value pos) Q := fun M s S => by
  refine wpAny_Assign_Name (wp_weak (h M s S) fun v s₁ ⟨M1, X1, d, S1, m1, a1, q⟩ => ?_) (hs _ S.sv.eo.scope)
  refine wp_weak (sv_store (ns := [x]) S1.sv hx (by simp) a1) fun _ s₂ ⟨S2, p2⟩ => ⟨M1, _, X1, at_put S1 S2 (p2.more wn_wr), m1.trans (mv_put S1 (p2.more wn_wr)), q⟩
omit G in
theorem do_filt {n : Nat} {sc : Scope} {c : Cx b n sc} {ρ : List (Str × D)} {Q : List (Str × D) → List MO → Fl → Prop} {x : Str} {pos' spos pos : Pos} {elt tgt iter : PySem.Expr} {ifs : List PySem.Expr} {scope : Scope} {α : Type} (ns : List Str) (items : List α) (gi : α → D) (p : α → Bool) (go : α → PyData) {d : D}
    (h1 : Ev b n sc ρ X iter d) (hi : Iter d (items.map gi)) (hz : items.length ≤ big)
    (ht : ∀ a ∈ items, ∃ ρ', Asg b (relab scope sc) X ns tgt (gi a) (Cap scope ρ) ρ' ∧ (∀ q ∈ Cap scope ρ, q ∈ ρ') ∧ Ts b n (relab scope sc) ρ' X ifs (p a) ∧ (p a = true → Ev b n (relab scope sc) ρ' X elt (.dat (go a))))
    (q : Q ((x, .list ((items.filter p).map go)) :: Del x ρ) X .nxt)
    (hx : Own sc x = true := by decide +kernel) (hok : CompOk scope sc = true := by decide +kernel) (hns : NsOk scope ns = true := by decide +kernel) (hs : ∀ env x, foldedSetIterable iter env x = pure x := by intro _ _; rfl)
    (hsw : ∀ env, env.scope = sc → swapsWith (.ListComp elt [⟨tgt, iter, ifs, 0⟩] scope pos) (some (.Name x pos')) spos.line env = pure true := by intro env h; cases env; cases h; rfl) :
    c.Do ρ X (.Assign [.Name x pos'] (.ListComp elt [⟨tgt, iter, ifs, 0⟩] scope pos) spos) Q := by
  refine do_assignC ns h1 hi (cl_one items gi (fun a => if p a then [go a] else []) rfl (filt_flat p go items) fun a ha => ?_) (by rw [List.length_map]; exact Nat.le_trans (List.length_filter_le _ _) hz) q hx hok hns hs hsw
  obtain ⟨ρ', h1, h2, h3, h4⟩ := ht a ha
  exact ⟨ρ', p a, h1, h2, h3, fun hc => ⟨go a, by rw [hc]; rfl, h4 hc⟩, fun hc => by rw [hc]; rfl⟩
omit G in
theorem do_mapc {n : Nat} {sc : Scope} {c : Cx b n sc} {ρ : List (Str × D)} {Q : List (Str × D) → List MO → Fl → Prop} {x : Str} {pos' spos pos : Pos} {elt tgt iter : PySem.Expr} {scope : Scope} {α : Type} (ns : List Str) (items : List α) (gi : α → D) (go : α → PyData) {d : D}
    (h1 : Ev b n sc ρ X iter d) (hi : Iter d (items.map gi)) (hz : items.length ≤ big)
    (ht : ∀ a ∈ items, ∃ ρ', Asg b (relab scope sc) X ns tgt (gi a) (Cap scope ρ) ρ' ∧ (∀ q ∈ Cap scope ρ, q ∈ ρ') ∧ Ev b n (relab scope sc) ρ' X elt (.dat (go a)))
    (q : Q ((x, .list (items.map go)) :: Del x ρ) X .nxt)
    (hx : Own sc x = true := by decide +kernel) (hok : CompOk scope sc = true := by decide +kernel) (hns : NsOk scope ns = true := by decide +kernel) (hs : ∀ env x, foldedSetIterable iter env x = pure x := by intro _ _; rfl)
    (hsw : ∀ env, env.scope = sc → swapsWith (.ListComp elt [⟨tgt, iter, [], 0⟩] scope pos) (some (.Name x pos')) spos.line env = pure true := by intro env h; cases env; cases h; rfl) :
    c.Do ρ X (.Assign [.Name x pos'] (.ListComp elt [⟨tgt, iter, [], 0⟩] scope pos) spos) Q := by
  refine do_filt ns items gi (fun _ => true) go h1 hi hz (fun a ha => let ⟨ρ', h1, h2, h3⟩ := ht a ha; ⟨ρ', h1, h2, ts_nil, fun _ => h3⟩) ?_ hx hok hns hs hsw
  rwa [List.filter_eq_self.mpr fun _ _ => rfl]
include G in
theorem f_supports {kind : Int} {scope : List Nat} {ls kept : List (List Int)} (hls : LsOk ls) (hs : ∀ x ∈ scope, x < ls.length) (hs2 : 2 ≤ scope.length) (hsz : scope.length ≤ 5000) (hk : ∀ w ∈ kept, w.length = ls.length) (hkz : kept.length ≤ big) :
    Fn b 2 X (.ref 520) [.int kind, .dat (dN scope), .dat (dI2 ls), .dat (dWs kept)] (.bool (supF kind scope ls kept)) := by
  have hfew := hls.few
  have hlb : ls.length ≤ big := by simp only [big]; omega
  refine fn_of ["kind", "scope", "lists", "kept"] G.f35 (fun c hW => ?_) (bind4 (by intros; rfl))
  have hwl : (waysF kind scope ls kept).length ≤ big ∧ ∀ w ∈ waysF kind scope ls kept, w.length = ls.length := by
    unfold waysF
    split
    · exact ⟨Nat.le_trans (List.length_filter_le _ _) hkz, fun w hw => hk w (List.mem_filter.mp hw).1⟩
    · refine ⟨Nat.le_trans (List.length_filter_le _ _) (Nat.le_trans (worlds_len (wide_len hls)) ?_), fun w hw => (wide_world hls (List.mem_filter.mp hw).1).1⟩
      refine Nat.le_trans (Nat.pow_le_pow_right (by omega) (show (wideF ls).length ≤ 4 by rw [wideF, List.length_map]; exact hfew)) (by decide)
  have hal : (askedF kind ls).length = ls.length ∧ ∀ l ∈ askedF kind ls, l.length ≤ 10 := by
    unfold askedF
    split
    · exact ⟨rfl, fun l hl => (hls.each l hl).1⟩
    · exact ⟨List.length_map .., fun l hl => by obtain ⟨m, _, rfl⟩ := List.mem_map.mp hl; simp⟩
  refine go_join (fun ρ X' => Has "ways" (.dat (dWs (waysF kind scope ls kept))) ρ ∧ Has "asked" (.dat (dI2 (askedF kind ls))) ρ ∧ Has "scope" (.dat (dN scope)) ρ) (do_if (et_pure (tv_cmp (evn (d := .int kind)) ev_int cmp_eq) (ite_of (fun ht => ?_) fun ht => ?_))) ?_
  · have hk0 : kind = 0 := by simpa using ht
    refine go_cons (do_assign2S (es_pure (es2 (ev_filt ["world"] kept (fun w => .dat (dW w)) (fun w => isIn w ls) dW (evn (d := .dat (dWs kept))) iter_map hkz ?_) (evn (d := .dat (dI2 ls)))) ⟨_, _, rfl, go_nil ⟨?_, ?_, by trivial⟩⟩))
    · intro w hw
      exact ⟨_, asg_name (d := .dat (dW w)), sub1, ts_one (tv_value (ecall (ev_glob G.g31) (es2 (evn (d := .dat (dW w))) (evn (d := .dat (dI2 ls)))) G.f31.ke (f_is_in G (by rw [hk w hw]; exact Nat.le_refl _) (by omega))) tr_bool), fun _ => evn (d := .dat (dW w))⟩
    · rw [waysF, if_pos hk0]; trivial
    · rw [askedF, if_pos hk0]; trivial
  · have hk0 : ¬ kind = 0 := by simpa using ht
    refine go_cons (do_mapc ["some"] ls (fun l => .dat (dI1 l)) (fun l => dI1 (nums (atI l 0) (lastI l + 1))) (evn (d := .dat (dI2 ls))) iter_map hlb ?_ ?_)
    · intro l hl
      have he := hls.ends hl
      have hne := (hls.each l hl).2.1
      exact ⟨_, asg_name (d := .dat (dI1 l)), sub1, ecallT (ev_glob G.list) (es1 (ecallT (ev_glob G.range) (es2 (ev_item (evn (d := .dat (dI1 l))) ev_int (itm_I1 (i := 0) (List.length_pos_iff.mpr hne))) (ev_bin (ev_item (evn (d := .dat (dI1 l))) (ev_neg ev_int) (itm_last hne)) ev_int bin_add)) fn_range2)) (fn_listRange (by simp only [Small, big]; omega))⟩
    rw [show (ls.map fun l => dI1 (nums (atI l 0) (lastI l + 1))) = (wideF ls).map dI1 by rw [wideF, List.map_map]; rfl]
    refine go_cons (do_filt ["world"] (worldsF (wideF ls)) (fun w => .dat (dW w)) (fun w => meantF kind (scope.map fun x => atI w x)) dW (ecall (ev_glob G.g30) (es1 (evn (d := .dat (dI2 (wideF ls))))) G.f30.ke (f_worlds G (wide_len hls) (by rw [wideF, List.length_map]; exact hfew))) iter_map ?_ ?_ ?_)
    · refine Nat.le_trans (worlds_len (wide_len hls)) (Nat.le_trans (Nat.pow_le_pow_right (by omega) (show (wideF ls).length ≤ 4 by rw [wideF, List.length_map]; exact hfew)) (by decide))
    · intro w hw
      obtain ⟨hwl, hwb⟩ := wide_world hls hw
      refine ⟨_, asg_name (d := .dat (dW w)), sub1, ts_one (tv_value (ecall (ev_glob G.g29) (es2 (evn (d := .int kind)) (?_ : Ev _ _ _ _ _ _ (.dat (dI1 (scope.map fun x => atI w x))))) G.f29.ke (f_meant G (by rw [List.length_map]; exact hs2) (by rw [List.length_map]; exact hsz) fun v hv => ?_)) tr_bool), fun _ => evn (d := .dat (dW w))⟩
      · rw [dI1, List.map_map]
        exact ev_mapc ["x"] scope (fun i : Nat => .int i) (fun x => .int (atI w x)) (evn (d := .dat (dN scope))) iter_map (by simp only [big]; omega) fun i hi => ⟨_, asg_name (d := .int i), sub1, ev_item (evn (d := .dat (dW w))) (evn (d := .int i)) (itm_W (by rw [hwl]; exact hs i hi))⟩
      · obtain ⟨x, hx, rfl⟩ := List.mem_map.mp hv
        have := hwb x (hs x hx)
        omega
    refine go_cons (do_mapc ["some"] ls (fun l => .dat (dI1 l)) (fun l => dI1 [atI l 0, lastI l]) (evn (d := .dat (dI2 ls))) iter_map hlb ?_ ?_)
    · intro l hl
      have hne := (hls.each l hl).2.1
      exact ⟨_, asg_name (d := .dat (dI1 l)), sub1, ev_list (ds := [.int (atI l 0), .int (lastI l)]) (es2 (ev_item (evn (d := .dat (dI1 l))) ev_int (itm_I1 (i := 0) (List.length_pos_iff.mpr hne))) (ev_item (evn (d := .dat (dI1 l))) (ev_neg ev_int) (itm_last hne))) (by simp [big])⟩
    refine go_nil ⟨?_, ?_, by trivial⟩
    · rw [waysF, if_neg hk0]; trivial
    · rw [askedF, if_neg hk0, dI2, List.map_map]; exact List.mem_cons_self
  · rintro ρ2 X2 ⟨g1, g2, g3⟩
    refine go_cons (do_for ["x"] scope (fun i : Nat => .int i) (fun done rest ρ X' => Has "ways" (.dat (dWs (waysF kind scope ls kept))) ρ ∧ Has "asked" (.dat (dI2 (askedF kind ls))) ρ ∧ Has "scope" (.dat (dN scope)) ρ ∧ supF kind scope ls kept = rest.all fun x => (missF kind scope ls kept x).isEmpty) (evn (d := .dat (dN scope))) iter_map ⟨by trivial, by trivial, by trivial, rfl⟩ ?_ ?_)
    · rintro lk done x rest ρ1 X1 hd ⟨k1, k2, k3, hn⟩
      have hx : x < ls.length := hs x (by rw [hd]; exact List.mem_append_right _ List.mem_cons_self)
      refine ⟨_, asg_name (d := .int x), go_cons (do_assignK (ef_pure (ev_mapc ["world"] (waysF kind scope ls kept) (fun w => .dat (dW w)) (fun w => .int (atI w x)) (evn (d := .dat (dWs (waysF kind scope ls kept)))) iter_map hwl.1 ?_) ?_))⟩
      · intro w hw
        exact ⟨_, asg_name (d := .dat (dW w)), sub1, ev_item (evn (d := .dat (dW w))) (evn (d := .int x)) (itm_W (by rw [hwl.2 w hw]; exact hx))⟩
      rw [show ((waysF kind scope ls kept).map fun w => PyData.int (atI w x)) = ((waysF kind scope ls kept).map fun w => atI w x).map .int by rw [List.map_map]; rfl]
      refine go_cons (do_if (et_pure (tv_cmp (ev_filt ["v"] (atL (askedF kind ls) x) (fun v => .int v) (fun v => !((waysF kind scope ls kept).map fun w => atI w x).contains v) (fun v => .int v) (ev_item (evn (d := .dat (dI2 (askedF kind ls)))) (evn (d := .int x)) (itm_I2 (by omega))) iter_map (Nat.le_trans (hal.2 _ (atL_mem (by omega))) (by simp [big])) ?_) (ev_list (ds := []) evs_nil) (cmp_notNil ((pn1 _).shaped (by omega)))) (ite_of (fun h3 => ?_) fun h3 => ?_)))
      · intro v hv
        exact ⟨_, asg_name (d := .int v), sub1, ts_one (tv_cmp (evn (d := .int v)) (evn (d := .dat (dI1 ((waysF kind scope ls kept).map fun w => atI w x)))) cmp_notInI), fun _ => evn (d := .int v)⟩
      · refine go_cons (do_return (ef_pure ev_bool ?_))
        rw [isEmpty_map] at h3
        show D.bool _ = _
        have : (missF kind scope ls kept x).isEmpty = false := by simpa [missF] using h3
        rw [hn, List.all_cons, this]; rfl
      · refine go_nil (go_nil ⟨by trivial, by trivial, by trivial, ?_⟩)
        rw [isEmpty_map] at h3
        have : (missF kind scope ls kept x).isEmpty = true := by simpa [missF] using h3
        rw [hn, List.all_cons, this]; rfl
    · rintro ρ' X' ⟨-, -, -, hn⟩
      refine go_cons (do_return (ef_pure ev_bool ?_))
      rw [hn]; rfl
end

set_option maxRecDepth 20000
/-- a class whose instances are read and written plainly -/
structure Cls (b : Bas) (C : Addr) : Prop where
  ga : findIn b.K (.ref C) "__getattribute__" = some (some (.builtin "object.__getattribute__"))
  gk : findIn b.K (.ref C) "__getattr__" = some none
  hd : hasDictIn b.K C = true
  sa : findIn b.K (.ref C) "__setattr__" = some (some (.builtin "object.__setattr__"))
  po : plainOver b.K C = true
noncomputable def NoAt (b : Bas) (C : Addr) (name : Str) : Prop := findIn b.K (.ref C) name = some none
noncomputable def Meth (b : Bas) (C : Addr) (name : Str) (f : Addr) : Prop := findIn b.K (.ref C) name = some (some (.ref f)) ∧ typeIn b.K (.ref f) = some (.type "function")
noncomputable def D.ok : D → Bool
  | .raw (.ref _) => true
  | .raw _ => false
  | _ => true
theorem D.ok.handed {M : List Addr} {h : Heap} {v : Value} {d : D} (x : Dp M h v d) (k : d.ok = true) : handedIn v = true := by
  cases d with
  | dat d => cases x <;> rfl
  | raw w =>
    obtain rfl : v = w := x
    cases v <;> first | rfl | cases k
  | rng lo hi => obtain ⟨r, t, u, c, rfl, _⟩ := x; rfl
  | trip u d w => obtain ⟨a, y, n, rfl, _⟩ := x; rfl
section
variable {b : Bas} {M : List Addr} {h : Heap} {P : Params}
theorem en_get {es : List DictEntry} {kvs : List (Str × D)} (x : EnAll P M h es kvs) {name : Str} {d : D} (k : kvs.lookup name = some d) : ∃ v, getL name es = some (some v) ∧ Dp M h v d := by
  induction x with
  | nil => cases k
  | @cons y t v e es kvs hv _ ih =>
    rw [List.lookup_cons] at k
    unfold getL
    rw [List.find?_cons]
    by_cases hy : y = name
    · subst hy
      simp only [beq_self_eq_true, if_true] at k
      cases k
      have : Value.isStr (.str y t) y = true := by unfold Value.isStr; simp
      simp only [this]
      exact ⟨v, rfl, hv⟩
    · have h1 : (name == y) = false := by simpa using fun q => hy q.symm
      rw [h1] at k
      have h2 : Value.isStr (.str y t) name = false := by unfold Value.isStr; simpa using hy
      simp only [h2]
      obtain ⟨v', h3, h4⟩ := ih k
      refine ⟨v', ?_, h4⟩
      unfold getL at h3
      split at h3
      · rename_i q; rw [q]; exact h3
      · split at h3 <;> cases h3
theorem en_none {es : List DictEntry} {kvs : List (Str × D)} (x : EnAll P M h es kvs) {name : Str} (k : kvs.lookup name = none) : getL name es = some none := by
  have key : es.find? (·.key.isStr name) = none ∧ es.any (·.refKey) = false := by
    induction x with
    | nil => exact ⟨rfl, rfl⟩
    | @cons y t v e es kvs hv _ ih =>
      rw [List.lookup_cons] at k
      by_cases hy : y = name
      · subst hy; simp at k
      · have h1 : (name == y) = false := by simpa using fun q => hy q.symm
        rw [h1] at k
        have h2 : Value.isStr (.str y t) name = false := by unfold Value.isStr; simpa using hy
        obtain ⟨a, c⟩ := ih k
        exact ⟨by rw [List.find?_cons]; simp only [h2]; exact a, by rw [List.any_cons, c]; rfl⟩
  unfold getL
  rw [key.1, key.2]; rfl
noncomputable def putKv (x : Str) (d : D) : List (Str × D) → List (Str × D)
  | [] => [(x, d)]
  | (y, e) :: r => if y = x then (y, d) :: r else (y, e) :: putKv x d r
theorem en_put {es : List DictEntry} {kvs : List (Str × D)} {name : Str} {t : Tok} {v : Value} {d : D} (x : EnAll P M h es kvs) (hv : Dp M h v d) : EnAll P M h (putL name (PyData.keyHash P name) (.str name t) v es) (putKv name d kvs) := by
  induction x with
  | nil => exact .cons hv .nil
  | @cons y t' w e es kvs hw r ih =>
    unfold putL putKv
    by_cases hy : y = name
    · subst hy
      have : Value.isStr (.str y t') y = true := by unfold Value.isStr; simp
      simp only [this, if_true]
      exact .cons hv r
    · have h2 : Value.isStr (.str y t') name = false := by unfold Value.isStr; simpa using hy
      simp only [h2, hy, if_false]
      exact .cons hw ih
theorem en_len {es : List DictEntry} {kvs : List (Str × D)} (x : EnAll P M h es kvs) : es.length = kvs.length := by
  induction x with
  | nil => rfl
  | cons _ _ ih => rw [List.length_cons, List.length_cons, ih]
theorem putKv_len (x : Str) (d : D) (kvs : List (Str × D)) : (putKv x d kvs).length ≤ kvs.length + 1 := by
  induction kvs with
  | nil => simp [putKv]
  | cons p r ih => obtain ⟨y, e⟩ := p; unfold putKv; split <;> simp; omega
end
section
variable {b : Bas} {n : Nat} {sc : Scope} {c : Cx b n sc} {ρ : List (Str × D)} {X : List MO}
theorem inst_at {M : List Addr} {s : Shared} {a C dx : Addr} {kvs : List (Str × D)} (S : St b M X s) (hi : MO.inst a C dx ∈ X) (hd : MO.dict dx kvs ∈ X) : ∃ es k, W.InstAt s.heap a (instO C dx) C (some (dictOf es k)) ∧ EnAll b.w.params M s.heap es kvs := by
  obtain ⟨es, k, e, r⟩ := S.mo _ hd
  have hi' : s.heap.get? a = some (instO C dx) := S.mo _ hi
  exact ⟨es, k, ⟨hi', rfl, rfl, e⟩, r⟩
theorem ev_attr {o : PySem.Expr} {name : Str} {apos : Pos} {a C dx : Addr} {kvs : List (Str × D)} {d : D} (k : Cls b C) (hn : NoAt b C name) (h1 : Ev b n sc ρ X o (.raw (.ref a))) (hi : MO.inst a C dx ∈ X) (hd : MO.dict dx kvs ∈ X) (hl : kvs.lookup name = some d := by rfl) (hr : d.ok = true := by rfl)
    (he : ∀ env, eval (.Attribute o name apos) env = (do
      let v ← eval o env
      standAt apos.atName
      let r ← holding [v] (getAttr v name true)
      letTemporaryGo o v r
      pure r) := by intro _; rfl) : Ev b n sc ρ X (.Attribute o name apos) d := fun A env M s R S => by
  refine Attribute_any_ (wp_weak (h1 A env M s R S) fun v s₁ ⟨a1, p1⟩ => ?_) (he env)
  obtain rfl : v = .ref a := a1
  have S1 := S.pure p1
  obtain ⟨es, m, I, r⟩ := inst_at S1.st hi hd
  obtain ⟨w, g, hw⟩ := en_get r hl
  exact get_value S1.st.inK I k.ga (findObj_own k.hd hn rfl g) (D.ok.handed hw hr) ⟨hw, p1.trans Pr.tok⟩
theorem gm_meth {a C dx f : Addr} {kvs : List (Str × D)} {name : Str} (k : Cls b C) (hm : Meth b C name f) (hi : MO.inst a C dx ∈ X) (hd : MO.dict dx kvs ∈ X) (hl : kvs.lookup name = none := by rfl) : Gm b n X (.raw (.ref a)) name (.ref f) [.raw (.ref a)] := fun A M s v pl R S hv => by
  obtain rfl : v = .ref a := hv
  obtain ⟨es, m, I, r⟩ := inst_at S hi hd
  exact method_fn S.inK I k.ga k.gk hm.1 hm.2 (by show (lookIn name (dictOf es m)).map _ = _; rw [lookIn_dict, en_none r hl]; rfl) ⟨rfl, .cons rfl .nil, Pr.refl⟩
/-- a value given to an attribute -/
theorem set_attr {A : Around} {M : List Addr} {s : Shared} {a C dx : Addr} {kvs : List (Str × D)} {name : Str} {v : Value} {d : D} (k : Cls b C) (hn : NoAt b C name) (S : St b M X s) (hi : MO.inst a C dx ∈ X) (hd : MO.dict dx kvs ∈ X) (hv : Dp M s.heap v d) (hz : kvs.length ≤ 100) :
    wpAny (Mo b) A (setAttr (.ref a) name v) (fun _ s' => Pw [dx] s s' ∧ (MO.dict dx (putKv name d kvs)).holds b M s'.heap) noE s := by
  obtain ⟨es, m, I, r⟩ := inst_at S hi hd
  have hel := en_len r
  have hdm := S.moM _ hd
  refine set_plain S.inK I k.sa ?_
  refine osa_open (s := { s with toks := s.toks + 1 }) S.inK I k.po (show takerIn b.K C name = some none by unfold takerIn; rw [hn]; rfl) fun bb => ?_
  obtain ⟨cd, hc, hd'⟩ := any_some k.hd
  obtain ⟨hx, -, -, D0⟩ := I
  refine wpAny_bind (wpAny_pure (wpAny_bind (wpAny_bind (wpAny_loadPart hx (wpAny_bind (looks_clsIn S.inK hc _ _ _ { s with toks := s.toks + 1 } (fun _ _ e => e) ?_))))))
  rw [hd']
  refine wpAny_pure (a := some dx) (wpAny_bind (wpAny_pure (wpAny_bind ?_)))
  unfold nsSet
  refine wpAny_bind (wpAny_bind (wpAny_askSetting (wpAny_pure (wpAny_bind (wpAny_mkText (wpAny_bind (wpAny_loadPart D0 ?_)))))))
  dsimp only
  have hnr : es.any (·.refKey) = false := by
    clear hel hx D0 hd hdm
    induction r with
    | nil => rfl
    | cons _ _ ih => rw [List.any_cons, ih (by simp at hz; omega)]; rfl
  have c0 : (!es.toArray.any (·.key.isStr name) && es.toArray.any (·.refKey)) = false := by
    rw [← Array.any_toList, ← Array.any_toList]
    show (!es.any _ && es.any _) = false
    rw [hnr, Bool.and_false]
  rw [aRefKeyMayBeTheName_at, c0]
  refine wpAny_updatePart D0 ?_
  have kp : Heap.SameBut dx s.heap (s.heap.update dx (Obj.putName name (PyData.keyHash b.w.params name) (.str name (s.toks + 1)) v)) := Heap.SameBut.update ..
  have e0 : Obj.putName name (PyData.keyHash b.w.params name) (.str name (s.toks + 1)) v (dictOf es m) = dictOf (putL name (PyData.keyHash b.w.params name) (.str name (s.toks + 1)) v es) (putN name es m) := putName_dict ..
  have D1 : (s.heap.update dx (Obj.putName name (PyData.keyHash b.w.params name) (.str name (s.toks + 1)) v)).get? dx = some (dictOf (putL name (PyData.keyHash b.w.params name) (.str name (s.toks + 1)) v es) (putN name es m)) := by
    rw [← e0]
    exact Heap.get?_update_self _ D0 (by rw [e0]; rfl)
  have rr := en_put (name := name) (t := s.toks + 1) r hv
  have hl2 := en_len rr
  have hl3 := putKv_len name d kvs
  refine wpAny_bind (wpAny_lookBehind D1 (pastItsLine_dict (by rw [List.size_toArray, sizeLine_eq]; omega)) ?_)
  refine wpAny_pure ⟨⟨Kp.sameBut kp, rfl, rfl⟩, _, _, D1, rr.imp fun w e q => q.kp (Kp.sameBut kp) fun c hc => .inl (by rw [List.mem_singleton.mp hc]; exact hdm)⟩
inductive SetA (c : Cx b n sc) (ρ : List (Str × D)) (o : PySem.Expr) (name : Str) (Q : List (Str × D) → List MO → Fl → Prop) (d : D) (X1 : List MO) : Prop
  | mk (a C dx : Addr) (kvs : List (Str × D)) (L R : List MO) (k : Cls b C) (hn : NoAt b C name) (h2 : Ev b n sc ρ X1 o (.raw (.ref a))) (hX : X1 = L ++ (.dict dx kvs :: R)) (hi : MO.inst a C dx ∈ X1) (hz : kvs.length ≤ 100) (hW : dx ∈ c.W ∨ c.s0.heap.get? dx = none) (q : Q ρ (L ++ (.dict dx (putKv name d kvs) :: R)) .nxt) : SetA c ρ o name Q d X1
/-- o.x = v on an object of one's own -/
theorem do_setA {o value : PySem.Expr} {name : Str} {pos' pos : Pos} {Q : List (Str × D) → List MO → Fl → Prop}
    (h : c.Ef ρ X value (SetA c ρ o name Q))
    (hs : ∀ env, swapsWith value (some (.Attribute o name pos')) pos.line env = pure false := by intro _; rfl) : c.Do ρ X (.Assign [.Attribute o name pos'] value pos) Q := fun M s S => by
  refine plainObj_wpAny_Assign_Attribute (wp_weak (h M s S) fun v s₁ ⟨M1, X1, d, S1, m1, a1, a, C, dx, kvs, L, R, k, hn, h2, hX, hi, hz, hW, q⟩ => wp_weak (h2 c.A c.frm M1 s₁ c.rm S1.sv) fun ov s₂ ⟨a2, p2⟩ => ?_) (hs _)
  subst hX
  obtain rfl : ov = .ref a := a2
  have S2 := S1.pure p2
  refine wp_weak (set_attr k hn S2.sv.st hi (List.mem_append_right _ List.mem_cons_self) (a1.keep p2.kp) hz) fun _ s₃ ⟨p3, hh⟩ => ?_
  obtain ⟨S3, m3⟩ := at_write (t' := .dict dx (putKv name d kvs)) S2 hW p3 rfl hh
  exact ⟨M1, ρ, _, S3, (m1.trans p2.mv).trans m3, q⟩
theorem St.re {M : List Addr} {s : Shared} {X' l : List MO} (x : St b M X s) (h1 : l.Perm X') (h2 : l.Sublist X) : St b M X' s :=
  have y := x.sub h2
  ⟨y.base, y.gens, y.os, fun t ht => y.mo t (h1.mem_iff.mpr ht), fun t ht => y.moM t (h1.mem_iff.mpr ht), (h1.map MO.addr).nodup_iff.mp y.ndX, y.exM, y.newM⟩
theorem at_re {M : List Addr} {s : Shared} {X' l : List MO} (S : c.At M ρ X s) (h1 : l.Perm X') (h2 : l.Sublist X) : c.At M ρ X' s := by
  have hm : ∀ t ∈ X', t ∈ X := fun t ht => h2.subset (h1.mem_iff.mpr ht)
  exact ⟨⟨S.sv.st.re h1 h2, S.sv.eo, S.sv.fr, S.sv.locM, S.sv.celM, fun t ht => S.sv.apX t (hm t ht)⟩, S.sub, S.new, S.pw, S.wr, fun t ht => S.xs t (hm t ht), fun q hq => by
    obtain ⟨k1, k2, k3, k4⟩ := S.lk q hq
    exact ⟨k1, k2, k3, fun t ht => k4 t (hm t ht)⟩⟩
/-- objects put in another order, or left out -/
theorem go_re {ss : List Stmt} {X' : List MO} {Q : List (Str × D) → List MO → Fl → Prop} (l : List MO) (h1 : l.Perm X') (h2 : l.Sublist X) (h : c.Go ρ X' ss Q) : c.Go ρ X ss Q := fun M s S => h M s (at_re S h1 h2)
theorem ef_re {e : PySem.Expr} {X' : List MO} {Q : D → List MO → Prop} (l : List MO) (h1 : l.Perm X') (h2 : l.Sublist X) (h : c.Ef ρ X' e Q) : c.Ef ρ X e Q := fun M s S => h M s (at_re S h1 h2)
end
/-- the same for a contract -/
theorem Cn.re {b : Bas} {n : Nat} {X X' l : List MO} {f : Value} {args : List D} {Q : D → List MO → Prop} (h1 : l.Perm X') (h2 : l.Sublist X) (h : Cn b n X' f args Q) : Cn b n X f args Q := fun A M s vs R S hv =>
  wp_weak (h A M s vs R (S.re h1 h2) hv) fun v s' ⟨M', X2, d, a1, a2, a3, a4, a5, q⟩ =>
    have hm : ∀ a ∈ X'.map MO.addr, a ∈ X.map MO.addr := fun a ha => by
      obtain ⟨t, ht, e⟩ := List.mem_map.mp ha
      exact List.mem_map.mpr ⟨t, h2.subset (h1.mem_iff.mpr ht), e⟩
    ⟨M', X2, d, a1, a2, a3.more hm, fun t ht => (a4 t ht).imp (hm _) id, a5, q⟩
theorem Cn.out {b : Bas} {n : Nat} {X : List MO} {f : Value} {args : List D} {Q Q' : D → List MO → Prop} (h : Cn b n X f args Q) (k : ∀ d X1, Q d X1 → ∃ (X2 l : List MO), l.Perm X2 ∧ l.Sublist X1 ∧ Q' d X2) : Cn b n X f args Q' := fun A M s vs R S hv =>
  wp_weak (h A M s vs R S hv) fun v s' ⟨M', X2, d, a1, a2, a3, a4, a5, q⟩ =>
    let ⟨X3, l, h1, h2, q'⟩ := k d X2 q
    ⟨M', X3, d, a1.re h1 h2, a2, a3, fun t ht => a4 t (h2.subset (h1.mem_iff.mpr ht)), a5, q'⟩

/-- the same contract for the code of a call -/
noncomputable def Cc (b : Bas) (n : Nat) (X : List MO) (f : Value) (args : List D) (Q : D → List MO → Prop) : Prop :=
  ∀ A M s vs, Rm n A → St b M X s → DpAll M s.heap vs args → codeAny (Mo b) A (.call f ⟨vs, []⟩) (fun r s' => match r with
    | .ok (.ret v) => CnR b X (X.map MO.addr) Q M s v s'
    | .ok _ => False
    | .error e => noE e s') s
theorem Cc.cn {b : Bas} {n : Nat} {X : List MO} {f : Value} {args : List D} {Q : D → List MO → Prop} (h : Cc b n X f args Q) : Cn b n X f args Q := fun A M s vs R S hv => wpAny_call (codeAny_mono (h A M s vs R S hv) fun r s' hr => hr)
theorem cc_of {b : Bas} {n : Nat} {X : List MO} {a : Addr} {st : Stmt} (names : List Str) {ds : List D} {Q : D → List MO → Prop} (F : IsFn b st a)
    (h : ∀ c : Cx b n (scopeOf st), c.V = X.map MO.addr → c.W = X.map MO.addr → c.Go (names.zip ds) X (bodyOf st) fun _ X' fl => ∃ X'' l : List MO, l.Perm X'' ∧ l.Sublist X' ∧ Q fl.res X'')
    (hbind : BindOk st names) (hok : DefOk (scopeOf st) names = true := by decide +kernel) (hlen : names.length = ds.length := by rfl) : Cc b (n + 1) X (.ref a) ds Q := by
  obtain ⟨nm, q, cd, doc, pm, ct, an, F⟩ := F
  intro A M s vs R S hv
  refine codeAny_mono (fn_enterC (Q := fun d X' => ∃ X'' l : List MO, l.Perm X'' ∧ l.Sublist X' ∧ Q d X'') (X.map MO.addr) F rfl rfl rfl rfl hok hlen (hbind nm q cd doc pm ct an) R S hv (fun a h => by obtain ⟨t, ht, e⟩ := List.mem_map.mp h; exact e ▸ S.moM t ht) fun c hV hW => h c hV hW) fun r s' hr => ?_
  rcases r with e | (v | _ | _ | _) <;> first | exact hr | exact hr.elim | skip
  obtain ⟨M', X', d, S', m, p, hx, hd, X'', l, h1, h2, q⟩ := hr
  exact ⟨M', X'', d, S'.re h1 h2, m, p, fun t ht => hx t (h2.subset (h1.mem_iff.mpr ht)), hd, q⟩
/-- what must stand for a class to make its instances -/
structure Mk (b : Bas) (C fI : Addr) : Prop where
  makes : makesIn b.K C = true
  init : findIn b.K (.ref C) "__init__" = some (some (.ref fI))
  ty : typeIn b.K (.ref fI) = some (.type "function")
  keep : keepIn b.K (.ref C) = true
theorem Mk.ke {b : Bas} {C fI : Addr} (h : Mk b C fI) : Ke b (.ref C) := fun h' k => keeps_K h.keep h' (b.hK.keeps fun a o e => k.all a o e)
theorem Rm.tc {n : Nat} {A : Around} {C : Addr} {rest : List Value} (r : Rm (n + 1) A) : Rm n (A.under (.builtin "type.__call__" ⟨.ref C :: rest, []⟩)) := by
  exact ⟨r.handled, by have := r.depth; show A.depth + 1 + n ≤ 900; omega, by have := r.units; show A.units + 1 + 8 * n ≤ 9000; omega⟩
theorem cn_class {b : Bas} {m : Nat} {C fI : Addr} {args : List D} {Q : D → List MO → Prop} (k : Mk b C fI)
    (h : ∀ a dx, Cc b m [.inst a C dx, .dict dx []] (.ref fI) (.raw (.ref a) :: args) fun d X' => d = .none ∧ Q (.raw (.ref a)) X') : Cn b (m + 1) [] (.ref C) args Q := fun A M s vs R S hv => by
  obtain ⟨hh, g, d, t, os⟩ := s
  refine wpAny_call (make_core (makes_of S.inK k.makes) (looks_findIn S.inK k.init) (fun self => bind_fn S.inK self k.ty) (.inl rfl) ?_)
  have n1 : hh.get? hh.objs.size = none := none_at (Nat.le_refl _)
  have n2 : hh.get? (hh.objs.size + 1) = none := none_at (Nat.le_succ _)
  have kp : Kp [] hh ((hh.push emptyDict).push (instObj C hh.objs.size)) := Kp.push.trans Kp.push
  have g1 : ((hh.push emptyDict).push (instObj C hh.objs.size)).get? hh.objs.size = some emptyDict := Heap.get?_push_of_some _ (Heap.get?_push_size _ rfl)
  have g2 : ((hh.push emptyDict).push (instObj C hh.objs.size)).get? (hh.objs.size + 1) = some (instObj C hh.objs.size) := by heap_get
  have p1 : Pr ⟨hh, g, d, t, os⟩ ⟨(hh.push emptyDict).push (instObj C hh.objs.size), g, d, t, os⟩ := ⟨kp, rfl, rfl⟩
  have hM : ∀ a ∈ (hh.objs.size + 1) :: hh.objs.size :: M, a ∈ M ∨ hh.get? a = none := fun a h => by
    rcases List.mem_cons.mp h with rfl | h
    · exact .inr n2
    · exact (List.mem_cons.mp h).elim (fun q => .inr (q ▸ n1)) .inl
  have S1 : St b ((hh.objs.size + 1) :: hh.objs.size :: M) [.inst (hh.objs.size + 1) C hh.objs.size, .dict hh.objs.size []] ⟨(hh.push emptyDict).push (instObj C hh.objs.size), g, d, t, os⟩ := by
    refine ⟨S.base.trans kp, S.gens, S.os, fun t ht => ?_, fun t ht => ?_, ?_, fun a ha => ?_, fun a ha => ?_⟩
    · rcases List.mem_cons.mp ht with rfl | ht
      · exact g2
      · rw [List.mem_singleton.mp ht]; exact ⟨[], 0, g1, .nil⟩
    · rcases List.mem_cons.mp ht with rfl | ht
      · exact List.mem_cons_self
      · rw [List.mem_singleton.mp ht]; exact List.mem_cons_of_mem _ List.mem_cons_self
    · show [hh.objs.size + 1, hh.objs.size].Nodup
      simp
    · rcases List.mem_cons.mp ha with rfl | ha
      · exact ⟨_, g2⟩
      · rcases List.mem_cons.mp ha with rfl | ha
        · exact ⟨_, g1⟩
        · obtain ⟨o, e⟩ := S.exM a ha; exact ⟨o, kp.all _ _ e⟩
    · rcases hM a ha with h | h
      · exact S.newM a h
      · cases q : b.B.get? a with
        | none => rfl
        | some o => cases h.symm.trans (S.base.all _ _ q)
  refine codeAny_mono (h (hh.objs.size + 1) hh.objs.size _ _ _ (.ref (hh.objs.size + 1) :: vs) R.tc S1 (.cons rfl (hv.imp fun v d q => (q.avoid hM).keep kp))) fun r s' hr => ?_
  rcases r with e | (v | _ | _ | _) <;> first | exact hr | exact hr.elim | skip
  obtain ⟨M', X', d', S', m', p', hx, hd, rfl, q⟩ := hr
  have hW : ∀ a ∈ [MO.inst (hh.objs.size + 1) C hh.objs.size, MO.dict hh.objs.size []].map MO.addr, hh.get? a = none := fun a h => by
    rcases List.mem_cons.mp h with rfl | h
    · exact n2
    · rw [List.mem_singleton.mp h]; exact n1
  have pF : Pw [] ⟨hh, g, d, t, os⟩ s' := (p1.pw (W := [MO.inst (hh.objs.size + 1) C hh.objs.size, MO.dict hh.objs.size []].map MO.addr)).trans p' |>.fresh fun a h => .inr (hW a h)
  have hn : ∀ {a : Addr}, ((hh.push emptyDict).push (instObj C hh.objs.size)).get? a = none → hh.get? a = none := fun {a} h => by
    cases q : hh.get? a with
    | none => rfl
    | some o => cases h.symm.trans (kp.all _ _ q)
  refine ⟨Rp.none_inv hd, M', X', .raw (.ref (hh.objs.size + 1)), S', ⟨fun a h => m'.sub a (List.mem_cons_of_mem _ (List.mem_cons_of_mem _ h)), fun a h => ?_, pF.more fun _ h => nomatch h⟩, pF, fun t ht => .inr ?_, rfl, q⟩
  · rcases m'.new a h with h | h
    · exact hM a h
    · exact .inr (hn h)
  · rcases hx t ht with h | h
    · exact hW _ h
    · exact hn h

/-- a block's scope without the class's cell -/
noncomputable def noCls (sc : Scope) : Scope := { sc with names := sc.names.filter (·.1 != ("__class__" : Str)) }
noncomputable def SupOk (sc : Scope) (names : List Str) : Bool :=
  sc.kind == .function && names.Nodup && !sc.isCoroutine && !sc.isGenerator && (names.all fun x => sc.names.lookup x == some .local && (noCls sc).names.lookup x == some .local) && (sc.names.all fun p => p.2 != .cell) && ((noCls sc).names.all fun p => p.2 != .cell && p.2 != .free) && sc.names.lookup ("super" : Str) == some .globalImplicit && sc.names.lookup ("__class__" : Str) == some .free
structure SupS (sc : Scope) (names : List Str) : Prop where
  h1 : sc.kind = .function
  h2 : names.Nodup
  h3 : sc.isCoroutine = false
  h4 : sc.isGenerator = false
  h5 : ∀ x ∈ names, sc.names.lookup x = some .local ∧ (noCls sc).names.lookup x = some .local
  h6 : ∀ p ∈ sc.names, ¬ p.2 = .cell
  h7 : ∀ p ∈ (noCls sc).names, ¬ p.2 = .cell ∧ ¬ p.2 = .free
  h8 : sc.names.lookup ("super" : Str) = some .globalImplicit
  h9 : sc.names.lookup ("__class__" : Str) = some .free
theorem SupOk.spec {sc : Scope} {names : List Str} (hok : SupOk sc names = true) : SupS sc names := by
  unfold SupOk at hok
  simp only [Bool.and_eq_true, beq_iff_eq, List.all_eq_true, bne_iff_ne, ne_eq, decide_eq_true_eq, Bool.not_eq_true'] at hok
  obtain ⟨⟨⟨⟨⟨⟨⟨⟨h1, h2⟩, h3⟩, h4⟩, h5⟩, h6⟩, h7⟩, h8⟩, h9⟩ := hok
  exact ⟨h1, h2, h3, h4, h5, h6, h7, h8, h9⟩
inductive SupCode (b : Bas) (cda : Addr) : Prop
  | mk (ccl : Value) (cdd : Option Addr) (vs : Array Value) (ccs : Array (Option Value)) (file : Str) (tf : Tok) (h : b.K.lookup cda = some ⟨ccl, cdd, .fields vs, ccs⟩) (h2 : vs[2]? = some (.str file tf)) (h3 : ((pw.main.file : Str) == file) = true) : SupCode b cda
inductive SupCell (b : Bas) (cc Ba : Addr) : Prop
  | mk (cl : Value) (cld : Option Addr) (csl : Array (Option Value)) (h : b.K.lookup cc = some ⟨cl, cld, .cell (some (.ref Ba)), csl⟩) : SupCell b cc Ba
inductive SupFn (b : Bas) (st : Stmt) (f Ba : Addr) : Prop
  | mk (nm q : Str) (cda : Addr) (doc pm ct : Value) (an : Option Addr) (cc : Addr) (F : FnAt b f { fdOf st nm q (.ref cda) doc pm ct an with closure := [("__class__", cc)] }) (c : SupCode b cda) (e : SupCell b cc Ba) : SupFn b st f Ba
/-- an __init__ that hands on to the base's -/
structure Sup (b : Bas) (st : Stmt) (f C Ba f2 : Addr) : Prop where
  fn : SupFn b st f Ba
  cls : ∃ cdD, clsIn b.K Ba = some cdD
  sub : mroIn b.K C (.ref Ba) = some true
  opq : nsIn b.K cStatics "thirdparty.any" = some none
  sup : ks_superIn b.K C Ba "__init__" = some (some (.ref f2))
  ty : typeIn b.K (.ref f2) = some (.type "function")
  ke : fnIn b.K f2 = true
  gl : b.Gl "super" (.type "super")
theorem all_local {sc : Scope} {x : Str} {P : NameKind → Prop} (h : ∀ p ∈ sc.names, P p.2) {k : NameKind} (e : sc.names.lookup x = some k) : P k := h _ (mem_of_lookup e)
theorem lookup_nd {α : Type} : ∀ {l : List (Str × α)} {x : Str} {a : α}, (l.map (·.1)).Nodup → (x, a) ∈ l → l.lookup x = some a
  | [], _, _, _, h => nomatch h
  | (y, c) :: r, x, a, hn, h => by
    rw [List.map_cons, List.nodup_cons] at hn
    rw [List.lookup_cons]
    rcases List.mem_cons.mp h with e | h
    · cases e; simp
    · have : (x == y) = false := by simpa using fun q : x = y => hn.1 (q ▸ List.mem_map_of_mem (f := (·.1)) h)
      rw [this]; exact lookup_nd hn.2 h
theorem lookup_rev {names : List Str} {vs : List Value} (hn : names.Nodup) (hl : names.length = vs.length) {x : Str} {v : Value} (h : (x, v) ∈ names.zip vs) : (names.zip vs).reverse.lookup x = some v := by
  have hd : ((names.zip vs).reverse.map (·.1)).Nodup := by
    rw [List.map_reverse, zip_map_fst hl]; exact (List.reverse_perm _).nodup_iff.mpr hn
  exact lookup_nd hd (List.mem_reverse.mpr h)
theorem cc_super {b : Bas} {n : Nat} {X : List MO} {st : Stmt} {f C Ba f2 a dx : Addr} {es : List PySem.Expr} {p0 p1 p2 p3 p4 : Pos} {ds ds' : List D} {Q : D → List MO → Prop} (names : List Str) (self : Str) (k : Sup b st f C Ba f2)
    (hbody : bodyOf st = [.Expr (.Call (.Attribute (.Call (.Name "super" p0) [] [] p1) "__init__" p2) es [] p3) p4])
    (hbind : ∀ nm q cda doc pm ct an cc (vs : List Value), vs.length = (self :: names).length → bindArgs { fdOf st nm q (.ref cda) doc pm ct an with closure := [("__class__", cc)] } ⟨vs, []⟩ = pure ((self :: names).zip vs))
    (hfirst : ∃ ar, ((paramsOf st).posonlyargs ++ (paramsOf st).args).head? = some ar ∧ ar.arg = self)
    (hok : SupOk (scopeOf st) (self :: names) = true) (hlen : names.length = ds.length) (hin : MO.inst a C dx ∈ X)
    (hE : Evs b n (noCls (scopeOf st)) ((self :: names).zip (.raw (.ref a) :: ds)) X es ds')
    (h : Cc b n X (.ref f2) (.raw (.ref a) :: ds') fun d X' => Q .none X')
    (htr : ∀ env : Env, env.scope = scopeOf st → starEach es env = starEach es { env with cells := [], scope := noCls (scopeOf st) } := by intro env h; cases env; cases h; rfl)
    (hp : plainArgs es = true := by rfl)
    (htop : (pw.main.scope.names.lookup ("super" : Str)).isSome = false := by decide +kernel)
    (hsw : ∀ env : Env, swapsWith (.Call (.Attribute (.Call (.Name "super" p0) [] [] p1) "__init__" p2) es [] p3) none p4.line env = pure false := by intro _; rfl)
    (hpl : ∀ env : Env, ∃ pl, eval (.Call (.Attribute (.Call (.Name "super" p0) [] [] p1) "__init__" p2) es [] p3) env = (do
      let ov ← attributeBase (.Call (.Name "super" p0) [] [] p1) "__init__" env (eval (.Call (.Name "super" p0) [] [] p1) env)
      standAt p2.atName
      let (f, first) ← holding [ov] (getMethod ov "__init__" pl)
      callWith p3 f first (backTo p3 (starEach es env)) []) := by intro _; exact ⟨_, rfl⟩) : Cc b (n + 1) X (.ref f) (.raw (.ref a) :: ds) Q := fun A M s vs R S hv => by
  obtain ⟨⟨nm, q, cda, doc, pm, ct, an, cc, F, ⟨ccl, cdd, cvs, ccs, file, tf, hcode, hcvs, hfile⟩, cl, cld, csl, hcell⟩, ⟨cdD, hcD⟩, hsub, hopq, hsup, hty, hke, hgl⟩ := k
  obtain ⟨ar, har, hself⟩ := hfirst
  generalize hfd : ({ fdOf st nm q (.ref cda) doc pm ct an with closure := [("__class__", cc)] } : FuncData) = fd at F
  have hsc : fd.scope = scopeOf st := by rw [← hfd]; rfl
  have hvl := hv.length
  have hlen' : (self :: names).length = (D.raw (.ref a) :: ds).length := by rw [List.length_cons, List.length_cons, hlen]
  have hnv : (self :: names).length = vs.length := hlen'.trans hvl.symm
  obtain ⟨h1, h2, h3, h4, h5, h6, h7, h8, h9⟩ := SupOk.spec hok
  have hb : bindArgs fd ⟨vs, []⟩ = pure ((self :: names).zip vs) := by rw [← hfd]; exact hbind nm q cda doc pm ct an cc vs hnv.symm
  refine ks_codeAny_call_defAt (fd := fd) (body := bodyOf st) (binds := (self :: names).zip vs) R.lim (S.base.all _ _ F.at_) rfl S.lim (F.code.keeps S.base.all) (by rw [← hfd]; rfl) (BindsTo.of_eq hb) (by rw [hsc]; exact h6) (fun x hx => ?_) (fun h₀ hns hk₀ => ?_) (by rw [hsc]; exact h3) (by rw [hsc]; exact h4) (by rw [hsc]; exact h1)
  · rw [hsc]; exact (h5 x.1 (by rw [← zip_map_fst hnv]; exact List.mem_map_of_mem hx)).1
  generalize henv : callEnv fd s.heap.objs.size f = env
  have e1 : env.locals = s.heap.objs.size := by rw [← henv]; rfl
  have e2 : env.scope = scopeOf st := by rw [← henv]; exact hsc
  have e3 : env.globals = mainGlobals := by rw [← henv, ← hfd]; rfl
  have e4 : env.builtins = builtinsNs := by rw [← henv, ← hfd]; rfl
  have e5 : env.cells = [(("__class__" : Str), cc)] := by rw [← henv, ← hfd]; rfl
  have e6 : env.func = some f := by rw [← henv]; rfl
  have e7 : env.code = .ref cda := by rw [← henv, ← hfd]; rfl
  have hnew : s.heap.get? s.heap.objs.size = none := none_at (Nat.le_refl _)
  generalize hs0 : ({ s with heap := h₀, toks := s.toks + ((self :: names).zip vs).length } : Shared) = s₀
  have g0 : s₀.heap = h₀ := by rw [← hs0]
  have p0' : Pr s s₀ := by rw [← hs0]; exact ⟨Kp.of hk₀, rfl, rfl⟩
  have exL : ∃ o, s₀.heap.get? s.heap.objs.size = some o := by obtain ⟨o, _, _, e, _⟩ := hns; exact ⟨o, g0 ▸ e⟩
  have hMM : ∀ c ∈ s.heap.objs.size :: M, c ∈ M ∨ s.heap.get? c = none := fun c h => (List.mem_cons.mp h).elim (fun q => .inr (q ▸ hnew)) .inl
  have hLM : s.heap.objs.size ∉ M := S.new
  have hkf : ∀ y, env.kindOf y = (scopeOf st).names.lookup y := fun y => by unfold Env.kindOf; rw [e2]
  -- the block seen without the class's cell
  have V0 : Sv b (noCls (scopeOf st)) { env with cells := [], scope := noCls (scopeOf st) } (s.heap.objs.size :: M) ((self :: names).zip (.raw (.ref a) :: ds)) X s₀ := by
    refine ⟨⟨S.base.trans p0'.kp, p0'.gens.trans S.gens, p0'.os.trans S.os, fun t ht => ((S.mo t ht).avoid hMM).keep p0'.kp, fun t ht => List.mem_cons_of_mem _ (S.moM t ht), S.ndX, fun c hc => ?_, fun c hc => ?_⟩, ⟨rfl, h1, e3, e4, .nil, (fun _ _ h => nomatch h), fun x hx => ?_⟩, ⟨_, fun _ => none, ⟨by show s₀.heap.Ns env.locals _; rw [g0, e1]; exact hns, (fun _ _ h => nomatch h)⟩, fun p hp => ?_⟩, by show env.locals ∈ _; rw [e1]; exact List.mem_cons_self, (fun _ h => nomatch h), fun t ht => ⟨fun e => ?_, (fun _ h => nomatch h)⟩⟩
    · rcases List.mem_cons.mp hc with rfl | hc
      · exact exL
      · obtain ⟨o, e⟩ := S.exM c hc; exact ⟨o, p0'.kp.all _ _ e⟩
    · rcases hMM c hc with h | h
      · exact S.newM c h
      · cases q : b.B.get? c with
        | none => rfl
        | some o => cases h.symm.trans (S.base.all _ _ q)
    · exfalso
      rcases hx with hx | hx
      · exact (h7 _ (mem_of_lookup hx)).1 rfl
      · exact (h7 _ (mem_of_lookup hx)).2 rfl
    · obtain ⟨v, hv1, hv2⟩ := zip_dp hv hlen' hp
      have hx : p.1 ∈ self :: names := by rw [← zip_map_fst hnv]; exact List.mem_map_of_mem (f := (·.1)) hv1
      exact ⟨v, .inl ⟨(h5 _ hx).2, lookup_rev h2 hnv hv1⟩, (hv2.avoid hMM).keep p0'.kp⟩
    · have : t.addr = s.heap.objs.size := e.trans e1
      exact hLM (this ▸ S.moM t ht)
  have K0 := V0.st.inK
  have R1 : Rm n (A.deeper env) := R.deeper
  rw [hbody]
  refine ks_wpAt_mono (E := noE) (ks_wpAt_execs_cons (ks_wpAt_Expr_any ?_ (by unfold interactive; rw [e2, h1]; rfl) (hsw _))) (fun _ _ q => q) fun _ _ z => z.elim
  obtain ⟨pl, hpl⟩ := hpl env
  refine ks_wpAt_MethodCall (pl := pl) ?_ hpl
  obtain ⟨w0, hz1, hz2⟩ : ∃ w0, ((self, w0) ∈ (self :: names).zip vs) ∧ w0 = .ref a := by
    cases hv with | cons x r => exact ⟨_, List.mem_cons_self, x⟩
  subst hz2
  have ha0 : s₀.heap.get? a = some (instO C dx) := V0.st.mo _ hin
  have hloc : s₀.heap.Ns env.locals (fun x => ((self :: names).zip vs).reverse.lookup x) := by rw [g0, e1]; exact hns
  have hbase := V0.st.base
  have hNs := V0.st.ns
  have hNb := V0.st.nb
  obtain ⟨oD, hD1, hD2⟩ : ∃ oD, s₀.heap.get? Ba = some oD ∧ oD.data = .cls cdD := by
    unfold clsIn at hcD
    split at hcD
    · rename_i c d cd' sl ho
      cases hcD
      exact ⟨_, K0 _ _ ho, rfl⟩
    · cases hcD
  obtain ⟨cdC, hcC⟩ : ∃ cd, clsIn b.K C = some cd := by
    unfold ks_superIn at hsup
    cases hc : clsIn b.K C with
    | none => rw [hc] at hsup; cases hsup
    | some cd => exact ⟨cd, rfl⟩
  have hne : a ≠ C := by
    rintro rfl
    unfold clsIn at hcC
    split at hcC
    · rename_i c d cd' sl ho
      cases (K0 _ _ ho).symm.trans ha0
    · cases hcC
  refine ks_wpAt_super_base ((hkf _).trans h8) ((hkf _).trans h9) rfl e6 (hbase.all _ _ F.at_) rfl (by rw [← hfd]; exact har) e7 (K0 _ _ hcode) rfl hcvs hfile htop ?_
  refine ks_loadName_global (by rw [e2, h1]) ((hkf _).trans h8) ?_
  have hgo : ∀ {Q' : Value → Shared → Prop}, Q' (.type "super") s₀ → wpAny (Mo b) (A.deeper env) (loadGlobal env "super") Q' noE s₀ := fun q => by
    rw [← e3] at hNs
    rw [← e4] at hNb
    rcases hgl with h | ⟨h, h'⟩
    · exact Calls.loadGlobal_global hNs h q
    · exact Calls.loadGlobal_builtin hNs h hNb h' q
  refine hgo ⟨rfl, ?_⟩
  refine wpAny_loadName_free (by rw [e2, h1]) ((hkf _).trans h9) (by rw [e5]; rfl) ⟨_, K0 _ _ hcell, rfl⟩ ?_
  rw [hself]
  refine wpAny_loadName_local (by rw [e2, h1]) ((hkf _).trans (h5 self List.mem_cons_self).1) hloc (lookup_rev h2 hnv hz1) ?_
  obtain ⟨hh, g, d, t, os⟩ := s₀
  refine ks_wpAny_isType_cls hD1 hD2 ⟨rfl, ?_⟩
  refine ks_wpAny_call_super hD1 hD2 ha0 rfl (fun c e => by cases e) (looks_mroIn K0 hsub) fun h' eso k => ?_
  have X1 : b.K.In h' := K0.keeps k
  obtain ⟨of, hof, hofc⟩ : ∃ of, h'.get? f2 = some of ∧ of.cls = .type "function" := by
    have ht' : (b.K.lookup f2).map (·.cls) = some (.type "function") := hty
    cases z : b.K.lookup f2 with
    | none => rw [z] at ht'; cases ht'
    | some of => rw [z] at ht'; exact ⟨of, X1 _ _ z, Option.some.inj ht'⟩
  unfold ks_superIn at hsup
  rw [hcC] at hsup
  refine ks_wpAny_getMethod_super eso (looks_opaque X1 hopq) (l₀ := cdC.mro) (fun A Q E s k q => wpAny_bind ((looks_clsIn X1 hcC) A _ E s k (wpAny_pure q))) rfl X1 hsup hof hofc hne (by decide +kernel) ?_
  have p1 : Pr ⟨hh, g, d, t, os⟩ ⟨h'.push { cls := .type "method", data := .fields #[.ref f2, .ref a] }, g, d, t + 1, os⟩ := ⟨(Kp.of k).trans Kp.push, rfl, rfl⟩
  have V1 := V0.pure p1
  have hq : (h'.push { cls := .type "method", data := .fields #[.ref f2, .ref a] }).get? h'.objs.size = some (methodObj (.ref f2) (.ref a)) := Heap.get?_push_size _ rfl
  refine callWith_of (P := fun h => MethP b.K h'.objs.size f2 (.ref a) h) (by rw [plain_any hp]; rfl) (fun h q => keeps_M hke h q) ?_
  rw [htr env e2]
  refine wp_weak (args_of (pos := p3) R1 V1 hE hp) fun ax s₂ ⟨ws, ew, dw, p2⟩ => ?_
  subst ew
  have V2 := V1.pure p2
  refine ⟨⟨p2.kp.all _ _ hq, V2.st.inK⟩, wpAny_call (ks_codeAny_call_bound (p2.kp.all _ _ hq) ?_)⟩
  refine codeAny_mono (h _ _ _ (.ref a :: ws) R1 V2.st (.cons rfl dw)) fun r s' hr => ?_
  rcases r with e | (v | _ | _ | _) <;> first | exact hr | exact hr.elim | skip
  obtain ⟨M', X', d', S', m', p', hx, hd, qq⟩ := hr
  refine wpAt_of_wpAny (wpAny_execs_nil ?_)
  have pA : Pr s s₂ := (p0'.trans p1).trans p2
  have hnn : ∀ {c : Addr}, s₂.heap.get? c = none → s.heap.get? c = none := fun {c} h => fresh_of pA h
  exact ⟨M', X', .none, S', ⟨fun c h => m'.sub c (List.mem_cons_of_mem _ h), fun c h => (m'.new c h).elim (hMM c) fun q => .inr (hnn q), (pA.pw.trans m'.pw).fresh fun c h => (List.mem_cons.mp h).elim (fun q => .inr (q ▸ hnew)) .inl⟩, pA.pw.trans p', fun t ht => (hx t ht).imp id fun q => hnn q, .none, qq⟩

section
variable {b : Bas} {n : Nat} {sc : Scope} {ρ : List (Str × D)} {X : List MO}
/-- a method's call that changes nothing -/
theorem ev_meth {o : PySem.Expr} {name : Str} {es : List PySem.Expr} {apos pos : Pos} {d r : D} {f : Value} {first ds : List D} {X' : List MO} {m : Nat} (h1 : Ev b n sc ρ X o d) (hg : Gm b n X d name f first) (ke : Ke b f) (h2 : Evs b n sc ρ X es ds) (h3 : Fn b m X' f (first ++ ds) r) (hX : X'.Sublist X) (hm : m ≤ n := by decide) (hp : plainArgs es = true := by rfl)
    (he : ∀ env, eval (.Call (.Attribute o name apos) es [] pos) env = (do
      let ov ← eval o env
      standAt apos.atName
      let (f, first) ← holding [ov] (getMethod ov name (do return (← importBound o env).getD true))
      callWith pos f first (backTo pos (starEach es env)) []) := by intro _; rfl) : Ev b n sc ρ X (.Call (.Attribute o name apos) es [] pos) r := fun A env M s R S => by
  rw [he]
  refine wpAny_bind (wp_weak (h1 A env M s R S) fun v s₁ ⟨a1, p1⟩ => ?_)
  have S1 := S.pure p1
  refine wpAny_bind (wpAny_standAt (wpAny_bind (wpAny_holding (wp_weak (hg A M s₁ v _ R S1.st a1) fun fx s₂ ⟨a2, a3, p2⟩ => ?_))))
  obtain ⟨f', first'⟩ := fx
  obtain rfl : f' = f := a2
  refine wp_callWith R (S1.pure p2) ke h2 hp fun vs s₃ d p3 => ?_
  have St3 := ((S1.pure p2).pure p3).st.sub hX
  exact wp_weak (h3 A M s₃ (first' ++ vs) (R.mono hm) St3 (dp_app (DpAll.keep a3 p3.kp) d)) fun x s₄ ⟨a4, p4⟩ => ⟨a4, ((p1.trans p2).trans p3).trans p4⟩
theorem reads_M {M : List Addr} {s : Shared} {a : Addr} {xs : List PyData} (S : St b M X s) (h : MO.list a xs ∈ X) : ∃ as, Reads s.heap (.ref a) (.list xs) as := by
  obtain ⟨vs, k, e, r⟩ := S.mo _ h
  obtain ⟨as, q⟩ := RpAll.reads r
  exact ⟨_, .list e rfl rfl q⟩
/-- x in a list of one's own -/
theorem ev_inM {l r : PySem.Expr} {pos : Pos} {d : PyData} {a : Addr} {xs : List PyData} (h1 : Ev b n sc ρ X l (.dat d)) (h2 : Ev b n sc ρ X r (.raw (.ref a))) (hx : MO.list a xs ∈ X) (k1 : SeqAt.shaped d = true) (k2 : PyData.canLayAll0 xs = true) (hm : behindInMarks .In r = false := by with_unfolding_all rfl) : Ev b n sc ρ X (.Compare l [.In] [r] pos) (.bool (xs.any fun y => y.eqv d)) := fun A env M s R S => by
  refine wpAny_Compare1 (wp_weak (h1 A env M s R S) fun u s₁ ⟨a1, p1⟩ => wp_weak (h2 A env M s₁ R (S.pure p1)) fun v s₂ ⟨a2, p2⟩ => ?_) hm
  obtain rfl : v = .ref a := a2
  have S2 := (S.pure p1).pure p2
  obtain ⟨_, rc⟩ := reads_M S2.st hx
  obtain ⟨_, ra⟩ := Rp.reads (Dp.keep a1 p2.kp : Rp M s₂.heap u d)
  exact SeqAt.in_list_reads rc ra k2 (Bool.and_eq_true_iff.mp k1).1 (in_room R k1) ⟨Rp.bool _, p1.trans p2⟩
/-- a list of one's own beside data -/
theorem tv_eqM {l r : PySem.Expr} {pos : Pos} {d : PyData} {a : Addr} {xs : List PyData} (h1 : Ev b n sc ρ X l (.raw (.ref a))) (h2 : Ev b n sc ρ X r (.dat d)) (hx : MO.list a xs ∈ X) (k1 : SeqAt.shaped (.list xs) = true) (k2 : SeqAt.shaped d = true) (hm : behindInMarks .Eq r = false := by with_unfolding_all rfl) : Tv b n sc ρ X (.Compare l [.Eq] [r] pos) ((PyData.list xs).eqv d) := fun A env M s R S => by
  refine wpAny_isTrue_Compare1 (wp_weak (h1 A env M s R S) fun u s₁ ⟨a1, p1⟩ => wp_weak (h2 A env M s₁ R (S.pure p1)) fun v s₂ ⟨a2, p2⟩ => ?_) hm
  obtain rfl : u = .ref a := a1
  have S2 := (S.pure p1).pure p2
  obtain ⟨_, rc⟩ := reads_M S2.st hx
  obtain ⟨_, ra⟩ := Rp.reads a2
  exact eq_dataH rc ra k1 k2 R.cline (wpAny_truthy_bool ⟨rfl, p1.trans p2⟩)
theorem nodup_len : ∀ {m : Nat} {l : List Int}, l.Nodup → (∀ x ∈ l, 0 ≤ x ∧ x < (m : Int)) → l.length ≤ m
  | 0, [], _, _ => Nat.le_refl _
  | 0, x :: _, _, h => by have := h x List.mem_cons_self; omega
  | m + 1, l, hn, h => by
    have h1 : (l.erase (m : Int)).length ≤ m := nodup_len (hn.erase _) fun x hx => by
      have h2 := h x (List.mem_of_mem_erase hx)
      have h3 : x ≠ m := fun e => by subst e; exact absurd hx (List.Nodup.not_mem_erase hn)
      omega
    rw [List.length_erase] at h1
    split at h1 <;> omega
end
section
variable {b : Bas} {n : Nat} {sc : Scope} {c : Cx b n sc} {ρ : List (Str × D)} {X : List MO}
theorem stored_keys {K : Type} [DecidableEq K] {kvs : List (K × Value)} {k : K} {v : Value} : ∀ p ∈ stored kvs k v, p.1 = k ∨ p.1 ∈ kvs.map (·.1) := fun p hp => by
  unfold stored at hp
  split at hp
  · obtain ⟨q, hq, e⟩ := List.mem_map.mp hp
    refine .inr (List.mem_map.mpr ⟨q, hq, ?_⟩)
    split at e <;> (subst e; rfl)
  · rcases List.mem_append.mp hp with h | h
    · exact .inr (List.mem_map_of_mem h)
    · rw [List.mem_singleton.mp h]; exact .inl rfl
/-- x[i] = v on a dict of one's own, its keys small numbers -/
inductive SetN (c : Cx b n sc) (ρ : List (Str × D)) (o i : PySem.Expr) (Q : List (Str × D) → List MO → Fl → Prop) (d : D) (X1 : List MO) : Prop
  | mk (a : Addr) (k : Int) (L R : List MO) (m : Nat) (h2 : Ev b n sc ρ X1 o (.raw (.ref a))) (h3 : Ev b n sc ρ X1 i (.int k)) (hX : X1 = L ++ (.idict a m :: R)) (k0 : 0 ≤ k) (k1 : k < (m : Nat)) (hz : m ≤ 100) (hW : a ∈ c.W ∨ c.s0.heap.get? a = none) (q : Q ρ X1 .nxt) : SetN c ρ o i Q d X1
theorem do_setN {o i value : PySem.Expr} {pos' pos : Pos} {Q : List (Str × D) → List MO → Fl → Prop}
    (h : c.Ef ρ X value (SetN c ρ o i Q))
    (hs : ∀ env, swapsWith value (some (.Subscript o i pos')) pos.line env = pure false := by intro _; rfl) : c.Do ρ X (.Assign [.Subscript o i pos'] value pos) Q := fun M s S => by
  refine wpAny_Assign_Subscript (wp_weak (h M s S) fun v s₁ ⟨M1, X1, d, S1, m1, a1, a, k, L, R, m, h2, h3, hX, k0, k1, hz, hW, q⟩ => wp_weak (h2 c.A c.frm M1 s₁ c.rm S1.sv) fun ov s₂ ⟨a2, p2⟩ => wp_weak (h3 c.A c.frm M1 s₂ c.rm (S1.sv.pure p2)) fun iv s₃ ⟨a3, p3⟩ => ?_) (hs _)
  subst hX
  obtain rfl : ov = .ref a := a2
  obtain ⟨t, rfl⟩ := Rp.int_inv a3
  have S3 := (S1.pure p2).pure p3
  have hin : MO.idict a m ∈ L ++ (.idict a m :: R) := List.mem_append_right _ List.mem_cons_self
  obtain ⟨kvs, hd, hr⟩ := S3.sv.st.mo _ hin
  obtain ⟨_, _, _, _, _, _, _, _, hnd⟩ := id hd
  have hl : kvs.length ≤ m := by
    have := nodup_len (m := m) hnd (fun x hx => by obtain ⟨p, hp, e⟩ := List.mem_map.mp hx; exact e ▸ hr p hp)
    simpa using this
  refine wpAny_setItem_pairs (knd := intKind pw b.w) (k := k) (intKind_is _ _ _ _) hd (fun h' hd' hs' => ?_) (by rw [sizeLine_eq]; omega)
  have p4 : Pw [a] s₃ { s₃ with heap := h', toks := s₃.toks + 1 } := ⟨Kp.sameBut hs', rfl, rfl⟩
  obtain ⟨S4, m4⟩ := at_write (t' := .idict a m) S3 hW p4 rfl ⟨_, hd', fun p hp => by
    rcases stored_keys p hp with e | e
    · rw [e]; exact ⟨k0, k1⟩
    · obtain ⟨y, hy, e⟩ := List.mem_map.mp e; exact e ▸ hr y hy⟩
  exact ⟨M1, ρ, _, S4, ((m1.trans p2.mv).trans p3.mv).trans m4, q⟩
/-- an empty dict of one's own -/
theorem ef_idict {pos : Pos} {m : Nat} {Q : D → List MO → Prop} (k : ∀ a, c.s0.heap.get? a = none → Q (.raw (.ref a)) (.idict a m :: X)) : c.Ef ρ X (.Dict [] [] pos) Q := fun M s S => by
  refine wpAny_Dict_empty ?_
  have hn : s.heap.get? s.heap.objs.size = none := none_at (Nat.le_refl _)
  obtain ⟨S', m'⟩ := at_new (t := .idict s.heap.objs.size m) (s' := { s with heap := s.heap.push { cls := .type "dict", data := .dict #[] } }) S ⟨Kp.push, rfl, rfl⟩ hn ⟨[], Heap.DictOf.new _, fun _ h => nomatch h⟩
  exact ⟨_, _, .raw (.ref s.heap.objs.size), S', m', rfl, k _ (S.fresh hn)⟩
theorem sall_len {M : List Addr} {h : Heap} {vs : List (Str × Value)} {kvs : List (Str × D)} (x : SAll M h vs kvs) : vs.length = kvs.length := by
  induction x with
  | nil => rfl
  | cons _ _ ih => rw [List.length_cons, List.length_cons, ih]
theorem sall_get {M : List Addr} {h : Heap} {vs : List (Str × Value)} {kvs : List (Str × D)} (x : SAll M h vs kvs) {k : Str} {d : D} (e : kvs.lookup k = some d) : ∃ v, valueAt vs k = some v ∧ Dp M h v d := by
  induction x with
  | nil => cases e
  | @cons y v e' vs kvs hv r ih =>
    rw [List.lookup_cons] at e
    unfold valueAt at ih ⊢
    rw [List.find?_cons]
    by_cases hy : y = k
    · subst hy
      simp only [beq_self_eq_true] at e
      cases e
      simp only [decide_true]
      exact ⟨v, rfl, hv⟩
    · have h1 : (k == y) = false := by simpa using fun q => hy q.symm
      rw [h1] at e
      simp only [hy, decide_false]
      exact ih e
noncomputable def setKv (k : Str) (d : D) (kvs : List (Str × D)) : List (Str × D) := kvs.map fun p => if p.1 = k then (p.1, d) else p
theorem sall_set {M : List Addr} {h : Heap} {vs : List (Str × Value)} {kvs : List (Str × D)} (x : SAll M h vs kvs) {k : Str} {v : Value} {d : D} (hv : Dp M h v d) (hk : (kvs.lookup k).isSome = true) : SAll M h (stored vs k v) (setKv k d kvs) := by
  have hany : vs.any (fun kv => kv.1 = k) = true := by
    induction x with
    | nil => cases hk
    | @cons y v' e' vs kvs hv' r ih =>
      rw [List.any_cons]
      by_cases hy : y = k
      · simp [hy]
      · have h1 : (k == y) = false := by simpa using fun q => hy q.symm
        rw [List.lookup_cons, h1] at hk
        simp [hy, ih hk]
  unfold stored
  rw [if_pos hany]
  clear hany hk
  unfold setKv
  induction x with
  | nil => exact .nil
  | @cons y v' e' vs kvs hv' r ih =>
    rw [List.map_cons, List.map_cons]
    by_cases hy : y = k
    · simp only [hy, if_true]; exact .cons hv ih
    · simp only [hy, if_false]; exact .cons hv' ih
/-- an item of a dict of one's own, met by a str -/
theorem itm_S {a : Addr} {kvs : List (Str × D)} {k : Str} {d : D} (hx : MO.sdict a kvs ∈ X) (hl : kvs.lookup k = some d) : Itm b X (.raw (.ref a)) (.str k) d := fun A n M s u v R S h1 h2 => by
  obtain rfl : u = .ref a := h1
  obtain ⟨t, rfl⟩ := Rp.str_inv h2
  obtain ⟨vs, hd, hr⟩ := S.mo _ hx
  obtain ⟨w, hw, rw_⟩ := sall_get hr hl
  exact ⟨"dict", _, hd.typeIs, slot_dict_getitem.lookup, wpAny_getItem_of (knd := strKind pw b.w) (k := k) (by show Value.isStrOf k (.str k t) = true; unfold Value.isStrOf; simp) hd.mapOf hw ⟨rw_, Pr.tok⟩⟩
/-- x[k] = v there -/
inductive SetS (c : Cx b n sc) (ρ : List (Str × D)) (o i : PySem.Expr) (Q : List (Str × D) → List MO → Fl → Prop) (d : D) (X1 : List MO) : Prop
  | mk (a : Addr) (k : Str) (L R : List MO) (kvs : List (Str × D)) (h2 : Ev b n sc ρ X1 o (.raw (.ref a))) (h3 : Ev b n sc ρ X1 i (.str k)) (hX : X1 = L ++ (.sdict a kvs :: R)) (hk : (kvs.lookup k).isSome = true) (hz : kvs.length ≤ 100) (hW : a ∈ c.W ∨ c.s0.heap.get? a = none) (q : Q ρ (L ++ (.sdict a (setKv k d kvs) :: R)) .nxt) : SetS c ρ o i Q d X1
theorem do_setS {o i value : PySem.Expr} {pos' pos : Pos} {Q : List (Str × D) → List MO → Fl → Prop}
    (h : c.Ef ρ X value (SetS c ρ o i Q))
    (hs : ∀ env, swapsWith value (some (.Subscript o i pos')) pos.line env = pure false := by intro _; rfl) : c.Do ρ X (.Assign [.Subscript o i pos'] value pos) Q := fun M s S => by
  refine wpAny_Assign_Subscript (wp_weak (h M s S) fun v s₁ ⟨M1, X1, d, S1, m1, a1, a, k, L, R, kvs, h2, h3, hX, hk, hz, hW, q⟩ => wp_weak (h2 c.A c.frm M1 s₁ c.rm S1.sv) fun ov s₂ ⟨a2, p2⟩ => wp_weak (h3 c.A c.frm M1 s₂ c.rm (S1.sv.pure p2)) fun iv s₃ ⟨a3, p3⟩ => ?_) (hs _)
  subst hX
  obtain rfl : ov = .ref a := a2
  obtain ⟨t, rfl⟩ := Rp.str_inv a3
  have S3 := (S1.pure p2).pure p3
  have hin : MO.sdict a kvs ∈ L ++ (.sdict a kvs :: R) := List.mem_append_right _ List.mem_cons_self
  obtain ⟨vs, hd, hr⟩ := S3.sv.st.mo _ hin
  have hdM := S3.sv.st.moM _ hin
  have hl := sall_len hr
  refine wpAny_setItem_pairs (knd := strKind pw b.w) (k := k) (by show Value.isStrOf k (.str k t) = true; unfold Value.isStrOf; simp) hd (fun h' hd' hs' => ?_) (by rw [sizeLine_eq]; omega)
  have p4 : Pw [a] s₃ { s₃ with heap := h', toks := s₃.toks + 1 } := ⟨Kp.sameBut hs', rfl, rfl⟩
  have hWM : ∀ c ∈ [a], c ∈ M1 ∨ s₃.heap.get? c = none := fun c q => .inl (by rw [List.mem_singleton.mp q]; exact hdM)
  obtain ⟨S4, m4⟩ := at_write (t' := .sdict a (setKv k d kvs)) S3 hW p4 rfl ⟨_, hd', sall_set (hr.imp fun v e q => q.kp p4.kp hWM) (((a1.keep p2.kp).keep p3.kp).kp p4.kp hWM) hk⟩
  exact ⟨M1, ρ, _, S4, ((m1.trans p2.mv).trans p3.mv).trans m4, q⟩
/-- a display of three pairs, its keys written -/
theorem ef_dict3 {k1 k2 k3 : Str} {n1 n2 n3 : Nat} {q1 q2 q3 pos : Pos} {e1 e2 e3 : PySem.Expr} {d1 d2 d3 : D} {Q : D → List MO → Prop} (h1 : Ev b n sc ρ X e1 d1) (h2 : Ev b n sc ρ X e2 d2) (h3 : Ev b n sc ρ X e3 d3) (hne : (k1 != k2 && k1 != k3 && k2 != k3) = true)
    (k : ∀ a, c.s0.heap.get? a = none → Q (.raw (.ref a)) (.sdict a [(k1, d1), (k2, d2), (k3, d3)] :: X)) : c.Ef ρ X (.Dict [some (.Constant (.str k1) n1 q1), some (.Constant (.str k2) n2 q2), some (.Constant (.str k3) n3 q3)] [e1, e2, e3] pos) Q := fun M s S => by
  simp only [Bool.and_eq_true, bne_iff_ne, ne_eq] at hne
  obtain ⟨⟨e12, e13⟩, e23⟩ := hne
  have hn : s.heap.get? s.heap.objs.size = none := none_at (Nat.le_refl _)
  refine wpAny_Dict_pairs (knd := strKind pw b.w) (pairs := [(eval (.Constant (.str k1) n1 q1) c.frm, do let x ← eval e1 c.frm; standAt pos; pure x), (eval (.Constant (.str k2) n2 q2) c.frm, do let x ← eval e2 c.frm; standAt pos; pure x), (eval (.Constant (.str k3) n3 q3) c.frm, do let x ← eval e3 c.frm; standAt pos; pure x)]) (by rfl) (by simp) (by simp) ?_
  generalize hs0 : ({ s with heap := s.heap.push { cls := .type "dict", data := .dict #[] } } : Shared) = s0
  have p0 : Pr s s0 := by rw [← hs0]; exact ⟨Kp.push, rfl, rfl⟩
  have V0 := S.sv.grow p0 hn ⟨_, by rw [← hs0]; exact Heap.get?_push_size _ rfl⟩
  have hd0 : s0.heap.DictOf (strKind pw b.w) s.heap.objs.size [] := by rw [← hs0]; exact Heap.DictOf.new _
  refine evalPairs_cons (wpAny_Constant_str (wpAny_bind (wp_weak (h1 c.A c.frm _ _ c.rm (V0.pure Pr.tok)) fun v1 s1 ⟨a1, p1⟩ => wpAny_bind (wpAny_standAt (wpAny_pure ?_)))))
  have V1 := (V0.pure Pr.tok).pure p1
  refine evalPairs_cons (wpAny_Constant_str (wpAny_bind (wp_weak (h2 c.A c.frm _ _ c.rm (V1.pure Pr.tok)) fun v2 s2 ⟨a2, p2⟩ => wpAny_bind (wpAny_standAt (wpAny_pure ?_)))))
  have V2 := (V1.pure Pr.tok).pure p2
  refine evalPairs_cons (wpAny_Constant_str (wpAny_bind (wp_weak (h3 c.A c.frm _ _ c.rm (V2.pure Pr.tok)) fun v3 s3 ⟨a3, p3⟩ => wpAny_bind (wpAny_standAt (wpAny_pure ?_)))))
  refine evalPairs_nil ?_
  have p13 : Pr s0 s3 := ((((Pr.tok.trans p1).trans Pr.tok).trans p2).trans Pr.tok).trans p3
  have p03 : Pr s s3 := p0.trans p13
  have hd3 : s3.heap.DictOf (strKind pw b.w) s.heap.objs.size [] := by
    obtain ⟨o, es, ep, e, r⟩ := hd0; exact ⟨o, es, ep, p13.kp.all _ _ e, r⟩
  have hstr : ∀ (k : Str) (t : Tok), (PySem.strKind pw b.w).is k (.str k t) = true := fun k t => by show Value.isStrOf k (.str k t) = true; unfold Value.isStrOf; simp
  refine ⟨[(k1, v1), (k2, v2), (k3, v3)], ⟨hstr _ _, rfl, hstr _ _, rfl, hstr _ _, rfl, trivial⟩, hd3, fun h' hd' hs' => ?_⟩
  have kF : Kp [s.heap.objs.size] s3.heap h' := Kp.sameBut hs'
  have hmer : merged ([] : List (Str × Value)) [(k1, v1), (k2, v2), (k3, v3)] = [(k1, v1), (k2, v2), (k3, v3)] := by
    simp [merged, stored, e12, e13, e23]
  rw [hmer] at hd'
  have pF : Pr s { s3 with heap := h', toks := s3.toks + [(Value.str k1 s0.toks, v1), (Value.str k2 s1.toks, v2), (Value.str k3 s2.toks, v3)].length } := ⟨p03.kp.drop kF fun a q => by rw [List.mem_singleton.mp q]; exact hn, p03.gens, p03.os⟩
  have hWF : ∀ a ∈ [s.heap.objs.size], a ∈ s.heap.objs.size :: M ∨ s3.heap.get? a = none := fun a q => .inl (by rw [List.mem_singleton.mp q]; exact List.mem_cons_self)
  obtain ⟨S', m'⟩ := at_new (t := .sdict s.heap.objs.size [(k1, d1), (k2, d2), (k3, d3)]) S pF hn ⟨_, hd', .cons ((((((a1.keep Pr.tok.kp).keep p2.kp).keep Pr.tok.kp).keep p3.kp)).kp kF hWF) (.cons (((a2.keep Pr.tok.kp).keep p3.kp).kp kF hWF) (.cons (a3.kp kF hWF) .nil))⟩
  exact ⟨_, _, .raw (.ref s.heap.objs.size), S', m', rfl, k _ (S.fresh hn)⟩
/-- a tuple of an object, data and an object -/
theorem ef_trip {es : List PySem.Expr} {k : Nat} {pos : Pos} {Q : D → List MO → Prop} (h : c.Es ρ X es fun ds X1 => ∃ u d w, ds = [.raw (.ref u), .dat d, .raw (.ref w)] ∧ Q (.trip u d w) X1) : c.Ef ρ X (.Tuple es k pos) Q := fun M s S => by
  refine PySem.wpAny_Tuple (wp_weak (h M s pos S) fun vs s₁ ⟨M1, X1, ds, S1, m1, a1, u, d, w, hd, q⟩ => ?_)
  subst hd
  apply a1.d3
  intro _ y _ b1 b2 b3
  obtain rfl : _ = Value.ref u := b1
  obtain rfl : _ = Value.ref w := b3
  have p2 : Pr s₁ { s₁ with heap := s₁.heap.push { cls := .type "tuple", data := .seq #[.ref u, y, .ref w] } } := ⟨Kp.push, rfl, rfl⟩
  have S2 := S1.pure p2
  exact ⟨by rw [sizeLine_eq]; show 3 ≤ 16777216; decide, M1, X1, .trip u d w, S2, m1.trans p2.mv, ⟨_, _, _, rfl, S1.sv.st.new, Heap.get?_push_size _ rfl, Rp.kp p2.kp (fun _ h => nomatch h) b2⟩, q⟩
theorem asg_trip {ns : List Str} {x y z : Str} {px py pz : Pos} {k : Nat} {pos : Pos} {u w : Addr} {d : PyData} (hx : Own sc x = true := by decide +kernel) (hy : Own sc y = true := by decide +kernel) (hz : Own sc z = true := by decide +kernel) (mx : x ∈ ns := by decide +kernel) (my : y ∈ ns := by decide +kernel) (mz : z ∈ ns := by decide +kernel) :
    Asg b sc X ns (.Tuple [.Name x px, .Name y py, .Name z pz] k pos) (.trip u d w) ρ ((z, .raw (.ref w)) :: Del z ((y, .dat d) :: Del y ((x, .raw (.ref u)) :: Del x ρ))) := fun A n env M s v R S hv => by
  obtain ⟨a, y', m, rfl, m1, e1, r1⟩ := hv
  refine assign_Tuple_tuple R.handled ⟨_, e1, rfl, _, rfl⟩ (by rfl) (by rfl) fun h' he => ?_
  have p : Pr s { s with heap := h' } := ⟨fun a o _ e => he a o (Nat.ne_of_lt (Heap.lt_size e)) e, rfl, rfl⟩
  show wpAny (Mo b) A (assignInOrder [assign (.Name x px) env, assign (.Name y py) env, assign (.Name z pz) env] [.ref u, y', .ref w]) _ _ _
  have S0 := S.pure p
  have W : ∀ a ∈ Wn env ns, a ∈ M ∨ ({ s with heap := h' } : Shared).heap.get? a = none := fun a h => .inl (S0.wrM a (wn_wr a h))
  refine assignInOrder_cons (wp_weak (asg_name (pos := px) (d := .raw (.ref u)) hx mx A n env M _ _ R S0 rfl) fun _ s₁ ⟨S1, p1⟩ => ?_)
  refine assignInOrder_cons (wp_weak (asg_name (pos := py) (d := .dat d) hy my A n env M _ _ R S1 ((r1.kp p.kp fun _ h => nomatch h).kp p1.kp W)) fun _ s₂ ⟨S2, p2⟩ => ?_)
  refine assignInOrder_cons (wp_weak (asg_name (pos := pz) (d := .raw (.ref w)) hz mz A n env M _ _ R S2 rfl) fun _ s₃ ⟨S3, p3⟩ => ?_)
  exact assignInOrder_nil ⟨S3, ((p.pw.trans p1).trans p2).trans p3⟩
/-- how many differ -/
noncomputable def metF (is : List Int) : Nat := (PyProof.Rows.firstMet (fun i => is.getD i 0) is.length).length
inductive SetR (n : Nat) (s : Shared) (vs : List Value) (s' : Shared) : Prop
  | mk (a : Addr) (hv : vs = [.ref a]) (p : Pr s s') (o : Obj) (es : Array (Int × Value)) (ep : Nat) (t : SetTable) (ho : s'.heap.get? a = some o) (hex : o.ExactSet) (hd : o.data = .set es ep t) (hf : t.fits es.size = true) (hn : es.size = n) (hl : es.size < 2000) : SetR n s vs s'
theorem ev_lenSet {n1 n2 e : PySem.Expr} {p2 pos : Pos} {is : List Int} (g1 : Ev b n sc ρ X n1 (.raw (.builtin "len"))) (g2 : Ev b n sc ρ X n2 (.raw (.type "set"))) (h : Ev b n sc ρ X e (.list (is.map .int))) (hz : is.length ≤ 1000)
    (hp : plainArgs [e] = true := by rfl) (hp2 : plainArgs [PySem.Expr.Call n2 [e] [] p2] = true := by rfl)
    (he : ∀ env, eval (.Call n1 [.Call n2 [e] [] p2] [] pos) env = (do callWith pos (← eval n1 env) [] (backTo pos (starEach [.Call n2 [e] [] p2] env)) []) := by intro _; rfl)
    (he2 : ∀ env, eval (.Call n2 [e] [] p2) env = (do callWith p2 (← eval n2 env) [] (backTo p2 (starEach [e] env)) []) := by intro _; rfl)
    (hst : ∀ env, starEach [e] env = (false, eval e env) :: starEach [] env := by intro _; rfl) : Ev b n sc ρ X (.Call n1 [.Call n2 [e] [] p2] [] pos) (.int (metF is)) := fun A env M s R S => by
  rw [he]
  refine wpAny_bind (wp_weak (g1 A env M s R S) fun v s₁ ⟨a1, p1⟩ => ?_)
  obtain rfl : v = .builtin "len" := a1
  have S1 := S.pure p1
  refine callWith_of (P := fun h => Kp [] b.B h) (by rfl) (fun h q => ke_builtin h q) ?_
  have key : wpAny (Mo b) A (spliced (backTo pos (starEach [PySem.Expr.Call n2 [e] [] p2] env))) (SetR (metF is) s) noE s₁ := by
    refine wpAny_items_cons ?_ (plain_cons hp2)
    rw [he2]
    refine wpAny_bind (wp_weak (g2 A env M s₁ R S1) fun v s₂ ⟨a2, p2⟩ => ?_)
    obtain rfl : v = .type "set" := a2
    have S2 := S1.pure p2
    refine wp_callWith R S2 ke_type (evs_cons h evs_nil hst) hp fun vs s₃ hd p3 => ?_
    have S3 := S2.pure p3
    apply hd.d1; intro _ b1
    obtain ⟨l, us, k, rfl, ml, zl, e3, r3⟩ := Rp.list_inv b1
    have l3 := r3.length
    rw [Array.length_toList, List.length_map] at l3
    refine call_set_list R.handled ⟨_, e3, rfl, _, rfl⟩ r3.ints (by rw [l3]; exact Nat.lt_of_le_of_lt (Nat.succ_le_succ hz) (by decide)) fun h' tk hs hk => ?_
    have p4 : Pr s₃ { s₃ with heap := h', toks := tk } := ⟨Kp.of fun a o e => hk a o (Heap.lt_size e) e, rfl, rfl⟩
    obtain ⟨o, es, ep, t, ho, hex, hdt, -, -, hlt, hf, hn⟩ := hs
    have hn' : es.size = metF is := by rw [hn]; unfold metF; rw [l3]
    have hle : metF is ≤ is.length := by unfold metF; exact PyProof.Rows.firstMet_length_le _ _
    exact wpAny_items_nil ⟨_, rfl, ((p1.trans p2).trans p3).trans p4, o, es, ep, t, ho, hex, hdt, hf, hn', by omega⟩
  rw [plain_cons hp2] at key ⊢
  refine Calls.evalArgs_plain (wp_weak key fun vs s₂ ⟨a, hv, p2, o, es, ep, t, ho, hex, hdt, hf, hn, hlt⟩ => ?_)
  subst hv
  exact ⟨(S.pure p2).st.base, call_len_set ho hex hdt hf (by omega) ⟨by rw [← hn]; exact .int _ _, p2.trans Pr.tok⟩⟩
end

/-- where a store's parts stand -/
structure Ad where
  a : Addr
  dx : Addr
  ld : Addr
  lf : Addr
  lt : Addr
  lm : Addr
  nw : Addr
/-- a store -/
structure Sto where
  doms : List Dom
  firsts : List Dom
  trail : List Ent
  marks : List Nat
  failed : Bool
  clash : List Lit
noncomputable abbrev flds (A : Ad) (f : Bool) (cl : List Lit) : List (Str × D) := [("domains", .raw (.ref A.ld)), ("firsts", .raw (.ref A.lf)), ("trail", .raw (.ref A.lt)), ("marks", .raw (.ref A.lm)), ("news", .raw (.ref A.nw)), ("speaker", .int (-1)), ("is_failed", .bool f), ("clash", .dat (dR cl))]
noncomputable abbrev Xs (A : Ad) (σ : Sto) : List MO := [.inst A.a 265 A.dx, .dict A.dx (flds A σ.failed σ.clash), .list A.ld (σ.doms.map dD), .list A.lf (σ.firsts.map dD), .list A.lt (σ.trail.map dE), .list A.lm (σ.marks.map fun m : Nat => .int m), .idict A.nw 4]
noncomputable abbrev AttrOk (o : PySem.Expr) (name : Str) (pos : Pos) : Prop := ∀ env, eval (.Attribute o name pos) env = (do
      let v ← eval o env
      standAt pos.atName
      let r ← holding [v] (getAttr v name true)
      letTemporaryGo o v r
      pure r)
/-- what the base holds of the class -/
structure Ks (b : Bas) : Prop where
  c : Cls b 265
  made : Mk b 265 129
  nD : NoAt b 265 "domains"
  nF : NoAt b 265 "firsts"
  nT : NoAt b 265 "trail"
  nM : NoAt b 265 "marks"
  nN : NoAt b 265 "news"
  nS : NoAt b 265 "speaker"
  nI : NoAt b 265 "is_failed"
  nC : NoAt b 265 "clash"
  f0 : IsFn b (methOf 18 0) 129
  f1 : IsFn b (methOf 18 1) 136
  m1 : Meth b 265 "new_var" 136
  f2 : IsFn b (methOf 18 2) 143
  m2 : Meth b 265 "size" 143
  f3 : IsFn b (methOf 18 3) 150
  m3 : Meth b 265 "dom" 150
  f5 : IsFn b (methOf 18 5) 164
  m5 : Meth b 265 "low" 164
  f6 : IsFn b (methOf 18 6) 171
  m6 : Meth b 265 "high" 171
  f7 : IsFn b (methOf 18 7) 178
  m7 : Meth b 265 "has" 178
  f12 : IsFn b (methOf 18 12) 213
  m12 : Meth b 265 "enter" 213
  f13 : IsFn b (methOf 18 13) 220
  m13 : Meth b 265 "strike" 220
  f14 : IsFn b (methOf 18 14) 227
  m14 : Meth b 265 "decide" 227
  f15 : IsFn b (methOf 18 15) 234
  m15 : Meth b 265 "fail" 234
  f16 : IsFn b (methOf 18 16) 241
  m16 : Meth b 265 "push" 241
  f17 : IsFn b (methOf 18 17) 248
  m17 : Meth b 265 "pop" 248
section
variable {b : Bas} {A : Ad} {σ : Sto} (G : Gs b) (K : Ks b)
theorem xs_a : MO.inst A.a 265 A.dx ∈ Xs A σ := List.mem_cons_self
theorem xs_d : MO.dict A.dx (flds A σ.failed σ.clash) ∈ Xs A σ := List.mem_cons_of_mem _ List.mem_cons_self
theorem xs_ld : MO.list A.ld (σ.doms.map dD) ∈ Xs A σ := List.mem_cons_of_mem _ (List.mem_cons_of_mem _ List.mem_cons_self)
theorem xs_lf : MO.list A.lf (σ.firsts.map dD) ∈ Xs A σ := List.mem_cons_of_mem _ (List.mem_cons_of_mem _ (List.mem_cons_of_mem _ List.mem_cons_self))
theorem xs_lt : MO.list A.lt (σ.trail.map dE) ∈ Xs A σ := List.mem_cons_of_mem _ (List.mem_cons_of_mem _ (List.mem_cons_of_mem _ (List.mem_cons_of_mem _ List.mem_cons_self)))
theorem xs_lm : MO.list A.lm (σ.marks.map fun m : Nat => .int m) ∈ Xs A σ := List.mem_cons_of_mem _ (List.mem_cons_of_mem _ (List.mem_cons_of_mem _ (List.mem_cons_of_mem _ (List.mem_cons_of_mem _ List.mem_cons_self))))
noncomputable abbrev domAt (σ : Sto) (x : Nat) : Dom := σ.doms.getD x []
theorem dom_get {σ : Sto} {x : Nat} (h : x < σ.doms.length) : (σ.doms.map dD)[x]? = some (dD (domAt σ x)) := by
  rw [List.getElem?_map, List.getElem?_eq_getElem h]; simp [h]
section
variable {n : Nat} {sc : Scope} {ρ : List (Str × D)} {X : List MO} {o : PySem.Expr} {pos : Pos}
include K
theorem at_domains (h : Ev b n sc ρ X o (.raw (.ref A.a))) (hi : MO.inst A.a 265 A.dx ∈ X) {f : Bool} {cl : List Lit} (hd : MO.dict A.dx (flds A f cl) ∈ X) (he : AttrOk o "domains" pos := by intro _; rfl) : Ev b n sc ρ X (.Attribute o "domains" pos) (.raw (.ref A.ld)) := ev_attr K.c K.nD h hi hd rfl rfl he
theorem at_firsts (h : Ev b n sc ρ X o (.raw (.ref A.a))) (hi : MO.inst A.a 265 A.dx ∈ X) {f : Bool} {cl : List Lit} (hd : MO.dict A.dx (flds A f cl) ∈ X) (he : AttrOk o "firsts" pos := by intro _; rfl) : Ev b n sc ρ X (.Attribute o "firsts" pos) (.raw (.ref A.lf)) := ev_attr K.c K.nF h hi hd rfl rfl he
theorem at_trail (h : Ev b n sc ρ X o (.raw (.ref A.a))) (hi : MO.inst A.a 265 A.dx ∈ X) {f : Bool} {cl : List Lit} (hd : MO.dict A.dx (flds A f cl) ∈ X) (he : AttrOk o "trail" pos := by intro _; rfl) : Ev b n sc ρ X (.Attribute o "trail" pos) (.raw (.ref A.lt)) := ev_attr K.c K.nT h hi hd rfl rfl he
theorem at_marks (h : Ev b n sc ρ X o (.raw (.ref A.a))) (hi : MO.inst A.a 265 A.dx ∈ X) {f : Bool} {cl : List Lit} (hd : MO.dict A.dx (flds A f cl) ∈ X) (he : AttrOk o "marks" pos := by intro _; rfl) : Ev b n sc ρ X (.Attribute o "marks" pos) (.raw (.ref A.lm)) := ev_attr K.c K.nM h hi hd rfl rfl he
theorem at_news (h : Ev b n sc ρ X o (.raw (.ref A.a))) (hi : MO.inst A.a 265 A.dx ∈ X) {f : Bool} {cl : List Lit} (hd : MO.dict A.dx (flds A f cl) ∈ X) (he : AttrOk o "news" pos := by intro _; rfl) : Ev b n sc ρ X (.Attribute o "news" pos) (.raw (.ref A.nw)) := ev_attr K.c K.nN h hi hd rfl rfl he
theorem at_speaker (h : Ev b n sc ρ X o (.raw (.ref A.a))) (hi : MO.inst A.a 265 A.dx ∈ X) {f : Bool} {cl : List Lit} (hd : MO.dict A.dx (flds A f cl) ∈ X) (he : AttrOk o "speaker" pos := by intro _; rfl) : Ev b n sc ρ X (.Attribute o "speaker" pos) (.int (-1)) := ev_attr K.c K.nS h hi hd rfl rfl he
theorem at_failed (h : Ev b n sc ρ X o (.raw (.ref A.a))) (hi : MO.inst A.a 265 A.dx ∈ X) {f : Bool} {cl : List Lit} (hd : MO.dict A.dx (flds A f cl) ∈ X) (he : AttrOk o "is_failed" pos := by intro _; rfl) : Ev b n sc ρ X (.Attribute o "is_failed" pos) (.bool f) := ev_attr K.c K.nI h hi hd rfl rfl he
theorem at_clash (h : Ev b n sc ρ X o (.raw (.ref A.a))) (hi : MO.inst A.a 265 A.dx ∈ X) {f : Bool} {cl : List Lit} (hd : MO.dict A.dx (flds A f cl) ∈ X) (he : AttrOk o "clash" pos := by intro _; rfl) : Ev b n sc ρ X (.Attribute o "clash" pos) (.dat (dR cl)) := ev_attr K.c K.nC h hi hd rfl rfl he
theorem gm_store {name : Str} {fa : Addr} (hm : Meth b 265 name fa) (hi : MO.inst A.a 265 A.dx ∈ X) {f : Bool} {cl : List Lit} (hd : MO.dict A.dx (flds A f cl) ∈ X) (hl : (flds A f cl).lookup name = none := by rfl) : Gm b n X (.raw (.ref A.a)) name (.ref fa) [.raw (.ref A.a)] := gm_meth K.c hm hi hd hl
end
theorem sub_one {t : MO} {X : List MO} (h : t ∈ X) : [t].Sublist X := List.singleton_sublist.mpr h
include G K in
theorem c_size (hz : σ.doms.length ≤ 100) : Fn b 1 (Xs A σ) (.ref 143) [.raw (.ref A.a)] (.int σ.doms.length) := by
  refine fn_of ["self"] K.f2 (fun c hW => ?_) (bind1 (by intros; rfl))
  have := fn_lenM (b := b) (n := 0) (a := A.ld) (xs := σ.doms.map dD) (by rw [List.length_map]; simp only [big]; omega)
  rw [List.length_map] at this
  exact go_cons (do_return (ef_pure (ev_call (ev_glob G.len) (evs_cons (at_domains K (evn (d := .raw (.ref A.a))) xs_a xs_d) evs_nil) ke_builtin this (Nat.le_refl _) (sub_one xs_ld)) rfl))
section
variable {n : Nat} {sc : Scope} {ρ : List (Str × D)} {X : List MO} {e i : PySem.Expr} {pos : Pos}
theorem itm_dom {x : Nat} (hX : MO.list A.ld (σ.doms.map dD) ∈ X) (hx : x < σ.doms.length) (hz : σ.doms.length ≤ 100) : Itm b X (.raw (.ref A.ld)) (.int x) (.dat (dD (domAt σ x))) :=
  itm_M hX (by rw [List.length_map]; simp only [big]; omega) (seqAt (by rwa [List.length_map])) (dom_get hx)
end
include K in
theorem c_dom {x : Nat} (hx : x < σ.doms.length) (hz : σ.doms.length ≤ 100) : Fn b 1 (Xs A σ) (.ref 150) [.raw (.ref A.a), .int x] (.dat (dD (domAt σ x))) := by
  refine fn_of ["self", "x"] K.f3 (fun c hW => ?_) (bind2 (by intros; rfl))
  exact go_cons (do_return (ef_pure (ev_item (at_domains K (evn (d := .raw (.ref A.a))) xs_a xs_d) (evn (d := .int x)) (itm_dom xs_ld hx hz)) rfl))
include G K in
theorem c_low {x : Nat} (hx : x < σ.doms.length) (hz : σ.doms.length ≤ 100) (hn : domAt σ x ≠ []) : Fn b 2 (Xs A σ) (.ref 164) [.raw (.ref A.a), .int x] (.int (leastOf (domAt σ x))) := by
  refine fn_of ["self", "x"] K.f5 (fun c hW => ?_) (bind2 (by intros; rfl))
  exact go_cons (do_return (ef_pure (ecall (ev_glob G.g4) (es1 (ev_item (at_domains K (evn (d := .raw (.ref A.a))) xs_a xs_d) (evn (d := .int x)) (itm_dom xs_ld hx hz))) G.f4.ke (f_least G hn)) rfl))
include G K in
theorem c_high {x : Nat} (hx : x < σ.doms.length) (hz : σ.doms.length ≤ 100) (hn : domAt σ x ≠ []) : Fn b 2 (Xs A σ) (.ref 171) [.raw (.ref A.a), .int x] (.int (greatestOf (domAt σ x))) := by
  refine fn_of ["self", "x"] K.f6 (fun c hW => ?_) (bind2 (by intros; rfl))
  exact go_cons (do_return (ef_pure (ecall (ev_glob G.g5) (es1 (ev_item (at_domains K (evn (d := .raw (.ref A.a))) xs_a xs_d) (evn (d := .int x)) (itm_dom xs_ld hx hz))) G.f5.ke (f_greatest G hn)) rfl))
include G K in
theorem c_has {x : Nat} {v : Int} (hx : x < σ.doms.length) (hz : σ.doms.length ≤ 100) : Fn b 3 (Xs A σ) (.ref 178) [.raw (.ref A.a), .int x, .int v] (.bool (nextFrom (domAt σ x) v == some v)) := by
  refine fn_of ["self", "x", "v"] K.f7 (fun c hW => ?_) (bind3 (by intros; rfl))
  exact go_cons (do_return (ef_pure (ecall (ev_glob G.g8) (es2 (ev_item (at_domains K (evn (d := .raw (.ref A.a))) xs_a xs_d) (evn (d := .int x)) (itm_dom xs_ld hx hz)) (evn (d := .int v))) G.f7.ke (f_has G _ v)) rfl))
noncomputable def failF (σ : Sto) (rs : List Lit) : Sto := { σ with failed := true, clash := rs }
noncomputable def enterF (σ : Sto) (l : Lit) (why : Option (List Lit)) : Sto × Bool :=
  let old := domAt σ l.x
  let fresh := struckF l old
  if fresh = [] then (failF σ (why.getD [] ++ [negF l]), false)
  else if fresh = old then (σ, true)
  else ({ σ with trail := σ.trail ++ [⟨l.x, old, l, why⟩], doms := σ.doms.set l.x fresh }, true)
noncomputable def Ad.all (A : Ad) : List Addr := [A.a, A.dx, A.ld, A.lf, A.lt, A.lm, A.nw]
theorem xs_addr : (Xs A σ).map MO.addr = A.all := rfl
noncomputable abbrev OwnS {b : Bas} {n : Nat} {sc : Scope} (c : Cx b n sc) (A : Ad) : Prop := ∀ a ∈ A.all, a ∈ c.W ∨ c.s0.heap.get? a = none
theorem own_t {b : Bas} {n : Nat} {sc : Scope} {c : Cx b n sc} (h : OwnS c A) {t : MO} (ht : t ∈ Xs A σ) : t.addr ∈ c.W ∨ c.s0.heap.get? t.addr = none := h _ (by rw [← xs_addr (σ := σ)]; exact List.mem_map_of_mem ht)
section
variable {b : Bas} {n : Nat} {sc : Scope} {c : Cx b n sc} (h : OwnS c A)
include h
theorem ow_a : A.a ∈ c.W ∨ c.s0.heap.get? A.a = none := h _ (List.mem_cons_self)
theorem ow_dx : A.dx ∈ c.W ∨ c.s0.heap.get? A.dx = none := h _ (List.mem_cons_of_mem _ List.mem_cons_self)
theorem ow_ld : A.ld ∈ c.W ∨ c.s0.heap.get? A.ld = none := h _ (List.mem_cons_of_mem _ (List.mem_cons_of_mem _ List.mem_cons_self))
theorem ow_lf : A.lf ∈ c.W ∨ c.s0.heap.get? A.lf = none := h _ (List.mem_cons_of_mem _ (List.mem_cons_of_mem _ (List.mem_cons_of_mem _ List.mem_cons_self)))
theorem ow_lt : A.lt ∈ c.W ∨ c.s0.heap.get? A.lt = none := h _ (List.mem_cons_of_mem _ (List.mem_cons_of_mem _ (List.mem_cons_of_mem _ (List.mem_cons_of_mem _ List.mem_cons_self))))
theorem ow_lm : A.lm ∈ c.W ∨ c.s0.heap.get? A.lm = none := h _ (List.mem_cons_of_mem _ (List.mem_cons_of_mem _ (List.mem_cons_of_mem _ (List.mem_cons_of_mem _ (List.mem_cons_of_mem _ List.mem_cons_self)))))
theorem ow_nw : A.nw ∈ c.W ∨ c.s0.heap.get? A.nw = none := h _ (List.mem_cons_of_mem _ (List.mem_cons_of_mem _ (List.mem_cons_of_mem _ (List.mem_cons_of_mem _ (List.mem_cons_of_mem _ (List.mem_cons_of_mem _ List.mem_cons_self))))))
end
/-- a method of the store's -/
theorem own7 {b : Bas} {n : Nat} {sc : Scope} {c : Cx b n sc} {A : Ad} (h1 : A.a ∈ c.W ∨ c.s0.heap.get? A.a = none) (h2 : A.dx ∈ c.W ∨ c.s0.heap.get? A.dx = none) (h3 : A.ld ∈ c.W ∨ c.s0.heap.get? A.ld = none) (h4 : A.lf ∈ c.W ∨ c.s0.heap.get? A.lf = none) (h5 : A.lt ∈ c.W ∨ c.s0.heap.get? A.lt = none) (h6 : A.lm ∈ c.W ∨ c.s0.heap.get? A.lm = none) (h7 : A.nw ∈ c.W ∨ c.s0.heap.get? A.nw = none) : OwnS c A :=
  List.forall_mem_cons.mpr ⟨h1, List.forall_mem_cons.mpr ⟨h2, List.forall_mem_cons.mpr ⟨h3, List.forall_mem_cons.mpr ⟨h4, List.forall_mem_cons.mpr ⟨h5, List.forall_mem_cons.mpr ⟨h6, List.forall_mem_cons.mpr ⟨h7, fun _ q => nomatch q⟩⟩⟩⟩⟩⟩⟩
theorem ef_store {b : Bas} {n m : Nat} {sc : Scope} {c : Cx b n sc} {ρ : List (Str × D)} (K : Ks b) {o : PySem.Expr} {name : Str} {es : List PySem.Expr} {apos pos : Pos} {fa : Addr} {ds : List D} {Q1 Q : D → List MO → Prop} {st : Stmt} (L R : List MO) (hW : OwnS c A) (h1 : Ev b n sc ρ (L ++ (Xs A σ ++ R)) o (.raw (.ref A.a))) (hm : Meth b 265 name fa) (ke : IsFn b st fa) (h2 : Evs b n sc ρ (L ++ (Xs A σ ++ R)) es ds) (h : Cn b m (Xs A σ) (.ref fa) (.raw (.ref A.a) :: ds) Q1) (k : ∀ d X', Q1 d X' → Q d (L ++ (X' ++ R))) (hn : m ≤ n := by decide)
    (hl : (flds A σ.failed σ.clash).lookup name = none := by rfl) (hp : plainArgs es = true := by rfl)
    (he : ∀ env, eval (.Call (.Attribute o name apos) es [] pos) env = (do
      let ov ← eval o env
      standAt apos.atName
      let (f, first) ← holding [ov] (getMethod ov name (do return (← importBound o env).getD true))
      callWith pos f first (backTo pos (starEach es env)) []) := by intro _; rfl) : c.Ef ρ (L ++ (Xs A σ ++ R)) (.Call (.Attribute o name apos) es [] pos) Q :=
  ef_meth h1 (gm_store K hm (List.mem_append_right _ (List.mem_append_left _ xs_a)) (List.mem_append_right _ (List.mem_append_left _ xs_d)) hl) ke.ke (es_pure h2 (cl_cn L (Xs A σ) R (h.mono k) hn fun t ht => own_t hW ht)) hp he
theorem ef_append {b : Bas} {n : Nat} {sc : Scope} {c : Cx b n sc} {ρ : List (Str × D)} {X : List MO} {o e : PySem.Expr} {apos pos : Pos} {a : Addr} {xs : List PyData} {d : PyData} {Q : D → List MO → Prop} (L R : List MO) (hX : X = L ++ (.list a xs :: R)) (h1 : Ev b n sc ρ X o (.raw (.ref a))) (h2 : Ev b n sc ρ X e (.dat d)) (hz : xs.length ≤ big) (hW : a ∈ c.W ∨ c.s0.heap.get? a = none) (q : Q .none (L ++ (.list a (xs ++ [d]) :: R)))
    (hst : ∀ env, starEach [e] env = (false, eval e env) :: starEach [] env := by intro _; rfl) (hp : plainArgs [e] = true := by rfl)
    (he : ∀ env, eval (.Call (.Attribute o "append" apos) [e] [] pos) env = (do
      let ov ← eval o env
      standAt apos.atName
      let (f, first) ← holding [ov] (getMethod ov "append" (do return (← importBound o env).getD true))
      callWith pos f first (backTo pos (starEach [e] env)) []) := by intro _; rfl) : c.Ef ρ X (.Call (.Attribute o "append" apos) [e] [] pos) Q := by
  subst hX
  exact ef_meth h1 (gm_append (List.mem_append_right _ List.mem_cons_self)) ke_builtin (es_pure (es1 h2 hst) (cl_cn L [_] R (cn_append hz q) (Nat.le_refl _) fun t ht => by rw [List.mem_singleton.mp ht]; exact hW)) hp he
/-- a call on the store alone -/
theorem cn_store {b : Bas} {n : Nat} {st : Stmt} {a : Addr} (names : List Str) {ds : List D} {Q : D → List MO → Prop} (F : IsFn b st a)
    (h : ∀ c : Cx b n (scopeOf st), OwnS c A → c.Go (names.zip ds) (Xs A σ) (bodyOf st) fun _ X' fl => Q fl.res X')
    (hbind : BindOk st names) (hok : DefOk (scopeOf st) names = true := by decide +kernel) (hlen : names.length = ds.length := by rfl) : Cn b (n + 1) (Xs A σ) (.ref a) ds Q :=
  cn_of names F (fun c hV hW => go_mono (h c fun a ha => .inl (by rw [hW, xs_addr]; exact ha)) fun _ X' _ q => ⟨X', List.Sublist.refl _, q⟩) hbind hok hlen
theorem put_failed {f g : Bool} {cl : List Lit} : putKv "is_failed" (.bool g) (flds A f cl) = flds A g cl := by rfl
theorem put_clash {f : Bool} {cl rs : List Lit} : putKv "clash" (.dat (dR rs)) (flds A f cl) = flds A f rs := by rfl
theorem flds_len {f : Bool} {cl : List Lit} : (flds A f cl).length ≤ 100 := by show 8 ≤ 100; decide
section
variable {n : Nat} {sc : Scope} {c : Cx b n sc} {ρ : List (Str × D)} {o value : PySem.Expr} {pos' pos : Pos} {Q : List (Str × D) → List MO → Fl → Prop}
include K
theorem do_failed {f : Bool} (hW : OwnS c A) (ho : Ev b n sc ρ (Xs A σ) o (.raw (.ref A.a))) (hv : Ev b n sc ρ (Xs A σ) value (.bool f)) (q : Q ρ (Xs A { σ with failed := f }) .nxt)
    (hs : ∀ env, swapsWith value (some (.Attribute o "is_failed" pos')) pos.line env = pure false := by intro _; rfl) : c.Do ρ (Xs A σ) (.Assign [.Attribute o "is_failed" pos'] value pos) Q :=
  do_setA (ef_pure hv ⟨A.a, 265, A.dx, _, [_], _, K.c, K.nI, ho, rfl, xs_a, flds_len, ow_dx hW, by rw [put_failed]; exact q⟩) hs
theorem do_clash {rs : List Lit} (hW : OwnS c A) (ho : Ev b n sc ρ (Xs A σ) o (.raw (.ref A.a))) (hv : Ev b n sc ρ (Xs A σ) value (.dat (dR rs))) (q : Q ρ (Xs A { σ with clash := rs }) .nxt)
    (hs : ∀ env, swapsWith value (some (.Attribute o "clash" pos')) pos.line env = pure false := by intro _; rfl) : c.Do ρ (Xs A σ) (.Assign [.Attribute o "clash" pos'] value pos) Q :=
  do_setA (ef_pure hv ⟨A.a, 265, A.dx, _, [_], _, K.c, K.nC, ho, rfl, xs_a, flds_len, ow_dx hW, by rw [put_clash]; exact q⟩) hs
end
include G K in
theorem c_fail {rs : List Lit} : Cn b 1 (Xs A σ) (.ref 234) [.raw (.ref A.a), .dat (dR rs)] (fun d X' => d = .bool false ∧ X' = Xs A (failF σ rs)) := by
  refine cn_store ["self", "reasons"] K.f15 (fun c hW => ?_) (bind2 (by intros; rfl))
  refine go_cons (do_failed K hW (evn (d := .raw (.ref A.a))) ev_bool ?_)
  refine go_cons (do_clash K hW (evn (d := .raw (.ref A.a))) (ecallT (ev_glob G.tuple) (es1 (evn (d := .dat (dR rs)))) (fn_tupT)) ?_)
  exact go_cons (do_return (ef_pure ev_bool ⟨rfl, rfl⟩))
theorem cmp_eqD' {d e : Dom} : Cmp b .Eq (.dat (dD d)) (.dat (dD e)) (decide (d = e)) := cmp_eqP (pnD d) (pnD e) (by omega) (by rw [decide_eq_true_iff]; exact ⟨fun h => congrArg _ h, dD_inj⟩)
theorem cmp_eqD0 {d : Dom} : Cmp b .Eq (.dat (dD d)) (.tup []) (decide (d = [])) := cmp_eqD' (e := [])
include G K in
theorem c_enter {l : Lit} {why : Option (List Lit)} (hx : l.x < σ.doms.length) (h4 : σ.doms.length ≤ 4) (hd : (domAt σ l.x).length ≤ 2000) (hw : (why.getD []).length ≤ 1000) (ht : σ.trail.length ≤ 1000) :
    Cn b 4 (Xs A σ) (.ref 213) [.raw (.ref A.a), .dat (dL l), .dat (dWhy why), .int (-1)] (fun d X' => d = .bool (enterF σ l why).2 ∧ X' = Xs A (enterF σ l why).1) := by
  have hz : σ.doms.length ≤ 100 := by omega
  refine cn_store ["self", "literal", "reasons", "speaker"] K.f12 (fun c hW => ?_) (bind4 (by intros; rfl))
  refine go_cons (do_assign (ef_pure (ev_item (evn (d := .dat (dL l))) ev_int itm_L0) ?_))
  refine go_cons (do_assign (ef_pure (ev_item (at_domains K (evn (d := .raw (.ref A.a))) xs_a xs_d) (evn (d := .int l.x)) (itm_dom xs_ld hx hz)) ?_))
  refine go_cons (do_assign (ef_pure (ecall (ev_glob G.g15) (es2 (evn (d := .dat (dL l))) (evn (d := .dat (dD (domAt σ l.x))))) G.f15.ke (f_struck G l (by omega))) ?_))
  generalize hfr : struckF l (domAt σ l.x) = fresh
  have hen : enterF σ l why = if fresh = [] then (failF σ (why.getD [] ++ [negF l]), false)
      else if fresh = domAt σ l.x then (σ, true)
      else ({ σ with trail := σ.trail ++ [⟨l.x, domAt σ l.x, l, why⟩], doms := σ.doms.set l.x fresh }, true) := by rw [← hfr]; rfl
  refine go_cons (do_if (et_pure (tv_cmp (evn (d := .dat (dD fresh))) etup0 cmp_eqD0) (ite_of (fun h1 => ?_) fun h1 => ?_)))
  · have h1' : fresh = [] := of_decide_eq_true h1
    rw [hen, if_pos h1']
    refine go_cons (do_return (ef_store K [] [] hW (evn (d := .raw (.ref A.a))) K.m15 K.f15 (es1 (d := .dat (dR (why.getD [] ++ [negF l]))) (ev_bin (ev_ifexp (tv_cmp (evn (d := .dat (dWhy why))) ev_none cmp_isNone) (d := .dat (dR (why.getD []))) (fun h => ?_) fun h => ?_) (etup1 (d := dL (negF l)) (ecall (ev_glob G.g14) (es1 (evn (d := .dat (dL l)))) G.f14.ke (f_negation G l))) ?_)) (c_fail G K) fun d X' ⟨e1, e2⟩ => ⟨e1, by rw [e2, List.append_nil]; rfl⟩))
    · cases why with
      | none => exact etup0
      | some rs => cases h
    · cases why with
      | none => cases h
      | some rs => exact evn (d := .dat (dR rs))
    · have := bin_tup' (b := b) (xs := (why.getD []).map dL) (ys := [dL (negF l)]) (by rw [List.length_map]; simp only [big, List.length_singleton]; omega)
      rwa [show ((why.getD []).map dL) ++ [dL (negF l)] = (why.getD [] ++ [negF l]).map dL by rw [List.map_append]; rfl] at this
  have h1' : fresh ≠ [] := of_decide_eq_false h1
  rw [hen, if_neg h1']
  refine go_nil (go_cons (do_if (et_pure (tv_cmp (evn (d := .dat (dD fresh))) (evn (d := .dat (dD (domAt σ l.x)))) cmp_eqD') (ite_of (fun h2 => ?_) fun h2 => ?_))))
  · rw [if_pos (of_decide_eq_true h2)]
    exact go_cons (do_return (ef_pure ev_bool ⟨rfl, rfl⟩))
  rw [if_neg (of_decide_eq_false h2)]
  refine go_nil (go_cons (do_expr (ef_append (d := dE ⟨l.x, domAt σ l.x, l, why⟩) [_, _, _, _] [_, _] rfl (at_trail K (evn (d := .raw (.ref A.a))) xs_a xs_d) (ev_tup (ds := [.int l.x, dD (domAt σ l.x), dL l, dWhy why, .int (-1)]) (evs_cons (evn (d := .int l.x)) (evs_cons (evn (d := .dat (dD (domAt σ l.x)))) (evs_cons (evn (d := .dat (dL l))) (evs_cons (evn (d := .dat (dWhy why))) (evs_cons (evn (d := .int (-1))) evs_nil))))) (show 5 ≤ big by decide)) (by rw [List.length_map]; simp only [big]; omega) (ow_lt hW) ⟨trivial, ?_⟩)))
  refine go_cons (do_setL (ef_pure (evn (d := .dat (dD fresh))) ⟨A.ld, dD fresh, rfl, at_domains K (evn (d := .raw (.ref A.a))) (f := σ.failed) (cl := σ.clash) (by simp) (by simp), ef_pure (evn (d := .int l.x)) ⟨[_, _], _, _, l.x, l.x, rfl, rfl, by rw [List.length_map]; simp only [big]; omega, seqAt (by rwa [List.length_map]), ow_ld hW, ?_⟩⟩))
  refine go_cons (do_setN (ef_pure ev_bool ⟨A.nw, l.x, [_, _, _, _, _, _], [], 4, at_news K (evn (d := .raw (.ref A.a))) (f := σ.failed) (cl := σ.clash) (by simp) (by simp), evn (d := .int l.x), rfl, by omega, by omega, by decide, own_t hW (σ := σ) (List.mem_cons_of_mem _ (List.mem_cons_of_mem _ (List.mem_cons_of_mem _ (List.mem_cons_of_mem _ (List.mem_cons_of_mem _ (List.mem_cons_of_mem _ List.mem_cons_self)))))), ?_⟩))
  refine go_cons (do_return (ef_pure ev_bool ⟨rfl, ?_⟩))
  simp only [Xs, List.map_append, List.map_cons, List.map_nil, List.map_set, List.cons_append, List.nil_append]
  rfl
end

section
variable {b : Bas} {n : Nat} {sc : Scope} {c : Cx b n sc} {ρ : List (Str × D)} {X : List MO}
/-- the objects at hand are the call's own -/
theorem go_own {ss : List Stmt} {Q : List (Str × D) → List MO → Fl → Prop} (h : (∀ t ∈ X, t.addr ∈ c.V ∨ c.s0.heap.get? t.addr = none) → c.Go ρ X ss Q) : c.Go ρ X ss Q := fun M s S => h S.xs M s S
end
section
variable {b : Bas} {A : Ad} {σ : Sto} (G : Gs b) (K : Ks b)
theorem ev_eq {n : Nat} {sc : Scope} {ρ : List (Str × D)} {X : List MO} {e : PySem.Expr} {d d' : D} (h : Ev b n sc ρ X e d) (k : d = d') : Ev b n sc ρ X e d' := k ▸ h
/-- what a store must keep to for its calls -/
structure Sto.Ok (σ : Sto) : Prop where
  few : σ.doms.length ≤ 4
  doms : ∀ d ∈ σ.doms, d.length ≤ 2000
  trail : σ.trail.length ≤ 1000
theorem domAt_mem {σ : Sto} {x : Nat} (h : x < σ.doms.length) : domAt σ x ∈ σ.doms := by
  unfold domAt; rw [List.getD_eq_getElem?_getD, List.getElem?_eq_getElem h]; exact List.getElem_mem _
include G K in
theorem c_strike {l : Lit} {rs : List Lit} (hσ : σ.Ok) (hx : l.x < σ.doms.length) (hw : rs.length ≤ 1000) :
    Cn b 5 (Xs A σ) (.ref 220) [.raw (.ref A.a), .dat (dL l), .dat (dR rs)] (fun d X' => d = .bool (enterF σ l (some rs)).2 ∧ X' = Xs A (enterF σ l (some rs)).1) := by
  refine cn_store ["self", "literal", "reasons"] K.f13 (fun c hW => ?_) (bind3 (by intros; rfl))
  exact go_cons (do_return (ef_store K [] [] hW (evn (d := .raw (.ref A.a))) K.m12 K.f12 (es3 (evn (d := .dat (dL l))) (g := .dat (dR rs)) (ecallT (ev_glob G.tuple) (es1 (evn (d := .dat (dR rs)))) fn_tupT) (at_speaker K (evn (d := .raw (.ref A.a))) xs_a xs_d)) (c_enter G K (why := some rs) hx hσ.few (hσ.doms _ (domAt_mem hx)) hw hσ.trail) fun d X' ⟨e1, e2⟩ => ⟨e1, by rw [e2, List.append_nil]; rfl⟩))
include G K in
theorem c_decide {l : Lit} (hσ : σ.Ok) (hx : l.x < σ.doms.length) :
    Cn b 5 (Xs A σ) (.ref 227) [.raw (.ref A.a), .dat (dL l)] (fun d X' => d = .bool (enterF σ l none).2 ∧ X' = Xs A (enterF σ l none).1) := by
  refine cn_store ["self", "literal"] K.f14 (fun c hW => ?_) (bind2 (by intros; rfl))
  exact go_cons (do_return (ef_store K [] [] hW (evn (d := .raw (.ref A.a))) K.m12 K.f12 (es3 (evn (d := .dat (dL l))) (g := .none) ev_none (ev_neg ev_int)) (c_enter G K (why := none) hx hσ.few (hσ.doms _ (domAt_mem hx)) (Nat.zero_le _) hσ.trail) fun d X' ⟨e1, e2⟩ => ⟨e1, by rw [e2, List.append_nil]; rfl⟩))
include G K in
theorem c_push (ht : σ.trail.length ≤ 1000) (hm : σ.marks.length ≤ 100) : Cn b 1 (Xs A σ) (.ref 241) [.raw (.ref A.a)] (fun d X' => d = .none ∧ X' = Xs A { σ with marks := σ.marks ++ [σ.trail.length] }) := by
  refine cn_store ["self"] K.f16 (fun c hW => ?_) (bind1 (by intros; rfl))
  have hl := fn_lenM (b := b) (n := 0) (a := A.lt) (xs := σ.trail.map dE) (by rw [List.length_map]; simp only [big]; omega)
  rw [List.length_map] at hl
  refine go_cons (do_expr (ef_append (d := .int σ.trail.length) [_, _, _, _, _] [_] rfl (at_marks K (evn (d := .raw (.ref A.a))) xs_a xs_d) (ev_call (ev_glob G.len) (evs_cons (at_trail K (evn (d := .raw (.ref A.a))) xs_a xs_d) evs_nil) ke_builtin hl (Nat.le_refl _) (sub_one xs_lt)) (by rw [List.length_map]; simp only [big]; omega) (ow_lm hW) ⟨trivial, go_nil ⟨rfl, ?_⟩⟩))
  simp only [Xs, List.map_append, List.map_cons, List.map_nil, List.cons_append, List.nil_append]
include G K in
theorem c_new_var {d : Dom} (hd : d ≠ []) (hf : σ.firsts.length = σ.doms.length) (h4 : σ.doms.length ≤ 100) : Cn b 1 (Xs A σ) (.ref 136) [.raw (.ref A.a), .dat (dD d)] (fun r X' => r = .int σ.doms.length ∧ X' = Xs A { σ with doms := σ.doms ++ [d], firsts := σ.firsts ++ [d] }) := by
  refine cn_store ["self", "domain"] K.f1 (fun c hW => ?_) (bind2 (by intros; rfl))
  refine go_cons (do_expr (ef_append (d := dD d) [_, _] [_, _, _, _] rfl (at_domains K (evn (d := .raw (.ref A.a))) xs_a xs_d) (evn (d := .dat (dD d))) (by rw [List.length_map]; simp only [big]; omega) (ow_ld hW) ⟨trivial, ?_⟩))
  refine go_cons (do_expr (ef_append (d := dD d) [_, _, _] [_, _, _] rfl (at_firsts K (evn (d := .raw (.ref A.a))) (f := σ.failed) (cl := σ.clash) (by simp) (by simp)) (evn (d := .dat (dD d))) (by rw [List.length_map]; simp only [big]; omega) (ow_lf hW) ⟨trivial, ?_⟩))
  refine go_cons (do_if (et_pure (tv_cmp (evn (d := .dat (dD d))) etup0 cmp_eqD0) (ite_of (fun h => absurd (of_decide_eq_true h) hd) fun _ => go_nil ?_)))
  have hl := fn_lenM (b := b) (n := 0) (a := A.ld) (xs := σ.doms.map dD ++ [dD d]) (by rw [List.length_append, List.length_map]; simp only [big, List.length_singleton]; omega)
  refine go_cons (do_return (ef_pure (ev_bin (ev_call (ev_glob G.len) (evs_cons (at_domains K (evn (d := .raw (.ref A.a))) (f := σ.failed) (cl := σ.clash) (by simp) (by simp)) evs_nil) ke_builtin hl (Nat.le_refl _) (sub_one (by simp))) ev_int bin_sub) ⟨?_, ?_⟩))
  · show D.int _ = _
    rw [List.length_append, List.length_map, List.length_singleton]
    congr 2; omega
  · simp only [Xs, List.map_append, List.map_cons, List.map_nil, List.cons_append, List.nil_append]
noncomputable def sto0 : Sto := ⟨[], [], [], [], false, []⟩
include G K in
theorem c_init {a dx : Addr} : Cc b 1 [.inst a 265 dx, .dict dx []] (.ref 129) [.raw (.ref a)] (fun d X' => d = .none ∧ ∃ A : Ad, A.a = a ∧ X' = Xs A sto0) := by
  refine cc_of ["self"] K.f0 (fun c hV hW => ?_) (bind1 (by intros; rfl))
  have hd : dx ∈ c.W ∨ c.s0.heap.get? dx = none := .inl (by rw [hW]; simp [MO.addr])
  refine go_cons (do_setA (ef_own (evF_list (ds := []) evs_nil) fun ld _ => ⟨a, 265, dx, _, [_, _], [], K.c, K.nD, evn (d := .raw (.ref a)), rfl, by simp, Nat.le_of_ble_eq_true rfl, hd, ?_⟩))
  refine go_cons (do_setA (ef_own (evF_list (ds := []) evs_nil) fun lf _ => ⟨a, 265, dx, _, [_, _, _], [], K.c, K.nF, evn (d := .raw (.ref a)), rfl, by simp, Nat.le_of_ble_eq_true rfl, hd, ?_⟩))
  refine go_cons (do_setA (ef_own (evF_list (ds := []) evs_nil) fun lt _ => ⟨a, 265, dx, _, [_, _, _, _], [], K.c, K.nT, evn (d := .raw (.ref a)), rfl, by simp, Nat.le_of_ble_eq_true rfl, hd, ?_⟩))
  refine go_cons (do_setA (ef_own (evF_list (ds := []) evs_nil) fun lm _ => ⟨a, 265, dx, _, [_, _, _, _, _], [], K.c, K.nM, evn (d := .raw (.ref a)), rfl, by simp, Nat.le_of_ble_eq_true rfl, hd, ?_⟩))
  refine go_cons (do_setA (ef_idict (m := 4) fun nw _ => ⟨a, 265, dx, _, [_, _, _, _, _, _], [], K.c, K.nN, evn (d := .raw (.ref a)), rfl, by simp, Nat.le_of_ble_eq_true rfl, hd, ?_⟩))
  refine go_cons (do_setA (ef_pure (ev_neg ev_int) ⟨a, 265, dx, _, [_, _, _, _, _, _], [], K.c, K.nS, evn (d := .raw (.ref a)), rfl, by simp, Nat.le_of_ble_eq_true rfl, hd, ?_⟩))
  refine go_cons (do_setA (ef_pure ev_bool ⟨a, 265, dx, _, [_, _, _, _, _, _], [], K.c, K.nI, evn (d := .raw (.ref a)), rfl, by simp, Nat.le_of_ble_eq_true rfl, hd, ?_⟩))
  refine go_cons (do_setA (ef_pure etup0 ⟨a, 265, dx, _, [_, _, _, _, _, _], [], K.c, K.nC, evn (d := .raw (.ref a)), rfl, by simp, Nat.le_of_ble_eq_true rfl, hd, ?_⟩))
  refine go_nil ⟨Xs ⟨a, dx, ld, lf, lt, lm, nw⟩ sto0, _, ?_, List.Sublist.refl _, rfl, ⟨a, dx, ld, lf, lt, lm, nw⟩, rfl, rfl⟩
  show List.Perm [MO.idict nw 4, .list lm [], .list lt [], .list lf [], .list ld [], .inst a 265 dx, .dict dx (flds ⟨a, dx, ld, lf, lt, lm, nw⟩ false [])] [.inst a 265 dx, .dict dx (flds ⟨a, dx, ld, lf, lt, lm, nw⟩ false []), .list ld [], .list lf [], .list lt [], .list lm [], .idict nw 4]
  exact (List.perm_append_comm (l₁ := [MO.idict nw 4, .list lm [], .list lt [], .list lf [], .list ld []])).trans (List.Perm.append_left _ (List.reverse_perm _).symm)
noncomputable def undoF (t : List Ent) (D : List Dom) : List Dom := t.foldr (fun e D => D.set e.x e.old) D
theorem undo_snoc (t : List Ent) (e : Ent) (D : List Dom) : undoF (t ++ [e]) D = undoF t (D.set e.x e.old) := by unfold undoF; rw [List.foldr_append]; rfl
theorem undo_len (t : List Ent) (D : List Dom) : (undoF t D).length = D.length := by
  induction t with
  | nil => rfl
  | cons e t ih => show ((undoF t D).set e.x e.old).length = _; rw [List.length_set, ih]
/-- the store when the last k levels are taken back -/
noncomputable def popF (σ : Sto) (k : Nat) : Sto :=
  let mark := (σ.marks.getD (σ.marks.length - k) 0)
  { σ with marks := σ.marks.take (σ.marks.length - k), trail := σ.trail.take mark, doms := undoF (σ.trail.drop mark) σ.doms, failed := false, clash := [] }
theorem seqN {k j : Nat} {i : Int} (h : i = (j : Int)) (hj : j < k) : seqIndex? i k = some j := by subst h; exact seqAt hj
theorem put_marks {f : Bool} {cl : List Lit} {l : Addr} : putKv "marks" (.raw (.ref l)) (flds A f cl) = flds { A with lm := l } f cl := by rfl
theorem put_news {f : Bool} {cl : List Lit} {l : Addr} : putKv "news" (.raw (.ref l)) (flds A f cl) = flds { A with nw := l } f cl := by rfl
include G K in
theorem c_pop {k : Nat} (hσ : σ.Ok) (h1 : 1 ≤ k) (h2 : k ≤ σ.marks.length) (h3 : σ.marks.length ≤ 100) (h4 : (σ.marks.getD (σ.marks.length - k) 0) ≤ σ.trail.length) (h5 : ∀ d ∈ σ.firsts, d ≠ []) (h6 : ∀ e ∈ σ.trail, e.x < σ.doms.length) (h7 : σ.firsts.length ≤ 100) :
    Cn b 1 (Xs A σ) (.ref 248) [.raw (.ref A.a), .int k] (fun d X' => d = .none ∧ ∃ A' : Ad, A'.a = A.a ∧ X' = Xs A' (popF σ k)) := by
  refine Cn.out (Q := fun d X' => d = .none ∧ ∃ A' : Ad, A'.a = A.a ∧ ∃ X2 l : List MO, l.Perm X2 ∧ l.Sublist X' ∧ X2 = Xs A' (popF σ k)) ?_ (fun d X1 ⟨e, A', ha, X2, l, p1, p2, e2⟩ => ⟨X2, l, p1, p2, e, A', ha, e2⟩)
  refine cn_store ["self", "n"] K.f17 (fun c hW => ?_) (bind2 (by intros; rfl))
  have hlm := fn_lenM (b := b) (n := 0) (a := A.lm) (xs := σ.marks.map fun m : Nat => .int m) (by rw [List.length_map]; simp only [big]; omega)
  rw [List.length_map] at hlm
  refine go_cons (do_if (et_pure (tv_cmp (evn (d := .int k)) ev_int cmp_lt) (ite_of (fun h => absurd (of_decide_eq_true h) (by omega)) fun _ => go_nil ?_)))
  generalize hj : σ.marks.length - k = j at h4
  have hjm : j < σ.marks.length := by omega
  generalize hmk : σ.marks.getD j 0 = mark at h4
  have hgm : (σ.marks.map fun m : Nat => PyData.int m)[j]? = some (.int mark) := by
    rw [List.getElem?_map, List.getElem?_eq_getElem hjm, ← hmk]; simp [hjm]
  have hk : D.int ((σ.marks.length : Int) - (k : Int)) = D.int (j : Int) := by rw [show (σ.marks.length : Int) - (k : Int) = (j : Int) by omega]
  refine go_cons (do_assign (ef_pure (ev_item (at_marks K (evn (d := .raw (.ref A.a))) xs_a xs_d) (ev_eq (ev_bin (ev_call (ev_glob G.len) (evs_cons (at_marks K (evn (d := .raw (.ref A.a))) xs_a xs_d) evs_nil) ke_builtin hlm (Nat.le_refl _) (sub_one xs_lm)) (evn (d := .int k)) bin_sub) hk) (itm_M xs_lm (by rw [List.length_map]; simp only [big]; omega) (seqAt (by rwa [List.length_map])) hgm)) ?_))
  refine go_cons (do_setA (ef_own (evF_slice (at_marks K (evn (d := .raw (.ref A.a))) xs_a xs_d) xs_lm (by rw [List.length_map]; simp only [big]; omega) part_none (part_some (ev_eq (ev_bin (ev_call (ev_glob G.len) (evs_cons (at_marks K (evn (d := .raw (.ref A.a))) xs_a xs_d) evs_nil) ke_builtin hlm (Nat.le_refl _) (sub_one xs_lm)) (evn (d := .int k)) bin_sub) hk))) fun lm' hl' => ⟨A.a, 265, A.dx, _, [_, _], _, K.c, K.nM, evn (d := .raw (.ref A.a)), rfl, by simp, flds_len, ow_dx hW, ?_⟩))
  rw [put_marks, cut_take _ (by rw [List.length_map]; omega), ← List.map_take]
  have hW1 : OwnS c { A with lm := lm' } := own7 (ow_a (A := A) hW) (ow_dx (A := A) hW) (ow_ld (A := A) hW) (ow_lf (A := A) hW) (ow_lt (A := A) hW) (.inr hl') (ow_nw (A := A) hW)
  generalize hA1 : { A with lm := lm' } = A1 at hW1
  have ha1 : A1.a = A.a := by rw [← hA1]
  refine go_re (X' := Xs A1 { σ with marks := σ.marks.take j }) ([.list lm' ((σ.marks.take j).map fun m : Nat => .int m), .inst A.a 265 A.dx, .dict A.dx (flds A1 σ.failed σ.clash), .list A.ld (σ.doms.map dD), .list A.lf (σ.firsts.map dD), .list A.lt (σ.trail.map dE), .idict A.nw 4]) ?_ ?_ ?_
  · subst hA1
    exact (List.perm_append_comm (l₁ := [MO.list lm' ((σ.marks.take j).map fun m : Nat => .int m)]) (l₂ := [_, _, _, _, _, _])).trans (List.Perm.append_left [_, _, _, _, _] (List.Perm.swap _ _ _))
  · subst hA1
    exact ((((((List.sublist_cons_self _ _).cons_cons _).cons_cons _).cons_cons _).cons_cons _).cons_cons _).cons_cons _
  refine go_join (fun ρ X => Has "self" (.raw (.ref A1.a)) ρ ∧ X = Xs A1 { σ with marks := σ.marks.take j, trail := σ.trail.take mark, doms := undoF (σ.trail.drop mark) σ.doms }) (do_while (fun m ρ X => Has "self" (.raw (.ref A1.a)) ρ ∧ Has "mark" (.int mark) ρ ∧ ∃ (T : List Ent) (D : List Dom), X = Xs A1 { σ with marks := σ.marks.take j, trail := T, doms := D } ∧ T.length = mark + m ∧ T.take mark = σ.trail.take mark ∧ undoF (T.drop mark) D = undoF (σ.trail.drop mark) σ.doms ∧ (∀ e ∈ T, e.x < D.length) ∧ T.length ≤ 1000 ∧ D.length ≤ 4) (σ.trail.length - mark) ⟨ha1 ▸ by trivial, by trivial, σ.trail, σ.doms, rfl, by omega, rfl, rfl, h6, hσ.trail, hσ.few⟩ ?_) ?_
  · rintro m ρ1 X1 ⟨hs, hm, T, D, rfl, hl, ht, hu, he, hz, hD⟩
    have hlt := fn_lenM (b := b) (n := 0) (a := A1.lt) (xs := T.map dE) (by rw [List.length_map]; simp only [big]; omega)
    rw [List.length_map] at hlt
    refine et_pure (tv_cmp (ev_call (ev_glob G.len) (evs_cons (at_trail K (evn (d := .raw (.ref A1.a))) (f := σ.failed) (cl := σ.clash) xs_a xs_d) evs_nil) ke_builtin hlt (Nat.le_refl _) (sub_one xs_lt)) (evn (d := .int mark)) cmp_gt) (ite_of (fun hc => ?_) fun hc => ?_)
    · have hc := of_decide_eq_true hc
      rcases List.eq_nil_or_concat T with rfl | ⟨T', e, rfl⟩
      · simp at hc; omega
      rw [List.concat_eq_append] at *
      have hl' : T'.length + 1 = mark + m := by simpa using hl
      have hT' : mark ≤ T'.length := by simp at hc; omega
      refine go_cons (do_assign (ef_meth (at_trail K (evn (d := .raw (.ref A1.a))) (f := σ.failed) (cl := σ.clash) xs_a xs_d) (gm_pop (a := A1.lt) (xs := (T' ++ [e]).map dE) xs_lt) ke_builtin (es_pure evs_nil (cl_cn [.inst A1.a 265 A1.dx, .dict A1.dx (flds A1 σ.failed σ.clash), .list A1.ld (D.map dD), .list A1.lf (σ.firsts.map dD)] [.list A1.lt (T'.map dE ++ [dE e])] [.list A1.lm ((σ.marks.take j).map fun m : Nat => .int m), .idict A1.nw 4] (cn_pop (by rw [List.length_map]; simp at hz; simp only [big]; omega) ?_) (Nat.le_refl _) (fun t ht => by rw [List.mem_singleton.mp ht]; exact ow_lt hW1) (by simp only [Xs, List.map_append]; rfl)))))
      have hex : e.x < D.length := he e (List.mem_append_right _ List.mem_cons_self)
      refine go_cons (do_setL (ef_pure (ev_item (evn (d := .dat (dE e))) ev_int (itm_tup (j := 1) rfl rfl)) ⟨A1.ld, dD e.old, rfl, at_domains K (evn (d := .raw (.ref A1.a))) (f := σ.failed) (cl := σ.clash) List.mem_cons_self (List.mem_cons_of_mem _ List.mem_cons_self), ef_pure (ev_item (evn (d := .dat (dE e))) ev_int (itm_tup (j := 0) rfl rfl)) ⟨[_, _], _, D.map dD, e.x, e.x, rfl, rfl, by rw [List.length_map]; simp only [big]; omega, seqAt (by rwa [List.length_map]), ow_ld hW1, ?_⟩⟩))
      refine go_nil ⟨m - 1, by omega, by trivial, by trivial, T', D.set e.x e.old, ?_, by omega, ?_, ?_, ?_, ?_, by rw [List.length_set]; exact hD⟩
      · simp only [Xs, List.map_set]; rfl
      · rw [← ht, List.take_append_of_le_length hT']
      · rw [← hu, List.drop_append_of_le_length hT', undo_snoc]
      · intro e' he'; rw [List.length_set]; exact he e' (List.mem_append_left _ he')
      · simp at hz; omega
    · have hc := of_decide_eq_false hc
      refine ⟨by trivial, ?_⟩
      have : T.length = mark := by omega
      rw [List.take_of_length_le (by omega)] at ht
      rw [List.drop_eq_nil_of_le (by omega)] at hu
      rw [ht, ← hu]; rfl
  rintro ρ1 X1 ⟨hs, rfl⟩
  refine go_cons (do_setA (ef_idict (m := 4) fun nw' hn' => ⟨A1.a, 265, A1.dx, flds A1 σ.failed σ.clash, [_, _], _, K.c, K.nN, evn (d := .raw (.ref A1.a)), rfl, by simp, flds_len, ow_dx hW1, ?_⟩))
  rw [put_news]
  have hW2 : OwnS c { A1 with nw := nw' } := own7 (ow_a (A := A1) hW1) (ow_dx (A := A1) hW1) (ow_ld (A := A1) hW1) (ow_lf (A := A1) hW1) (ow_lt (A := A1) hW1) (ow_lm (A := A1) hW1) (.inr hn')
  generalize hA2 : { A1 with nw := nw' } = A2 at hW2
  have ha2 : A2.a = A1.a := by rw [← hA2]
  have hs2 : Has "self" (.raw (.ref A2.a)) ρ1 := ha2 ▸ hs
  generalize hσ2 : ({ σ with marks := σ.marks.take j, trail := σ.trail.take mark, doms := undoF (σ.trail.drop mark) σ.doms } : Sto) = σ2
  have e1 : σ2.failed = σ.failed := by rw [← hσ2]
  have e2 : σ2.clash = σ.clash := by rw [← hσ2]
  have e3 : σ2.firsts = σ.firsts := by rw [← hσ2]
  refine go_re (X' := Xs A2 σ2) ([.idict nw' 4, .inst A1.a 265 A1.dx, .dict A1.dx (flds A2 σ.failed σ.clash), .list A1.ld (σ2.doms.map dD), .list A1.lf (σ2.firsts.map dD), .list A1.lt (σ2.trail.map dE), .list A1.lm (σ2.marks.map fun m : Nat => .int m)]) ?_ ?_ ?_
  · subst hA2
    rw [← e1, ← e2]
    exact List.perm_append_comm (l₁ := [MO.idict nw' 4]) (l₂ := [_, _, _, _, _, _])
  · subst hσ2
    exact (((((((List.nil_sublist _).cons_cons _).cons_cons _).cons_cons _).cons_cons _).cons_cons _).cons_cons _).cons_cons _
  have hany : ((σ2.firsts.map dD).any fun y => y.eqv (.tuple [])) = false := by
    rw [e3, List.any_map, List.any_eq_false]
    intro d hd h
    have := ((pnD d).eqv (pnD []) ).mp h
    exact h5 d hd (dD_inj this)
  refine go_cons (do_failed K hW2 (f := false) (evn (d := .raw (.ref A2.a))) (ev_eq (ev_inM (d := .tuple []) etup0 (at_firsts K (evn (d := .raw (.ref A2.a))) xs_a xs_d) xs_lf (by decide +kernel) (canAll fun x hx => by obtain ⟨d, _, rfl⟩ := List.mem_map.mp hx; exact (pnD d).can)) (by rw [hany])) ?_)
  refine go_cons (do_clash (σ := { σ2 with failed := false }) (rs := []) K hW2 (evn (d := .raw (.ref A2.a))) etup0 ?_)
  refine go_nil ⟨rfl, A2, ha2.trans ha1, _, _, List.Perm.refl _, List.Sublist.refl _, ?_⟩
  subst hσ2 hj hmk
  rfl
end

/-- strictly rising lists -/
noncomputable abbrev Srt (l : List Int) : Prop := l.Pairwise (· < ·)
theorem srt_eq : ∀ {l m : List Int}, Srt l → Srt m → (∀ v, v ∈ l ↔ v ∈ m) → l = m
  | [], [], _, _, _ => rfl
  | [], y :: m, _, _, h => absurd ((h y).mpr List.mem_cons_self) (by simp)
  | x :: l, [], _, _, h => absurd ((h x).mp List.mem_cons_self) (by simp)
  | x :: l, y :: m, h1, h2, h => by
    obtain ⟨a1, a2⟩ := List.pairwise_cons.mp h1
    obtain ⟨b1, b2⟩ := List.pairwise_cons.mp h2
    have e : x = y := by
      rcases List.mem_cons.mp ((h x).mp List.mem_cons_self) with e | hx
      · exact e
      · rcases List.mem_cons.mp ((h y).mpr List.mem_cons_self) with e | hy
        · exact e.symm
        · have := b1 x hx; have := a1 y hy; omega
    subst e
    rw [srt_eq a2 b2 fun v => ⟨fun hv => ?_, fun hv => ?_⟩]
    · rcases List.mem_cons.mp ((h v).mp (List.mem_cons_of_mem _ hv)) with e | q
      · have := a1 v hv; omega
      · exact q
    · rcases List.mem_cons.mp ((h v).mpr (List.mem_cons_of_mem _ hv)) with e | q
      · have := b1 v hv; omega
      · exact q
theorem mem_values {d : Dom} {v : Int} : v ∈ valuesOf d ↔ ∃ p ∈ d, p.1 ≤ v ∧ v ≤ p.2 := by
  unfold valuesOf
  simp only [List.mem_flatMap, mem_nums]
  constructor
  · rintro ⟨p, hp, h1, h2⟩; exact ⟨p, hp, h1, by omega⟩
  · rintro ⟨p, hp, h1, h2⟩; exact ⟨p, hp, h1, by omega⟩
theorem Dk.ge {m : Int} : ∀ {d : Dom}, Dk m d → ∀ p ∈ d, m ≤ p.1 ∧ p.1 ≤ p.2
  | (l, h) :: r, k, p, hp => by
    obtain ⟨h1, h2, h3, h4⟩ := k
    rcases List.mem_cons.mp hp with rfl | hp
    · exact ⟨h1, h2⟩
    · have := Dk.ge h4 p hp; omega
theorem Dk.vge {m : Int} {d : Dom} (h : Dk m d) : ∀ v ∈ valuesOf d, m ≤ v := fun v hv => by
  obtain ⟨p, hp, h1, h2⟩ := mem_values.mp hv
  have := h.ge p hp; omega
theorem srt_nums (a c : Int) : Srt (nums a c) := by
  unfold nums Srt
  rw [List.pairwise_map]
  exact List.pairwise_lt_range.imp fun h => by omega
theorem Dk.srt {m : Int} : ∀ {d : Dom}, Dk m d → Srt (valuesOf d)
  | [], _ => List.Pairwise.nil
  | (l, h) :: r, k => by
    obtain ⟨h1, h2, h3, h4⟩ := k
    show Srt (nums l (h + 1) ++ valuesOf r)
    unfold Srt
    rw [List.pairwise_append]
    exact ⟨srt_nums _ _, h4.srt, fun a ha c hc => by have := h4.vge c hc; have := mem_nums.mp ha; omega⟩
theorem Dk.inj {m : Int} : ∀ {d e : Dom}, Dk m d → Dk m e → (∀ v, v ∈ valuesOf d ↔ v ∈ valuesOf e) → d = e
  | [], [], _, _, _ => rfl
  | [], (l, h) :: r, _, k, q => absurd ((q l).mpr (mem_values.mpr ⟨(l, h), List.mem_cons_self, Int.le_refl _, k.2.1⟩)) (by simp [valuesOf])
  | (l, h) :: r, [], k, _, q => absurd ((q l).mp (mem_values.mpr ⟨(l, h), List.mem_cons_self, Int.le_refl _, k.2.1⟩)) (by simp [valuesOf])
  | (l, h) :: r, (l', h') :: r', k, k', q => by
    obtain ⟨a1, a2, a3, a4⟩ := k
    obtain ⟨b1, b2, b3, b4⟩ := k'
    have in1 : ∀ v, v ∈ valuesOf ((l, h) :: r) ↔ (l ≤ v ∧ v ≤ h) ∨ v ∈ valuesOf r := fun v => by
      show v ∈ nums l (h + 1) ++ valuesOf r ↔ _
      rw [List.mem_append, mem_nums]
      constructor
      · rintro (c | c)
        · exact .inl (by omega)
        · exact .inr c
      · rintro (c | c)
        · exact .inl (by omega)
        · exact .inr c
    have in2 : ∀ v, v ∈ valuesOf ((l', h') :: r') ↔ (l' ≤ v ∧ v ≤ h') ∨ v ∈ valuesOf r' := fun v => by
      show v ∈ nums l' (h' + 1) ++ valuesOf r' ↔ _
      rw [List.mem_append, mem_nums]
      constructor
      · rintro (c | c)
        · exact .inl (by omega)
        · exact .inr c
      · rintro (c | c)
        · exact .inl (by omega)
        · exact .inr c
    have g1 := a4.vge
    have g2 := b4.vge
    have el : l = l' := by
      have c1 := (in2 l).mp ((q l).mp ((in1 l).mpr (.inl (by omega))))
      have c2 := (in1 l').mp ((q l').mpr ((in2 l').mpr (.inl (by omega))))
      have d1 : l' ≤ l := c1.elim (fun c => c.1) fun c => by have := g2 _ c; omega
      have d2 : l ≤ l' := c2.elim (fun c => c.1) fun c => by have := g1 _ c; omega
      omega
    subst el
    have eh : h = h' := by
      have d1 : ¬ h < h' := fun c => by
        have := (in1 (h + 1)).mp ((q (h + 1)).mpr ((in2 (h + 1)).mpr (.inl (by omega))))
        rcases this with t | t
        · omega
        · have := g1 _ t; omega
      have d2 : ¬ h' < h := fun c => by
        have := (in2 (h' + 1)).mp ((q (h' + 1)).mp ((in1 (h' + 1)).mpr (.inl (by omega))))
        rcases this with t | t
        · omega
        · have := g2 _ t; omega
      omega
    subst eh
    rw [Dk.inj a4 b4 fun v => ⟨fun hv => ?_, fun hv => ?_⟩]
    · rcases (in2 v).mp ((q v).mp ((in1 v).mpr (.inr hv))) with t | t
      · have := g1 _ hv; omega
      · exact t
    · rcases (in1 v).mp ((q v).mpr ((in2 v).mpr (.inr hv))) with t | t
      · have := g2 _ hv; omega
      · exact t
theorem upTo_none {m k : Int} : ∀ {d : Dom}, Dk m d → k < m → upTo d k = []
  | [], _, _ => rfl
  | (l, h) :: r, q, hk => by
    obtain ⟨a1, a2, a3, a4⟩ := q
    unfold upTo
    rw [List.flatMap_cons, if_neg (by dsimp only; omega)]
    exact upTo_none a4 (by omega)
theorem upTo_ok {m k : Int} : ∀ {d : Dom}, Dk m d → Dk m (upTo d k)
  | [], _ => trivial
  | (l, h) :: r, q => by
    obtain ⟨a1, a2, a3, a4⟩ := q
    unfold upTo
    rw [List.flatMap_cons]
    dsimp only
    by_cases c : l ≤ k
    · rw [if_pos c]
      refine ⟨a1, by omega, by omega, ?_⟩
      by_cases c2 : h ≤ k
      · rw [Int.min_eq_left c2]; exact upTo_ok a4
      · have : upTo r k = [] := upTo_none a4 (by omega)
        unfold upTo at this
        show Dk _ (r.flatMap _)
        rw [this]; trivial
    · rw [if_neg c]
      have : upTo r k = [] := upTo_none a4 (by omega)
      unfold upTo at this
      show Dk _ ([] ++ r.flatMap _)
      rw [this]; trivial
theorem fromOn_ok {m k : Int} : ∀ {d : Dom}, Dk m d → Dk (max m k) (fromOn d k)
  | [], _ => trivial
  | (l, h) :: r, q => by
    obtain ⟨a1, a2, a3, a4⟩ := q
    unfold fromOn
    rw [List.flatMap_cons]
    dsimp only
    have ih := fromOn_ok (k := k) a4
    unfold fromOn at ih
    by_cases c : h ≥ k
    · rw [if_pos c]
      refine ⟨by omega, by omega, a3, ?_⟩
      exact Dk.mono ih (by omega)
    · rw [if_neg c]
      exact Dk.mono ih (by omega)
theorem meet1_ok {m k : Int} : ∀ {d : Dom}, Dk m d → Dk m (meet1 d k)
  | [], _ => trivial
  | (l, h) :: r, q => by
    obtain ⟨a1, a2, a3, a4⟩ := q
    unfold meet1
    by_cases c : max l k ≤ min h k
    · rw [if_pos c, if_neg (by omega)]
      exact ⟨by omega, by omega, by omega, trivial⟩
    · rw [if_neg c]
      split
      · exact Dk.mono (meet1_ok a4) (by omega)
      · trivial
theorem dk_app {m k : Int} : ∀ {a c : Dom}, Dk m a → (∀ p ∈ a, p.2 + 2 ≤ k) → m ≤ k → Dk k c → Dk m (a ++ c)
  | [], c, _, _, hk, hc => hc.mono hk
  | (l, h) :: r, c, q, hp, _, hc => by
    obtain ⟨a1, a2, a3, a4⟩ := q
    have := hp (l, h) List.mem_cons_self
    exact ⟨a1, a2, a3, dk_app a4 (fun p hp' => hp p (List.mem_cons_of_mem _ hp')) this hc⟩
theorem without_ok {d : Dom} {v : Int} (h : DomOk d) : DomOk (withoutF d v) := by
  unfold withoutF
  by_cases c : -1000 ≤ v + 1
  · refine dk_app (k := v + 1) (upTo_ok h) (fun p hp => ?_) c ((fromOn_ok h).mono (by omega))
    unfold upTo at hp
    obtain ⟨q, hq, hp⟩ := List.mem_flatMap.mp hp
    split at hp
    · rw [List.mem_singleton.mp hp]; dsimp only; omega
    · cases hp
  · rw [upTo_none h (by omega)]
    exact (fromOn_ok h).mono (by omega)
theorem struck_ok {l : Lit} {d : Dom} (h : DomOk d) : DomOk (struckF l d) := by
  unfold struckF
  split
  · exact upTo_ok h
  · exact (fromOn_ok h).mono (by omega)
  · exact meet1_ok h
  · exact without_ok h
theorem mem_upTo {d : Dom} {k v : Int} : v ∈ valuesOf (upTo d k) ↔ v ∈ valuesOf d ∧ v ≤ k := by
  rw [mem_values, mem_values]
  unfold upTo
  constructor
  · rintro ⟨p, hp, h1, h2⟩
    obtain ⟨q, hq, hp⟩ := List.mem_flatMap.mp hp
    split at hp
    · rw [List.mem_singleton.mp hp] at h1 h2
      exact ⟨⟨q, hq, h1, by dsimp only at h2; omega⟩, by dsimp only at h2; omega⟩
    · cases hp
  · rintro ⟨⟨p, hp, h1, h2⟩, h3⟩
    exact ⟨(p.1, min p.2 k), List.mem_flatMap.mpr ⟨p, hp, by rw [if_pos (by omega)]; exact List.mem_singleton.mpr rfl⟩, h1, by dsimp only; omega⟩
theorem mem_fromOn {d : Dom} {k v : Int} : v ∈ valuesOf (fromOn d k) ↔ v ∈ valuesOf d ∧ v ≥ k := by
  rw [mem_values, mem_values]
  unfold fromOn
  constructor
  · rintro ⟨p, hp, h1, h2⟩
    obtain ⟨q, hq, hp⟩ := List.mem_flatMap.mp hp
    split at hp
    · rw [List.mem_singleton.mp hp] at h1 h2
      exact ⟨⟨q, hq, by dsimp only at h1; omega, h2⟩, by dsimp only at h1; omega⟩
    · cases hp
  · rintro ⟨⟨p, hp, h1, h2⟩, h3⟩
    exact ⟨(max p.1 k, p.2), List.mem_flatMap.mpr ⟨p, hp, by rw [if_pos (by omega)]; exact List.mem_singleton.mpr rfl⟩, by dsimp only; omega, h2⟩
theorem mem_meet1 {m k v : Int} : ∀ {d : Dom}, Dk m d → (v ∈ valuesOf (meet1 d k) ↔ v ∈ valuesOf d ∧ v = k)
  | [], _ => by simp [meet1, valuesOf]
  | (l, h) :: r, q => by
    obtain ⟨a1, a2, a3, a4⟩ := q
    have ih := mem_meet1 (v := v) (k := k) a4
    have g := a4.vge
    unfold meet1
    rw [values_app, List.mem_append, show (l, h) :: r = [(l, h)] ++ r from rfl, values_app, List.mem_append]
    have one : ∀ a c : Int, v ∈ valuesOf [(a, c)] ↔ a ≤ v ∧ v ≤ c := fun a c => by rw [mem_values]; simp
    rw [one]
    by_cases c : max l k ≤ min h k
    · rw [if_pos c, if_neg (by omega), one]
      constructor
      · rintro (t | t)
        · exact ⟨.inl (by omega), by omega⟩
        · simp [valuesOf] at t
      · rintro ⟨t, e⟩; exact .inl (by omega)
    · rw [if_neg c]
      split
      · rw [ih]
        constructor
        · rintro (t | t)
          · simp [valuesOf] at t
          · exact ⟨.inr t.1, t.2⟩
        · rintro ⟨t | t, e⟩
          · omega
          · exact .inr ⟨t, e⟩
      · constructor
        · rintro (t | t) <;> simp [valuesOf] at t
        · rintro ⟨t | t, e⟩
          · omega
          · have := g v t; omega
theorem mem_struck {l : Lit} {d : Dom} {v : Int} (h : DomOk d) : v ∈ valuesOf (struckF l d) ↔ v ∈ valuesOf d ∧ saysF l v = true := by
  obtain ⟨x, sg, k⟩ := l
  unfold struckF saysF
  cases sg <;> dsimp only
  · rw [mem_upTo, decide_eq_true_iff]
  · rw [mem_fromOn, decide_eq_true_iff]
  · rw [mem_meet1 h, beq_iff_eq]
  · unfold withoutF
    rw [values_app, List.mem_append, mem_upTo, mem_fromOn]
    simp only [Bool.not_eq_true', beq_eq_false_iff_ne, ne_eq]
    constructor
    · rintro (⟨a, c⟩ | ⟨a, c⟩)
      · exact ⟨a, by omega⟩
      · exact ⟨a, by omega⟩
    · rintro ⟨a, c⟩
      by_cases q : v ≤ k - 1
      · exact .inl ⟨a, q⟩
      · exact .inr ⟨a, by omega⟩
theorem struck_values {l : Lit} {d : Dom} (h : DomOk d) : valuesOf (struckF l d) = (valuesOf d).filter (saysF l) :=
  srt_eq (struck_ok h).srt (h.srt.filter _) fun v => by rw [mem_struck h, List.mem_filter]
theorem values_nil {m : Int} {d : Dom} (h : Dk m d) : d = [] ↔ valuesOf d = [] := by
  constructor
  · rintro rfl; rfl
  · intro q
    cases d with
    | nil => rfl
    | cons p r =>
      have : p.1 ∈ valuesOf (p :: r) := mem_values.mpr ⟨p, List.mem_cons_self, Int.le_refl _, (h.ge p List.mem_cons_self).2⟩
      rw [q] at this; cases this
theorem dom_eq {d e : Dom} (h : DomOk d) (k : DomOk e) : d = e ↔ valuesOf d = valuesOf e := ⟨fun q => q ▸ rfl, fun q => h.inj k fun v => by rw [q]⟩
theorem least_ok {m : Int} {d : Dom} (h : Dk m d) (hn : d ≠ []) : leastOf d ∈ valuesOf d ∧ ∀ v ∈ valuesOf d, leastOf d ≤ v := by
  cases d with
  | nil => exact absurd rfl hn
  | cons p r =>
    obtain ⟨l, i⟩ := p
    obtain ⟨a1, a2, a3, a4⟩ := id h
    have e : leastOf ((l, i) :: r) = l := rfl
    rw [e]
    refine ⟨mem_values.mpr ⟨_, List.mem_cons_self, Int.le_refl _, a2⟩, fun v hv => ?_⟩
    obtain ⟨p, hp, h1, h2⟩ := mem_values.mp hv
    rcases List.mem_cons.mp hp with rfl | hp
    · exact h1
    · have := a4.ge p hp; omega
theorem greatest_ok {m : Int} : ∀ {d : Dom}, Dk m d → d ≠ [] → greatestOf d ∈ valuesOf d ∧ ∀ v ∈ valuesOf d, v ≤ greatestOf d
  | [], _, hn => absurd rfl hn
  | [(l, i)], h, _ => by
    obtain ⟨a1, a2, a3, a4⟩ := id h
    have e : greatestOf [(l, i)] = i := rfl
    rw [e]
    refine ⟨mem_values.mpr ⟨_, List.mem_cons_self, a2, Int.le_refl _⟩, fun v hv => ?_⟩
    obtain ⟨p, hp, h1, h2⟩ := mem_values.mp hv
    rw [List.mem_singleton.mp hp] at h2; exact h2
  | (l, i) :: q :: r, h, _ => by
    obtain ⟨a1, a2, a3, a4⟩ := id h
    obtain ⟨g1, g2⟩ := greatest_ok a4 (List.cons_ne_nil _ _)
    have e : greatestOf ((l, i) :: q :: r) = greatestOf (q :: r) := by unfold greatestOf; rw [List.getLast?_cons_cons]
    have hm : ∀ v, v ∈ valuesOf ((l, i) :: q :: r) ↔ (l ≤ v ∧ v ≤ i) ∨ v ∈ valuesOf (q :: r) := fun v => by
      show v ∈ nums l (i + 1) ++ valuesOf (q :: r) ↔ _
      rw [List.mem_append, mem_nums]
      constructor
      · rintro (c | c)
        · exact .inl (by omega)
        · exact .inr c
      · rintro (c | c)
        · exact .inl (by omega)
        · exact .inr c
    rw [e]
    refine ⟨(hm _).mpr (.inr g1), fun v hv => ?_⟩
    rcases (hm v).mp hv with c | c
    · have := a4.vge _ g1; omega
    · exact g2 v c
theorem at0_srt {l : List Int} {m : Int} (h : Srt l) (hm : m ∈ l) (hl : ∀ v ∈ l, m ≤ v) : atI l 0 = m := by
  cases l with
  | nil => cases hm
  | cons x r =>
    show x = m
    have h1 := hl x List.mem_cons_self
    rcases List.mem_cons.mp hm with e | q
    · exact e.symm
    · have := (List.pairwise_cons.mp h).1 m q; omega
theorem last_srt {l : List Int} {m : Int} (h : Srt l) (hm : m ∈ l) (hl : ∀ v ∈ l, v ≤ m) : lastI l = m := by
  have hne : l ≠ [] := fun e => by rw [e] at hm; cases hm
  have h1 := hl _ (lastI_mem hne)
  rcases List.eq_nil_or_concat l with rfl | ⟨r, x, rfl⟩
  · cases hm
  rw [List.concat_eq_append] at *
  have e : lastI (r ++ [x]) = x := by unfold lastI; simp
  rw [e] at h1 ⊢
  rcases List.mem_append.mp hm with q | q
  · have := (List.pairwise_append.mp h).2.2 m q x List.mem_cons_self; omega
  · exact (List.mem_singleton.mp q).symm
theorem has_ok {m v : Int} : ∀ {d : Dom}, Dk m d → ((nextFrom d v == some v) = true ↔ v ∈ valuesOf d)
  | [], _ => by simp [nextFrom, valuesOf]
  | (l, h) :: r, q => by
    obtain ⟨a1, a2, a3, a4⟩ := q
    have ih := has_ok (v := v) a4
    have g := a4.vge
    have hm : v ∈ valuesOf ((l, h) :: r) ↔ (l ≤ v ∧ v ≤ h) ∨ v ∈ valuesOf r := by
      show v ∈ nums l (h + 1) ++ valuesOf r ↔ _
      rw [List.mem_append, mem_nums]
      constructor
      · rintro (c | c)
        · exact .inl (by omega)
        · exact .inr c
      · rintro (c | c)
        · exact .inl (by omega)
        · exact .inr c
    unfold nextFrom
    rw [hm]
    split
    · rename_i c
      rw [beq_iff_eq, Option.some_inj]
      constructor
      · intro e; exact .inl (by omega)
      · rintro (t | t)
        · omega
        · have := g v t; omega
    · rename_i c
      rw [ih]
      constructor
      · exact .inr
      · rintro (t | t)
        · omega
        · exact t

noncomputable abbrev lists (σ : Sto) : List (List Int) := σ.doms.map valuesOf
noncomputable abbrev valsAt (σ : Sto) (x : Nat) : List Int := valuesOf (domAt σ x)
noncomputable def msr (D : List Dom) : Nat := (D.map fun d => (valuesOf d).length).sum
theorem atL_lists {σ : Sto} (x : Nat) : atL (lists σ) x = valsAt σ x := by
  unfold atL valsAt domAt lists
  rw [List.getD_eq_getElem?_getD, List.getD_eq_getElem?_getD, List.getElem?_map]
  cases σ.doms[x]? <;> rfl
theorem filt_nil {α : Type} {p : α → Bool} {l : List α} : (l.filter fun a => !p a).isEmpty = true ↔ ∀ a ∈ l, p a = true := by
  rw [List.isEmpty_iff, List.filter_eq_nil_iff]
  simp
theorem doHold_iff {rs : List Lit} {ls : List (List Int)} : doHold rs ls = true ↔ ∀ r ∈ rs, ∀ v ∈ atL ls r.x, saysF r v = true := by
  unfold doHold
  rw [filt_nil]
  simp only [filt_nil]
theorem areKept_iff {rs : List Lit} {w : List Int} : areKept rs w = true ↔ ∀ r ∈ rs, saysF r (atI w r.x) = true := by unfold areKept; rw [filt_nil]
theorem isIn_iff {w : List Int} {ls : List (List Int)} : isIn w ls = true ↔ ∀ i, i < ls.length → atI w i ∈ atL ls i := by
  unfold isIn
  rw [filt_nil]
  simp
noncomputable def InS (w : List Int) (σ : Sto) : Prop := ∀ i, i < σ.doms.length → atI w i ∈ valsAt σ i
theorem inS_iff {w : List Int} {σ : Sto} : isIn w (lists σ) = true ↔ InS w σ := by
  rw [isIn_iff, List.length_map]
  constructor
  · intro h i hi; rw [← atL_lists]; exact h i hi
  · intro h i hi; rw [atL_lists]; exact h i hi
theorem says_neg (l : Lit) (v : Int) : saysF (negF l) v = !saysF l v := by
  obtain ⟨x, s, k⟩ := l
  cases s
  · show decide (v ≥ k + 1) = !decide (v ≤ k)
    by_cases h : v ≤ k
    · rw [decide_eq_true h, decide_eq_false (by omega)]; rfl
    · rw [decide_eq_false h, decide_eq_true (by omega)]; rfl
  · show decide (v ≤ k - 1) = !decide (v ≥ k)
    by_cases h : v ≥ k
    · rw [decide_eq_true h, decide_eq_false (by omega)]; rfl
    · rw [decide_eq_false h, decide_eq_true (by omega)]; rfl
  · rfl
  · show (v == k) = !!(v == k); simp
theorem neg_x (l : Lit) : (negF l).x = l.x := by obtain ⟨x, s, k⟩ := l; cases s <;> rfl
theorem dom_len_le {m : Int} : ∀ {d : Dom}, Dk m d → d.length ≤ (valuesOf d).length
  | [], _ => Nat.zero_le _
  | (l, h) :: r, q => by
    obtain ⟨a1, a2, a3, a4⟩ := q
    have := dom_len_le a4
    show r.length + 1 ≤ (nums l (h + 1) ++ valuesOf r).length
    rw [List.length_append, nums_length]; omega
theorem msr_set {D : List Dom} {x : Nat} {d : Dom} (h : x < D.length) : msr (D.set x d) + (valuesOf (D.getD x [])).length = msr D + (valuesOf d).length := by
  unfold msr
  induction D generalizing x with
  | nil => cases h
  | cons e r ih =>
    cases x with
    | zero => simp only [List.set_cons_zero, List.map_cons, List.sum_cons, List.getD_cons_zero]; omega
    | succ x =>
      have := ih (x := x) (by simpa using h)
      simp only [List.set_cons_succ, List.map_cons, List.sum_cons, List.getD_cons_succ]; omega
theorem msr_ge {D : List Dom} {x : Nat} (h : x < D.length) : (valuesOf (D.getD x [])).length ≤ msr D := by
  unfold msr
  induction D generalizing x with
  | nil => cases h
  | cons e r ih =>
    cases x with
    | zero => simp only [List.map_cons, List.sum_cons, List.getD_cons_zero]; omega
    | succ x =>
      have := ih (x := x) (by simpa using h)
      simp only [List.map_cons, List.sum_cons, List.getD_cons_succ]; omega
/-- what stays so of a store -/
structure Inv (σ : Sto) : Prop where
  few : σ.doms.length ≤ 4
  flen : σ.firsts.length = σ.doms.length
  fok : ∀ d ∈ σ.firsts, DomOk d ∧ d ≠ [] ∧ (valuesOf d).length ≤ 4 ∧ ∀ v ∈ valuesOf d, -4 ≤ v ∧ v ≤ 4
  dok : ∀ d ∈ σ.doms, DomOk d ∧ d ≠ []
  sub : ∀ i, i < σ.doms.length → ∀ v ∈ valsAt σ i, v ∈ valuesOf (σ.firsts.getD i [])
  ent : ∀ e ∈ σ.trail, e.x < σ.doms.length
  cap : σ.trail.length + msr σ.doms ≤ 16
theorem Inv.vals {σ : Sto} (h : Inv σ) {i : Nat} (hi : i < σ.doms.length) : ∀ v ∈ valsAt σ i, -4 ≤ v ∧ v ≤ 4 := fun v hv => by
  have := h.sub i hi v hv
  have hm : σ.firsts.getD i [] ∈ σ.firsts := by
    rw [List.getD_eq_getElem?_getD, List.getElem?_eq_getElem (by rw [h.flen]; exact hi)]; exact List.getElem_mem _
  exact (h.fok _ hm).2.2.2 v this
theorem Inv.dk {σ : Sto} (h : Inv σ) {i : Nat} (hi : i < σ.doms.length) : DomOk (domAt σ i) ∧ domAt σ i ≠ [] := h.dok _ (domAt_mem hi)
theorem Inv.ok {σ : Sto} (h : Inv σ) : σ.Ok := ⟨h.few, fun d hd => by
  obtain ⟨i, hi, e⟩ := List.getElem_of_mem hd
  have h1 := dom_len_le (h.dok d hd).1
  have h2 := msr_ge (D := σ.doms) hi
  have h3 := h.cap
  have e' : σ.doms.getD i [] = d := by rw [List.getD_eq_getElem?_getD, List.getElem?_eq_getElem hi]; exact e
  rw [e'] at h2; omega, by have := h.cap; omega⟩
theorem Inv.lsok {σ : Sto} (h : Inv σ) : LsOk (lists σ) := ⟨by rw [List.length_map]; exact h.few, fun l hl => by
  obtain ⟨d, hd, rfl⟩ := List.mem_map.mp hl
  obtain ⟨i, hi, e⟩ := List.getElem_of_mem hd
  have e' : domAt σ i = d := by unfold domAt; rw [List.getD_eq_getElem?_getD, List.getElem?_eq_getElem hi]; exact e
  obtain ⟨k1, k2⟩ := h.dok d hd
  have hv := h.vals hi
  unfold valsAt at hv
  rw [e'] at hv
  refine ⟨?_, fun q => k2 ((values_nil k1).mpr q), hv⟩
  have : ((valuesOf d).length) ≤ 9 := by
    have hs := k1.srt
    have : ((valuesOf d).map (fun v => v + 4)).length ≤ 9 := nodup_len (m := 9) (by
      unfold List.Nodup
      rw [List.pairwise_map]
      exact hs.imp fun h => by omega) fun x hx => by
        obtain ⟨v, hv', rfl⟩ := List.mem_map.mp hx
        have := hv v hv'; omega
    simpa using this
  omega⟩
/-- why a failure is one -/
structure Bad (S : List (List Int)) (σ : Sto) : Prop where
  none : ∀ w ∈ S, ¬ InS w σ
  cannot : ∀ w ∈ S, areKept σ.clash w = false
  hold : doHold σ.clash (lists σ) = true
  x : ∀ l ∈ σ.clash, l.x < σ.doms.length
  few : σ.clash.length ≤ 100
/-- a run of strikes, each with reasons that hold then and are enough for the rows S -/
structure Run (S : List (List Int)) (V : Nat → Prop) (σ σ' : Sto) : Prop where
  firsts : σ'.firsts = σ.firsts
  marks : σ'.marks = σ.marks
  len : σ'.doms.length = σ.doms.length
  ent : ∃ t, σ'.trail = σ.trail ++ t ∧ (∀ e ∈ t, EntOk σ.doms.length e) ∧ behindF S t (lists σ) = some (lists σ') ∧ undoF t σ'.doms = σ.doms ∧ msr σ'.doms + t.length ≤ msr σ.doms
  off : ∀ x, ¬ V x → domAt σ' x = domAt σ x
  keep : ∀ w ∈ S, InS w σ → InS w σ'
  shr : ∀ i, ∀ v ∈ valsAt σ' i, v ∈ valsAt σ i
  bad : σ'.failed = true → Bad S σ'
theorem Run.refl {S : List (List Int)} {V : Nat → Prop} {σ : Sto} (h : σ.failed = false) : Run S V σ σ := ⟨rfl, rfl, rfl, ⟨[], by simp, (fun _ h => nomatch h), rfl, rfl, Nat.le_refl _⟩, fun _ _ => rfl, fun _ _ h => h, fun _ _ h => h, fun q => by rw [h] at q; cases q⟩
theorem behind_app {S : List (List Int)} : ∀ {t u : List Ent} {L M : List (List Int)}, behindF S t L = some M → behindF S (t ++ u) L = behindF S u M
  | [], u, L, M, h => by cases h; rfl
  | e :: t, u, L, M, h => by
    show (match behind1 S L e with | none => none | some ls' => behindF S (t ++ u) ls') = _
    have h' : (match behind1 S L e with | none => none | some ls' => behindF S t ls') = some M := h
    cases q : behind1 S L e with
    | none => rw [q] at h'; cases h'
    | some ls' => rw [q] at h'; exact behind_app h'
theorem undo_app (t u : List Ent) (D : List Dom) : undoF (t ++ u) D = undoF t (undoF u D) := by unfold undoF; rw [List.foldr_append]
theorem Run.trans {S : List (List Int)} {V : Nat → Prop} {σ σ1 σ2 : Sto} (a : Run S V σ σ1) (c : Run S V σ1 σ2) : Run S V σ σ2 := by
  obtain ⟨t, t1, t2, t3, t4, t5⟩ := a.ent
  obtain ⟨u, u1, u2, u3, u4, u5⟩ := c.ent
  refine ⟨c.firsts.trans a.firsts, c.marks.trans a.marks, c.len.trans a.len, ⟨t ++ u, by rw [u1, t1, List.append_assoc], fun e he => ?_, by rw [behind_app t3, u3], by rw [undo_app, u4, t4], by rw [List.length_append]; omega⟩, fun x hx => (c.off x hx).trans (a.off x hx), fun w hw h => c.keep w hw (a.keep w hw h), fun i v hv => a.shr i v (c.shr i v hv), c.bad⟩
  rcases List.mem_append.mp he with h | h
  · exact t2 e h
  · rw [← a.len]; exact u2 e h
theorem Run.inv {S : List (List Int)} {V : Nat → Prop} {σ σ' : Sto} (a : Run S V σ σ') (h : Inv σ) (hd : ∀ d ∈ σ'.doms, DomOk d ∧ d ≠ []) : Inv σ' := by
  obtain ⟨t, t1, t2, t3, t4, t5⟩ := a.ent
  refine ⟨by rw [a.len]; exact h.few, by rw [a.firsts, a.len]; exact h.flen, by rw [a.firsts]; exact h.fok, hd, fun i hi v hv => ?_, fun e he => ?_, ?_⟩
  · rw [a.firsts]; exact h.sub i (by rw [← a.len]; exact hi) v (a.shr i v hv)
  · rw [a.len]
    rw [t1] at he
    rcases List.mem_append.mp he with q | q
    · exact h.ent e q
    · exact (t2 e q).x
  · rw [t1, List.length_append]; have := h.cap; omega
/-- nothing was struck -/
theorem Run.same {S : List (List Int)} {V : Nat → Prop} {σ σ' : Sto} (a : Run S V σ σ') (h : σ'.trail.length = σ.trail.length) : σ'.doms = σ.doms := by
  obtain ⟨t, t1, t2, t3, t4, t5⟩ := a.ent
  rw [t1, List.length_append] at h
  obtain rfl : t = [] := List.eq_nil_of_length_eq_zero (by omega)
  exact t4
theorem Run.more {S : List (List Int)} {V : Nat → Prop} {σ σ' : Sto} (a : Run S V σ σ') : σ.trail.length ≤ σ'.trail.length := by
  obtain ⟨t, t1, -⟩ := a.ent
  rw [t1, List.length_append]; omega
theorem Run.back {S : List (List Int)} {V : Nat → Prop} {σ σ' : Sto} (a : Run S V σ σ') (h : σ'.doms = σ.doms) : σ'.trail.length = σ.trail.length := by
  obtain ⟨t, t1, t2, t3, t4, t5⟩ := a.ent
  rw [h] at t5
  rw [t1, List.length_append]; omega
/-- one strike -/
structure Hit (S : List (List Int)) (V : Nat → Prop) (l : Lit) (σ σ' : Sto) (r : Bool) : Prop where
  run : Run S V σ σ'
  inv : Inv σ'
  res : r = !σ'.failed
  vals : σ'.failed = false → ∀ i, i < σ.doms.length → ∀ v, v ∈ valsAt σ' i ↔ v ∈ valsAt σ i ∧ (i = l.x → saysF l v = true)
  nop : (∀ v ∈ valsAt σ l.x, saysF l v = true) → σ' = σ
theorem domAt_set {D : List Dom} {x i : Nat} {d : Dom} (h : x < D.length) : (D.set x d).getD i [] = if i = x then d else D.getD i [] := by
  simp only [List.getD_eq_getElem?_getD, List.getElem?_set]
  by_cases e : i = x
  · subst e; simp [h]
  · have : ¬ x = i := fun q => e q.symm
    simp [e, this]
theorem hit_of {S : List (List Int)} {V : Nat → Prop} {l : Lit} {σ : Sto} {rs : List Lit} (h : Inv σ) (hf : σ.failed = false) (hx : l.x < σ.doms.length) (hV : V l.x) (hr : ∀ r ∈ rs, r.x < σ.doms.length) (hz : rs.length ≤ 90)
    (hH : ∀ r ∈ rs, ∀ v ∈ valsAt σ r.x, saysF r v = true) (hI : ∀ w ∈ S, (∀ r ∈ rs, saysF r (atI w r.x) = true) → saysF l (atI w l.x) = true) : Hit S V l σ (enterF σ l (some rs)).1 (enterF σ l (some rs)).2 := by
  obtain ⟨k1, k2⟩ := h.dk hx
  have hmem := fun v => mem_struck (l := l) (v := v) k1
  have hv := struck_values (l := l) k1
  have hok := struck_ok (l := l) k1
  have hen : enterF σ l (some rs) = if struckF l (domAt σ l.x) = [] then (failF σ (rs ++ [negF l]), false)
      else if struckF l (domAt σ l.x) = domAt σ l.x then (σ, true)
      else ({ σ with trail := σ.trail ++ [⟨l.x, domAt σ l.x, l, some rs⟩], doms := σ.doms.set l.x (struckF l (domAt σ l.x)) }, true) := rfl
  by_cases c1 : struckF l (domAt σ l.x) = []
  · rw [hen, if_pos c1]
    have hnone : ∀ v ∈ valsAt σ l.x, saysF l v = false := fun v hv' => by
      cases q : saysF l v with
      | false => rfl
      | true => have := (hmem v).mpr ⟨hv', q⟩; rw [c1] at this; cases this
    have hbad : Bad S (failF σ (rs ++ [negF l])) := by
      refine ⟨fun w hw hin => ?_, fun w hw => ?_, ?_, fun r hr' => ?_, ?_⟩
      · have hin : InS w σ := hin
        have a1 := hI w hw fun r hr' => hH r hr' _ (hin r.x (hr r hr'))
        rw [hnone _ (hin l.x hx)] at a1; cases a1
      · cases q : areKept (failF σ (rs ++ [negF l])).clash w with
        | false => rfl
        | true =>
          have q := areKept_iff.mp q
          have a1 := hI w hw fun r hr' => q r (List.mem_append_left _ hr')
          have a2 := q (negF l) (List.mem_append_right _ List.mem_cons_self)
          rw [says_neg, neg_x, a1] at a2; cases a2
      · refine doHold_iff.mpr fun r hr' v hv' => ?_
        rw [atL_lists] at hv'
        have hv' : v ∈ valsAt σ r.x := hv'
        rcases List.mem_append.mp hr' with q | q
        · exact hH r q v hv'
        · rw [List.mem_singleton.mp q] at hv' ⊢
          rw [neg_x] at hv'
          rw [says_neg, hnone v hv']; rfl
      · rcases List.mem_append.mp hr' with q | q
        · exact hr r q
        · rw [List.mem_singleton.mp q, neg_x]; exact hx
      · show (rs ++ [negF l]).length ≤ 100
        rw [List.length_append, List.length_singleton]; omega
    refine ⟨⟨rfl, rfl, rfl, ⟨[], by simp [failF], (fun _ h => nomatch h), rfl, rfl, Nat.le_refl _⟩, fun _ _ => rfl, fun _ _ h => h, fun _ _ h => h, fun _ => hbad⟩, ⟨h.few, h.flen, h.fok, h.dok, h.sub, h.ent, h.cap⟩, rfl, (fun q => nomatch q), fun q => ?_⟩
    obtain ⟨g1, g2⟩ := least_ok k1 k2
    have a1 := q _ g1
    rw [hnone _ g1] at a1; cases a1
  rw [hen, if_neg c1]
  by_cases c2 : struckF l (domAt σ l.x) = domAt σ l.x
  · rw [if_pos c2]
    refine ⟨Run.refl hf, h, by rw [hf]; rfl, fun _ i hi v => ⟨fun q => ⟨q, fun e => ?_⟩, fun q => q.1⟩, fun _ => rfl⟩
    subst e
    have := (hmem v).mp (by rw [c2]; exact q)
    exact this.2
  · rw [if_neg c2]
    generalize hfr : struckF l (domAt σ l.x) = fresh at *
    have hD : ∀ i, domAt { σ with trail := σ.trail ++ [⟨l.x, domAt σ l.x, l, some rs⟩], doms := σ.doms.set l.x fresh } i = if i = l.x then fresh else domAt σ i := fun i => domAt_set hx
    generalize hσ' : ({ σ with trail := σ.trail ++ [⟨l.x, domAt σ l.x, l, some rs⟩], doms := σ.doms.set l.x fresh } : Sto) = σ' at hD ⊢
    have d1 : σ'.doms = σ.doms.set l.x fresh := by rw [← hσ']
    have d2 : σ'.doms.length = σ.doms.length := by rw [d1, List.length_set]
    have d3 : σ'.failed = false := by rw [← hσ']; exact hf
    have hvals : ∀ i v, v ∈ valsAt σ' i ↔ v ∈ valsAt σ i ∧ (i = l.x → saysF l v = true) := fun i v => by
      unfold valsAt
      rw [hD]
      by_cases e : i = l.x
      · subst e; rw [if_pos rfl, hmem]; simp
      · rw [if_neg e]; simp [e]
    have hls : lists σ' = (lists σ).set l.x (valuesOf fresh) := by unfold lists; rw [d1, List.map_set]
    have hnot : ¬ (valuesOf (domAt σ l.x)).filter (saysF l) = valuesOf (domAt σ l.x) := fun q => c2 ((dom_eq hok k1).mpr (hv.trans q))
    have hlt : (valuesOf fresh).length < (valuesOf (domAt σ l.x)).length := by
      rw [hv]
      refine Nat.lt_of_le_of_ne (List.length_filter_le _ _) fun q => hnot ?_
      exact List.filter_eq_self.mpr (List.length_filter_eq_length_iff.mp q)
    have hrun : Run S V σ σ' := by
      refine ⟨by rw [← hσ'], by rw [← hσ'], d2, ⟨[⟨l.x, domAt σ l.x, l, some rs⟩], by rw [← hσ'], ?_, ?_, ?_, ?_⟩, fun x hx' => ?_, fun w hw hin i hi => ?_, fun i v q => ((hvals i v).mp q).1, fun q => by rw [d3] at q; cases q⟩
      · intro e he
        rw [List.mem_singleton.mp he]
        exact ⟨hx, rfl, k1, rs, rfl, by simp only [big]; omega, hr⟩
      · have hlate : (atL (lists σ) l.x).filter (saysF l) = valuesOf fresh := by rw [atL_lists, hv]
        have b1 : behind1 S (lists σ) ⟨l.x, domAt σ l.x, l, some rs⟩ = some (lists σ') := by
          unfold behind1
          dsimp only
          rw [hlate, atL_lists]
          rw [if_neg, if_neg, if_neg, hls]
          · rw [ne_eq, Decidable.not_not, List.filter_eq_nil_iff]
            intro w hw q
            simp only [Bool.and_eq_true, Bool.not_eq_true', Option.getD_some] at q
            have := hI w hw (areKept_iff.mp q.2)
            rw [this] at q; cases q.1
          · simp only [Option.getD_some, Bool.not_eq_false]
            exact doHold_iff.mpr fun r hr' v hv' => hH r hr' v (by rw [← atL_lists]; exact hv')
          · rintro (q | q | q | q)
            · exact q rfl
            · exact q rfl
            · exact c1 ((values_nil hok).mpr q)
            · exact hnot (hv.symm.trans q)
        show (match behind1 S (lists σ) ⟨l.x, domAt σ l.x, l, some rs⟩ with | none => none | some ls' => behindF S [] ls') = _
        rw [b1]; rfl
      · show σ'.doms.set l.x (domAt σ l.x) = σ.doms
        rw [d1, List.set_set]
        apply List.ext_getElem (by rw [List.length_set])
        intro i h1 h2
        rw [List.getElem_set]
        split
        · rename_i e
          subst e
          unfold domAt; rw [List.getD_eq_getElem?_getD, List.getElem?_eq_getElem hx]; rfl
        · rfl
      · have := msr_set (d := fresh) hx
        rw [d1, List.length_singleton]
        have hge := hlt
        unfold domAt at hge
        omega
      · rw [hD, if_neg fun e : x = l.x => hx' (e ▸ hV)]
      · rw [hvals]
        rw [d2] at hi
        refine ⟨hin i hi, fun e => ?_⟩
        subst e
        exact hI w hw fun r hr' => hH r hr' _ (hin r.x (hr r hr'))
    refine ⟨hrun, hrun.inv h fun d hd => ?_, by rw [d3]; rfl, fun _ i _ v => hvals i v, fun q => ?_⟩
    · rw [d1] at hd
      rcases List.mem_or_eq_of_mem_set hd with q | rfl
      · exact h.dok d q
      · exact ⟨hok, c1⟩
    · exact absurd (List.filter_eq_self.mpr q) hnot

/-- what the base holds of a propagator's class -/
structure Ps (b : Bas) (C fI : Addr) : Prop where
  c : Cls b C
  made : Mk b C fI
  nS : NoAt b C "scope"
  nN : NoAt b C "number"
  nT : NoAt b C "strength"
structure Kr (b : Bas) : Prop where
  A : Ps b 351 327
  G : Ps b 424 402
  S : Ps b 464 442
  supA : Sup b (methOf 21 0) 327 351 351 283
  supG : Sup b (methOf 23 0) 402 424 424 369
  supS : Sup b (methOf 24 0) 442 464 464 369
  supEG : Sup b (methOf 22 0) 369 424 384 283
  supES : Sup b (methOf 22 0) 369 464 384 283
  fP : IsFn b (methOf 19 0) 283
  fAp : IsFn b (methOf 21 2) 341
  mAp : Meth b 351 "propagate" 341
  fAc : IsFn b (methOf 21 3) 348
  mAc : Meth b 351 "check" 348
  fEp : IsFn b (methOf 22 2) 381
  mGp : Meth b 424 "propagate" 381
  mSp : Meth b 464 "propagate" 381
  fGo : IsFn b (methOf 23 2) 414
  mGo : Meth b 424 "once" 414
  fGc : IsFn b (methOf 23 3) 421
  mGc : Meth b 424 "check" 421
  fSo : IsFn b (methOf 24 2) 454
  mSo : Meth b 464 "once" 454
  fSc : IsFn b (methOf 24 3) 461
  mSc : Meth b 464 "check" 461
  gA : b.Gl "Absolute" (.ref 351)
  gG : b.Gl "Greatest" (.ref 424)
  gS : b.Gl "Smallest" (.ref 464)
  gSt : b.Gl "Store" (.ref 265)
noncomputable abbrev dNt (s : List Nat) : PyData := .tuple (s.map fun i : Nat => .int i)
noncomputable abbrev pf (scope : List Nat) (st : Str) : List (Str × D) := [("number", .int (-1)), ("scope", .dat (dNt scope)), ("strength", .str st)]
/-- a propagator -/
noncomputable abbrev Pp (p C dx : Addr) (scope : List Nat) (st : Str) : List MO := [.inst p C dx, .dict dx (pf scope st)]
theorem len2 {F : List Value → Prop} (h : ∀ u v, F [u, v]) : ∀ vs : List Value, vs.length = 2 → F vs := fun vs k => by
  obtain ⟨u, r, rfl, k1⟩ := vs_cons k; obtain ⟨v, r', rfl, k2⟩ := vs_cons k1; obtain rfl := vs_nil k2; exact h u v
theorem len3 {F : List Value → Prop} (h : ∀ u v w, F [u, v, w]) : ∀ vs : List Value, vs.length = 3 → F vs := fun vs k => by
  obtain ⟨u, r, rfl, k1⟩ := vs_cons k; exact len2 (F := fun r => F (u :: r)) (h u) r k1
section
variable {b : Bas} (G : Gs b) (K : Kr b)
include G K in
theorem c_pinit {a C dx fI : Addr} {scope : List Nat} {st : Str} (P : Ps b C fI) : Cc b 1 [.inst a C dx, .dict dx []] (.ref 283) [.raw (.ref a), .dat (dNt scope), .str st] (fun d X' => d = .none ∧ X' = Pp a C dx scope st) := by
  refine cc_of ["self", "scope", "strength"] K.fP (fun c hV hW => ?_) (bind3 (by intros; rfl))
  have hd : dx ∈ c.W ∨ c.s0.heap.get? dx = none := .inl (by rw [hW]; simp [MO.addr])
  refine go_cons (do_setA (ef_pure (ev_neg ev_int) ⟨a, C, dx, _, [_], [], P.c, P.nN, evn (d := .raw (.ref a)), rfl, by simp, Nat.le_of_ble_eq_true rfl, hd, ?_⟩))
  refine go_cons (do_setA (ef_pure (ecallT (ev_glob G.tuple) (es1 (evn (d := .dat (dNt scope)))) fn_tupT) ⟨a, C, dx, _, [_], [], P.c, P.nS, evn (d := .raw (.ref a)), rfl, by simp, Nat.le_of_ble_eq_true rfl, hd, ?_⟩))
  refine go_cons (do_setA (ef_pure (evn (d := .str st)) ⟨a, C, dx, _, [_], [], P.c, P.nT, evn (d := .raw (.ref a)), rfl, by simp, Nat.le_of_ble_eq_true rfl, hd, ?_⟩))
  exact go_nil ⟨_, _, List.Perm.refl _, List.Sublist.refl _, rfl, rfl⟩
include G K in
theorem c_einit {a C dx fI : Addr} {scope : List Nat} (P : Ps b C fI) (k : Sup b (methOf 22 0) 369 C 384 283) : Cc b 2 [.inst a C dx, .dict dx []] (.ref 369) [.raw (.ref a), .dat (dNt scope)] (fun d X' => d = .none ∧ X' = Pp a C dx scope "bounds") := by
  refine cc_super ["scope"] "self" k rfl (fun nm q cda doc pm ct an cc vs hl => ?_) ⟨_, rfl, rfl⟩ (by decide +kernel) rfl List.mem_cons_self (es2 (evn (d := .dat (dNt scope))) ev_str) ?_
  · revert vs; exact len2 fun u v => rfl
  · intro A M s vs R S hv
    exact codeAny_mono (c_pinit G K P A M s vs R S hv) fun r s' hr => by
      rcases r with e | (v | _ | _ | _) <;> first | exact hr | exact hr.elim | skip
      obtain ⟨M', X', d', S', m', p', hx, hd, -, e2⟩ := hr
      exact ⟨M', X', d', S', m', p', hx, hd, rfl, e2⟩
theorem Cc.mono {b : Bas} {n : Nat} {X : List MO} {f : Value} {args : List D} {Q Q' : D → List MO → Prop} (h : Cc b n X f args Q) (k : ∀ d X', Q d X' → Q' d X') : Cc b n X f args Q' := by
  intro A M s vs R S hv
  exact codeAny_mono (h A M s vs R S hv) fun r s' hr => by
    rcases r with e | (v | _ | _ | _) <;> first | exact hr | exact hr.elim | skip
    obtain ⟨M', X', d', S', m', p', hx, hd, q⟩ := hr
    exact ⟨M', X', d', S', m', p', hx, hd, k _ _ q⟩
include G K in
theorem k_abs {x z : Nat} : Cn b 3 [] (.ref 351) [.int x, .int z] (fun d X' => ∃ p dx, d = .raw (.ref p) ∧ X' = Pp p 351 dx [x, z] "values") := by
  refine cn_class K.A.made fun a dx => ?_
  refine Cc.mono (Q := fun d X' => d = .none ∧ X' = Pp a 351 dx [x, z] "values") ?_ fun d X' ⟨e1, e2⟩ => ⟨e1, a, dx, rfl, e2⟩
  refine cc_super ["x", "z"] "self" K.supA rfl (fun nm q cda doc pm ct an cc vs hl => ?_) ⟨_, rfl, rfl⟩ (by decide +kernel) rfl List.mem_cons_self (es2 (etup2 (d := .int x) (g := .int z) evn evn) ev_str) ?_
  · revert vs; exact len3 fun u v w => rfl
  · exact (c_pinit G K K.A (scope := [x, z])).mono fun d X' ⟨_, e2⟩ => ⟨rfl, e2⟩
include G K in
theorem k_ext {C fI : Addr} {st : Stmt} {xs : List Nat} {z : Nat} (P : Ps b C fI) (k : Sup b st fI C C 369) (k2 : Sup b (methOf 22 0) 369 C 384 283) (hst : st = methOf 23 0 ∨ st = methOf 24 0) (hz : xs.length ≤ 100) :
    Cn b 4 [] (.ref C) [.dat (dNt xs), .int z] (fun d X' => ∃ p dx, d = .raw (.ref p) ∧ X' = Pp p C dx (xs ++ [z]) "bounds") := by
  have hE : ∀ {n : Nat} {sc : Scope} {X : List MO} {a : Addr} {e1 e2 : PySem.Expr}, Ev b n sc ((["self", "xs", "z"] : List Str).zip [.raw (.ref a), .dat (dNt xs), .int z]) X e1 (.dat (dNt xs)) → Ev b n sc ((["self", "xs", "z"] : List Str).zip [.raw (.ref a), .dat (dNt xs), .int z]) X e2 (.tup [.int z]) → ∀ pos, Ev b n sc ((["self", "xs", "z"] : List Str).zip [.raw (.ref a), .dat (dNt xs), .int z]) X (.BinOp e1 .Add e2 pos) (.dat (dNt (xs ++ [z]))) := fun h1 h2 pos => by
    have := ev_bin (pos := pos) h1 h2 (bin_tup' (by rw [List.length_map]; simp only [big, List.length_singleton]; omega))
    rwa [show (xs.map fun i : Nat => PyData.int i) ++ [.int z] = (xs ++ [z]).map fun i : Nat => PyData.int i by rw [List.map_append]; rfl] at this
  refine cn_class P.made fun a dx => ?_
  refine Cc.mono (Q := fun d X' => d = .none ∧ X' = Pp a C dx (xs ++ [z]) "bounds") ?_ fun d X' ⟨e1, e2⟩ => ⟨e1, a, dx, rfl, e2⟩
  rcases hst with rfl | rfl
  · refine cc_super ["xs", "z"] "self" k rfl (fun nm q cda doc pm ct an cc vs hl => ?_) ⟨_, rfl, rfl⟩ (by decide +kernel) rfl List.mem_cons_self (es1 (hE (ecallT (ev_glob G.tuple) (es1 (evn (d := .dat (dNt xs)))) fn_tupT) (etup1 (d := .int z) evn) _)) ?_
    · revert vs; exact len3 fun u v w => rfl
    · exact (c_einit G K P k2).mono fun d X' ⟨_, e2⟩ => ⟨rfl, e2⟩
  · refine cc_super ["xs", "z"] "self" k rfl (fun nm q cda doc pm ct an cc vs hl => ?_) ⟨_, rfl, rfl⟩ (by decide +kernel) rfl List.mem_cons_self (es1 (hE (ecallT (ev_glob G.tuple) (es1 (evn (d := .dat (dNt xs)))) fn_tupT) (etup1 (d := .int z) evn) _)) ?_
    · revert vs; exact len3 fun u v w => rfl
    · exact (c_einit G K P k2).mono fun d X' ⟨_, e2⟩ => ⟨rfl, e2⟩
omit G in
theorem ex_max : ∀ {l : List Int}, l ≠ [] → ∃ m ∈ l, ∀ x ∈ l, x ≤ m
  | [x], _ => ⟨x, List.mem_cons_self, fun y hy => by rw [List.mem_singleton.mp hy]; exact Int.le_refl _⟩
  | x :: y :: r, _ => by
    obtain ⟨m, h1, h2⟩ := ex_max (l := y :: r) (by simp)
    by_cases c : m ≤ x
    · exact ⟨x, List.mem_cons_self, fun u hu => (List.mem_cons.mp hu).elim (fun e => by omega) fun q => by have := h2 u q; omega⟩
    · exact ⟨m, List.mem_cons_of_mem _ h1, fun u hu => (List.mem_cons.mp hu).elim (fun e => by omega) fun q => h2 u q⟩
omit G in
theorem ex_min {l : List Int} (h : l ≠ []) : ∃ m ∈ l, ∀ x ∈ l, m ≤ x := by
  obtain ⟨m, h1, h2⟩ := ex_max (l := l.map fun x => -x) (by simpa using h)
  obtain ⟨u, hu, rfl⟩ := List.mem_map.mp h1
  exact ⟨u, hu, fun x hx => by have := h2 (-x) (List.mem_map.mpr ⟨x, hx, rfl⟩); omega⟩
omit G in
theorem sq_eq {u v : Int} : v * v = u * u ↔ u = v ∨ u = -v := by
  constructor
  · intro h
    have : (v - u) * (v + u) = 0 := by rw [Int.sub_mul, Int.mul_add, Int.mul_add, h, Int.mul_comm u v]; omega
    rcases Int.mul_eq_zero.mp this with q | q
    · exact .inl (by omega)
    · exact .inr (by omega)
  · rintro (rfl | rfl)
    · rfl
    · rw [Int.neg_mul_neg]
include K in
theorem f_checkA {X : List MO} {p : Addr} {row : List Int} (h : 2 ≤ row.length) : Fn b 1 X (.ref 348) [.raw (.ref p), .dat (dI1 row)] (.bool (meantF 0 row)) := by
  refine fn_of ["self", "some"] K.fAc (fun c hW => ?_) (bind2 (by intros; rfl))
  refine go_cons (do_return (ef_pure (ev_and2 (ev_cmp (ev_item (evn (d := .dat (dI1 row))) ev_int (itm_I1 (i := 1) (by omega))) ev_int cmp_ge) fun _ =>
    ev_cmp (ev_item (evn (d := .dat (dI1 row))) ev_int (itm_I1 (i := 0) (by omega))) (etup2 (d := .int (atI row 1)) (g := .int (-atI row 1)) (ev_item (evn (d := .dat (dI1 row))) ev_int (itm_I1 (i := 1) (by omega))) (ev_neg (ev_item (evn (d := .dat (dI1 row))) ev_int (itm_I1 (i := 1) (by omega))))) (cmp_inT (Pn.shaped (n := 0) ⟨_, rfl⟩ (by omega)) rfl)) ?_))
  show D.bool _ = _
  unfold meantF
  rw [if_pos rfl]
  congr 3
  rw [Bool.eq_iff_iff]
  simp only [List.any_cons, List.any_nil, Bool.or_false, PyData.eqv, Bool.or_eq_true, beq_iff_eq]
  rw [sq_eq]
  omega
include G K in
theorem f_checkG {X : List MO} {p : Addr} {row : List Int} (h : 2 ≤ row.length) : Fn b 1 X (.ref 421) [.raw (.ref p), .dat (dI1 row)] (.bool (meantF 1 row)) := by
  have hne : row ≠ [] := fun e => by rw [e] at h; simp at h
  obtain ⟨m, h1, h2⟩ := ex_max (l := row.dropLast) (fun e => by have := congrArg List.length e; rw [List.length_dropLast] at this; simp at this; omega)
  refine fn_of ["self", "some"] K.fGc (fun c hW => ?_) (bind2 (by intros; rfl))
  refine go_cons (do_return (ef_pure (ev_cmp (ecallB (ev_glob G.max) (es1 (ev_butI (evn (d := .dat (dI1 row))) (ev_neg ev_int))) (fn_maxL (List.length_pos_of_mem h1) h1 h2)) (ev_item (evn (d := .dat (dI1 row))) (ev_neg ev_int) (itm_last hne)) cmp_eq) ?_))
  show D.bool _ = _
  unfold meantF
  rw [if_neg (by decide)]
  congr 2
  rw [Bool.eq_iff_iff]
  simp only [beq_iff_eq, Bool.and_eq_true, List.contains_iff_mem, List.isEmpty_iff, List.filter_eq_nil_iff]
  constructor
  · rintro rfl; exact ⟨h1, fun a ha q => by have := h2 a ha; simp only [pastF, if_true, decide_eq_true_eq] at q; omega⟩
  · rintro ⟨q1, q2⟩
    have := h2 _ q1
    have := q2 m h1
    simp only [pastF, if_true, decide_eq_true_eq] at this
    omega
include G K in
theorem f_checkS {X : List MO} {p : Addr} {row : List Int} (h : 2 ≤ row.length) : Fn b 1 X (.ref 461) [.raw (.ref p), .dat (dI1 row)] (.bool (meantF 2 row)) := by
  have hne : row ≠ [] := fun e => by rw [e] at h; simp at h
  obtain ⟨m, h1, h2⟩ := ex_min (l := row.dropLast) (fun e => by have := congrArg List.length e; rw [List.length_dropLast] at this; simp at this; omega)
  refine fn_of ["self", "some"] K.fSc (fun c hW => ?_) (bind2 (by intros; rfl))
  refine go_cons (do_return (ef_pure (ev_cmp (ecallB (ev_glob G.min) (es1 (ev_butI (evn (d := .dat (dI1 row))) (ev_neg ev_int))) (fn_minL (List.length_pos_of_mem h1) h1 h2)) (ev_item (evn (d := .dat (dI1 row))) (ev_neg ev_int) (itm_last hne)) cmp_eq) ?_))
  show D.bool _ = _
  unfold meantF
  rw [if_neg (by decide)]
  congr 2
  rw [Bool.eq_iff_iff]
  simp only [beq_iff_eq, Bool.and_eq_true, List.contains_iff_mem, List.isEmpty_iff, List.filter_eq_nil_iff]
  have e : ∀ a, pastF 2 row a = decide (a < lastI row) := fun a => by unfold pastF; rw [if_neg (by decide)]
  simp only [e, decide_eq_true_eq]
  constructor
  · rintro rfl; exact ⟨h1, fun a ha q => by have := h2 a ha; omega⟩
  · rintro ⟨q1, q2⟩
    have := h2 _ q1
    have := q2 m h1
    omega
end

noncomputable abbrev hiOf (σ : Sto) (x : Nat) : Int := greatestOf (domAt σ x)
noncomputable abbrev loOf (σ : Sto) (x : Nat) : Int := leastOf (domAt σ x)
theorem Inv.hi {σ : Sto} (h : Inv σ) {x : Nat} (hx : x < σ.doms.length) : hiOf σ x ∈ valsAt σ x ∧ ∀ v ∈ valsAt σ x, v ≤ hiOf σ x := greatest_ok (h.dk hx).1 (h.dk hx).2
theorem Inv.lo {σ : Sto} (h : Inv σ) {x : Nat} (hx : x < σ.doms.length) : loOf σ x ∈ valsAt σ x ∧ ∀ v ∈ valsAt σ x, loOf σ x ≤ v := least_ok (h.dk hx).1 (h.dk hx).2
/-- so far -/
structure Acc (S : List (List Int)) (V : Nat → Prop) (F : Prop) (σ σ' : Sto) : Prop where
  run : Run S V σ σ'
  inv : Inv σ'
  nop : F → σ' = σ
theorem Acc.start {S : List (List Int)} {V : Nat → Prop} {F : Prop} {σ : Sto} (h : Inv σ) (hf : σ.failed = false) : Acc S V F σ σ := ⟨Run.refl hf, h, fun _ => rfl⟩
theorem Acc.hit {S : List (List Int)} {V : Nat → Prop} {F : Prop} {σ σ1 σ2 : Sto} {l : Lit} {r : Bool} (a : Acc S V F σ σ1) (t : Hit S V l σ1 σ2 r) (k : F → ∀ v ∈ valsAt σ l.x, saysF l v = true) : Acc S V F σ σ2 :=
  ⟨a.run.trans t.run, t.inv, fun f => by have e := a.nop f; subst e; exact t.nop (k f)⟩
section
variable {b : Bas} {A : Ad} {σ : Sto} (G : Gs b) (K : Ks b)
include G K in
theorem c_hit {S : List (List Int)} {V : Nat → Prop} {l : Lit} {rs : List Lit} (h : Inv σ) (hf : σ.failed = false) (hx : l.x < σ.doms.length) (hV : V l.x) (hr : ∀ r ∈ rs, r.x < σ.doms.length) (hz : rs.length ≤ 90)
    (hH : ∀ r ∈ rs, ∀ v ∈ valsAt σ r.x, saysF r v = true) (hI : ∀ w ∈ S, (∀ r ∈ rs, saysF r (atI w r.x) = true) → saysF l (atI w l.x) = true) :
    Cn b 5 (Xs A σ) (.ref 220) [.raw (.ref A.a), .dat (dL l), .dat (dR rs)] (fun d X' => ∃ σ', Hit S V l σ σ' (!σ'.failed) ∧ d = .bool (!σ'.failed) ∧ X' = Xs A σ') :=
  (c_strike G K h.ok hx (by omega)).mono fun d X' ⟨e1, e2⟩ => by
    have t := hit_of (S := S) (V := V) h hf hx hV hr hz hH hI
    have q := t.res
    rw [q] at t e1
    exact ⟨_, t, e1, e2⟩
section
variable {n : Nat} {sc : Scope} {c : Cx b n sc} {ρ : List (Str × D)} {R : List MO} {o e1 e2 e3 : PySem.Expr} {apos pos : Pos}
include G K
theorem ev_high {x : Nat} (ho : Ev b n sc ρ (Xs A σ ++ R) o (.raw (.ref A.a))) (he : Ev b n sc ρ (Xs A σ ++ R) e1 (.int x)) (h : Inv σ) (hx : x < σ.doms.length) (hn : 2 ≤ n := by decide) (hp : plainArgs [e1] = true := by rfl) (hs : ∀ env, starEach [e1] env = (false, eval e1 env) :: starEach [] env := by intro _; rfl)
    (hm : ∀ env, eval (.Call (.Attribute o "high" apos) [e1] [] pos) env = (do
      let ov ← eval o env
      standAt apos.atName
      let (f, first) ← holding [ov] (getMethod ov "high" (do return (← importBound o env).getD true))
      callWith pos f first (backTo pos (starEach [e1] env)) []) := by intro _; rfl) : Ev b n sc ρ (Xs A σ ++ R) (.Call (.Attribute o "high" apos) [e1] [] pos) (.int (hiOf σ x)) :=
  ev_meth ho (gm_store K K.m6 (List.mem_append_left _ xs_a) (List.mem_append_left _ xs_d)) K.f6.ke (es1 he hs) (c_high G K hx (by have := h.few; omega) (h.dk hx).2) (List.sublist_append_left _ _) hn hp hm
theorem ev_low {x : Nat} (ho : Ev b n sc ρ (Xs A σ ++ R) o (.raw (.ref A.a))) (he : Ev b n sc ρ (Xs A σ ++ R) e1 (.int x)) (h : Inv σ) (hx : x < σ.doms.length) (hn : 2 ≤ n := by decide) (hp : plainArgs [e1] = true := by rfl) (hs : ∀ env, starEach [e1] env = (false, eval e1 env) :: starEach [] env := by intro _; rfl)
    (hm : ∀ env, eval (.Call (.Attribute o "low" apos) [e1] [] pos) env = (do
      let ov ← eval o env
      standAt apos.atName
      let (f, first) ← holding [ov] (getMethod ov "low" (do return (← importBound o env).getD true))
      callWith pos f first (backTo pos (starEach [e1] env)) []) := by intro _; rfl) : Ev b n sc ρ (Xs A σ ++ R) (.Call (.Attribute o "low" apos) [e1] [] pos) (.int (loOf σ x)) :=
  ev_meth ho (gm_store K K.m5 (List.mem_append_left _ xs_a) (List.mem_append_left _ xs_d)) K.f5.ke (es1 he hs) (c_low G K hx (by have := h.few; omega) (h.dk hx).2) (List.sublist_append_left _ _) hn hp hm
omit G in
theorem ev_dom {x : Nat} (ho : Ev b n sc ρ (Xs A σ ++ R) o (.raw (.ref A.a))) (he : Ev b n sc ρ (Xs A σ ++ R) e1 (.int x)) (h : σ.doms.length ≤ 4) (hx : x < σ.doms.length) (hn : 1 ≤ n := by decide) (hp : plainArgs [e1] = true := by rfl) (hs : ∀ env, starEach [e1] env = (false, eval e1 env) :: starEach [] env := by intro _; rfl)
    (hm : ∀ env, eval (.Call (.Attribute o "dom" apos) [e1] [] pos) env = (do
      let ov ← eval o env
      standAt apos.atName
      let (f, first) ← holding [ov] (getMethod ov "dom" (do return (← importBound o env).getD true))
      callWith pos f first (backTo pos (starEach [e1] env)) []) := by intro _; rfl) : Ev b n sc ρ (Xs A σ ++ R) (.Call (.Attribute o "dom" apos) [e1] [] pos) (.dat (dD (domAt σ x))) :=
  ev_meth ho (gm_store K K.m3 (List.mem_append_left _ xs_a) (List.mem_append_left _ xs_d)) K.f3.ke (es1 he hs) (c_dom K hx (by omega)) (List.sublist_append_left _ _) hn hp hm
theorem ev_has {x : Nat} {v : Int} (ho : Ev b n sc ρ (Xs A σ ++ R) o (.raw (.ref A.a))) (he : Ev b n sc ρ (Xs A σ ++ R) e1 (.int x)) (hv : Ev b n sc ρ (Xs A σ ++ R) e2 (.int v)) (h : Inv σ) (hx : x < σ.doms.length) (hn : 3 ≤ n := by decide) (hp : plainArgs [e1, e2] = true := by rfl) (hs : ∀ env, starEach [e1, e2] env = (false, eval e1 env) :: starEach [e2] env := by intro _; rfl) (hs2 : ∀ env, starEach [e2] env = (false, eval e2 env) :: starEach [] env := by intro _; rfl)
    (hm : ∀ env, eval (.Call (.Attribute o "has" apos) [e1, e2] [] pos) env = (do
      let ov ← eval o env
      standAt apos.atName
      let (f, first) ← holding [ov] (getMethod ov "has" (do return (← importBound o env).getD true))
      callWith pos f first (backTo pos (starEach [e1, e2] env)) []) := by intro _; rfl) : Ev b n sc ρ (Xs A σ ++ R) (.Call (.Attribute o "has" apos) [e1, e2] [] pos) (.bool (decide (v ∈ valsAt σ x))) :=
  ev_eq (ev_meth ho (gm_store K K.m7 (List.mem_append_left _ xs_a) (List.mem_append_left _ xs_d)) K.f7.ke (es2 he hv hs hs2) (c_has G K hx (by have := h.few; omega)) (List.sublist_append_left _ _) hn hp hm)
    (by congr 2; rw [Bool.eq_iff_iff, has_ok (h.dk hx).1, decide_eq_true_iff])
theorem ef_strike {S : List (List Int)} {V : Nat → Prop} {l : Lit} {rs : List Lit} {Q : D → List MO → Prop} (hW : OwnS c A) (ho : Ev b n sc ρ (Xs A σ ++ R) o (.raw (.ref A.a))) (he : Ev b n sc ρ (Xs A σ ++ R) e1 (.dat (dL l))) (hv : Ev b n sc ρ (Xs A σ ++ R) e2 (.dat (dR rs)))
    (h : Inv σ) (hf : σ.failed = false) (hx : l.x < σ.doms.length) (hV : V l.x) (hr : ∀ r ∈ rs, r.x < σ.doms.length) (hz : rs.length ≤ 90)
    (hH : ∀ r ∈ rs, ∀ v ∈ valsAt σ r.x, saysF r v = true) (hI : ∀ w ∈ S, (∀ r ∈ rs, saysF r (atI w r.x) = true) → saysF l (atI w l.x) = true)
    (k : ∀ σ', Hit S V l σ σ' (!σ'.failed) → Q (.bool (!σ'.failed)) (Xs A σ' ++ R)) (hn : 5 ≤ n := by decide) (hp : plainArgs [e1, e2] = true := by rfl) (hs : ∀ env, starEach [e1, e2] env = (false, eval e1 env) :: starEach [e2] env := by intro _; rfl) (hs2 : ∀ env, starEach [e2] env = (false, eval e2 env) :: starEach [] env := by intro _; rfl)
    (hm : ∀ env, eval (.Call (.Attribute o "strike" apos) [e1, e2] [] pos) env = (do
      let ov ← eval o env
      standAt apos.atName
      let (f, first) ← holding [ov] (getMethod ov "strike" (do return (← importBound o env).getD true))
      callWith pos f first (backTo pos (starEach [e1, e2] env)) []) := by intro _; rfl) : c.Ef ρ (Xs A σ ++ R) (.Call (.Attribute o "strike" apos) [e1, e2] [] pos) Q :=
  ef_store K [] R hW ho K.m13 K.f13 (es2 he hv hs hs2) (c_hit G K h hf hx hV hr hz hH hI) (fun d X' ⟨σ', t, e1, e2⟩ => by rw [e1, e2]; exact k σ' t) hn rfl hp hm
/-- if not o.strike(..): return False -/
theorem do_strike {S : List (List Int)} {V : Nat → Prop} {l : Lit} {rs : List Lit} {p0 p1 p2 p3 : Pos} {kk : Nat} {Q : List (Str × D) → List MO → Fl → Prop} (hW : OwnS c A) (ho : Ev b n sc ρ (Xs A σ ++ R) o (.raw (.ref A.a))) (he : Ev b n sc ρ (Xs A σ ++ R) e1 (.dat (dL l))) (hv : Ev b n sc ρ (Xs A σ ++ R) e2 (.dat (dR rs)))
    (h : Inv σ) (hf : σ.failed = false) (hx : l.x < σ.doms.length) (hV : V l.x) (hr : ∀ r ∈ rs, r.x < σ.doms.length) (hz : rs.length ≤ 90)
    (hH : ∀ r ∈ rs, ∀ v ∈ valsAt σ r.x, saysF r v = true) (hI : ∀ w ∈ S, (∀ r ∈ rs, saysF r (atI w r.x) = true) → saysF l (atI w l.x) = true)
    (k : ∀ σ', Hit S V l σ σ' (!σ'.failed) → if σ'.failed then Q ρ (Xs A σ' ++ R) (.ret (.bool false)) else Q ρ (Xs A σ' ++ R) .nxt) (hn : 5 ≤ n := by decide) (hp : plainArgs [e1, e2] = true := by rfl) (hs : ∀ env, starEach [e1, e2] env = (false, eval e1 env) :: starEach [e2] env := by intro _; rfl) (hs2 : ∀ env, starEach [e2] env = (false, eval e2 env) :: starEach [] env := by intro _; rfl)
    (hm : ∀ env, eval (.Call (.Attribute o "strike" apos) [e1, e2] [] pos) env = (do
      let ov ← eval o env
      standAt apos.atName
      let (f, first) ← holding [ov] (getMethod ov "strike" (do return (← importBound o env).getD true))
      callWith pos f first (backTo pos (starEach [e1, e2] env)) []) := by intro _; rfl) : c.Do ρ (Xs A σ ++ R) (.If (.UnaryOp .Not (.Call (.Attribute o "strike" apos) [e1, e2] [] pos) p0) [.Return (some (.Constant (.bool false) kk p1)) p3] [] p2) Q :=
  do_if (et_not (et_value (ef_strike G K (S := S) (V := V) hW ho he hv h hf hx hV hr hz hH hI (fun σ' t => ⟨_, tr_bool, by
    have := k σ' t
    cases q : σ'.failed with
    | true => rw [q] at this; exact go_cons (do_return (ef_pure ev_bool this))
    | false => rw [q] at this; exact go_nil this⟩) hn hp hs hs2 hm)))
end
end

noncomputable abbrev aI (v : Int) : Int := if v < 0 then -v else v
/-- nothing left to strike -/
structure FixA (x z : Nat) (σ : Sto) : Prop where
  pos : ∀ v ∈ valsAt σ z, 0 ≤ v
  fwd : ∀ v ∈ valsAt σ x, aI v ∈ valsAt σ z
  bwd : ∀ v ∈ valsAt σ z, v ∈ valsAt σ x ∨ -v ∈ valsAt σ x
/-- what a run of a propagator's leaves -/
noncomputable def PQ (A : Ad) (R : List MO) (S : List (List Int)) (V : Nat → Prop) (F : Sto → Prop) (σ : Sto) (d : D) (X' : List MO) : Prop := ∃ σ', Acc S V (F σ) σ σ' ∧ (σ'.failed = false → F σ') ∧ d = .bool (!σ'.failed) ∧ X' = Xs A σ' ++ R
theorem PQ.fail {A : Ad} {R : List MO} {S : List (List Int)} {V : Nat → Prop} {F : Sto → Prop} {σ σ' : Sto} (a : Acc S V (F σ) σ σ') (h : σ'.failed = true) : PQ A R S V F σ (.bool false) (Xs A σ' ++ R) := ⟨σ', a, (fun q => by rw [h] at q; cases q), by rw [h]; rfl, rfl⟩
theorem PQ.ok {A : Ad} {R : List MO} {S : List (List Int)} {V : Nat → Prop} {F : Sto → Prop} {σ σ' : Sto} (a : Acc S V (F σ) σ σ') (h : σ'.failed = false) (f : F σ') : PQ A R S V F σ (.bool true) (Xs A σ' ++ R) := ⟨σ', a, fun _ => f, by rw [h]; rfl, rfl⟩
theorem ite_dd {t : Bool} {P Q : Prop} (h : t = true → P) (k : t = false → Q) : if t then P else Q := ite_of h k
theorem says_le {x : Nat} {k v : Int} : saysF ⟨x, .le, k⟩ v = true ↔ v ≤ k := decide_eq_true_iff
theorem says_ge {x : Nat} {k v : Int} : saysF ⟨x, .ge, k⟩ v = true ↔ v ≥ k := decide_eq_true_iff
theorem says_ne {x : Nat} {k v : Int} : saysF ⟨x, .ne, k⟩ v = true ↔ v ≠ k := by simp [saysF]
/-- a walk over one variable's values: what is still in, and what was seen to be kept -/
noncomputable def Sw (n y : Nat) (W : Int → Prop) (done : List Int) (σ0 σi : Sto) : Prop := ∀ i, i < n → ∀ v, v ∈ valsAt σi i ↔ v ∈ valsAt σ0 i ∧ (i = y → v ∈ done → W v)
theorem Sw.start {n y : Nat} {W : Int → Prop} {σ : Sto} : Sw n y W [] σ σ := fun _ _ _ => ⟨fun q => ⟨q, fun _ m => nomatch m⟩, fun q => q.1⟩
theorem Sw.keep {n y : Nat} {W : Int → Prop} {done : List Int} {σ0 σi : Sto} (h : Sw n y W done σ0 σi) {v : Int} (k : W v) : Sw n y W (done ++ [v]) σ0 σi := fun i hi u =>
  (h i hi u).trans ⟨fun q => ⟨q.1, fun e m => (List.mem_append.mp m).elim (q.2 e) fun w => (List.mem_singleton.mp w) ▸ k⟩, fun q => ⟨q.1, fun e m => q.2 e (List.mem_append_left _ m)⟩⟩
theorem Sw.strike {n y : Nat} {W : Int → Prop} {done : List Int} {σ0 σi σj : Sto} {S : List (List Int)} {V : Nat → Prop} {v : Int} {r : Bool} (h : Sw n y W done σ0 σi) (t : Hit S V ⟨y, .ne, v⟩ σi σj r) (e : σj.failed = false) (hl : σi.doms.length = n) (k : ¬ W v) : Sw n y W (done ++ [v]) σ0 σj := fun i hi u =>
  (t.vals e i (hl ▸ hi) u).trans ⟨fun q => let p := (h i hi u).mp q.1; ⟨p.1, fun e m => (List.mem_append.mp m).elim (p.2 e) fun w => absurd (List.mem_singleton.mp w) (says_ne.mp (q.2 e))⟩,
    fun q => ⟨(h i hi u).mpr ⟨q.1, fun e m => q.2 e (List.mem_append_left _ m)⟩, fun e => says_ne.mpr fun w => k (w ▸ q.2 e (List.mem_append_right _ (w ▸ List.mem_cons_self)))⟩⟩
/-- amid Absolute's loops -/
inductive AIv (A : Ad) (R : List MO) (S : List (List Int)) (x z : Nat) (σ σ0 : Sto) (y : Nat) (W : Int → Prop) (done : List Int) (ρ : List (Str × D)) (X' : List MO) : Prop
  | mk (g1 : Has "x" (.int x) ρ) (g2 : Has "z" (.int z) ρ) (g3 : Has "store" (.raw (.ref A.a)) ρ) (σi : Sto) (e : X' = Xs A σi ++ R) (ac : Acc S (· ∈ [x, z]) (FixA x z σ) σ σi) (ef : σi.failed = false) (l : σi.doms.length = σ.doms.length) (v : Sw σ.doms.length y W done σ0 σi) : AIv A R S x z σ σ0 y W done ρ X'
section
variable {b : Bas} {A : Ad} {σ : Sto} (G : Gs b) (K : Ks b) (P : Kr b)
include G K P in
theorem c_propA {S : List (List Int)} {p dx : Addr} {x z : Nat} (h : Inv σ) (hf : σ.failed = false) (hx : x < σ.doms.length) (hz : z < σ.doms.length) (hS : ∀ w ∈ S, 0 ≤ atI w z ∧ (atI w x = atI w z ∨ atI w x = -atI w z)) :
    Cn b 6 (Xs A σ ++ Pp p 351 dx [x, z] "values") (.ref 341) [.raw (.ref p), .raw (.ref A.a)] (PQ A (Pp p 351 dx [x, z] "values") S (· ∈ [x, z]) (FixA x z) σ) := by
  generalize hR : Pp p 351 dx [x, z] "values" = R
  refine cn_of ["self", "store"] P.fAp (fun c hV hW => ?_) (bind2 (by intros; rfl))
  have hW : OwnS c A := fun a ha => .inl (by rw [hW, List.map_append, xs_addr]; exact List.mem_append_left _ ha)
  suffices hgo : c.Go ((["self", "store"] : List Str).zip [.raw (.ref p), .raw (.ref A.a)]) (Xs A σ ++ R) (bodyOf (methOf 21 2)) fun _ X' fl => PQ A R S (· ∈ [x, z]) (FixA x z) σ fl.res X' from go_mono hgo fun _ X' _ q => ⟨X', List.Sublist.refl _, q⟩
  have hi1 : MO.inst p 351 dx ∈ Xs A σ ++ R := List.mem_append_right _ (by rw [← hR]; exact List.mem_cons_self)
  have hi2 : MO.dict dx (pf [x, z] "values") ∈ Xs A σ ++ R := List.mem_append_right _ (by rw [← hR]; exact List.mem_cons_of_mem _ List.mem_cons_self)
  refine go_cons (do_assignT ["x", "z"] (ef_pure (ev_attr P.A.c P.A.nS (evn (d := .raw (.ref p))) hi1 hi2 (d := .dat (dNt [x, z]))) ⟨_, asg_tup2 (d := .int x) (e := .int z), ?_⟩))
  have a0 : Acc S (· ∈ [x, z]) (FixA x z σ) σ σ := Acc.start h hf
  refine go_cons (do_if (et_bool (ea_or (et_pure (tv_value (at_failed K (evn (d := .raw (.ref A.a))) (List.mem_append_left _ xs_a) (List.mem_append_left _ xs_d)) tr_bool) (ite_of (fun e => by rw [hf] at e; cases e) fun _ => ea_or (et_not (et_value (ef_strike G K (S := S) (V := (· ∈ [x, z])) (l := ⟨z, .ge, 0⟩) (rs := []) hW (evn (d := .raw (.ref A.a))) (etup3 (d := .int z) (j := .int 0) evn ev_str ev_int) etup0 h hf hz (by simp) (fun _ q => nomatch q) (by simp) (fun _ q => nomatch q) (fun w hw _ => says_ge.mpr (hS w hw).1) fun σ1 t1 => ⟨_, tr_bool, ?_⟩))))))))
  have a1 := a0.hit t1 fun f v hv => says_ge.mpr (f.pos v hv)
  rw [Bool.not_not]
  refine ite_dd (fun e => ?_) fun e => ea_or_nil (go_nil ?_)
  · exact go_cons (do_return (ef_pure ev_bool (PQ.fail a1 e)))
  clear hi1 hi2
  have l1 := a1.run.len
  have pos1 : ∀ v ∈ valsAt σ1 z, 0 ≤ v := fun v hv => says_ge.mp (((t1.vals e z hz v).mp hv).2 rfl)
  have hx1 : x < σ1.doms.length := by omega
  have hz1 : z < σ1.doms.length := by omega
  obtain ⟨q1, q2⟩ := a1.inv.hi hz1
  generalize hhi : hiOf σ1 z = hi at q1 q2
  refine go_cons (do_assign (ef_pure (ev_eq (ev_high G K (evn (d := .raw (.ref A.a))) (evn (d := .int z)) a1.inv hz1) (by rw [hhi])) ?_))
  have hp := pos1 _ q1
  refine go_cons (do_strike G K (S := S) (V := (· ∈ [x, z])) (l := ⟨x, .le, hi⟩) (rs := [⟨z, .le, hi⟩]) hW (evn (d := .raw (.ref A.a))) (etup3 (d := .int x) (j := .int hi) evn ev_str evn) (etup1 (d := dL ⟨z, .le, hi⟩) (etup3 (d := .int z) (j := .int hi) evn ev_str evn)) a1.inv e hx1 (by simp) (by simpa using hz1) (by simp) (by simpa [says_le] using q2) (fun w hw hr => ?_) fun σ2 t2 => ite_dd (fun e2 => PQ.fail (a1.hit t2 fun f v hv => ?_) e2) fun e2 => ?_)
  · have := says_le.mp (hr _ List.mem_cons_self)
    have := hS w hw
    exact says_le.mpr (by dsimp only at *; omega)
  · have g1 := f.fwd v hv
    have e' := a1.nop f
    subst e'
    have := q2 _ g1
    exact says_le.mpr (by dsimp only [aI] at *; split at this <;> omega)
  have a2 := a1.hit t2 fun f v hv => by
    have g1 := f.fwd v hv
    have e' := a1.nop f
    subst e'
    have := q2 _ g1
    exact says_le.mpr (by dsimp only [aI] at *; split at this <;> omega)
  have l2 := a2.run.len
  have z2 : ∀ v ∈ valsAt σ2 z, v ≤ hi := fun v hv => q2 v (t2.run.shr z v hv)
  refine go_cons (do_strike G K (S := S) (V := (· ∈ [x, z])) (l := ⟨x, .ge, -hi⟩) (rs := [⟨z, .le, hi⟩]) hW (evn (d := .raw (.ref A.a))) (etup3 (d := .int x) (j := .int (-hi)) evn ev_str (ev_neg evn)) (etup1 (d := dL ⟨z, .le, hi⟩) (etup3 (d := .int z) (j := .int hi) evn ev_str evn)) a2.inv e2 (by dsimp only; omega) (by simp) (by simpa using (by omega : z < σ2.doms.length)) (by simp) (by simpa [says_le] using z2) (fun w hw hr => ?_) fun σ3 t3 => ite_dd (fun e3 => PQ.fail (a2.hit t3 fun f v hv => ?_) e3) fun e3 => ?_)
  · have := says_le.mp (hr _ List.mem_cons_self)
    have := hS w hw
    exact says_ge.mpr (by dsimp only at *; omega)
  · have g1 := f.fwd v hv
    have e' := a1.nop f
    subst e'
    have := q2 _ g1
    exact says_ge.mpr (by dsimp only [aI] at *; split at this <;> omega)
  have a3 := a2.hit t3 fun f v hv => by
    have g1 := f.fwd v hv
    have e' := a1.nop f
    subst e'
    have := q2 _ g1
    exact says_ge.mpr (by dsimp only [aI] at *; split at this <;> omega)
  have l3 := a3.run.len
  have hx3 : x < σ3.doms.length := by omega
  have hz3 : z < σ3.doms.length := by omega
  have pos3 : ∀ v ∈ valsAt σ3 z, 0 ≤ v := fun v hv => pos1 v (t2.run.shr z v (t3.run.shr z v hv))
  have aa : ∀ v : Int, aI (aI v) = aI v := fun v => if_neg (by unfold aI; split <;> omega)
  show Cx.Go c _ _ _ _
  refine go_cons (do_for ["v"] (valsAt σ3 x) (fun v => .int v) (fun done rest ρ X' => AIv A R S x z σ σ3 x (fun v => aI v ∈ valsAt σ3 z) done ρ X')
    (ecall (ev_glob G.g9) (es1 (ev_dom K (evn (d := .raw (.ref A.a))) (evn (d := .int x)) a3.inv.few hx3)) G.f9.ke (f_values G (a3.inv.dk hx3).1)) iter_map ⟨by trivial, by trivial, by trivial, σ3, rfl, a3, e3, l3, Sw.start⟩ ?_ ?_)
  · rintro lk done v rest ρ1 X1 hd ⟨g1, g2, g3, σi, rfl, ai, ei, li, vi⟩
    have hvm : v ∈ valsAt σ3 x := by rw [hd]; exact List.mem_append_right _ List.mem_cons_self
    have hhas : aI v ∈ valsAt σi z ↔ aI v ∈ valsAt σ3 z := by
      rw [vi z hz]
      exact ⟨fun q => q.1, fun q => ⟨q, fun _ _ => by show aI (aI v) ∈ _; rw [aa]; exact q⟩⟩
    refine ⟨_, asg_name (d := .int v), go_cons (do_if (et_bool (ea_and (et_not (et_pure (tv_value (ev_has G K (v := aI v) (evn (d := .raw (.ref A.a))) (evn (d := .int z)) (ecallB (ev_glob G.abs) (es1 (evn (d := .int v))) fn_abs) ai.inv (by omega)) tr_bool) (ite_dd (fun e => ?_) fun e => go_nil (go_nil ?_)))))))⟩
    · have hno : aI v ∉ valsAt σi z := by simpa using e
      refine ea_and (et_not (et_value (ef_strike G K (S := S) (V := (· ∈ [x, z])) (l := ⟨x, .ne, v⟩) (rs := [⟨z, .ne, aI v⟩]) hW (evn (d := .raw (.ref A.a))) (etup3 (d := .int x) (j := .int v) evn ev_str evn) (etup1 (d := dL ⟨z, .ne, aI v⟩) (etup3 (d := .int z) (j := .int (aI v)) evn ev_str (ecallB (ev_glob G.abs) (es1 (evn (d := .int v))) fn_abs))) ai.inv ei (by dsimp only; omega) (by simp) (by simpa using (by omega : z < σi.doms.length)) (by simp) ?_ (fun w hw hr => ?_) fun σj tj => ⟨_, tr_bool, ?_⟩)))
      · intro r hr u hu
        rw [List.mem_singleton.mp hr] at hu ⊢
        exact says_ne.mpr fun q => hno (q ▸ hu)
      · have c1 := says_ne.mp (hr _ List.mem_cons_self)
        have c2 := hS w hw
        refine says_ne.mpr fun q => c1 ?_
        rw [← q]
        simp only [aI]
        split <;> omega
      have aj := ai.hit tj fun f u hu => says_ne.mpr fun q => by
        have e' := ai.nop f
        subst e' q
        exact hno (f.fwd _ hu)
      rw [Bool.not_not]
      refine ite_dd (fun ej => ea_and_nil ?_) fun ej => ?_
      · exact go_cons (do_return (ef_pure ev_bool (PQ.fail aj ej)))
      exact go_nil (go_nil ⟨by trivial, by trivial, by trivial, σj, rfl, aj, ej, aj.run.len, vi.strike tj ej li fun q => hno (hhas.mpr q)⟩)
    · have hyes : aI v ∈ valsAt σi z := by simpa using e
      exact ⟨by trivial, by trivial, by trivial, σi, rfl, ai, ei, li, vi.keep (hhas.mp hyes)⟩
  rintro ρ4 X4 ⟨g1, g2, g3, σ4, rfl, a4, e4, l4, v4⟩
  have hx4 : x < σ4.doms.length := by omega
  have hz4 : z < σ4.doms.length := by omega
  have fwd4 : ∀ v ∈ valsAt σ4 x, aI v ∈ valsAt σ4 z := fun v hv => by
    have q := (v4 x hx v).mp hv
    have q' := q.2 rfl q.1
    exact (v4 z hz _).mpr ⟨q', fun _ _ => by show aI (aI v) ∈ _; rw [aa]; exact q'⟩
  have pos4 : ∀ v ∈ valsAt σ4 z, 0 ≤ v := fun v hv => pos3 v ((v4 z hz v).mp hv).1
  obtain ⟨b1, b2⟩ := a4.inv.hi hx4
  obtain ⟨b3, b4⟩ := a4.inv.lo hx4
  generalize hg : max (aI (loOf σ4 x)) (aI (hiOf σ4 x)) = g
  have hgm : ∀ v ∈ valsAt σ4 x, v ≤ g ∧ -g ≤ v := fun v hv => by
    have c1 := b2 v hv
    have c2 := b4 v hv
    rw [← hg]
    simp only [aI]
    split <;> split <;> omega
  refine go_cons (do_assign (ef_pure (ev_eq (ecallB (ev_glob G.max) (es2 (ecallB (ev_glob G.abs) (es1 (ev_low G K (evn (d := .raw (.ref A.a))) (evn (d := .int x)) a4.inv hx4)) fn_abs) (ecallB (ev_glob G.abs) (es1 (ev_high G K (evn (d := .raw (.ref A.a))) (evn (d := .int x)) a4.inv hx4)) fn_abs)) fn_max') (congrArg D.int hg)) ?_))
  refine go_cons (do_strike G K (S := S) (V := (· ∈ [x, z])) (l := ⟨z, .le, g⟩) (rs := [⟨x, .ge, -g⟩, ⟨x, .le, g⟩]) hW (evn (d := .raw (.ref A.a))) (etup3 (d := .int z) (j := .int g) evn ev_str evn) (etup2 (d := dL ⟨x, .ge, -g⟩) (g := dL ⟨x, .le, g⟩) (etup3 (d := .int x) (j := .int (-g)) evn ev_str (ev_neg evn)) (etup3 (d := .int x) (j := .int g) evn ev_str evn)) a4.inv e4 hz4 (by simp) (by simpa using hx4) (by simp) ?_ (fun w hw hr => ?_) fun σ5 t5 => ite_dd (fun e5 => PQ.fail (a4.hit t5 ?_) e5) fun e5 => ?_)
  · intro r hr u hu
    rcases List.mem_cons.mp hr with rfl | hr
    · exact says_ge.mpr (hgm u hu).2
    · rw [List.mem_singleton.mp hr] at hu ⊢
      exact says_le.mpr (hgm u hu).1
  · have c1 := says_ge.mp (hr _ List.mem_cons_self)
    have c2 := says_le.mp (hr _ (List.mem_cons_of_mem _ List.mem_cons_self))
    have := hS w hw
    exact says_le.mpr (by dsimp only at *; omega)
  · intro f v hv
    have e' := a4.nop f
    subst e'
    rcases f.bwd v hv with q | q
    · exact says_le.mpr (hgm v q).1
    · have := hgm _ q; exact says_le.mpr (by omega)
  have a5 := a4.hit t5 fun f v hv => by
    have e' := a4.nop f
    subst e'
    rcases f.bwd v hv with q | q
    · exact says_le.mpr (hgm v q).1
    · have := hgm _ q; exact says_le.mpr (by omega)
  have l5 := a5.run.len
  have hx5 : x < σ5.doms.length := by omega
  have hz5 : z < σ5.doms.length := by omega
  have fwd5 : ∀ v ∈ valsAt σ5 x, aI v ∈ valsAt σ5 z := fun v hv => by
    have q := t5.run.shr x v hv
    have q2 := hgm v q
    exact (t5.vals e5 z hz4 _).mpr ⟨fwd4 v q, fun _ => says_le.mpr (by simp only [aI]; split <;> omega)⟩
  have pos5 : ∀ v ∈ valsAt σ5 z, 0 ≤ v := fun v hv => pos4 v (t5.run.shr z v hv)
  show Cx.Go c _ _ _ _
  refine go_cons (do_for ["v"] (valsAt σ5 z) (fun v => .int v) (fun done rest ρ X' => AIv A R S x z σ σ5 z (fun v => v ∈ valsAt σ5 x ∨ -v ∈ valsAt σ5 x) done ρ X')
    (ecall (ev_glob G.g9) (es1 (ev_dom K (evn (d := .raw (.ref A.a))) (evn (d := .int z)) a5.inv.few hz5)) G.f9.ke (f_values G (a5.inv.dk hz5).1)) iter_map ⟨by trivial, by trivial, by trivial, σ5, rfl, a5, e5, l5, Sw.start⟩ ?_ ?_)
  · rintro lk done v rest ρ1 X1 hd ⟨g1, g2, g3, σi, rfl, ai, ei, li, vi⟩
    have hh : ∀ u, u ∈ valsAt σi x ↔ u ∈ valsAt σ5 x := fun u => by
      rw [vi x hx]
      exact ⟨fun q => q.1, fun q => ⟨q, fun _ _ => .inl q⟩⟩
    refine ⟨_, asg_name (d := .int v), go_cons (do_if (et_bool (ea_and (et_not (et_pure (tv_value (ev_has G K (v := v) (evn (d := .raw (.ref A.a))) (evn (d := .int x)) (evn (d := .int v)) ai.inv (by omega)) tr_bool) (ite_dd (fun e => ?_) fun e => go_nil (go_nil ?_)))))))⟩
    · have hno1 : v ∉ valsAt σi x := by simpa using e
      refine ea_and (et_not (et_pure (tv_value (ev_has G K (v := -v) (evn (d := .raw (.ref A.a))) (evn (d := .int x)) (ev_neg (evn (d := .int v))) ai.inv (by omega)) tr_bool) (ite_dd (fun e => ?_) fun e => go_nil (go_nil ?_))))
      · have hno2 : -v ∉ valsAt σi x := by simpa using e
        refine ea_and_nil (go_cons (do_strike G K (S := S) (V := (· ∈ [x, z])) (l := ⟨z, .ne, v⟩) (rs := [⟨x, .ne, v⟩, ⟨x, .ne, -v⟩]) hW (evn (d := .raw (.ref A.a))) (etup3 (d := .int z) (j := .int v) evn ev_str evn) (etup2 (d := dL ⟨x, .ne, v⟩) (g := dL ⟨x, .ne, -v⟩) (etup3 (d := .int x) (j := .int v) evn ev_str evn) (etup3 (d := .int x) (j := .int (-v)) evn ev_str (ev_neg evn))) ai.inv ei (by dsimp only; omega) (by simp) (by simpa using (by omega : x < σi.doms.length)) (by simp) ?_ (fun w hw hr => ?_) fun σj tj => ite_dd (fun ej => PQ.fail (ai.hit tj ?_) ej) fun ej => go_nil (go_nil ?_)))
        · intro r hr u hu
          rcases List.mem_cons.mp hr with rfl | hr
          · exact says_ne.mpr fun q => hno1 (q ▸ hu)
          · rw [List.mem_singleton.mp hr] at hu ⊢
            exact says_ne.mpr fun q => hno2 (q ▸ hu)
        · have c1 := says_ne.mp (hr _ List.mem_cons_self)
          have c2 := says_ne.mp (hr _ (List.mem_cons_of_mem _ List.mem_cons_self))
          have := hS w hw
          exact says_ne.mpr (by dsimp only at *; omega)
        · intro f u hu
          refine says_ne.mpr fun q => ?_
          have e' := ai.nop f
          subst e' q
          exact (f.bwd _ hu).elim hno1 hno2
        have aj := ai.hit tj fun f u hu => says_ne.mpr fun q => by
          have e' := ai.nop f
          subst e' q
          exact (f.bwd _ hu).elim hno1 hno2
        exact ⟨by trivial, by trivial, by trivial, σj, rfl, aj, ej, aj.run.len, vi.strike tj ej li fun q => q.elim (fun q => hno1 ((hh _).mpr q)) fun q => hno2 ((hh _).mpr q)⟩
      · exact ⟨by trivial, by trivial, by trivial, σi, rfl, ai, ei, li, vi.keep (.inr ((hh _).mp (by simpa using e)))⟩
    · exact ⟨by trivial, by trivial, by trivial, σi, rfl, ai, ei, li, vi.keep (.inl ((hh _).mp (by simpa using e)))⟩
  rintro ρ6 X6 ⟨g1, g2, g3, σ6, rfl, a6, e6, l6, v6⟩
  refine go_cons (do_return (ef_pure ev_bool (PQ.ok a6 e6 ⟨fun v hv => pos5 v ((v6 z hz v).mp hv).1, fun v hv => ?_, fun v hv => ?_⟩)))
  · have q := ((v6 x hx v).mp hv).1
    refine (v6 z hz _).mpr ⟨fwd5 v q, fun _ _ => ?_⟩
    simp only [aI]
    split
    · exact .inr (by rwa [Int.neg_neg])
    · exact .inl q
  · obtain ⟨q1, q2⟩ := (v6 z hz v).mp hv
    rcases q2 rfl q1 with q | q
    · exact .inl ((v6 x hx _).mpr ⟨q, fun _ _ => .inl q⟩)
    · exact .inr ((v6 x hx _).mpr ⟨q, fun _ _ => .inl q⟩)
end

theorem Run.mid {S : List (List Int)} {V : Nat → Prop} {σ σ1 σ2 : Sto} (a : Run S V σ σ1) (c : Run S V σ1 σ2) (h : σ2.doms = σ.doms) : σ1.doms = σ.doms :=
  a.same (by have := (a.trans c).back h; have := a.more; have := c.more; omega)
theorem domAt_eq {σ τ : Sto} (h : τ.doms = σ.doms) (i : Nat) : domAt τ i = domAt σ i := by unfold domAt; rw [h]
/-- so far, with what is known where nothing was struck -/
structure Acs (S : List (List Int)) (V : Nat → Prop) (F : Prop) (T : Prop) (σ σ' : Sto) : Prop where
  acc : Acc S V F σ σ'
  ok : σ'.failed = false
  same : σ'.doms = σ.doms → T
theorem Acs.start {S : List (List Int)} {V : Nat → Prop} {F : Prop} {σ : Sto} (h : Inv σ) (hf : σ.failed = false) : Acs S V F True σ σ := ⟨Acc.start h hf, hf, fun _ => trivial⟩
theorem Acs.hit {S : List (List Int)} {V : Nat → Prop} {F T : Prop} {σ σ1 σ2 : Sto} {l : Lit} {r : Bool} (a : Acs S V F T σ σ1) (t : Hit S V l σ1 σ2 r) (hx : l.x < σ.doms.length) (k : F → ∀ v ∈ valsAt σ l.x, saysF l v = true) (e : σ2.failed = false) : Acs S V F (T ∧ σ1.doms = σ.doms ∧ ∀ v ∈ valsAt σ l.x, saysF l v = true) σ σ2 :=
  ⟨a.acc.hit t k, e, fun q => by
    have e1 := a.acc.run.mid t.run q
    refine ⟨a.same e1, e1, fun v hv => ((t.vals e l.x (by rw [a.acc.run.len]; exact hx) v).mp ?_).2 rfl⟩
    unfold valsAt at hv ⊢
    rw [domAt_eq q]; exact hv⟩
theorem Acs.imp {S : List (List Int)} {V : Nat → Prop} {F T T' : Prop} {σ σ' : Sto} (a : Acs S V F T σ σ') (k : σ'.doms = σ.doms → T → T') : Acs S V F T' σ σ' := ⟨a.acc, a.ok, fun q => k q (a.same q)⟩
theorem one_left {n a : Nat} {p : Nat → Bool} (h1 : a < n) (h2 : p a = true) (h3 : ∀ j, j < n → j ≠ a → p j = false) : ((List.range n).filter p).length = 1 := by
  have e : (List.range n).filter p = (List.range n).filter fun j => j == a := by
    apply List.filter_congr
    intro j hj
    by_cases c : j = a
    · subst c; simp [h2]
    · rw [h3 j (List.mem_range.mp hj) c]; simp [c]
  rw [e, ← List.countP_eq_length_filter]
  have := List.nodup_range (n := n)
  have c := this.count (a := a)
  unfold List.count at c
  rw [c, if_pos (List.mem_range.mpr h1)]
/-- what a turn of an extreme's leaves -/
noncomputable def OQ (A : Ad) (R : List MO) (S : List (List Int)) (V : Nat → Prop) (F : Sto → Prop) (σ : Sto) (d : D) (X' : List MO) : Prop := ∃ σ', Acc S V (F σ) σ σ' ∧ (σ'.failed = false → σ'.doms = σ.doms → F σ) ∧ d = .bool (!σ'.failed) ∧ X' = Xs A σ' ++ R
theorem OQ.fail {A : Ad} {R : List MO} {S : List (List Int)} {V : Nat → Prop} {F : Sto → Prop} {σ σ' : Sto} (a : Acc S V (F σ) σ σ') (h : σ'.failed = true) : OQ A R S V F σ (.bool false) (Xs A σ' ++ R) := ⟨σ', a, (fun q => by rw [h] at q; cases q), by rw [h]; rfl, rfl⟩
theorem OQ.ok {A : Ad} {R : List MO} {S : List (List Int)} {V : Nat → Prop} {F : Sto → Prop} {σ σ' : Sto} {T : Prop} (a : Acs S V (F σ) T σ σ') (f : T → F σ) : OQ A R S V F σ (.bool true) (Xs A σ' ++ R) := ⟨σ', a.acc, fun _ q => f (a.same q), by rw [a.ok]; rfl, rfl⟩
/-- amid an extreme's loops -/
inductive OIv (A : Ad) (R : List MO) (S : List (List Int)) (xs : List Nat) (z : Nat) (F T : Prop) (σ : Sto) (ρ : List (Str × D)) (X' : List MO) : Prop
  | mk (g1 : Has "some" (.dat (dNt xs)) ρ) (g2 : Has "z" (.int z) ρ) (g3 : Has "store" (.raw (.ref A.a)) ρ) (σi : Sto) (e : X' = Xs A σi ++ R) (ac : Acs S (· ∈ xs ++ [z]) F T σ σi) : OIv A R S xs z F T σ ρ X'
noncomputable abbrev nth (xs : List Nat) (k : Nat) : Nat := xs.getD k 0
theorem nth_mem {xs : List Nat} {k : Nat} (h : k < xs.length) : nth xs k ∈ xs := by
  unfold nth; rw [List.getD_eq_getElem?_getD, List.getElem?_eq_getElem h]; exact List.getElem_mem _
theorem itm_N {b : Bas} {X : List MO} {xs : List Nat} {k : Nat} (h : k < xs.length) : Itm b X (.dat (dNt xs)) (.int k) (.int (nth xs k)) := itm_tup (seqAt (by rwa [List.length_map])) (by rw [List.getElem?_map, List.getElem?_eq_getElem h]; simp [nth, h])
theorem itm_last1 {b : Bas} {X : List MO} {xs : List Nat} {z : Nat} : Itm b X (.dat (dNt (xs ++ [z]))) (.int (-1)) (.int z) := itm_tup (seqL (by simp)) (by simp)
theorem but_last1 {xs : List Nat} {z : Nat} : D.tup ((xs ++ [z]).map fun i : Nat => PyData.int i).dropLast = .dat (dNt xs) := by rw [List.map_append]; simp [dNt]
theorem atN {xs : List Nat} {x : Nat} (h : x ∈ xs) : ∃ k, k < xs.length ∧ nth xs k = x := by
  obtain ⟨k, hk, e⟩ := List.getElem_of_mem h
  exact ⟨k, hk, by unfold nth; rw [List.getD_eq_getElem?_getD, List.getElem?_eq_getElem hk]; exact e⟩

/-- nothing left to strike -/
structure FixG (xs : List Nat) (z : Nat) (σ : Sto) : Prop where
  f1 : ∀ v ∈ valsAt σ z, ∃ x ∈ xs, v ≤ hiOf σ x
  f2 : ∀ x ∈ xs, ∀ v ∈ valsAt σ z, v ≥ loOf σ x
  f3 : ∀ x ∈ xs, ∀ v ∈ valsAt σ x, v ≤ hiOf σ z
  f4 : ∀ k, k < xs.length → hiOf σ (nth xs k) ≥ loOf σ z → (∀ j, j < xs.length → j ≠ k → ¬ hiOf σ (nth xs j) ≥ loOf σ z) → ∀ v ∈ valsAt σ (nth xs k), v ≥ loOf σ z
section
variable {b : Bas} {A : Ad} {σ : Sto} (G : Gs b) (K : Ks b) (P : Kr b)
include G K P in
theorem c_onceG {S : List (List Int)} {p dx : Addr} {xs : List Nat} {z : Nat} (h : Inv σ) (hf : σ.failed = false) (hx : ∀ x ∈ xs, x < σ.doms.length) (hz : z < σ.doms.length) (hne : xs ≠ []) (hlen : xs.length ≤ 80) (hS : ∀ w ∈ S, (∃ x ∈ xs, atI w x = atI w z) ∧ ∀ x ∈ xs, atI w x ≤ atI w z) :
    Cn b 6 (Xs A σ ++ Pp p 424 dx (xs ++ [z]) "bounds") (.ref 414) [.raw (.ref p), .raw (.ref A.a)] (OQ A (Pp p 424 dx (xs ++ [z]) "bounds") S (· ∈ xs ++ [z]) (FixG xs z) σ) := by
  generalize hR : Pp p 424 dx (xs ++ [z]) "bounds" = R
  refine cn_of ["self", "store"] P.fGo (fun c hV hW => ?_) (bind2 (by intros; rfl))
  have hW : OwnS c A := fun a ha => .inl (by rw [hW, List.map_append, xs_addr]; exact List.mem_append_left _ ha)
  suffices hgo : c.Go ((["self", "store"] : List Str).zip [.raw (.ref p), .raw (.ref A.a)]) (Xs A σ ++ R) (bodyOf (methOf 23 2)) fun _ X' fl => OQ A R S (· ∈ xs ++ [z]) (FixG xs z) σ fl.res X' from go_mono hgo fun _ X' _ q => ⟨X', List.Sublist.refl _, q⟩
  have hi1 : MO.inst p 424 dx ∈ Xs A σ ++ R := List.mem_append_right _ (by rw [← hR]; exact List.mem_cons_self)
  have hi2 : MO.dict dx (pf (xs ++ [z]) "bounds") ∈ Xs A σ ++ R := List.mem_append_right _ (by rw [← hR]; exact List.mem_cons_of_mem _ List.mem_cons_self)
  have hbig : xs.length ≤ big := by simp only [big]; omega
  have hVx : ∀ x ∈ xs, x ∈ xs ++ [z] := fun x q => List.mem_append_left _ q
  refine go_cons (do_assign2T (es_pure (es2 (d := .dat (dNt xs)) (g := .int z) (ev_eq (ev_butT (ev_attr P.G.c P.G.nS (evn (d := .raw (.ref p))) hi1 hi2 (d := .dat (dNt (xs ++ [z])))) (ev_neg ev_int) (by simp)) but_last1) (ev_item (ev_attr P.G.c P.G.nS (evn (d := .raw (.ref p))) hi1 hi2 (d := .dat (dNt (xs ++ [z])))) (ev_neg ev_int) itm_last1)) ⟨_, _, rfl, ?_⟩))
  clear hi1 hi2
  have a0 : Acs S (· ∈ xs ++ [z]) (FixG xs z σ) True σ σ := Acs.start h hf
  obtain ⟨m, m1, m2⟩ := ex_max (l := xs.map (hiOf σ)) (by simpa using hne)
  have m3 : ∀ x ∈ xs, hiOf σ x ≤ m := fun x q => m2 _ (List.mem_map_of_mem q)
  obtain ⟨y, hy, m4⟩ := List.mem_map.mp m1
  refine go_cons (do_assignK (ef_pure (ecallB (ev_glob G.max) (es1 (ev_eq (ev_mapc ["x"] xs (fun i : Nat => .int i) (fun i => .int (hiOf σ i)) (evn (d := .dat (dNt xs))) iter_mapT hbig fun i hi => ⟨_, asg_name (d := .int i), sub1, ev_high G K (evn (d := .raw (.ref A.a))) (evn (d := .int i)) h (hx i hi)⟩) (d' := .list ((xs.map (hiOf σ)).map .int)) (by rw [List.map_map]; rfl))) (fn_maxL (List.length_pos_of_mem m1) m1 m2)) ?_))
  have kf0 : FixG xs z σ → ∀ v ∈ valsAt σ z, saysF ⟨z, .le, m⟩ v = true := fun f v hv => by
    obtain ⟨x, q, c1⟩ := f.f1 v hv
    have c2 := m3 x q
    exact says_le.mpr (by omega)
  refine go_cons (do_strike G K (S := S) (V := (· ∈ xs ++ [z])) (l := ⟨z, .le, m⟩) (rs := xs.map fun x => ⟨x, .le, m⟩) hW (evn (d := .raw (.ref A.a))) (etup3 (d := .int z) (j := .int m) evn ev_str evn) (ecallT (ev_glob G.tuple) (es1 (ev_eq (ev_mapc ["x"] xs (fun i : Nat => .int i) (fun i => dL ⟨i, .le, m⟩) (evn (d := .dat (dNt xs))) iter_mapT hbig fun i hi => ⟨_, asg_name (d := .int i), sub1, etup3 (d := .int i) (j := .int m) evn ev_str evn⟩) (d' := .list ((xs.map fun x => (⟨x, .le, m⟩ : Lit)).map dL)) (by rw [List.map_map]; rfl))) fn_tupL) h hf hz (by simp) ?_ (by rw [List.length_map]; omega) ?_ (fun w hw hr => ?_) fun σ1 t1 => ite_dd (fun e => OQ.fail (a0.acc.hit t1 kf0) e) fun e => ?_)
  · intro r hr
    obtain ⟨x, q, rfl⟩ := List.mem_map.mp hr
    exact hx x q
  · intro r hr v hv
    obtain ⟨x, q, rfl⟩ := List.mem_map.mp hr
    have c1 := (h.hi (hx x q)).2 v hv
    have c2 := m3 x q
    exact says_le.mpr (by omega)
  · obtain ⟨⟨x, q, e⟩, -⟩ := hS w hw
    have c1 := says_le.mp (hr _ (List.mem_map_of_mem q))
    exact says_le.mpr (by dsimp only at c1 ⊢; omega)
  have a1 := a0.hit t1 hz kf0 e
  replace a1 : Acs S (· ∈ xs ++ [z]) (FixG xs z σ) (∀ v ∈ valsAt σ z, ∃ x ∈ xs, v ≤ hiOf σ x) σ σ1 := a1.imp fun _ ⟨_, _, q⟩ v hv => ⟨y, hy, by have := says_le.mp (q v hv); omega⟩
  show Cx.Go c _ _ _ _
  refine go_cons (do_for ["x"] xs (fun i : Nat => .int i) (fun done rest ρ X' => OIv A R S xs z (FixG xs z σ) ((∀ v ∈ valsAt σ z, ∃ x ∈ xs, v ≤ hiOf σ x) ∧ ∀ x ∈ done, ∀ v ∈ valsAt σ z, v ≥ loOf σ x) σ ρ X')
    (evn (d := .dat (dNt xs))) iter_mapT ⟨by trivial, by trivial, by trivial, σ1, rfl, a1.imp fun _ q => ⟨q, fun _ q => nomatch q⟩⟩ ?_ ?_)
  · rintro lk done x rest ρ1 X1 hd ⟨g1, g2, g3, σi, rfl, ai⟩
    have hxm : x ∈ xs := by rw [hd]; exact List.mem_append_right _ List.mem_cons_self
    have li := ai.acc.run.len
    have hxi : x < σi.doms.length := by rw [li]; exact hx x hxm
    have kf : FixG xs z σ → ∀ v ∈ valsAt σ z, saysF ⟨z, .ge, loOf σi x⟩ v = true := fun f v hv => by
      have e' := ai.acc.nop f
      subst e'
      exact says_ge.mpr (f.f2 x hxm v hv)
    refine ⟨_, asg_name (d := .int x), go_cons (do_strike G K (S := S) (V := (· ∈ xs ++ [z])) (l := ⟨z, .ge, loOf σi x⟩) (rs := [⟨x, .ge, loOf σi x⟩]) hW (evn (d := .raw (.ref A.a))) (etup3 (d := .int z) (j := .int (loOf σi x)) evn ev_str (ev_low G K (evn (d := .raw (.ref A.a))) (evn (d := .int x)) ai.acc.inv hxi)) (etup1 (d := dL ⟨x, .ge, loOf σi x⟩) (etup3 (d := .int x) (j := .int (loOf σi x)) evn ev_str (ev_low G K (evn (d := .raw (.ref A.a))) (evn (d := .int x)) ai.acc.inv hxi))) ai.acc.inv ai.ok (by rw [li]; exact hz) (by simp) (by simpa using hxi) (by simp) ?_ (fun w hw hr => ?_) fun σj tj => ite_dd (fun e => OQ.fail (ai.acc.hit tj kf) e) fun e => go_nil ⟨by trivial, by trivial, by trivial, σj, rfl, (ai.hit tj hz kf e).imp ?_⟩)⟩
    · intro r hr v hv
      rw [List.mem_singleton.mp hr] at hv ⊢
      exact says_ge.mpr ((ai.acc.inv.lo hxi).2 v hv)
    · have c1 := says_ge.mp (hr _ List.mem_cons_self)
      have c2 := (hS w hw).2 x hxm
      exact says_ge.mpr (by dsimp only at c1 ⊢; omega)
    · rintro - ⟨⟨q1, q2⟩, q3, q4⟩
      refine ⟨q1, fun u hu v hv => ?_⟩
      rcases List.mem_append.mp hu with q | q
      · exact q2 u q v hv
      · rw [List.mem_singleton.mp q]
        have := says_ge.mp (q4 v hv)
        unfold loOf at this ⊢
        rwa [domAt_eq q3] at this
  rintro ρ2 X2 ⟨g1, g2, g3, σ2, rfl, a2⟩
  refine go_cons (do_for ["x"] xs (fun i : Nat => .int i) (fun done rest ρ X' => OIv A R S xs z (FixG xs z σ) (((∀ v ∈ valsAt σ z, ∃ x ∈ xs, v ≤ hiOf σ x) ∧ ∀ x ∈ xs, ∀ v ∈ valsAt σ z, v ≥ loOf σ x) ∧ ∀ x ∈ done, ∀ v ∈ valsAt σ x, v ≤ hiOf σ z) σ ρ X')
    (evn (d := .dat (dNt xs))) iter_mapT ⟨by trivial, by trivial, by trivial, σ2, rfl, a2.imp fun _ q => ⟨q, fun _ q => nomatch q⟩⟩ ?_ ?_)
  · rintro lk done x rest ρ1 X1 hd ⟨g1, g2, g3, σi, rfl, ai⟩
    have hxm : x ∈ xs := by rw [hd]; exact List.mem_append_right _ List.mem_cons_self
    have li := ai.acc.run.len
    have hzi : z < σi.doms.length := by rw [li]; exact hz
    have kf : FixG xs z σ → ∀ v ∈ valsAt σ x, saysF ⟨x, .le, hiOf σi z⟩ v = true := fun f v hv => by
      have e' := ai.acc.nop f
      subst e'
      exact says_le.mpr (f.f3 x hxm v hv)
    refine ⟨_, asg_name (d := .int x), go_cons (do_strike G K (S := S) (V := (· ∈ xs ++ [z])) (l := ⟨x, .le, hiOf σi z⟩) (rs := [⟨z, .le, hiOf σi z⟩]) hW (evn (d := .raw (.ref A.a))) (etup3 (d := .int x) (j := .int (hiOf σi z)) evn ev_str (ev_high G K (evn (d := .raw (.ref A.a))) (evn (d := .int z)) ai.acc.inv hzi)) (etup1 (d := dL ⟨z, .le, hiOf σi z⟩) (etup3 (d := .int z) (j := .int (hiOf σi z)) evn ev_str (ev_high G K (evn (d := .raw (.ref A.a))) (evn (d := .int z)) ai.acc.inv hzi))) ai.acc.inv ai.ok (by rw [li]; exact hx x hxm) (hVx x hxm) (by simpa using hzi) (by simp) ?_ (fun w hw hr => ?_) fun σj tj => ite_dd (fun e => OQ.fail (ai.acc.hit tj kf) e) fun e => go_nil ⟨by trivial, by trivial, by trivial, σj, rfl, (ai.hit tj (hx x hxm) kf e).imp ?_⟩)⟩
    · intro r hr v hv
      rw [List.mem_singleton.mp hr] at hv ⊢
      exact says_le.mpr ((ai.acc.inv.hi hzi).2 v hv)
    · have c1 := says_le.mp (hr _ List.mem_cons_self)
      have c2 := (hS w hw).2 x hxm
      exact says_le.mpr (by dsimp only at c1 ⊢; omega)
    · rintro - ⟨⟨q1, q2⟩, q3, q4⟩
      refine ⟨q1, fun u hu v hv => ?_⟩
      rcases List.mem_append.mp hu with q | q
      · exact q2 u q v hv
      · rw [List.mem_singleton.mp q] at hv
        have := says_le.mp (q4 v hv)
        unfold hiOf at this ⊢
        rwa [domAt_eq q3] at this
  rintro ρ3 X3 ⟨g1, g2, g3, σ3, rfl, a3⟩
  have l3 := a3.acc.run.len
  have hz3 : z < σ3.doms.length := by rw [l3]; exact hz
  have hx3 : ∀ k, k < xs.length → nth xs k < σ3.doms.length := fun k hk => by rw [l3]; exact hx _ (nth_mem hk)
  have hl := fn_lenT (b := b) (n := 5) (X := Xs A σ3 ++ R) (xs := xs.map fun i : Nat => PyData.int i)
  rw [List.length_map] at hl
  have hlc := fn_lenT (b := b) (n := 5) (X := Xs A σ3 ++ R) (xs := xs.map fun i : Nat => PyData.int i)
  refine go_cons (do_assignK (ef_pure (ev_low G K (evn (d := .raw (.ref A.a))) (evn (d := .int z)) a3.acc.inv hz3) ?_))
  generalize hlo : loOf σ3 z = lo
  generalize hp : (fun k : Nat => decide (hiOf σ3 (nth xs k) ≥ lo)) = p
  have hpt : ∀ k, p k = true ↔ hiOf σ3 (nth xs k) ≥ lo := fun k => by rw [← hp]; exact decide_eq_true_iff
  generalize hab : (List.range xs.length).filter p = able
  have habm : ∀ k, k ∈ able ↔ k < xs.length ∧ p k = true := fun k => by rw [← hab, List.mem_filter, List.mem_range]
  have habz : able.length ≤ big := by rw [← hab]; exact Nat.le_trans (List.length_filter_le _ _) (by rw [List.length_range]; exact hbig)
  refine go_cons (do_assignK (ef_pure (ev_eq (ev_filt ["k"] (List.range xs.length) (fun i : Nat => D.int i) p (fun i : Nat => .int i) (ecallT (ev_glob G.range) (es1 (ecallB (ev_glob G.len) (es1 (evn (d := .dat (dNt xs)))) hl)) fn_range1) (iter_nat (by omega)) (by rw [List.length_range]; exact hbig) fun k hk => ⟨_, asg_name (d := .int k), sub1, ts_one (by
      rw [← hp]
      exact tv_cmp (ev_high G K (evn (d := .raw (.ref A.a))) (ev_item (evn (d := .dat (dNt xs))) (evn (d := .int k)) (itm_N (List.mem_range.mp hk))) a3.acc.inv (hx3 k (List.mem_range.mp hk))) (evn (d := .int lo)) cmp_ge), fun _ => evn (d := .int k)⟩) (d' := .dat (dN able)) (by rw [hab])) ?_))
  have hl2 := fn_lenL (b := b) (n := 5) (X := Xs A σ3 ++ R) (xs := able.map fun i : Nat => PyData.int i)
  rw [List.length_map] at hl2
  have f4of : ∀ T : Prop, (σ3.doms = σ.doms → T → able.length = 1 → ∀ k, k ∈ able → ∀ v ∈ valsAt σ (nth xs k), v ≥ loOf σ z) → σ3.doms = σ.doms → T → ∀ k, k < xs.length → hiOf σ (nth xs k) ≥ loOf σ z → (∀ j, j < xs.length → j ≠ k → ¬ hiOf σ (nth xs j) ≥ loOf σ z) → ∀ v ∈ valsAt σ (nth xs k), v ≥ loOf σ z := fun T hT e ht k hk c1 c2 => by
    have ed := fun i => domAt_eq e i
    have el : lo = loOf σ z := by rw [← hlo]; unfold loOf; rw [ed]
    have eh : ∀ i, hiOf σ3 i = hiOf σ i := fun i => by unfold hiOf; rw [ed]
    have pk : p k = true := (hpt k).mpr (by rw [eh, el]; exact c1)
    refine hT e ht ?_ k ((habm k).mpr ⟨hk, pk⟩)
    rw [← hab]
    refine one_left hk pk fun j hj hne => ?_
    cases q : p j with
    | false => rfl
    | true => exact absurd ((hpt j).mp q) (by rw [eh, el]; exact c2 j hj hne)
  refine go_cons (do_if (et_pure (tv_cmp (ecallB (ev_glob G.len) (es1 (evn (d := .dat (dN able)))) hl2) ev_int (cmp_neI (j := 1))) (ite_of (fun e => ?_) fun e => ?_)))
  · have hn1 : able.length ≠ 1 := by simp at e; omega
    have a3' := a3.imp fun e q => And.intro e q
    exact go_cons (do_return (ef_pure ev_bool (OQ.ok a3' fun q => ⟨q.2.1.1, q.2.1.2, q.2.2, f4of True (fun _ _ q => absurd q hn1) q.1 trivial⟩)))
  have h1 : able.length = 1 := by simp at e; omega
  obtain ⟨a, ha⟩ := List.length_eq_one_iff.mp h1
  subst ha
  obtain ⟨ha1, ha2⟩ := (habm a).mp List.mem_cons_self
  have hnot : ∀ k, k < xs.length → k ≠ a → ¬ hiOf σ3 (nth xs k) ≥ lo := fun k hk hne q => hne (List.mem_singleton.mp ((habm k).mpr ⟨hk, (hpt k).mpr q⟩))
  have hoz : ((List.range xs.length).filter fun k => !decide (k = a)).length ≤ xs.length := Nat.le_trans (List.length_filter_le _ _) (by rw [List.length_range]; exact Nat.le_refl _)
  have itA : ∀ {X : List MO}, Itm b X (.dat (dN [a])) (.int 0) (.int a) := itm_list (j := 0) rfl rfl
  refine go_nil (go_cons (do_filt ["k"] (List.range xs.length) (fun i : Nat => D.int i) (fun k => !decide (k = a)) (fun k => dL ⟨nth xs k, .le, lo - 1⟩) (ecallT (ev_glob G.range) (es1 (ecallB (ev_glob G.len) (es1 (evn (d := .dat (dNt xs)))) hl)) fn_range1) (iter_nat (by omega)) (by rw [List.length_range]; exact hbig) (fun k hk => ⟨_, asg_name (d := .int k), sub1, ts_one (tv_cmp (evn (d := .int k)) (ev_item (evn (d := .dat (dN [a]))) ev_int itA) cmp_neN), fun _ => etup3 (d := .int (nth xs k)) (j := .int (lo - 1)) (ev_item (evn (d := .dat (dNt xs))) (evn (d := .int k)) (itm_N (List.mem_range.mp hk))) ev_str (ev_bin (evn (d := .int lo)) ev_int bin_sub)⟩) ?_))
  have kf4 : FixG xs z σ → ∀ v ∈ valsAt σ (nth xs a), saysF ⟨nth xs a, .ge, lo⟩ v = true := fun f v hv => by
    have e' := a3.acc.nop f
    subst e'
    refine says_ge.mpr ?_
    rw [← hlo]
    exact f.f4 a ha1 (by rw [hlo]; exact (hpt a).mp ha2) (fun k hk q => by rw [hlo]; exact hnot k hk q) v hv
  refine go_cons (do_return (ef_strike G K (S := S) (V := (· ∈ xs ++ [z])) (l := ⟨nth xs a, .ge, lo⟩) (rs := ⟨z, .ge, lo⟩ :: ((List.range xs.length).filter fun k => !decide (k = a)).map fun k => ⟨nth xs k, .le, lo - 1⟩) hW (evn (d := .raw (.ref A.a))) (etup3 (d := .int (nth xs a)) (j := .int lo) (ev_item (evn (d := .dat (dNt xs))) (ev_item (evn (d := .dat (dN [a]))) ev_int itA) (itm_N ha1)) ev_str evn) (ev_eq (ecallT (ev_glob G.tuple) (es1 (ev_bin (ev_list (ds := [dL ⟨z, .ge, lo⟩]) (es1 (etup3 (d := .int z) (j := .int lo) evn ev_str evn)) (by simp [big])) (evn (d := .list (((List.range xs.length).filter fun k => !decide (k = a)).map fun k => dL ⟨nth xs k, .le, lo - 1⟩))) (bin_list (by rw [List.length_map]; simp only [big, List.length_singleton]; omega)))) fn_tupL) (by rw [dR, List.map_cons, List.map_map]; rfl)) a3.acc.inv a3.ok (hx3 a ha1) (hVx _ (nth_mem ha1)) ?_ ?_ ?_ (fun w hw hr => ?_) fun σ4 t4 => ⟨σ4, a3.acc.hit t4 kf4, fun e q => ?_, rfl, rfl⟩))
  · intro r hr
    rcases List.mem_cons.mp hr with rfl | hr
    · exact hz3
    · obtain ⟨k, hk, rfl⟩ := List.mem_map.mp hr
      exact hx3 k (List.mem_range.mp (List.mem_filter.mp hk).1)
  · rw [List.length_cons, List.length_map]; omega
  · intro r hr v hv
    rcases List.mem_cons.mp hr with rfl | hr
    · have := (a3.acc.inv.lo hz3).2 v hv
      exact says_ge.mpr (by rw [← hlo]; exact this)
    · obtain ⟨k, hk, rfl⟩ := List.mem_map.mp hr
      have hk' := List.mem_filter.mp hk
      have hkl := List.mem_range.mp hk'.1
      have c1 := (a3.acc.inv.hi (hx3 k hkl)).2 v hv
      have c2 := hnot k hkl (by simpa using hk'.2)
      exact says_le.mpr (by omega)
  · have c0 := says_ge.mp (hr _ List.mem_cons_self)
    obtain ⟨⟨x, q, e1⟩, -⟩ := hS w hw
    obtain ⟨k, hk, e2⟩ := atN q
    dsimp only at c0
    by_cases c : k = a
    · rw [← c, e2]; exact says_ge.mpr (by dsimp only; omega)
    · have c1 := says_le.mp (hr _ (List.mem_cons_of_mem _ (List.mem_map_of_mem (List.mem_filter.mpr ⟨List.mem_range.mpr hk, by simpa using c⟩))))
      dsimp only at c1
      rw [e2] at c1
      omega
  · have a4 := a3.hit t4 (hx _ (nth_mem ha1)) kf4 e
    obtain ⟨q1, q2, q3⟩ := a4.same q
    refine ⟨q1.1.1, q1.1.2, q1.2, f4of True (fun e _ _ k hk v hv => ?_) q2 trivial⟩
    rw [List.mem_singleton.mp hk] at hv
    have c1 := says_ge.mp (q3 v hv)
    rw [← hlo] at c1
    unfold loOf at c1 ⊢
    rwa [domAt_eq e] at c1
end

/-- nothing left to strike -/
structure FixS (xs : List Nat) (z : Nat) (σ : Sto) : Prop where
  f1 : ∀ v ∈ valsAt σ z, ∃ x ∈ xs, v ≥ loOf σ x
  f2 : ∀ x ∈ xs, ∀ v ∈ valsAt σ z, v ≤ hiOf σ x
  f3 : ∀ x ∈ xs, ∀ v ∈ valsAt σ x, v ≥ loOf σ z
  f4 : ∀ k, k < xs.length → loOf σ (nth xs k) ≤ hiOf σ z → (∀ j, j < xs.length → j ≠ k → ¬ loOf σ (nth xs j) ≤ hiOf σ z) → ∀ v ∈ valsAt σ (nth xs k), v ≤ hiOf σ z
section
variable {b : Bas} {A : Ad} {σ : Sto} (G : Gs b) (K : Ks b) (P : Kr b)
include G K P in
theorem c_onceS {S : List (List Int)} {p dx : Addr} {xs : List Nat} {z : Nat} (h : Inv σ) (hf : σ.failed = false) (hx : ∀ x ∈ xs, x < σ.doms.length) (hz : z < σ.doms.length) (hne : xs ≠ []) (hlen : xs.length ≤ 80) (hS : ∀ w ∈ S, (∃ x ∈ xs, atI w x = atI w z) ∧ ∀ x ∈ xs, atI w x ≥ atI w z) :
    Cn b 6 (Xs A σ ++ Pp p 464 dx (xs ++ [z]) "bounds") (.ref 454) [.raw (.ref p), .raw (.ref A.a)] (OQ A (Pp p 464 dx (xs ++ [z]) "bounds") S (· ∈ xs ++ [z]) (FixS xs z) σ) := by
  generalize hR : Pp p 464 dx (xs ++ [z]) "bounds" = R
  refine cn_of ["self", "store"] P.fSo (fun c hV hW => ?_) (bind2 (by intros; rfl))
  have hW : OwnS c A := fun a ha => .inl (by rw [hW, List.map_append, xs_addr]; exact List.mem_append_left _ ha)
  suffices hgo : c.Go ((["self", "store"] : List Str).zip [.raw (.ref p), .raw (.ref A.a)]) (Xs A σ ++ R) (bodyOf (methOf 24 2)) fun _ X' fl => OQ A R S (· ∈ xs ++ [z]) (FixS xs z) σ fl.res X' from go_mono hgo fun _ X' _ q => ⟨X', List.Sublist.refl _, q⟩
  have hi1 : MO.inst p 464 dx ∈ Xs A σ ++ R := List.mem_append_right _ (by rw [← hR]; exact List.mem_cons_self)
  have hi2 : MO.dict dx (pf (xs ++ [z]) "bounds") ∈ Xs A σ ++ R := List.mem_append_right _ (by rw [← hR]; exact List.mem_cons_of_mem _ List.mem_cons_self)
  have hbig : xs.length ≤ big := by simp only [big]; omega
  have hVx : ∀ x ∈ xs, x ∈ xs ++ [z] := fun x q => List.mem_append_left _ q
  refine go_cons (do_assign2T (es_pure (es2 (d := .dat (dNt xs)) (g := .int z) (ev_eq (ev_butT (ev_attr P.S.c P.S.nS (evn (d := .raw (.ref p))) hi1 hi2 (d := .dat (dNt (xs ++ [z])))) (ev_neg ev_int) (by simp)) but_last1) (ev_item (ev_attr P.S.c P.S.nS (evn (d := .raw (.ref p))) hi1 hi2 (d := .dat (dNt (xs ++ [z])))) (ev_neg ev_int) itm_last1)) ⟨_, _, rfl, ?_⟩))
  clear hi1 hi2
  have a0 : Acs S (· ∈ xs ++ [z]) (FixS xs z σ) True σ σ := Acs.start h hf
  obtain ⟨m, m1, m2⟩ := ex_min (l := xs.map (loOf σ)) (by simpa using hne)
  have m3 : ∀ x ∈ xs, loOf σ x ≥ m := fun x q => m2 _ (List.mem_map_of_mem q)
  obtain ⟨y, hy, m4⟩ := List.mem_map.mp m1
  refine go_cons (do_assignK (ef_pure (ecallB (ev_glob G.min) (es1 (ev_eq (ev_mapc ["x"] xs (fun i : Nat => .int i) (fun i => .int (loOf σ i)) (evn (d := .dat (dNt xs))) iter_mapT hbig fun i hi => ⟨_, asg_name (d := .int i), sub1, ev_low G K (evn (d := .raw (.ref A.a))) (evn (d := .int i)) h (hx i hi)⟩) (d' := .list ((xs.map (loOf σ)).map .int)) (by rw [List.map_map]; rfl))) (fn_minL (List.length_pos_of_mem m1) m1 m2)) ?_))
  have kf0 : FixS xs z σ → ∀ v ∈ valsAt σ z, saysF ⟨z, .ge, m⟩ v = true := fun f v hv => by
    obtain ⟨x, q, c1⟩ := f.f1 v hv
    have c2 := m3 x q
    exact says_ge.mpr (by omega)
  refine go_cons (do_strike G K (S := S) (V := (· ∈ xs ++ [z])) (l := ⟨z, .ge, m⟩) (rs := xs.map fun x => ⟨x, .ge, m⟩) hW (evn (d := .raw (.ref A.a))) (etup3 (d := .int z) (j := .int m) evn ev_str evn) (ecallT (ev_glob G.tuple) (es1 (ev_eq (ev_mapc ["x"] xs (fun i : Nat => .int i) (fun i => dL ⟨i, .ge, m⟩) (evn (d := .dat (dNt xs))) iter_mapT hbig fun i hi => ⟨_, asg_name (d := .int i), sub1, etup3 (d := .int i) (j := .int m) evn ev_str evn⟩) (d' := .list ((xs.map fun x => (⟨x, .ge, m⟩ : Lit)).map dL)) (by rw [List.map_map]; rfl))) fn_tupL) h hf hz (by simp) ?_ (by rw [List.length_map]; omega) ?_ (fun w hw hr => ?_) fun σ1 t1 => ite_dd (fun e => OQ.fail (a0.acc.hit t1 kf0) e) fun e => ?_)
  · intro r hr
    obtain ⟨x, q, rfl⟩ := List.mem_map.mp hr
    exact hx x q
  · intro r hr v hv
    obtain ⟨x, q, rfl⟩ := List.mem_map.mp hr
    have c1 := (h.lo (hx x q)).2 v hv
    have c2 := m3 x q
    exact says_ge.mpr (by omega)
  · obtain ⟨⟨x, q, e⟩, -⟩ := hS w hw
    have c1 := says_ge.mp (hr _ (List.mem_map_of_mem q))
    exact says_ge.mpr (by dsimp only at c1 ⊢; omega)
  have a1 := a0.hit t1 hz kf0 e
  replace a1 : Acs S (· ∈ xs ++ [z]) (FixS xs z σ) (∀ v ∈ valsAt σ z, ∃ x ∈ xs, v ≥ loOf σ x) σ σ1 := a1.imp fun _ ⟨_, _, q⟩ v hv => ⟨y, hy, by have := says_ge.mp (q v hv); omega⟩
  show Cx.Go c _ _ _ _
  refine go_cons (do_for ["x"] xs (fun i : Nat => .int i) (fun done rest ρ X' => OIv A R S xs z (FixS xs z σ) ((∀ v ∈ valsAt σ z, ∃ x ∈ xs, v ≥ loOf σ x) ∧ ∀ x ∈ done, ∀ v ∈ valsAt σ z, v ≤ hiOf σ x) σ ρ X')
    (evn (d := .dat (dNt xs))) iter_mapT ⟨by trivial, by trivial, by trivial, σ1, rfl, a1.imp fun _ q => ⟨q, fun _ q => nomatch q⟩⟩ ?_ ?_)
  · rintro lk done x rest ρ1 X1 hd ⟨g1, g2, g3, σi, rfl, ai⟩
    have hxm : x ∈ xs := by rw [hd]; exact List.mem_append_right _ List.mem_cons_self
    have li := ai.acc.run.len
    have hxi : x < σi.doms.length := by rw [li]; exact hx x hxm
    have kf : FixS xs z σ → ∀ v ∈ valsAt σ z, saysF ⟨z, .le, hiOf σi x⟩ v = true := fun f v hv => by
      have e' := ai.acc.nop f
      subst e'
      exact says_le.mpr (f.f2 x hxm v hv)
    refine ⟨_, asg_name (d := .int x), go_cons (do_strike G K (S := S) (V := (· ∈ xs ++ [z])) (l := ⟨z, .le, hiOf σi x⟩) (rs := [⟨x, .le, hiOf σi x⟩]) hW (evn (d := .raw (.ref A.a))) (etup3 (d := .int z) (j := .int (hiOf σi x)) evn ev_str (ev_high G K (evn (d := .raw (.ref A.a))) (evn (d := .int x)) ai.acc.inv hxi)) (etup1 (d := dL ⟨x, .le, hiOf σi x⟩) (etup3 (d := .int x) (j := .int (hiOf σi x)) evn ev_str (ev_high G K (evn (d := .raw (.ref A.a))) (evn (d := .int x)) ai.acc.inv hxi))) ai.acc.inv ai.ok (by rw [li]; exact hz) (by simp) (by simpa using hxi) (by simp) ?_ (fun w hw hr => ?_) fun σj tj => ite_dd (fun e => OQ.fail (ai.acc.hit tj kf) e) fun e => go_nil ⟨by trivial, by trivial, by trivial, σj, rfl, (ai.hit tj hz kf e).imp ?_⟩)⟩
    · intro r hr v hv
      rw [List.mem_singleton.mp hr] at hv ⊢
      exact says_le.mpr ((ai.acc.inv.hi hxi).2 v hv)
    · have c1 := says_le.mp (hr _ List.mem_cons_self)
      have c2 := (hS w hw).2 x hxm
      exact says_le.mpr (by dsimp only at c1 ⊢; omega)
    · rintro - ⟨⟨q1, q2⟩, q3, q4⟩
      refine ⟨q1, fun u hu v hv => ?_⟩
      rcases List.mem_append.mp hu with q | q
      · exact q2 u q v hv
      · rw [List.mem_singleton.mp q]
        have := says_le.mp (q4 v hv)
        unfold hiOf at this ⊢
        rwa [domAt_eq q3] at this
  rintro ρ2 X2 ⟨g1, g2, g3, σ2, rfl, a2⟩
  refine go_cons (do_for ["x"] xs (fun i : Nat => .int i) (fun done rest ρ X' => OIv A R S xs z (FixS xs z σ) (((∀ v ∈ valsAt σ z, ∃ x ∈ xs, v ≥ loOf σ x) ∧ ∀ x ∈ xs, ∀ v ∈ valsAt σ z, v ≤ hiOf σ x) ∧ ∀ x ∈ done, ∀ v ∈ valsAt σ x, v ≥ loOf σ z) σ ρ X')
    (evn (d := .dat (dNt xs))) iter_mapT ⟨by trivial, by trivial, by trivial, σ2, rfl, a2.imp fun _ q => ⟨q, fun _ q => nomatch q⟩⟩ ?_ ?_)
  · rintro lk done x rest ρ1 X1 hd ⟨g1, g2, g3, σi, rfl, ai⟩
    have hxm : x ∈ xs := by rw [hd]; exact List.mem_append_right _ List.mem_cons_self
    have li := ai.acc.run.len
    have hzi : z < σi.doms.length := by rw [li]; exact hz
    have kf : FixS xs z σ → ∀ v ∈ valsAt σ x, saysF ⟨x, .ge, loOf σi z⟩ v = true := fun f v hv => by
      have e' := ai.acc.nop f
      subst e'
      exact says_ge.mpr (f.f3 x hxm v hv)
    refine ⟨_, asg_name (d := .int x), go_cons (do_strike G K (S := S) (V := (· ∈ xs ++ [z])) (l := ⟨x, .ge, loOf σi z⟩) (rs := [⟨z, .ge, loOf σi z⟩]) hW (evn (d := .raw (.ref A.a))) (etup3 (d := .int x) (j := .int (loOf σi z)) evn ev_str (ev_low G K (evn (d := .raw (.ref A.a))) (evn (d := .int z)) ai.acc.inv hzi)) (etup1 (d := dL ⟨z, .ge, loOf σi z⟩) (etup3 (d := .int z) (j := .int (loOf σi z)) evn ev_str (ev_low G K (evn (d := .raw (.ref A.a))) (evn (d := .int z)) ai.acc.inv hzi))) ai.acc.inv ai.ok (by rw [li]; exact hx x hxm) (hVx x hxm) (by simpa using hzi) (by simp) ?_ (fun w hw hr => ?_) fun σj tj => ite_dd (fun e => OQ.fail (ai.acc.hit tj kf) e) fun e => go_nil ⟨by trivial, by trivial, by trivial, σj, rfl, (ai.hit tj (hx x hxm) kf e).imp ?_⟩)⟩
    · intro r hr v hv
      rw [List.mem_singleton.mp hr] at hv ⊢
      exact says_ge.mpr ((ai.acc.inv.lo hzi).2 v hv)
    · have c1 := says_ge.mp (hr _ List.mem_cons_self)
      have c2 := (hS w hw).2 x hxm
      exact says_ge.mpr (by dsimp only at c1 ⊢; omega)
    · rintro - ⟨⟨q1, q2⟩, q3, q4⟩
      refine ⟨q1, fun u hu v hv => ?_⟩
      rcases List.mem_append.mp hu with q | q
      · exact q2 u q v hv
      · rw [List.mem_singleton.mp q] at hv
        have := says_ge.mp (q4 v hv)
        unfold loOf at this ⊢
        rwa [domAt_eq q3] at this
  rintro ρ3 X3 ⟨g1, g2, g3, σ3, rfl, a3⟩
  have l3 := a3.acc.run.len
  have hz3 : z < σ3.doms.length := by rw [l3]; exact hz
  have hx3 : ∀ k, k < xs.length → nth xs k < σ3.doms.length := fun k hk => by rw [l3]; exact hx _ (nth_mem hk)
  have hl := fn_lenT (b := b) (n := 5) (X := Xs A σ3 ++ R) (xs := xs.map fun i : Nat => PyData.int i)
  rw [List.length_map] at hl
  have hlc := fn_lenT (b := b) (n := 5) (X := Xs A σ3 ++ R) (xs := xs.map fun i : Nat => PyData.int i)
  refine go_cons (do_assignK (ef_pure (ev_high G K (evn (d := .raw (.ref A.a))) (evn (d := .int z)) a3.acc.inv hz3) ?_))
  generalize hlo : hiOf σ3 z = lo
  generalize hp : (fun k : Nat => decide (loOf σ3 (nth xs k) ≤ lo)) = p
  have hpt : ∀ k, p k = true ↔ loOf σ3 (nth xs k) ≤ lo := fun k => by rw [← hp]; exact decide_eq_true_iff
  generalize hab : (List.range xs.length).filter p = able
  have habm : ∀ k, k ∈ able ↔ k < xs.length ∧ p k = true := fun k => by rw [← hab, List.mem_filter, List.mem_range]
  have habz : able.length ≤ big := by rw [← hab]; exact Nat.le_trans (List.length_filter_le _ _) (by rw [List.length_range]; exact hbig)
  refine go_cons (do_assignK (ef_pure (ev_eq (ev_filt ["k"] (List.range xs.length) (fun i : Nat => D.int i) p (fun i : Nat => .int i) (ecallT (ev_glob G.range) (es1 (ecallB (ev_glob G.len) (es1 (evn (d := .dat (dNt xs)))) hl)) fn_range1) (iter_nat (by omega)) (by rw [List.length_range]; exact hbig) fun k hk => ⟨_, asg_name (d := .int k), sub1, ts_one (by
      rw [← hp]
      exact tv_cmp (ev_low G K (evn (d := .raw (.ref A.a))) (ev_item (evn (d := .dat (dNt xs))) (evn (d := .int k)) (itm_N (List.mem_range.mp hk))) a3.acc.inv (hx3 k (List.mem_range.mp hk))) (evn (d := .int lo)) cmp_le), fun _ => evn (d := .int k)⟩) (d' := .dat (dN able)) (by rw [hab])) ?_))
  have hl2 := fn_lenL (b := b) (n := 5) (X := Xs A σ3 ++ R) (xs := able.map fun i : Nat => PyData.int i)
  rw [List.length_map] at hl2
  have f4of : ∀ T : Prop, (σ3.doms = σ.doms → T → able.length = 1 → ∀ k, k ∈ able → ∀ v ∈ valsAt σ (nth xs k), v ≤ hiOf σ z) → σ3.doms = σ.doms → T → ∀ k, k < xs.length → loOf σ (nth xs k) ≤ hiOf σ z → (∀ j, j < xs.length → j ≠ k → ¬ loOf σ (nth xs j) ≤ hiOf σ z) → ∀ v ∈ valsAt σ (nth xs k), v ≤ hiOf σ z := fun T hT e ht k hk c1 c2 => by
    have ed := fun i => domAt_eq e i
    have el : lo = hiOf σ z := by rw [← hlo]; unfold hiOf; rw [ed]
    have eh : ∀ i, loOf σ3 i = loOf σ i := fun i => by unfold loOf; rw [ed]
    have pk : p k = true := (hpt k).mpr (by rw [eh, el]; exact c1)
    refine hT e ht ?_ k ((habm k).mpr ⟨hk, pk⟩)
    rw [← hab]
    refine one_left hk pk fun j hj hne => ?_
    cases q : p j with
    | false => rfl
    | true => exact absurd ((hpt j).mp q) (by rw [eh, el]; exact c2 j hj hne)
  refine go_cons (do_if (et_pure (tv_cmp (ecallB (ev_glob G.len) (es1 (evn (d := .dat (dN able)))) hl2) ev_int (cmp_neI (j := 1))) (ite_of (fun e => ?_) fun e => ?_)))
  · have hn1 : able.length ≠ 1 := by simp at e; omega
    have a3' := a3.imp fun e q => And.intro e q
    exact go_cons (do_return (ef_pure ev_bool (OQ.ok a3' fun q => ⟨q.2.1.1, q.2.1.2, q.2.2, f4of True (fun _ _ q => absurd q hn1) q.1 trivial⟩)))
  have h1 : able.length = 1 := by simp at e; omega
  obtain ⟨a, ha⟩ := List.length_eq_one_iff.mp h1
  subst ha
  obtain ⟨ha1, ha2⟩ := (habm a).mp List.mem_cons_self
  have hnot : ∀ k, k < xs.length → k ≠ a → ¬ loOf σ3 (nth xs k) ≤ lo := fun k hk hne q => hne (List.mem_singleton.mp ((habm k).mpr ⟨hk, (hpt k).mpr q⟩))
  have hoz : ((List.range xs.length).filter fun k => !decide (k = a)).length ≤ xs.length := Nat.le_trans (List.length_filter_le _ _) (by rw [List.length_range]; exact Nat.le_refl _)
  have itA : ∀ {X : List MO}, Itm b X (.dat (dN [a])) (.int 0) (.int a) := itm_list (j := 0) rfl rfl
  refine go_nil (go_cons (do_filt ["k"] (List.range xs.length) (fun i : Nat => D.int i) (fun k => !decide (k = a)) (fun k => dL ⟨nth xs k, .ge, lo + 1⟩) (ecallT (ev_glob G.range) (es1 (ecallB (ev_glob G.len) (es1 (evn (d := .dat (dNt xs)))) hl)) fn_range1) (iter_nat (by omega)) (by rw [List.length_range]; exact hbig) (fun k hk => ⟨_, asg_name (d := .int k), sub1, ts_one (tv_cmp (evn (d := .int k)) (ev_item (evn (d := .dat (dN [a]))) ev_int itA) cmp_neN), fun _ => etup3 (d := .int (nth xs k)) (j := .int (lo + 1)) (ev_item (evn (d := .dat (dNt xs))) (evn (d := .int k)) (itm_N (List.mem_range.mp hk))) ev_str (ev_bin (evn (d := .int lo)) ev_int bin_add)⟩) ?_))
  have kf4 : FixS xs z σ → ∀ v ∈ valsAt σ (nth xs a), saysF ⟨nth xs a, .le, lo⟩ v = true := fun f v hv => by
    have e' := a3.acc.nop f
    subst e'
    refine says_le.mpr ?_
    rw [← hlo]
    exact f.f4 a ha1 (by rw [hlo]; exact (hpt a).mp ha2) (fun k hk q => by rw [hlo]; exact hnot k hk q) v hv
  refine go_cons (do_return (ef_strike G K (S := S) (V := (· ∈ xs ++ [z])) (l := ⟨nth xs a, .le, lo⟩) (rs := ⟨z, .le, lo⟩ :: ((List.range xs.length).filter fun k => !decide (k = a)).map fun k => ⟨nth xs k, .ge, lo + 1⟩) hW (evn (d := .raw (.ref A.a))) (etup3 (d := .int (nth xs a)) (j := .int lo) (ev_item (evn (d := .dat (dNt xs))) (ev_item (evn (d := .dat (dN [a]))) ev_int itA) (itm_N ha1)) ev_str evn) (ev_eq (ecallT (ev_glob G.tuple) (es1 (ev_bin (ev_list (ds := [dL ⟨z, .le, lo⟩]) (es1 (etup3 (d := .int z) (j := .int lo) evn ev_str evn)) (by simp [big])) (evn (d := .list (((List.range xs.length).filter fun k => !decide (k = a)).map fun k => dL ⟨nth xs k, .ge, lo + 1⟩))) (bin_list (by rw [List.length_map]; simp only [big, List.length_singleton]; omega)))) fn_tupL) (by rw [dR, List.map_cons, List.map_map]; rfl)) a3.acc.inv a3.ok (hx3 a ha1) (hVx _ (nth_mem ha1)) ?_ ?_ ?_ (fun w hw hr => ?_) fun σ4 t4 => ⟨σ4, a3.acc.hit t4 kf4, fun e q => ?_, rfl, rfl⟩))
  · intro r hr
    rcases List.mem_cons.mp hr with rfl | hr
    · exact hz3
    · obtain ⟨k, hk, rfl⟩ := List.mem_map.mp hr
      exact hx3 k (List.mem_range.mp (List.mem_filter.mp hk).1)
  · rw [List.length_cons, List.length_map]; omega
  · intro r hr v hv
    rcases List.mem_cons.mp hr with rfl | hr
    · have := (a3.acc.inv.hi hz3).2 v hv
      exact says_le.mpr (by rw [← hlo]; exact this)
    · obtain ⟨k, hk, rfl⟩ := List.mem_map.mp hr
      have hk' := List.mem_filter.mp hk
      have hkl := List.mem_range.mp hk'.1
      have c1 := (a3.acc.inv.lo (hx3 k hkl)).2 v hv
      have c2 := hnot k hkl (by simpa using hk'.2)
      exact says_ge.mpr (by omega)
  · have c0 := says_le.mp (hr _ List.mem_cons_self)
    obtain ⟨⟨x, q, e1⟩, -⟩ := hS w hw
    obtain ⟨k, hk, e2⟩ := atN q
    dsimp only at c0
    by_cases c : k = a
    · rw [← c, e2]; exact says_le.mpr (by dsimp only; omega)
    · have c1 := says_ge.mp (hr _ (List.mem_cons_of_mem _ (List.mem_map_of_mem (List.mem_filter.mpr ⟨List.mem_range.mpr hk, by simpa using c⟩))))
      dsimp only at c1
      rw [e2] at c1
      omega
  · have a4 := a3.hit t4 (hx _ (nth_mem ha1)) kf4 e
    obtain ⟨q1, q2, q3⟩ := a4.same q
    refine ⟨q1.1.1, q1.1.2, q1.2, f4of True (fun e _ _ k hk v hv => ?_) q2 trivial⟩
    rw [List.mem_singleton.mp hk] at hv
    have c1 := says_le.mp (q3 v hv)
    rw [← hlo] at c1
    unfold hiOf at c1 ⊢
    rwa [domAt_eq e] at c1
end

theorem dom_ext {σ τ : Sto} (h : τ.doms.length = σ.doms.length) (k : ∀ i, domAt τ i = domAt σ i) : τ.doms = σ.doms := by
  refine List.ext_getElem h fun i h1 h2 => ?_
  have := k i
  unfold domAt at this
  rw [List.getD_eq_getElem?_getD, List.getD_eq_getElem?_getD, List.getElem?_eq_getElem h1, List.getElem?_eq_getElem h2] at this
  exact this
noncomputable abbrev sd (scope : List Nat) (σ : Sto) : List Dom := scope.map fun x => domAt σ x
theorem sd_doms {S : List (List Int)} {scope : List Nat} {σ τ : Sto} (a : Run S (· ∈ scope) σ τ) (h : sd scope τ = sd scope σ) : τ.doms = σ.doms := dom_ext a.len fun i => by
  by_cases c : i ∈ scope
  · exact List.map_inj_left.mp h i c
  · exact a.off i c
noncomputable abbrev dDs (l : List Dom) : PyData := .list (l.map dD)
theorem pnDs (l : List Dom) : Pn 3 (dDs l) := .list (pn_map pnD)
theorem dDs_inj {l m : List Dom} (h : dDs l = dDs m) : l = m := (List.map_inj_right fun x y h => dD_inj h).mp (PyData.list.inj h)
noncomputable def optB : Option (List Dom) → PyData
  | none => .none
  | some l => dDs l
theorem cmp_neB {b : Bas} {o : Option (List Dom)} {l : List Dom} : Cmp b .NotEq (.dat (optB o)) (.dat (dDs l)) (!decide (o = some l)) := by
  cases o with
  | none =>
    have := cmp_neD (b := b) (d := .none) (e := dDs l) (by decide +kernel) ((pnDs l).shaped (by omega))
    rwa [show PyData.none.eqv (dDs l) = decide ((none : Option (List Dom)) = some l) by simp [PyData.eqv]] at this
  | some m => exact cmp_neP (pnDs m) (pnDs l) (by omega) (by rw [decide_eq_true_iff, Option.some_inj]; exact ⟨fun h => h ▸ rfl, dDs_inj⟩)
section
variable {b : Bas} {A : Ad} {σ : Sto} (G : Gs b) (K : Ks b) (P : Kr b)
omit G in
include K P in
theorem c_propE {S : List (List Int)} {p C dx fo fI : Addr} {st : Stmt} {scope : List Nat} {F : Sto → Prop} (hC : Ps b C fI) (mo : Meth b C "once" fo) (fn : IsFn b st fo) (hF : ∀ {σ τ : Sto}, τ.doms = σ.doms → F σ → F τ) (hlen : scope.length ≤ 100) (h : Inv σ) (hf : σ.failed = false) (hs : ∀ x ∈ scope, x < σ.doms.length)
    (once : ∀ τ : Sto, Inv τ → τ.failed = false → τ.doms.length = σ.doms.length → Cn b 6 (Xs A τ ++ Pp p C dx scope "bounds") (.ref fo) [.raw (.ref p), .raw (.ref A.a)] (OQ A (Pp p C dx scope "bounds") S (· ∈ scope) F τ)) :
    Cn b 7 (Xs A σ ++ Pp p C dx scope "bounds") (.ref 381) [.raw (.ref p), .raw (.ref A.a)] (PQ A (Pp p C dx scope "bounds") S (· ∈ scope) F σ) := by
  generalize hR : Pp p C dx scope "bounds" = R at once ⊢
  refine cn_of ["self", "store"] P.fEp (fun c hV hW => ?_) (bind2 (by intros; rfl))
  have hW' : ∀ τ, ∀ t ∈ Xs A τ ++ R, t.addr ∈ c.W ∨ c.s0.heap.get? t.addr = none := fun τ t ht => .inl (by
    rw [hW, List.map_append, xs_addr, ← xs_addr (σ := τ), ← List.map_append]; exact List.mem_map_of_mem ht)
  suffices hgo : c.Go ((["self", "store"] : List Str).zip [.raw (.ref p), .raw (.ref A.a)]) (Xs A σ ++ R) (bodyOf (methOf 22 2)) fun _ X' fl => PQ A R S (· ∈ scope) F σ fl.res X' from go_mono hgo fun _ X' _ q => ⟨X', List.Sublist.refl _, q⟩
  have hi1 : ∀ τ, MO.inst p C dx ∈ Xs A τ ++ R := fun τ => List.mem_append_right _ (by rw [← hR]; exact List.mem_cons_self)
  have hi2 : ∀ τ, MO.dict dx (pf scope "bounds") ∈ Xs A τ ++ R := fun τ => List.mem_append_right _ (by rw [← hR]; exact List.mem_cons_of_mem _ List.mem_cons_self)
  have hbig : scope.length ≤ big := by simp only [big]; omega
  have hcomp : ∀ τ : Sto, sd scope τ = scope.map fun x => domAt τ x := fun _ => rfl
  refine go_cons (do_assign (ef_pure ev_none ?_))
  refine go_cons (do_while (fun k ρ X => ∃ bf τ, Has "before" (.dat (optB bf)) ρ ∧ Has "self" (.raw (.ref p)) ρ ∧ Has "store" (.raw (.ref A.a)) ρ ∧ X = Xs A τ ++ R ∧ Acc S (· ∈ scope) (F σ) σ τ ∧ τ.failed = false ∧ (bf = some (sd scope τ) → F τ) ∧ k = 2 * msr τ.doms + (if bf = some (sd scope τ) then 0 else 1)) (2 * msr σ.doms + 1) ⟨none, σ, List.mem_cons_self, by trivial, by trivial, rfl, Acc.start h hf, hf, (fun q => nomatch q), by simp⟩ ?_)
  rintro k ρ1 X1 ⟨bf, τ, g1, g2, g3, rfl, a, e, hb, rfl⟩
  have lτ := a.run.len
  have hsτ : ∀ x ∈ scope, x < τ.doms.length := fun x q => by rw [lτ]; exact hs x q
  refine et_bool (ea_and (et_not (et_pure (tv_value (at_failed K (evn (d := .raw (.ref A.a))) (List.mem_append_left _ xs_a) (List.mem_append_left _ xs_d)) tr_bool) ?_)))
  rw [e]
  refine ea_and (et_pure (tv_cmp (evn (d := .dat (optB bf))) (ev_eq (ev_mapc ["x"] scope (fun i : Nat => .int i) (fun i => dD (domAt τ i)) (ev_attr hC.c hC.nS (evn (d := .raw (.ref p))) (hi1 τ) (hi2 τ) (d := .dat (dNt scope))) iter_mapT hbig fun i hi => ⟨_, asg_name (d := .int i), sub1, ev_dom K (evn (d := .raw (.ref A.a))) (evn (d := .int i)) a.inv.few (hsτ i hi)⟩) (d' := .dat (dDs (sd scope τ))) (by rw [dDs, List.map_map]; rfl)) cmp_neB) (ite_dd (fun e1 => ea_and_nil ?_) fun e1 => ?_))
  · have hne : bf ≠ some (sd scope τ) := by simpa using e1
    refine go_cons (do_mapc ["x"] scope (fun i : Nat => .int i) (fun i => dD (domAt τ i)) (ev_attr hC.c hC.nS (evn (d := .raw (.ref p))) (hi1 τ) (hi2 τ) (d := .dat (dNt scope))) iter_mapT hbig (fun i hi => ⟨_, asg_name (d := .int i), sub1, ev_dom K (evn (d := .raw (.ref A.a))) (evn (d := .int i)) a.inv.few (hsτ i hi)⟩) ?_)
    rw [show (scope.map fun i => dD (domAt τ i)) = (sd scope τ).map dD by rw [List.map_map]; rfl]
    refine go_cons (do_if (et_not (et_value (ef_meth (evn (d := .raw (.ref p))) (gm_meth hC.c mo (hi1 τ) (hi2 τ)) fn.ke (es_pure (es1 (evn (d := .raw (.ref A.a)))) (cl_cn [] (Xs A τ ++ R) [] ((once τ a.inv e lτ).mono (Q' := fun d X' => ∃ t, Tr b d t ∧ if !t then _ else _) fun d X' ⟨τ', b1, b2, b3, b4⟩ => ?_) (by decide) (hW' τ) (by simp)))))))
    rw [b3, b4, List.append_nil, List.nil_append]
    refine ⟨_, tr_bool, ?_⟩
    rw [Bool.not_not]
    have a' : Acc S (· ∈ scope) (F σ) σ τ' := ⟨a.run.trans b1.run, b1.inv, fun f => by have q := a.nop f; subst q; exact b1.nop f⟩
    refine ite_dd (fun e2 => ?_) fun e2 => ?_
    · exact go_cons (do_return (ef_pure ev_bool (PQ.fail a' e2)))
    refine go_nil (go_nil ⟨2 * msr τ'.doms + (if some (sd scope τ) = some (sd scope τ') then 0 else 1), ?_, some (sd scope τ), τ', List.mem_cons_self, by trivial, by trivial, rfl, a', e2, fun q => ?_, rfl⟩)
    · rw [if_neg hne]
      split
      · rename_i q
        rw [sd_doms b1.run (Option.some.inj q).symm]; omega
      · rename_i q
        obtain ⟨t, t1, t2, t3, t4, t5⟩ := b1.run.ent
        have : t ≠ [] := by
          rintro rfl
          exact q (congrArg some (by unfold sd; exact List.map_congr_left fun x _ => (domAt_eq (σ := τ) (τ := τ') t4 x).symm))
        have := List.length_pos_iff.mpr this
        omega
    · have q := sd_doms b1.run (Option.some.inj q).symm
      exact hF q (b2 e2 q)
  · have hy : bf = some (sd scope τ) := by simpa using e1
    refine go_cons (do_return (ef_pure (ev_not (at_failed K (evn (d := .raw (.ref A.a))) (List.mem_append_left _ xs_a) (List.mem_append_left _ xs_d)) tr_bool) ?_))
    rw [e]
    exact PQ.ok a e (hb hy)
theorem FixG.of {xs : List Nat} {z : Nat} {σ τ : Sto} (h : τ.doms = σ.doms) (f : FixG xs z σ) : FixG xs z τ := by
  have e := domAt_eq h
  have e1 : ∀ i, valsAt τ i = valsAt σ i := fun i => by unfold valsAt; rw [e]
  have e2 : ∀ i, hiOf τ i = hiOf σ i := fun i => by unfold hiOf; rw [e]
  have e3 : ∀ i, loOf τ i = loOf σ i := fun i => by unfold loOf; rw [e]
  obtain ⟨f1, f2, f3, f4⟩ := f
  constructor <;> simp only [e1, e2, e3] <;> assumption
theorem FixS.of {xs : List Nat} {z : Nat} {σ τ : Sto} (h : τ.doms = σ.doms) (f : FixS xs z σ) : FixS xs z τ := by
  have e := domAt_eq h
  have e1 : ∀ i, valsAt τ i = valsAt σ i := fun i => by unfold valsAt; rw [e]
  have e2 : ∀ i, hiOf τ i = hiOf σ i := fun i => by unfold hiOf; rw [e]
  have e3 : ∀ i, loOf τ i = loOf σ i := fun i => by unfold loOf; rw [e]
  obtain ⟨f1, f2, f3, f4⟩ := f
  constructor <;> simp only [e1, e2, e3] <;> assumption
end

/-- a row of values, by its places -/
noncomputable def rowOf (n : Nat) (f : Nat → Int) : List Int := (List.range n).map f
theorem row_len {n : Nat} {f : Nat → Int} : (rowOf n f).length = n := by unfold rowOf; rw [List.length_map, List.length_range]
theorem row_at {n : Nat} {f : Nat → Int} {i : Nat} (h : i < n) : atI (rowOf n f) i = f i := by
  unfold atI rowOf
  rw [List.getD_eq_getElem?_getD, List.getElem?_map, List.getElem?_range h]; rfl
theorem sup_iff {kind : Int} {scope : List Nat} {ls kept : List (List Int)} : supF kind scope ls kept = true ↔ ∀ x ∈ scope, ∀ v ∈ atL (askedF kind ls) x, ∃ w ∈ waysF kind scope ls kept, atI w x = v := by
  unfold supF missF
  rw [List.all_eq_true]
  refine forall_congr' fun x => forall_congr' fun _ => ?_
  rw [filt_nil]
  simp only [List.contains_iff_mem, List.mem_map]
theorem meant_A {row : List Int} : meantF 0 row = true ↔ 0 ≤ atI row 1 ∧ (atI row 0 = atI row 1 ∨ atI row 0 = -atI row 1) := by
  unfold meantF
  rw [if_pos rfl, Bool.and_eq_true, decide_eq_true_iff, beq_iff_eq, sq_eq]
theorem last_snoc {xs : List Nat} {z : Nat} {g : Nat → Int} : lastI ((xs ++ [z]).map g) = g z := by unfold lastI; simp
theorem drop_snoc {xs : List Nat} {z : Nat} {g : Nat → Int} : ((xs ++ [z]).map g).dropLast = xs.map g := by rw [List.map_append]; simp
theorem meant_X {kind : Int} (hk : kind ≠ 0) {xs : List Nat} {z : Nat} {g : Nat → Int} : meantF kind ((xs ++ [z]).map g) = true ↔ (∃ x ∈ xs, g x = g z) ∧ ∀ x ∈ xs, ¬ (if kind = 1 then g x > g z else g x < g z) := by
  unfold meantF
  rw [if_neg hk, Bool.and_eq_true, drop_snoc, last_snoc, List.contains_iff_mem, List.mem_map, List.isEmpty_iff, List.filter_eq_nil_iff]
  refine and_congr Iff.rfl ?_
  simp only [List.mem_map, forall_exists_index, and_imp, forall_apply_eq_imp_iff₂, pastF, last_snoc]
  refine forall_congr' fun x => forall_congr' fun _ => ?_
  split <;> simp
theorem meant_G {xs : List Nat} {z : Nat} {g : Nat → Int} : meantF 1 ((xs ++ [z]).map g) = true ↔ (∃ x ∈ xs, g x = g z) ∧ ∀ x ∈ xs, g x ≤ g z := by
  rw [meant_X (by decide)]
  simp only [if_true, Int.not_lt, gt_iff_lt]
theorem meant_S {xs : List Nat} {z : Nat} {g : Nat → Int} : meantF 2 ((xs ++ [z]).map g) = true ↔ (∃ x ∈ xs, g x = g z) ∧ ∀ x ∈ xs, g x ≥ g z := by
  rw [meant_X (by decide)]
  simp only [show ¬ ((2 : Int) = 1) by decide, if_false, Int.not_lt, ge_iff_le]
theorem Inv.wide {σ : Sto} (h : Inv σ) {i : Nat} (hi : i < σ.doms.length) : atL (wideF (lists σ)) i = nums (loOf σ i) (hiOf σ i + 1) ∧ atL (askedF 1 (lists σ)) i = [loOf σ i, hiOf σ i] := by
  have hl : i < (lists σ).length := by rw [List.length_map]; exact hi
  have e : (lists σ)[i] = valsAt σ i := by rw [← atL_lists]; unfold atL; rw [List.getD_eq_getElem?_getD, List.getElem?_eq_getElem hl]; rfl
  have s := (h.dk hi).1.srt
  have a1 : atI (valsAt σ i) 0 = loOf σ i := at0_srt s (h.lo hi).1 (h.lo hi).2
  have a2 : lastI (valsAt σ i) = hiOf σ i := last_srt s (h.hi hi).1 (h.hi hi).2
  unfold wideF askedF
  rw [if_neg (by decide), atL_map hl, atL_map hl, e, a1, a2]
  exact ⟨rfl, rfl⟩
theorem Inv.lohi {σ : Sto} (h : Inv σ) {i : Nat} (hi : i < σ.doms.length) : loOf σ i ≤ hiOf σ i := (h.hi hi).2 _ (h.lo hi).1
theorem sup_X {kind : Int} (hk : kind ≠ 0) {scope : List Nat} {kept : List (List Int)} {σ : Sto} (h : Inv σ) (hs : ∀ x ∈ scope, x < σ.doms.length)
    (k : ∀ y ∈ scope, ∀ v, v = loOf σ y ∨ v = hiOf σ y → ∃ f : Nat → Int, f y = v ∧ (∀ i, i < σ.doms.length → loOf σ i ≤ f i ∧ f i ≤ hiOf σ i) ∧ meantF kind (scope.map f) = true) : supF kind scope (lists σ) kept = true := by
  rw [sup_iff]
  intro y hy v hv
  have e : askedF kind (lists σ) = askedF 1 (lists σ) := by unfold askedF; rw [if_neg hk, if_neg (by decide)]
  rw [e, (h.wide (hs y hy)).2] at hv
  obtain ⟨f, f1, f2, f3⟩ := k y hy v (by simpa using hv)
  refine ⟨rowOf σ.doms.length f, ?_, by rw [row_at (hs y hy), f1]⟩
  unfold waysF
  rw [if_neg hk, List.mem_filter, mem_worlds]
  refine ⟨⟨by rw [row_len]; unfold wideF lists; rw [List.length_map, List.length_map], fun i hi => ?_⟩, ?_⟩
  · have hi : i < σ.doms.length := by unfold wideF lists at hi; rwa [List.length_map, List.length_map] at hi
    rw [row_at hi, (h.wide hi).1, mem_nums]
    have := f2 i hi
    omega
  · rw [show (scope.map fun x => atI (rowOf σ.doms.length f) x) = scope.map f from List.map_congr_left fun x hx => row_at (hs x hx)]
    exact f3
/-- all rows of the beginning that are meant -/
noncomputable def keptF (kind : Int) (scope : List Nat) (firsts : List Dom) : List (List Int) := (worldsF (firsts.map valuesOf)).filter fun w => meantF kind (scope.map fun x => atI w x)
theorem sup_A {x z : Nat} {σ : Sto} (h : Inv σ) (hx : x < σ.doms.length) (hz : z < σ.doms.length) (hne : x ≠ z) (f : FixA x z σ) : supF 0 [x, z] (lists σ) (keptF 0 [x, z] σ.firsts) = true := by
  have key : ∀ u v, u ∈ valsAt σ x → v ∈ valsAt σ z → (u = v ∨ u = -v) → ∃ w ∈ waysF 0 [x, z] (lists σ) (keptF 0 [x, z] σ.firsts), atI w x = u ∧ atI w z = v := fun u v hu hv huv => by
    have a1 : atI (rowOf σ.doms.length fun i => if i = x then u else if i = z then v else loOf σ i) x = u := by rw [row_at hx, if_pos rfl]
    have a2 : atI (rowOf σ.doms.length fun i => if i = x then u else if i = z then v else loOf σ i) z = v := by rw [row_at hz, if_neg (fun e => hne e.symm), if_pos rfl]
    have hin : ∀ i, i < σ.doms.length → atI (rowOf σ.doms.length fun i => if i = x then u else if i = z then v else loOf σ i) i ∈ valsAt σ i := fun i hi => by
      rw [row_at hi]
      split
      · rename_i e; rw [e]; exact hu
      · split
        · rename_i e; rw [e]; exact hv
        · exact (h.lo hi).1
    refine ⟨_, ?_, a1, a2⟩
    unfold waysF keptF
    rw [if_pos rfl, List.mem_filter, List.mem_filter, mem_worlds, inS_iff, meant_A]
    refine ⟨⟨⟨by rw [row_len, List.length_map, h.flen], fun i hi => ?_⟩, ?_⟩, hin⟩
    · rw [List.length_map, h.flen] at hi
      have := h.sub i hi _ (hin i hi)
      rw [atL_map (by rw [h.flen]; exact hi)]
      rwa [List.getD_eq_getElem?_getD, List.getElem?_eq_getElem (by rw [h.flen]; exact hi)] at this
    · simp only [List.map_cons, List.map_nil, atI, List.getD_cons_zero, List.getD_cons_succ]
      unfold atI at a1 a2
      rw [a1, a2]
      exact ⟨f.pos v hv, huv⟩
  rw [sup_iff]
  intro y hy v hv
  have hv : v ∈ valsAt σ y := by rw [← atL_lists]; exact hv
  rcases List.mem_cons.mp hy with rfl | hy
  · obtain ⟨w, w1, w2, -⟩ := key v (aI v) hv (f.fwd v hv) (by simp only [aI]; split <;> omega)
    exact ⟨w, w1, w2⟩
  · rw [List.mem_singleton.mp hy] at hv ⊢
    rcases f.bwd v hv with q | q
    · obtain ⟨w, w1, -, w2⟩ := key v v q hv (.inl rfl)
      exact ⟨w, w1, w2⟩
    · obtain ⟨w, w1, -, w2⟩ := key (-v) v q hv (.inr rfl)
      exact ⟨w, w1, w2⟩

theorem nth_inj {xs : List Nat} (n : xs.Nodup) {j k : Nat} (hj : j < xs.length) (hk : k < xs.length) (e : nth xs j = nth xs k) : j = k := by
  unfold nth at e
  rw [List.getD_eq_getElem?_getD, List.getD_eq_getElem?_getD, List.getElem?_eq_getElem hj, List.getElem?_eq_getElem hk] at e
  have p := List.pairwise_iff_getElem.mp n
  rcases Nat.lt_trichotomy j k with c | c | c
  · exact absurd e (p j k hj hk c)
  · exact c
  · exact absurd e.symm (p k j hk hj c)
theorem sup_G {xs : List Nat} {z : Nat} {σ : Sto} {kept : List (List Int)} (h : Inv σ) (hs : ∀ x ∈ xs ++ [z], x < σ.doms.length) (hnd : (xs ++ [z]).Nodup) (f : FixG xs z σ) : supF 1 (xs ++ [z]) (lists σ) kept = true := by
  obtain ⟨n1, -, n2⟩ := List.nodup_append.mp hnd
  have hzx : ∀ x ∈ xs, x ≠ z := fun x hx => n2 x hx z List.mem_cons_self
  have hz : z < σ.doms.length := hs z (List.mem_append_right _ List.mem_cons_self)
  have hx : ∀ x ∈ xs, x < σ.doms.length := fun x q => hs x (List.mem_append_left _ q)
  have zlo := h.lo hz
  have zhi := h.hi hz
  have low : ∀ x ∈ xs, loOf σ z ≥ loOf σ x := fun x q => f.f2 x q _ zlo.1
  have high : ∀ x ∈ xs, hiOf σ x ≤ hiOf σ z := fun x q => f.f3 x q _ (h.hi (hx x q)).1
  refine sup_X (by decide) h hs fun y hy v hv => ?_
  have end1 : ∃ f : Nat → Int, f y = hiOf σ y ∧ (∀ i, i < σ.doms.length → loOf σ i ≤ f i ∧ f i ≤ hiOf σ i) ∧ meantF 1 ((xs ++ [z]).map f) = true := by
    refine ⟨hiOf σ, rfl, fun i hi => by have := h.lohi hi; omega, meant_G.mpr ⟨?_, high⟩⟩
    obtain ⟨x, q, c1⟩ := f.f1 _ zhi.1
    have := high x q
    exact ⟨x, q, by omega⟩
  have end2 : ∃ f : Nat → Int, f y = loOf σ y ∧ (∀ i, i < σ.doms.length → loOf σ i ≤ f i ∧ f i ≤ hiOf σ i) ∧ meantF 1 ((xs ++ [z]).map f) = true := by
    rcases List.mem_append.mp hy with hy | hy
    · obtain ⟨t, t1, t2⟩ := ex_max (l := xs.map fun x => if x = y then loOf σ y else hiOf σ x) (by intro e; rw [List.map_eq_nil_iff.mp e] at hy; cases hy)
      obtain ⟨x0, q0, e0⟩ := List.mem_map.mp t1
      have t3 : ∀ x ∈ xs, (if x = y then loOf σ y else hiOf σ x) ≤ t := fun x q => t2 _ (List.mem_map.mpr ⟨x, q, rfl⟩)
      have yy := h.lohi (hx y hy)
      have thi : t ≤ hiOf σ z := by
        have c := high x0 q0
        split at e0
        · rename_i e; subst e; omega
        · omega
      have tlo : t ≥ loOf σ z := by
        by_cases c : ∃ x ∈ xs, x ≠ y ∧ hiOf σ x ≥ loOf σ z
        · obtain ⟨x, q, c1, c2⟩ := c
          have := t3 x q
          rw [if_neg c1] at this
          omega
        · have c : ∀ x ∈ xs, x ≠ y → ¬ hiOf σ x ≥ loOf σ z := fun x q c1 c2 => c ⟨x, q, c1, c2⟩
          obtain ⟨k, hk, ek⟩ := atN hy
          have yb : hiOf σ y ≥ loOf σ z := by
            obtain ⟨x, q, c1⟩ := f.f1 _ zlo.1
            by_cases e : x = y
            · rwa [e] at c1
            · exact absurd c1 (c x q e)
          have := f.f4 k hk (by rw [ek]; exact yb) (fun j hj hne => c _ (nth_mem hj) fun e => by
            exact hne (nth_inj n1 hj hk (e.trans ek.symm))) (loOf σ y) (by rw [ek]; exact (h.lo (hx y hy)).1)
          have c3 := t3 y hy
          rw [if_pos rfl] at c3
          omega
      refine ⟨fun i => if i = z then t else if i = y then loOf σ y else hiOf σ i, by dsimp only; rw [if_neg (hzx y hy), if_pos rfl], fun i hi => ?_, meant_G.mpr ⟨⟨x0, q0, ?_⟩, fun x q => ?_⟩⟩
      · have := h.lohi hi
        dsimp only
        split
        · rename_i e; subst e; omega
        · split
          · rename_i e; subst e; omega
          · omega
      · rw [if_neg (hzx x0 q0), if_pos rfl]; exact e0
      · rw [if_neg (hzx x q), if_pos rfl]; exact t3 x q
    · rw [List.mem_singleton.mp hy]
      refine ⟨fun i => if i ∈ xs ∧ hiOf σ i ≥ loOf σ z then loOf σ z else loOf σ i, by simp, fun i hi => ?_, meant_G.mpr ⟨?_, fun x q => ?_⟩⟩
      · have := h.lohi hi
        dsimp only
        split
        · rename_i e
          have := low i e.1
          omega
        · omega
      · obtain ⟨x, q, c1⟩ := f.f1 _ zlo.1
        refine ⟨x, q, ?_⟩
        rw [if_pos ⟨q, c1⟩]; simp
      · have a1 := h.lohi (hx x q)
        have a2 := low x q
        rw [show (if z ∈ xs ∧ hiOf σ z ≥ loOf σ z then loOf σ z else loOf σ z) = loOf σ z by simp]
        split
        · omega
        · rename_i e
          have : ¬ hiOf σ x ≥ loOf σ z := fun c => e ⟨q, c⟩
          omega
  rcases hv with rfl | rfl
  · exact end2
  · exact end1
theorem sup_S {xs : List Nat} {z : Nat} {σ : Sto} {kept : List (List Int)} (h : Inv σ) (hs : ∀ x ∈ xs ++ [z], x < σ.doms.length) (hnd : (xs ++ [z]).Nodup) (f : FixS xs z σ) : supF 2 (xs ++ [z]) (lists σ) kept = true := by
  obtain ⟨n1, -, n2⟩ := List.nodup_append.mp hnd
  have hzx : ∀ x ∈ xs, x ≠ z := fun x hx => n2 x hx z List.mem_cons_self
  have hz : z < σ.doms.length := hs z (List.mem_append_right _ List.mem_cons_self)
  have hx : ∀ x ∈ xs, x < σ.doms.length := fun x q => hs x (List.mem_append_left _ q)
  have zlo := h.hi hz
  have zhi := h.lo hz
  have low : ∀ x ∈ xs, hiOf σ z ≤ hiOf σ x := fun x q => f.f2 x q _ zlo.1
  have high : ∀ x ∈ xs, loOf σ x ≥ loOf σ z := fun x q => f.f3 x q _ (h.lo (hx x q)).1
  refine sup_X (by decide) h hs fun y hy v hv => ?_
  have end1 : ∃ f : Nat → Int, f y = loOf σ y ∧ (∀ i, i < σ.doms.length → loOf σ i ≤ f i ∧ f i ≤ hiOf σ i) ∧ meantF 2 ((xs ++ [z]).map f) = true := by
    refine ⟨loOf σ, rfl, fun i hi => by have := h.lohi hi; omega, meant_S.mpr ⟨?_, high⟩⟩
    obtain ⟨x, q, c1⟩ := f.f1 _ zhi.1
    have := high x q
    exact ⟨x, q, by omega⟩
  have end2 : ∃ f : Nat → Int, f y = hiOf σ y ∧ (∀ i, i < σ.doms.length → loOf σ i ≤ f i ∧ f i ≤ hiOf σ i) ∧ meantF 2 ((xs ++ [z]).map f) = true := by
    rcases List.mem_append.mp hy with hy | hy
    · obtain ⟨t, t1, t2⟩ := ex_min (l := xs.map fun x => if x = y then hiOf σ y else loOf σ x) (by intro e; rw [List.map_eq_nil_iff.mp e] at hy; cases hy)
      obtain ⟨x0, q0, e0⟩ := List.mem_map.mp t1
      have t3 : ∀ x ∈ xs, (if x = y then hiOf σ y else loOf σ x) ≥ t := fun x q => t2 _ (List.mem_map.mpr ⟨x, q, rfl⟩)
      have yy := h.lohi (hx y hy)
      have thi : t ≥ loOf σ z := by
        have c := high x0 q0
        split at e0
        · rename_i e; subst e; omega
        · omega
      have tlo : t ≤ hiOf σ z := by
        by_cases c : ∃ x ∈ xs, x ≠ y ∧ loOf σ x ≤ hiOf σ z
        · obtain ⟨x, q, c1, c2⟩ := c
          have := t3 x q
          rw [if_neg c1] at this
          omega
        · have c : ∀ x ∈ xs, x ≠ y → ¬ loOf σ x ≤ hiOf σ z := fun x q c1 c2 => c ⟨x, q, c1, c2⟩
          obtain ⟨k, hk, ek⟩ := atN hy
          have yb : loOf σ y ≤ hiOf σ z := by
            obtain ⟨x, q, c1⟩ := f.f1 _ zlo.1
            by_cases e : x = y
            · rwa [e] at c1
            · exact absurd c1 (c x q e)
          have := f.f4 k hk (by rw [ek]; exact yb) (fun j hj hne => c _ (nth_mem hj) fun e => by
            exact hne (nth_inj n1 hj hk (e.trans ek.symm))) (hiOf σ y) (by rw [ek]; exact (h.hi (hx y hy)).1)
          have c3 := t3 y hy
          rw [if_pos rfl] at c3
          omega
      refine ⟨fun i => if i = z then t else if i = y then hiOf σ y else loOf σ i, by dsimp only; rw [if_neg (hzx y hy), if_pos rfl], fun i hi => ?_, meant_S.mpr ⟨⟨x0, q0, ?_⟩, fun x q => ?_⟩⟩
      · have := h.lohi hi
        dsimp only
        split
        · rename_i e; subst e; omega
        · split
          · rename_i e; subst e; omega
          · omega
      · rw [if_neg (hzx x0 q0), if_pos rfl]; exact e0
      · rw [if_neg (hzx x q), if_pos rfl]; exact t3 x q
    · rw [List.mem_singleton.mp hy]
      refine ⟨fun i => if i ∈ xs ∧ loOf σ i ≤ hiOf σ z then hiOf σ z else hiOf σ i, by simp, fun i hi => ?_, meant_S.mpr ⟨?_, fun x q => ?_⟩⟩
      · have := h.lohi hi
        dsimp only
        split
        · rename_i e
          have := low i e.1
          omega
        · omega
      · obtain ⟨x, q, c1⟩ := f.f1 _ zlo.1
        refine ⟨x, q, ?_⟩
        rw [if_pos ⟨q, c1⟩]; simp
      · have a1 := h.lohi (hx x q)
        have a2 := low x q
        rw [show (if z ∈ xs ∧ loOf σ z ≤ hiOf σ z then hiOf σ z else hiOf σ z) = hiOf σ z by simp]
        split
        · omega
        · rename_i e
          have : ¬ loOf σ x ≤ hiOf σ z := fun c => e ⟨q, c⟩
          omega
  rcases hv with rfl | rfl
  · exact end1
  · exact end2

theorem met_fresh (val : Nat → Int) : ∀ n, (PyProof.Rows.firstMet val n).length = n → ((List.range n).map val).Nodup
  | 0, _ => List.nodup_nil
  | n + 1, h => by
    have hl := PyProof.Rows.firstMet_length_le val n
    have ha := PyProof.Rows.firstMet_any val n (val n)
    rw [PyProof.Rows.firstMet_succ] at h
    unfold step_dedup at h
    cases c : (PyProof.Rows.firstMet val n).any (· == val n) with
    | true => rw [if_pos c] at h; omega
    | false =>
      rw [if_neg (by rw [c]; simp)] at h
      have h' : (PyProof.Rows.firstMet val n).length = n := by simpa using h
      rw [c] at ha
      rw [List.range_succ, List.map_append, List.nodup_append]
      refine ⟨met_fresh val n h', by simp, fun a ha' c hc e => ?_⟩
      rw [List.map_singleton, List.mem_singleton] at hc
      have := List.any_eq_false.mp ha.symm a ha'
      exact this (by rw [e, hc]; simp)
theorem met_nodup {s : List Nat} (h : metF (s.map fun i : Nat => (i : Int)) = s.length) : s.Nodup := by
  unfold metF at h
  rw [List.length_map] at h
  have := met_fresh _ _ h
  have e : (List.range s.length).map (fun i => (s.map fun i : Nat => (i : Int)).getD i 0) = s.map fun i : Nat => (i : Int) := by
    refine List.ext_getElem (by simp) fun i h1 h2 => ?_
    have hi : i < s.length := by simpa using h2
    simp [List.getD_eq_getElem?_getD, hi]
  rw [e] at this
  exact this.of_map _ fun a c h q => h (congrArg _ q)
/-- a propagator of a kind, upon n variables -/
structure Kd (b : Bas) (kind : Int) (scope : List Nat) (n : Nat) (p C dx : Addr) (st : Str) (F : Sto → Prop) : Prop where
  cls : Cls b C
  two : 2 ≤ scope.length
  few : scope.length ≤ 4
  lt : ∀ x ∈ scope, x < n
  run : ∃ fp stm, Meth b C "propagate" fp ∧ IsFn b stm fp ∧ ∀ (A : Ad) (σ : Sto) (S : List (List Int)), Inv σ → σ.failed = false → σ.doms.length = n → (∀ w ∈ S, meantF kind (scope.map fun x => atI w x) = true) →
    Cn b 7 (Xs A σ ++ Pp p C dx scope st) (.ref fp) [.raw (.ref p), .raw (.ref A.a)] (PQ A (Pp p C dx scope st) S (· ∈ scope) F σ)
  check : ∃ fc stm, Meth b C "check" fc ∧ IsFn b stm fc ∧ ∀ (X : List MO) (row : List Int), 2 ≤ row.length → Fn b 1 X (.ref fc) [.raw (.ref p), .dat (dI1 row)] (.bool (meantF kind row))
  sup : ∀ σ : Sto, Inv σ → σ.doms.length = n → scope.Nodup → F σ → supF kind scope (lists σ) (keptF kind scope σ.firsts) = true
theorem Cn.upto {b : Bas} {n m : Nat} {X : List MO} {f : Value} {args : List D} {Q : D → List MO → Prop} (h : Cn b n X f args Q) (k : n ≤ m) : Cn b m X f args Q := fun A M s vs R S hv => h A M s vs (R.mono k) S hv
section
variable {b : Bas} (G : Gs b) (K : Ks b) (P : Kr b)
include G K P
theorem kd_A {n p dx x z : Nat} (hx : x < n) (hz : z < n) : Kd b 0 [x, z] n p 351 dx "values" (FixA x z) :=
  ⟨P.A.c, by simp, by simp, by simpa using ⟨hx, hz⟩, ⟨341, _, P.mAp, P.fAp, fun A σ S h hf hn hS => (c_propA G K P h hf (by omega) (by omega) fun w hw => by have := meant_A.mp (hS w hw); simpa [atI] using this).upto (by decide)⟩,
    ⟨348, _, P.mAc, P.fAc, fun X row h => f_checkA P h⟩, fun σ h hn nd f => sup_A h (by omega) (by omega) (by simpa using nd) f⟩
theorem kd_G {n p dx z : Nat} {xs : List Nat} (hx : ∀ x ∈ xs, x < n) (hz : z < n) (hne : xs ≠ []) (hl : xs.length ≤ 3) : Kd b 1 (xs ++ [z]) n p 424 dx "bounds" (FixG xs z) :=
  have hx' : ∀ x ∈ xs ++ [z], x < n := fun x q => (List.mem_append.mp q).elim (hx x) fun q => by rw [List.mem_singleton.mp q]; exact hz
  ⟨P.G.c, by have := List.length_pos_iff.mpr hne; simp; omega, by simp; omega, hx', ⟨381, _, P.mGp, P.fEp, fun A σ S h hf hn hS => c_propE K P P.G P.mGo P.fGo FixG.of (by simp; omega) h hf (fun x q => by rw [hn]; exact hx' x q) fun τ i1 i2 i3 =>
    c_onceG G K P i1 i2 (fun x q => by rw [i3, hn]; exact hx x q) (by omega) hne (by omega) fun w hw => meant_G.mp (hS w hw)⟩,
    ⟨421, _, P.mGc, P.fGc, fun X row h => f_checkG G P h⟩, fun σ h hn nd f => sup_G h (fun x q => by rw [hn]; exact hx' x q) nd f⟩
theorem kd_S {n p dx z : Nat} {xs : List Nat} (hx : ∀ x ∈ xs, x < n) (hz : z < n) (hne : xs ≠ []) (hl : xs.length ≤ 3) : Kd b 2 (xs ++ [z]) n p 464 dx "bounds" (FixS xs z) :=
  have hx' : ∀ x ∈ xs ++ [z], x < n := fun x q => (List.mem_append.mp q).elim (hx x) fun q => by rw [List.mem_singleton.mp q]; exact hz
  ⟨P.S.c, by have := List.length_pos_iff.mpr hne; simp; omega, by simp; omega, hx', ⟨381, _, P.mSp, P.fEp, fun A σ S h hf hn hS => c_propE K P P.S P.mSo P.fSo FixS.of (by simp; omega) h hf (fun x q => by rw [hn]; exact hx' x q) fun τ i1 i2 i3 =>
    c_onceS G K P i1 i2 (fun x q => by rw [i3, hn]; exact hx x q) (by omega) hne (by omega) fun w hw => meant_S.mp (hS w hw)⟩,
    ⟨461, _, P.mSc, P.fSc, fun X row h => f_checkS G P h⟩, fun σ h hn nd f => sup_S h (fun x q => by rw [hn]; exact hx' x q) nd f⟩
end
theorem lists_range {σ : Sto} : (List.range σ.doms.length).map (fun i => dI1 (valsAt σ i)) = (lists σ).map dI1 := by
  refine List.ext_getElem (by simp) fun i h1 h2 => ?_
  have hi : i < σ.doms.length := by simpa using h1
  simp [valsAt, domAt, List.getD_eq_getElem?_getD, hi]
theorem kept_len {kind : Int} {scope : List Nat} {σ : Sto} (h : Inv σ) : (keptF kind scope σ.firsts).length ≤ big ∧ ∀ w ∈ keptF kind scope σ.firsts, w.length = σ.doms.length ∧ meantF kind (scope.map fun x => atI w x) = true := by
  have e : ∀ l ∈ σ.firsts.map valuesOf, l.length ≤ 10 := fun l hl => by
    obtain ⟨d, hd, rfl⟩ := List.mem_map.mp hl
    have := (h.fok d hd).2.2.1; omega
  refine ⟨Nat.le_trans (List.length_filter_le _ _) (Nat.le_trans (worlds_len e) (Nat.le_trans (Nat.pow_le_pow_right (by omega) (show (σ.firsts.map valuesOf).length ≤ 4 by rw [List.length_map, h.flen]; exact h.few)) (by decide))), fun w hw => ?_⟩
  obtain ⟨h1, h2⟩ := List.mem_filter.mp hw
  exact ⟨by rw [(mem_worlds.mp h1).1, List.length_map, h.flen], h2⟩

/-- what a run leaves -/
noncomputable def LQ (A : Ad) (R : List MO) (S : List (List Int)) (V : Nat → Prop) (σ : Sto) (d : D) (X' : List MO) : Prop := ∃ σ', Run S V σ σ' ∧ Inv σ' ∧ d = .bool (!σ'.failed) ∧ X' = Xs A σ' ++ R
theorem inS_of {S : List (List Int)} {σ τ : Sto} (h : ∀ w ∈ S, InS w σ → InS w τ) : ((S.filter fun w => isIn w (lists σ)).filter fun w => !isIn w (lists τ)) = [] := by
  rw [List.filter_eq_nil_iff]
  intro w hw q
  obtain ⟨h1, h2⟩ := List.mem_filter.mp hw
  have := inS_iff.mpr (h w h1 (inS_iff.mp h2))
  rw [this] at q; cases q
theorem lists_D {σ : Sto} : D.list ((List.range σ.doms.length).map fun i => dI1 (valsAt σ i)) = .dat (dI2 (lists σ)) := by rw [lists_range]
theorem cmp_neSelf {b : Bas} {n : Nat} {d : PyData} (h : Pn n d) (hn : n ≤ 60) : Cmp b .NotEq (.dat d) (.dat d) false := cmp_neP (t := true) h h hn (by simp)
theorem cmp_eqBb {b : Bas} {t u : Bool} {c : Bool} (h : (t == u) = c) : Cmp b .Eq (.bool t) (.bool u) c := h ▸ cmp_eqB
theorem cmp_eqN {b : Bas} {i j : Nat} : Cmp b .Eq (.int i) (.int j) (decide (i = j)) := by
  have := cmp_eq (b := b) (i := i) (j := j)
  rwa [show ((i : Int) == j) = decide (i = j) by rw [Bool.eq_iff_iff]; simp; omega] at this
section
variable {b : Bas} {A : Ad} {σ : Sto} (G : Gs b) (K : Ks b)
include G K in
theorem c_run {kind : Int} {scope : List Nat} {n : Nat} {p C dx : Addr} {st : Str} {F : Sto → Prop} (P : Kd b kind scope n p C dx st F) (h : Inv σ) (hf : σ.failed = false) (hn : σ.doms.length = n) :
    Cn b 8 (Xs A σ ++ Pp p C dx scope st) (.ref 525) [.raw (.ref p), .raw (.ref A.a), .int kind, .dat (dN scope), .dat (dWs (keptF kind scope σ.firsts))] (LQ A (Pp p C dx scope st) (keptF kind scope σ.firsts) (· ∈ scope) σ) := by
  obtain ⟨kz, kw⟩ := kept_len (kind := kind) (scope := scope) h
  have sup := P.sup
  generalize hS : keptF kind scope σ.firsts = S at kz kw ⊢
  obtain ⟨fp, stm, mp, fn, run⟩ := P.run
  have hscl := P.few
  generalize hR : Pp p C dx scope st = R at run ⊢
  refine cn_of ["struck_by", "store", "kind", "scope", "kept"] G.f36 (fun c hV hW => ?_) (bind5 (by intros; rfl))
  have hW' : ∀ τ, ∀ t ∈ Xs A τ ++ R, t.addr ∈ c.W ∨ c.s0.heap.get? t.addr = none := fun τ t ht => .inl (by
    rw [hW, List.map_append, xs_addr, ← xs_addr (σ := τ), ← List.map_append]; exact List.mem_map_of_mem ht)
  suffices hgo : c.Go ((["struck_by", "store", "kind", "scope", "kept"] : List Str).zip [.raw (.ref p), .raw (.ref A.a), .int kind, .dat (dN scope), .dat (dWs S)]) (Xs A σ ++ R) (bodyOf (stOf 36)) fun _ X' fl => LQ A R S (· ∈ scope) σ fl.res X' from go_mono hgo fun _ X' _ q => ⟨X', List.Sublist.refl _, q⟩
  have hi1 : ∀ τ, MO.inst p C dx ∈ Xs A τ ++ R := fun τ => List.mem_append_right _ (by rw [← hR]; exact List.mem_cons_self)
  have hi2 : ∀ τ, MO.dict dx (pf scope st) ∈ Xs A τ ++ R := fun τ => List.mem_append_right _ (by rw [← hR]; exact List.mem_cons_of_mem _ List.mem_cons_self)
  have h4 := h.few
  refine go_cons (do_assign (ef_pure (ev_meth (evn (d := .raw (.ref A.a))) (gm_store K K.m2 (List.mem_append_left _ xs_a) (List.mem_append_left _ xs_d)) K.f2.ke evs_nil (c_size G K (by omega)) (List.sublist_append_left _ _)) ?_))
  have htl := fn_lenM (b := b) (n := 7) (a := A.lt) (xs := σ.trail.map dE) (by rw [List.length_map]; have := h.cap; simp only [big]; omega)
  rw [List.length_map] at htl
  refine go_cons (do_assign2T (es_pure (es2 (d := .dat (dI2 (lists σ))) (g := .int σ.trail.length) (ev_eq (ev_mapc ["x"] (List.range σ.doms.length) (fun i : Nat => D.int i) (fun i => dI1 (valsAt σ i)) (ecallT (ev_glob G.range) (es1 (evn (d := .int σ.doms.length))) fn_range1) (iter_nat (by omega)) (by rw [List.length_range]; simp only [big]; omega) fun i hi => ⟨_, asg_name (d := .int i), sub1, ecall (ev_glob G.g27) (es1 (ev_dom K (evn (d := .raw (.ref A.a))) (evn (d := .int i)) h4 (List.mem_range.mp hi))) G.f27.ke (f_law_list G (h.dk (List.mem_range.mp hi)).1)⟩) lists_D)
    (ev_call (ev_glob G.len) (evs_cons (at_trail K (evn (d := .raw (.ref A.a))) (List.mem_append_left _ xs_a) (List.mem_append_left _ xs_d)) evs_nil) ke_builtin htl (Nat.le_refl _) (sub_one (List.mem_append_left _ xs_lt)))) ⟨_, _, rfl, ?_⟩))
  refine go_cons (do_assign (ef_meth (evn (d := .raw (.ref p))) (gm_meth P.cls mp (hi1 σ) (hi2 σ)) fn.ke (es_pure (es1 (evn (d := .raw (.ref A.a)))) (cl_cn [] (Xs A σ ++ R) [] ((run A σ S h hf hn fun w hw => (kw w hw).2).mono fun d X' ⟨σ1, a1, f1, e1, e2⟩ => ?_) (by decide) (hW' σ) (by simp)))))
  rw [e1, e2, List.append_nil, List.nil_append]
  have n1 : σ1.doms.length = σ.doms.length := a1.run.len
  have h41 := a1.inv.few
  obtain ⟨t, t1, t2, t3, t4, t5⟩ := a1.run.ent
  have hcap := h.cap
  have hcap1 := a1.inv.cap
  have hbl : ∀ l ∈ lists σ, l.length ≤ 10 := fun l hl => (h.lsok.each l hl).1
  have hll : (lists σ).length = σ.doms.length := List.length_map ..
  have hll1 : (lists σ1).length = σ.doms.length := (List.length_map ..).trans n1
  have hdrop : D.list (cut (σ1.trail.map dE) (some (σ.trail.length : Int)) none) = .dat (.list (t.map dE)) := by
    rw [cut_drop _ (by rw [List.length_map, t1, List.length_append]; omega), t1, List.map_append, List.drop_append_of_le_length (by rw [List.length_map]; exact Nat.le_refl _), List.drop_eq_nil_of_le (by rw [List.length_map]; exact Nat.le_refl _), List.nil_append]
  have htz : (σ1.trail.map dE).length ≤ big := by rw [List.length_map]; simp only [big]; omega
  have htt : t.length ≤ big := by rw [t1, List.length_append] at hcap1; simp only [big]; omega
  refine go_cons (do_assign (ef_pure (ev_eq (ecall (ev_glob G.g34) (es3 (ev_eq (evF_slice (at_trail K (evn (d := .raw (.ref A.a))) (List.mem_append_left _ xs_a) (List.mem_append_left _ xs_d)) (List.mem_append_left _ xs_lt) htz (part_some (evn (d := .int σ.trail.length))) part_none |>.ev (Nat.le_trans (cut_le ..) htz)) hdrop) (evn (d := .dat (dI2 (lists σ)))) (evn (d := .dat (dWs S)))) G.f34.ke (f_behind G (fun e he => by rw [hll]; exact t2 e he) htt hbl (by rw [hll]; exact h4) (fun w hw => by rw [hll]; exact (kw w hw).1) kz)) (by rw [t3]; rfl : D.dat (optL (behindF S t (lists σ))) = .dat (dI2 (lists σ1)))) ?_))
  refine go_cons (do_if (et_pure (t := false) (tv_bool ?_) ?_))
  · refine al_or (c := false) (c' := false) ?_ fun _ => al_or (c := false) (c' := false) ?_ fun _ => al_or (c := false) (c' := false) ?_ fun _ => al_or_nil
    · exact tv_cmp (evn (d := .dat (dI2 (lists σ1)))) ev_none cmp_isNone
    · exact tv_cmp (evn (d := .dat (dI2 (lists σ1)))) (ev_eq (ev_mapc ["x"] (List.range σ1.doms.length) (fun i : Nat => D.int i) (fun i => dI1 (valsAt σ1 i)) (ecallT (ev_glob G.range) (es1 (ev_eq (evn (d := .int σ.doms.length)) (by rw [n1]))) fn_range1) (iter_nat (by omega)) (by rw [List.length_range]; simp only [big]; omega) fun i hi => ⟨_, asg_name (d := .int i), sub1, ecall (ev_glob G.g27) (es1 (ev_dom K (evn (d := .raw (.ref A.a))) (evn (d := .int i)) h41 (List.mem_range.mp hi))) G.f27.ke (f_law_list G (a1.inv.dk (List.mem_range.mp hi)).1)⟩) lists_D) (cmp_neSelf (pn2 _) (by omega))
    · exact tv_cmp (evn (d := .bool (!σ1.failed))) (at_failed K (evn (d := .raw (.ref A.a))) (List.mem_append_left _ xs_a) (List.mem_append_left _ xs_d)) (cmp_eqBb (by simp))
  refine go_nil (go_cons (do_filt ["world"] S (fun w => .dat (dW w)) (fun w => isIn w (lists σ)) dW (evn (d := .dat (dWs S))) iter_map kz (fun w hw => ⟨_, asg_name (d := .dat (dW w)), sub1, ts_one (tv_value (ecall (ev_glob G.g31) (es2 (evn (d := .dat (dW w))) (evn (d := .dat (dI2 (lists σ))))) G.f31.ke (f_is_in G (by rw [hll, (kw w hw).1]; exact Nat.le_refl _) (by omega))) tr_bool), fun _ => evn (d := .dat (dW w))⟩) ?_))
  have hinz : (S.filter fun w => isIn w (lists σ)).length ≤ big := Nat.le_trans (List.length_filter_le _ _) kz
  refine go_cons (do_if (et_not (et_pure (tv_value (evn (d := .bool (!σ1.failed))) tr_bool) ?_)))
  rw [Bool.not_not]
  refine ite_dd (fun hfl => ?_) fun hfl => ?_
  · have hb := a1.run.bad hfl
    refine go_cons (do_filt ["world"] S (fun w => .dat (dW w)) (fun w => areKept σ1.clash w) dW (evn (d := .dat (dWs S))) iter_map kz (fun w hw => ⟨_, asg_name (d := .dat (dW w)), sub1, ts_one (tv_value (ecall (ev_glob G.g33) (es2 (at_clash K (evn (d := .raw (.ref A.a))) (List.mem_append_left _ xs_a) (List.mem_append_left _ xs_d)) (evn (d := .dat (dW w)))) G.f33.ke (f_are_kept G (fun l hl => by rw [(kw w hw).1, ← n1]; exact hb.x l hl) (by have := hb.few; simp only [big]; omega))) tr_bool), fun _ => evn (d := .dat (dW w))⟩) ?_)
    have n2 : (S.filter fun w => areKept σ1.clash w) = [] := by
      rw [List.filter_eq_nil_iff]
      intro w hw q
      rw [hb.cannot w hw] at q; cases q
    have n3 : (S.filter fun w => isIn w (lists σ)) = [] := by
      rw [List.filter_eq_nil_iff]
      intro w hw q
      exact hb.none w hw (a1.run.keep w hw (inS_iff.mp q))
    rw [n2, n3, List.map_nil]
    refine go_cons (do_return (ef_pure (ev_ifexp (x := true) (d := .bool false) (tv_bool ?_) (fun _ => ev_bool) (fun q => nomatch q)) ?_))
    · refine al_and (c := true) (c' := true) ?_ fun _ => al_and (c := true) (c' := true) ?_ fun _ => al_and (c := true) (c' := true) ?_ fun _ => al_and_nil
      · exact tv_cmp (evn (d := .list [])) (ev_list (ds := []) evs_nil) (cmp_nil shaped_nil)
      · exact tv_cmp (evn (d := .list [])) (ev_list (ds := []) evs_nil) (cmp_nil shaped_nil)
      · exact tv_value (ev_eq (ecall (ev_glob G.g32) (es2 (at_clash K (evn (d := .raw (.ref A.a))) (List.mem_append_left _ xs_a) (List.mem_append_left _ xs_d)) (evn (d := .dat (dI2 (lists σ1))))) G.f32.ke (f_do_hold G (fun l hl => by rw [hll1, ← n1]; exact hb.x l hl) (by have := hb.few; simp only [big]; omega) (fun l hl => by have := (a1.inv.lsok.each l hl).1; simp only [big]; omega))) (by rw [hb.hold])) tr_bool
    · exact ⟨σ1, a1.run, a1.inv, by rw [hfl]; rfl, rfl⟩
  refine go_nil (go_cons (do_if (et_pure (tv_cmp (ev_filt ["world"] (S.filter fun w => isIn w (lists σ)) (fun w => .dat (dW w)) (fun w => !isIn w (lists σ1)) dW (evn (d := .list ((S.filter fun w => isIn w (lists σ)).map dW))) iter_map hinz (fun w hw => ⟨_, asg_name (d := .dat (dW w)), sub1, ts_one (tv_not (tv_value (ecall (ev_glob G.g31) (es2 (evn (d := .dat (dW w))) (evn (d := .dat (dI2 (lists σ1))))) G.f31.ke (f_is_in G (by rw [hll1, (kw w (List.mem_filter.mp hw).1).1]; exact Nat.le_refl _) (by omega))) tr_bool)), fun _ => evn (d := .dat (dW w))⟩)) (ev_list (ds := []) evs_nil) (by rw [inS_of a1.run.keep]; exact cmp_notNil shaped_nil)) (ite_of (fun e => by cases e) fun _ => ?_))))
  have F1 := f1 hfl
  have hlen := fn_lenL (b := b) (n := 7) (X := Xs A σ1 ++ R) (xs := scope.map fun i : Nat => PyData.int i)
  rw [List.length_map] at hlen
  refine go_nil (go_cons (do_if (et_pure (t := false) ?_ ?_)))
  · rw [show false = (decide (metF (scope.map fun i : Nat => (i : Int)) = scope.length) && false) by simp]
    refine tv_bool (al_and (c' := false) ?_ fun e => al_and (c := false) (c' := true) ?_ fun q => nomatch q)
    · exact tv_cmp (ev_lenSet (is := scope.map fun i : Nat => (i : Int)) (ev_glob G.len) (ev_glob G.set) (ev_eq (evn (d := .dat (dN scope))) (by rw [List.map_map]; rfl)) (by rw [List.length_map]; omega)) (ecallB (ev_glob G.len) (es1 (evn (d := .dat (dN scope)))) hlen) cmp_eqN
    · have hsup := sup σ1 a1.inv (n1.trans hn) (met_nodup (by simpa using e)) F1
      rw [a1.run.firsts, hS] at hsup
      exact tv_not (c := true) (tv_value (ev_eq (ecall (ev_glob G.g35) (evs_cons (evn (d := .int kind)) (es3 (evn (d := .dat (dN scope))) (evn (d := .dat (dI2 (lists σ1)))) (evn (d := .dat (dWs S))))) G.f35.ke (f_supports G a1.inv.lsok (fun x hx => by rw [hll1, hn]; exact P.lt x hx) P.two (by omega) (fun w hw => by rw [hll1]; exact (kw w hw).1) kz)) (by rw [hsup])) tr_bool)
  have htl1 := fn_lenM (b := b) (n := 7) (a := A.lt) (xs := σ1.trail.map dE) (by rw [List.length_map]; simp only [big]; omega)
  rw [List.length_map] at htl1
  refine go_nil (go_cons (do_assign (ef_pure (ev_call (ev_glob G.len) (evs_cons (at_trail K (evn (d := .raw (.ref A.a))) (List.mem_append_left _ xs_a) (List.mem_append_left _ xs_d)) evs_nil) ke_builtin htl1 (Nat.le_refl _) (sub_one (List.mem_append_left _ xs_lt))) ?_)))
  refine go_cons (do_return (ef_ifexp (et_bool (ea_and (et_value (ef_meth (evn (d := .raw (.ref p))) (gm_meth P.cls mp (hi1 σ1) (hi2 σ1)) fn.ke (es_pure (es1 (evn (d := .raw (.ref A.a)))) (cl_cn [] (Xs A σ1 ++ R) [] ((run A σ1 S a1.inv hfl (n1.trans hn) fun w hw => (kw w hw).2).mono fun d X' ⟨σ2, a2, f2, b1, b2⟩ => ?_) (by decide) (hW' σ1) (by simp)))))))))
  obtain rfl := a2.nop F1
  rw [b1, b2, List.append_nil, List.nil_append, hfl]
  refine ⟨true, tr_bool, ?_⟩
  show Cx.Ea c _ _ _ _ _
  refine ea_and (et_pure (t := true) ?_ ?_)
  · rw [show true = decide (σ2.trail.length = σ2.trail.length) by simp]
    exact tv_cmp (ev_call (ev_glob G.len) (evs_cons (at_trail K (evn (d := .raw (.ref A.a))) (List.mem_append_left _ xs_a) (List.mem_append_left _ xs_d)) evs_nil) ke_builtin htl1 (Nat.le_refl _) (sub_one (List.mem_append_left _ xs_lt))) (evn (d := .int σ2.trail.length)) cmp_eqN
  · exact ea_and_nil (ef_pure ev_bool ⟨σ2, a1.run, a1.inv, by rw [hfl]; rfl, rfl⟩)
end

/-- an expression that may change the one object t -/
inductive XR (b : Bas) (sc : Scope) (env : Env) (M : List Addr) (ρ : List (Str × D)) (t : MO) (s : Shared) (P : D → MO → Prop) (v : Value) (s' : Shared) : Prop
  | mk (t' : MO) (d : D) (S : Sv b sc env M ρ [t'] s') (p : Pw [t.addr] s s') (e : t'.addr = t.addr) (a : Dp M s'.heap v d) (q : P d t') : XR b sc env M ρ t s P v s'
noncomputable def EvX (b : Bas) (n : Nat) (sc : Scope) (ρ : List (Str × D)) (t : MO) (e : PySem.Expr) (P : D → MO → Prop) : Prop :=
  ∀ A env M s, Rm n A → Sv b sc env M ρ [t] s → wpAny (Mo b) A (eval e env) (XR b sc env M ρ t s P) noE s
section
variable {b : Bas} {n : Nat} {sc : Scope} {ρ : List (Str × D)} {t : MO}
theorem sv_put1 {env : Env} {M : List Addr} {s s' : Shared} {t' : MO} (S : Sv b sc env M ρ [t] s) (p : Pw [t.addr] s s') (e : t'.addr = t.addr) (h : St b M [t'] s') : Sv b sc env M ρ [t'] s' := by
  have hM : ∀ a ∈ [t.addr], a ∈ M ∨ s.heap.get? a = none := fun a q => .inl (by rw [List.mem_singleton.mp q]; exact S.st.moM t List.mem_cons_self)
  obtain ⟨m, cm, f, r⟩ := S.fr
  refine ⟨h, S.eo, ⟨m, cm, f.kp p.kp fun a q => ?_, fun q hq => ?_⟩, S.locM, S.celM, fun u hu => ?_⟩
  · rw [List.mem_singleton.mp q]; exact S.ap t List.mem_cons_self
  · obtain ⟨v, h1, h2⟩ := r q hq
    exact ⟨v, h1, h2.kp p.kp hM⟩
  · rw [List.mem_singleton.mp hu, e]; exact S.apX t List.mem_cons_self
theorem evx_call {func : PySem.Expr} {es : List PySem.Expr} {pos : Pos} {f : Value} {ds : List D} {m : Nat} {P : D → MO → Prop} (h1 : Ev b n sc ρ [t] func (.raw f)) (h2 : Evs b n sc ρ [t] es ds) (ke : Ke b f) (h3 : Cn b m [t] f ds fun d X' => ∃ t', X' = [t'] ∧ t'.addr = t.addr ∧ P d t') (hm : m ≤ n) (hp : plainArgs es = true := by rfl)
    (he : ∀ env, eval (.Call func es [] pos) env = (do callWith pos (← eval func env) [] (backTo pos (starEach es env)) []) := by intro _; rfl) : EvX b n sc ρ t (.Call func es [] pos) P := fun A env M s R S => by
  rw [he]
  refine wpAny_bind (wp_weak (h1 A env M s R S) fun v s₁ h => ?_)
  obtain rfl : v = f := h.a
  refine wp_callWith R (S.pure h.p) ke h2 hp fun vs s₂ dv p2 => ?_
  have S2 := (S.pure h.p).pure p2
  refine wp_weak (h3 A M s₂ vs (R.mono hm) S2.st dv) fun v s₃ h => ?_
  obtain ⟨M', X', d, S', m', p', -, a, t', e1, e2, q⟩ := h
  subst e1
  have ht : t'.addr ∈ M := by rw [e2]; exact S.st.moM t List.mem_cons_self
  exact ⟨t', d, sv_put1 S2 p' e2 (S'.less (fun u hu => by rw [List.mem_singleton.mp hu]; exact ht) m'.sub), ((h.p.trans p2).pw).trans p', e2, a.avoid fun c hc => .inl (m'.sub c hc), q⟩
theorem evx_bin {op : Operator} {l r : PySem.Expr} {pos : Pos} {P : D → MO → Prop} (h : EvX b n sc ρ t l fun d t' => ∃ e f, Ev b n sc ρ [t'] r e ∧ Bin b op d e f ∧ P f t') : EvX b n sc ρ t (.BinOp l op r pos) P := fun A env M s R S => by
  refine wpAny_BinOp (wp_weak (h A env M s R S) fun u s₁ h => ?_)
  obtain ⟨t', d, S1, p1, e1, a1, e, f, h2, h3, q⟩ := h
  refine wp_weak (h2 A env M s₁ R S1) fun v s₂ h => ?_
  have S2 := S1.pure h.p
  refine wp_weak (h3 A n M [t'] s₂ u v R S2.st (a1.keep h.p.kp) h.a) fun x s₃ h' => ?_
  exact ⟨t', f, S2.pure h'.p, (p1.trans h.p.pw).trans h'.p.pw, e1, h'.a, q⟩
/-- what the loop of a comprehension leaves -/
inductive XL (b : Bas) (sc : Scope) (env : Env) (M : List Addr) (ρ : List (Str × D)) (t : MO) (s : Shared) (ax I : Addr) (ns : List Str) (J : List PyData → MO → Prop) (len : Nat) (s' : Shared) : Prop
  | mk (t' : MO) (out : List PyData) (ys : Array Value) (n' : Nat) (S : Sv b sc env M ρ [t'] s') (p : Pw (t.addr :: ax :: I :: Wn env ns) s s') (e : t'.addr = t.addr) (h : s'.heap.get? ax = some (lstO ys n')) (r : RpAll M s'.heap ys.toList out) (l : out.length = len) (q : J out t') : XL b sc env M ρ t s ax I ns J len s'
inductive XT {α : Type} (b : Bas) (sc : Scope) (env : Env) (M : List Addr) (ρ : List (Str × D)) (t : MO) (s : Shared) (ax I : Addr) (ns : List Str) (J : List PyData → MO → Prop) (items : List α) (g : α → D) (k : Nat) (s' : Shared) : Prop
  | mk (done rest : List α) (e1 : items = done ++ rest) (e2 : k = rest.length) (it : ItAt (I :: M) s'.heap I (rest.map g)) (x : XL b sc env (I :: M) ρ t s ax I ns J done.length s') : XT b sc env M ρ t s ax I ns J items g k s'
theorem clx_run {elt tgt iter : PySem.Expr} {scope : Scope} {pos : Pos} {ns : List Str} {α : Type} (items : List α) (g : α → D) (J : List PyData → MO → Prop) (hz : items.length ≤ big)
    (ht : ∀ a ∈ items, ∀ out t', t'.addr = t.addr → out.length < items.length → J out t' → ∃ ρ', Asg b sc [t'] ns tgt (g a) ρ ρ' ∧ (∀ p ∈ ρ, p ∈ ρ') ∧ EvX b n sc ρ' t' elt fun d t'' => ∃ y, d = .dat y ∧ J (out ++ [y]) t'')
    {A : Around} {env : Env} {M : List Addr} {s₀ s : Shared} {ax I : Addr} {n' : Nat} (R : Rm n A) (S0 : Sv b sc env M ρ [t] s₀) (S : Sv b sc env (I :: M) ρ [t] s) (ha : ax ∈ M) (hI : I ∉ M) (hw : ax ∉ Wr env) (hX : t.addr ≠ ax) (hit : ItAt (I :: M) s.heap I (items.map g)) (e' : s.heap.get? ax = some (lstO #[] n')) (q0 : J [] t) :
    codeAny (Mo b) A (.compLoop (.ListComp elt [⟨tgt, iter, [], 0⟩] scope pos) 0 (.ref I) (.ref ax) env) (fun r s' => r = .ok .next ∧ XL b sc env M ρ t s ax I ns J items.length s') s := by
  have hne : I ≠ ax := fun q => hI (q ▸ ha)
  have htM := S0.st.moM t List.mem_cons_self
  have hIX : t.addr ≠ I := fun q => hI (q ▸ htM)
  have hIW : I ∉ Wr env := fun q => hI (S0.wrM _ q)
  have htW : t.addr ∉ Wr env := S0.ap t List.mem_cons_self
  refine codeAny_loop rfl (XT b sc env M ρ t s ax I ns J items g) ?_ _
    ⟨[], items, rfl, rfl, hit, t, [], _, _, S, Pw.refl, rfl, e', .nil, rfl, q0⟩
  rintro j s₁ ⟨done, rest, hd, rfl, hit1, t1, out, ys, n1, S1, p1, te, e1, r1, l1, q1⟩
  show wpAny _ A ((compTurn (.ListComp elt [⟨tgt, iter, [], 0⟩] scope pos) 0 (.ref I) (.ref ax) env).onRaise (fun x => do noteFrame x env; theTreesLotGoes x)) _ _ s₁
  refine wpAny_noted ?_
  have hden : compTurn (.ListComp elt [⟨tgt, iter, [], 0⟩] scope pos) 0 (.ref I) (.ref ax) env = (do
      standAt iter.pos
      match ← pyNext (.ref I) with
      | none => pure (.done .next)
      | some v =>
        letOwnedTupleGo tgt (.ref I) v
        assign tgt env v
        let mut ok := true
        for c in ([] : List PySem.Expr) do
          if ok then ok ← isTrue c env (eval c env)
        if ok then (do let _ ← call (.builtin "list.append") [.ref ax, ← eval elt env] : Sem Unit) >>= fun _ => again (.compLoop (.ListComp elt [⟨tgt, iter, [], 0⟩] scope pos) 0 (.ref I) (.ref ax) env) else again (.compLoop (.ListComp elt [⟨tgt, iter, [], 0⟩] scope pos) 0 (.ref I) (.ref ax) env)) := by rfl
  rw [hden]
  refine wpAny_bind (wpAny_standAt (wpAny_bind ?_))
  have q2 : ∀ a ∈ [I], a ∈ I :: M ∨ s₁.heap.get? a = none := fun a h => .inl (by rw [List.mem_singleton.mp h]; exact List.mem_cons_self)
  have t1X : ∀ u ∈ [t1], u.addr ≠ I := fun u hu => by rw [List.mem_singleton.mp hu, te]; exact hIX
  cases rest with
  | nil =>
    rw [List.append_nil] at hd
    subst hd
    refine wp_weak (next_nil hit1 R) fun r s₂ ⟨hr, p2⟩ => ?_
    subst hr
    refine wpAny_pure ⟨rfl, t1, out, ys, n1, ?_, p1.trans (p2.more (by simp)), te, p2.kp _ _ (by simpa using Ne.symm hne) e1, ?_, l1, q1⟩
    · have Y : Sv b sc env M ρ [t1] { s₀ with heap := s₁.heap, gens := s₁.gens, os := s₁.os } := ⟨⟨S1.st.base, S1.st.gens, S1.st.os, fun u hu => (S1.st.mo u hu).avoid fun a h => .inl (List.mem_cons_of_mem _ h), fun u hu => by rw [List.mem_singleton.mp hu, te]; exact htM, S1.st.ndX, fun a h => S1.st.exM a (List.mem_cons_of_mem _ h), S0.st.newM⟩, S1.eo, (let ⟨m, cm, f, r⟩ := S1.fr; ⟨m, cm, f, fun q hq => let ⟨v, h1, h2⟩ := r q hq; ⟨v, h1, h2.avoid fun a h => .inl (List.mem_cons_of_mem _ h)⟩⟩), S0.locM, S0.celM, S1.apX⟩
      exact S1.leave Y hI p2
    · exact (r1.kp p2.kp q2).avoid fun a h => .inl (List.mem_cons_of_mem _ h)
  | cons a rest =>
    refine wp_weak (next_cons hit1 List.mem_cons_self) fun r s₂ ⟨v, hr, rv, hit2, p2⟩ => ?_
    subst hr
    refine wpAny_bind (owned_go hit2 ?_)
    obtain ⟨ρ', h1, h2, h3⟩ := ht a (by rw [hd]; simp) out t1 te (by rw [l1, hd]; simp) q1
    have S2 := S1.kp p2 q2 (fun u hu m => t1X u hu (List.mem_singleton.mp m)) (fun a m => by rw [List.mem_singleton.mp m]; exact hit2.ex) (fun a m => by rw [List.mem_singleton.mp m]; exact hIW)
    have e2 := p2.kp ax _ (by simpa using Ne.symm hne) e1
    have r2 := r1.kp p2.kp q2
    refine wpAny_bind (wp_weak (h1 A n env _ s₂ v R S2 rv) fun _ s₃ ⟨S3, p3⟩ => ?_)
    have e3 := p3.kp ax _ (fun q => hw (wn_wr _ q)) e2
    have w3 : ∀ a ∈ Wn env ns, a ∈ I :: M ∨ s₂.heap.get? a = none := fun a h => .inl (S2.wrM a (wn_wr a h))
    have r3 := r2.kp p3.kp w3
    have hit3 := hit2.kp p3.kp w3 fun q => hIW (wn_wr _ q)
    refine wpAny_bind (wpAny_pure (wpAny_bind (wpAny_bind (wp_weak (h3 A env _ s₃ R S3) fun x s₄ h => ?_))))
    obtain ⟨t2, d, S4, p4, te2, a4, y, rfl, q4⟩ := h
    have e4 := p4.kp ax _ (by rw [te]; simpa using Ne.symm hX) e3
    have w4 : ∀ a ∈ [t1.addr], a ∈ I :: M ∨ s₃.heap.get? a = none := fun a h => .inl (by rw [List.mem_singleton.mp h, te]; exact List.mem_cons_of_mem _ htM)
    have r4 := r3.kp p4.kp w4
    have hit4 := hit3.kp p4.kp w4 fun q => hIX (by rw [← te]; exact (List.mem_singleton.mp q).symm)
    have hl := r4.length
    rw [Array.length_toList, l1] at hl
    have hdl : done.length + (rest.length + 1) ≤ big := by rw [hd] at hz; simpa using hz
    refine wpAny_bind (wpAny_list_append_plain ⟨n1, e4⟩ (fun h' ⟨k, hp⟩ hs => wpAny_pure (wpAny_pure ?_)) (by rw [hl]; exact big_line (by omega)))
    have p5 : Pw [ax] s₄ { s₄ with heap := h' } := ⟨Kp.sameBut hs, rfl, rfl⟩
    have w5 : ∀ a ∈ [ax], a ∈ I :: M ∨ s₄.heap.get? a = none := fun a h => .inl (by rw [List.mem_singleton.mp h]; exact List.mem_cons_of_mem _ ha)
    have S5 := S4.kp p5 w5 (fun u hu m => hX (by rw [← te, ← te2, ← List.mem_singleton.mp hu]; exact List.mem_singleton.mp m)) (fun a m => by rw [List.mem_singleton.mp m]; exact ⟨_, hp⟩) (fun a m => by rw [List.mem_singleton.mp m]; exact hw)
    refine ⟨rfl, rest.length, by simp, done ++ [a], rest, by rw [hd]; simp, rfl, hit4.kp p5.kp w5 (fun q => hne (List.mem_singleton.mp q)), t2, out ++ [y], _, _, S5.sub h2, ?_, te2.trans te, hp, ?_, by rw [List.length_append, List.length_append, l1]; rfl, q4⟩
    · refine (((p1.trans (p2.more (by simp))).trans (p3.more fun a h => ?_)).trans (p4.more fun a h => ?_)).trans (p5.more (by simp))
      · exact List.mem_cons_of_mem _ (List.mem_cons_of_mem _ (List.mem_cons_of_mem _ h))
      · rw [List.mem_singleton.mp h, te]; exact List.mem_cons_self
    · rw [Array.toList_push]
      exact (r4.kp p5.kp w5).append (RpAll.one (Rp.kp p5.kp w5 a4))
end
section
variable {b : Bas} {n : Nat} {sc : Scope} {c : Cx b n sc} {ρ : List (Str × D)} {X : List MO} {Q : List (Str × D) → List MO → Fl → Prop}
inductive CompX (c : Cx b n sc) (ρ : List (Str × D)) (elt tgt : PySem.Expr) (scope : Scope) (ns : List Str) (x : Str) (Q : List (Str × D) → List MO → Fl → Prop) (d : D) (X1 : List MO) : Prop
  | mk (L : List MO) (t : MO) (R : List MO) (items : List D) (J : List PyData → MO → Prop) (hX : X1 = L ++ ([t] ++ R)) (hi : Iter d items) (hz : items.length ≤ big) (hW : t.addr ∈ c.W ∨ c.s0.heap.get? t.addr = none) (q0 : J [] t)
    (turn : ∀ a ∈ items, ∀ out t', t'.addr = t.addr → out.length < items.length → J out t' → ∃ ρ', Asg b (relab scope sc) [t'] ns tgt a (Cap scope ρ) ρ' ∧ (∀ p ∈ Cap scope ρ, p ∈ ρ') ∧ EvX b n (relab scope sc) ρ' t' elt fun d t'' => ∃ y, d = .dat y ∧ J (out ++ [y]) t'')
    (fin : ∀ out t', t'.addr = t.addr → out.length = items.length → J out t' → Q ((x, .list out) :: Del x ρ) (L ++ ([t'] ++ R)) .nxt) : CompX c ρ elt tgt scope ns x Q d X1
/-- a comprehension whose elements change an object, given to a name of the block's own -/
theorem do_assignCX {x : Str} {pos' spos pos : Pos} {elt tgt iter : PySem.Expr} {scope : Scope} (ns : List Str) (h : c.Ef ρ X iter (CompX c ρ elt tgt scope ns x Q))
    (hx : Own sc x = true := by decide +kernel) (hok : CompOk scope sc = true := by decide +kernel) (hns : NsOk scope ns = true := by decide +kernel) (hs : ∀ env x, foldedSetIterable iter env x = pure x := by intro _ _; rfl)
    (hsw : ∀ env, env.scope = sc → swapsWith (.ListComp elt [⟨tgt, iter, [], 0⟩] scope pos) (some (.Name x pos')) spos.line env = pure true := by intro env h; cases env; cases h; rfl) :
    c.Do ρ X (.Assign [.Name x pos'] (.ListComp elt [⟨tgt, iter, [], 0⟩] scope pos) spos) Q := fun M0 s0 S0 => by
  rw [exec_Assign_Name_used _ _ _ _ (hsw _ S0.sv.eo.scope)]
  refine wpAny_bind (wpAny_standAt (wpAny_bind ?_))
  show wpAny _ c.A (do let _ ← comprehension (.ListComp elt [⟨tgt, iter, [], 0⟩] scope pos) scope c.frm _ (newList []) false (eval iter c.frm) (some (assign (.Name x pos') c.frm))) _ _ s0
  refine wpAny_bind (wp_weak (Q := fun _ s' => FlowIs c M0 s0 Q .next s') ?_ fun _ s' hq => wpAny_pure (wpAny_pure hq))
  obtain ⟨hk, hnd, hfr⟩ := compOk_out hok
  have hclos : closureFor scope c.frm = pure (closOf c.frm.cells scope.names []) := closure_is fun x hx hf => S0.sv.eo.has x.1 (hfr x.1 (by rw [← hf]; exact hx)).2
  refine wpAny_comprehension_free (use := some (assign (.Name x pos') c.frm)) rfl (hs _) hclos hk (fun x hx hl => hl ▸ nodup_look hnd hx) (wp_weak (h M0 s0 S0) fun v s₁ hE => ?_)
  obtain ⟨M, X1, d, C1, m0, rv, L, t, Rr, items, J, rfl, hi, hz, hW, q0, turn, fin⟩ := hE
  have V := C1.sv
  have htX : t ∈ L ++ ([t] ++ Rr) := List.mem_append_right _ (List.mem_append_left _ List.mem_cons_self)
  have S1 : Sv b sc c.frm M ρ [t] s₁ := ⟨V.st.sub ((List.sublist_append_left _ _).trans (List.sublist_append_right _ _)), V.eo, V.fr, V.locM, V.celM, fun u hu => V.apX u (by rw [List.mem_singleton.mp hu]; exact htX)⟩
  have htM : t.addr ∈ M := S1.st.moM t List.mem_cons_self
  refine wp_weak (iter_of S1.st hi rv) fun it s₂ ⟨I, hI, hnew, hit, p2⟩ => ?_
  subst hI
  have S2 := S1.grow p2 hnew hit.ex
  refine wpAny_newObj_type ?_
  generalize hs3 : ({ s₂ with heap := s₂.heap.push { cls := .type "list", data := .seq ([] : List Value).toArray } } : Shared) = s₃
  have hax2 : s₂.heap.get? s₂.heap.objs.size = none := none_at (Nat.le_refl _)
  generalize hax : s₂.heap.objs.size = ax at hax2
  have p3 : Pr s₂ s₃ := hs3 ▸ ⟨Kp.push, rfl, rfl⟩
  have hlst : s₃.heap.get? ax = some (lstO #[] 0) := by rw [← hs3, ← hax]; exact Heap.get?_push_size _ rfl
  have S3 := S2.grow p3 hax2 ⟨_, hlst⟩
  have p13 := p2.trans p3
  refine comp_env S3 hok fun cenv s₄ p4 hC hcells hown hloc hSv => ?_
  generalize hcenv : ({ cenv with scope := relabel scope c.frm } : Env) = cenv'
  have hl' : cenv'.locals = cenv.locals := by rw [← hcenv]
  have hc' : cenv'.cells = cenv.cells := by rw [← hcenv]
  rw [hcenv] at hSv
  have hIM : I ∉ M := fun q => by obtain ⟨o, h⟩ := S1.st.exM _ q; cases hnew.symm.trans h
  have haxM : ax ∉ M := fun q => by obtain ⟨o, h⟩ := S1.st.exM _ q; cases hax2.symm.trans (p2.kp.all _ _ h)
  have hIne : I ≠ ax := fun q => by obtain ⟨o, h⟩ := hit.ex; rw [q] at h; cases hax2.symm.trans h
  have hI3 : ∃ o, s₃.heap.get? I = some o := let ⟨o, h⟩ := hit.ex; ⟨o, p3.kp.all _ _ h⟩
  have hCn : s₃.heap.get? cenv.locals = none := hC ▸ none_at (Nat.le_refl _)
  have hCI : I ≠ cenv.locals := fun q => by obtain ⟨o, h⟩ := hI3; rw [q] at h; cases hCn.symm.trans h
  have hCax : ax ≠ cenv.locals := fun q => by rw [q] at hlst; cases hCn.symm.trans hlst
  have hcel : ∀ p ∈ cenv.cells, p.2 ≠ I ∧ p.2 ≠ ax := fun p hp => by
    rcases hcells p hp with h | h
    · exact ⟨fun q => hIM (q ▸ S1.celM p h), fun q => haxM (q ▸ S1.celM p h)⟩
    · exact ⟨fun q => (by obtain ⟨o, h'⟩ := hI3; rw [q] at h; cases h.symm.trans h'), fun q => (by rw [q] at h; cases h.symm.trans hlst)⟩
  let M1 := cenv.locals :: ax :: (cenv.cells.map (·.2) ++ M)
  have hIM1 : I ∉ M1 := fun q => by
    rcases List.mem_cons.mp q with q | q
    · exact hCI q
    · rcases List.mem_cons.mp q with q | q
      · exact hIne q
      · rcases List.mem_append.mp q with q | q
        · obtain ⟨p, hp, q⟩ := List.mem_map.mp q; exact (hcel p hp).1 q
        · exact hIM q
  have hM1 : ∀ a ∈ M1, a ∈ ax :: I :: M ∨ a = cenv.locals ∨ ∃ p ∈ cenv.cells, a = p.2 := fun a q => by
    rcases List.mem_cons.mp q with q | q
    · exact .inr (.inl q)
    · rcases List.mem_cons.mp q with q | q
      · exact .inl (q ▸ List.mem_cons_self)
      · rcases List.mem_append.mp q with q | q
        · obtain ⟨p, hp, q⟩ := List.mem_map.mp q; exact .inr (.inr ⟨p, hp, q.symm⟩)
        · exact .inl (List.mem_cons_of_mem _ (List.mem_cons_of_mem _ q))
  have mM1 : ∀ a ∈ M, a ∈ M1 := fun a h => List.mem_cons_of_mem _ (List.mem_cons_of_mem _ (List.mem_append_right _ h))
  have cM1 : ∀ p ∈ cenv.cells, p.2 ∈ M1 := fun p hp => List.mem_cons_of_mem _ (List.mem_cons_of_mem _ (List.mem_append_left _ (List.mem_map.mpr ⟨p, hp, rfl⟩)))
  have tM1 : ∀ u ∈ [t], u.addr ∈ M1 := fun u hu => by rw [List.mem_singleton.mp hu]; exact mM1 _ htM
  have S4 := hSv M1 tM1 List.mem_cons_self cM1 hM1
  have S4' := hSv (I :: M1) (fun u hu => List.mem_cons_of_mem _ (tM1 u hu)) (List.mem_cons_of_mem _ List.mem_cons_self) (fun p hp => List.mem_cons_of_mem _ (cM1 p hp)) (fun a q => by
    rcases List.mem_cons.mp q with q | q
    · exact .inl (q ▸ List.mem_cons_of_mem _ List.mem_cons_self)
    · exact hM1 a q)
  have haxW : ax ∉ Wr cenv' := fun q => by
    rcases List.mem_cons.mp q with q | q
    · exact hCax (q.trans hl')
    · obtain ⟨p, hp, q⟩ := List.mem_map.mp q; rw [hc'] at hp; exact (hcel p hp).2 q
  have hW2 : ∀ a ∈ I :: M1, a ∈ I :: M ∨ s₂.heap.get? a = none := fun a q => by
    rcases List.mem_cons.mp q with q | q
    · exact .inl (q ▸ List.mem_cons_self)
    · rcases hM1 a q with q | q | ⟨p, hp, q⟩
      · rcases List.mem_cons.mp q with q | q
        · exact .inr (q ▸ hax2)
        · exact .inl q
      · exact .inr (q ▸ fresh_of p3 hCn)
      · rcases hcells p hp with h | h
        · exact .inl (List.mem_cons_of_mem _ (q ▸ S1.celM p h))
        · exact .inr (q ▸ fresh_of p3 h)
  have p34 := p3.trans p4
  have hit4 : ItAt (I :: M1) s₄.heap I (items.map id) := by
    rw [List.map_id]
    exact (hit.avoid hW2).kp p34.kp (fun _ h => nomatch h) (fun h => nomatch h)
  have hCs : s₁.heap.get? cenv.locals = none := fresh_of p13 hCn
  have haxs : s₁.heap.get? ax = none := fresh_of p2 hax2
  have hloop : codeAny (Mo b) c.A (.compLoop (.ListComp elt [⟨tgt, iter, [], 0⟩] scope pos) 0 (.ref I) (.ref ax) cenv') (compPost (Mo b) c.A noE (some (assign (.Name x pos') c.frm)) (fun _ s' => FlowIs c M0 s0 Q .next s') (.ref ax) cenv.locals) s₄ := by
    refine codeAny_mono (clx_run (iter := iter) items id J hz turn c.rm S4 S4' (List.mem_cons_of_mem _ List.mem_cons_self) hIM1 haxW (fun q => haxM (q ▸ htM)) hit4 (p4.kp.all _ _ hlst) q0) ?_
    rintro r s' ⟨rfl, t', out, ys, n'', S5, p5, te, h5, r5, l5, q5⟩
    obtain ⟨m, cm, F, _⟩ := S5.fr
    have p14 := p13.trans p4
    have p15 : Pw [t.addr] s₁ s' := ((p14.pw (W := t.addr :: ax :: I :: Wn cenv' ns)).trans p5).fresh fun a q => by
      rcases List.mem_cons.mp q with q | q
      · exact .inl (q ▸ List.mem_cons_self)
      refine .inr ?_
      rcases List.mem_cons.mp q with q | q
      · exact q ▸ haxs
      · rcases List.mem_cons.mp q with q | q
        · exact q ▸ hnew
        · rcases List.mem_cons.mp q with q | q
          · rw [q, hl']; exact hCs
          · obtain ⟨y, hy, q⟩ := List.mem_filterMap.mp q
            rw [hc'] at q
            have := List.all_eq_true.mp hns y hy
            split at this
            · rename_i hk; rw [hloc y hk] at q; cases q
            · rename_i hk; exact fresh_of p13 (hown y a hk q)
            · cases this
    have hdp : Dp (cenv.locals :: M) s'.heap (.ref ax) (.list out) := .list (fun q => (List.mem_cons.mp q).elim hCax haxM) (by rw [l5]; exact hz) h5 (r5.avoid fun a h => .inl ((List.mem_cons.mp h).elim (fun q => q ▸ List.mem_cons_self) (mM1 a)))
    have hCM : cenv.locals ∉ M := fun q => by obtain ⟨o, h⟩ := S1.st.exM _ q; cases hCs.symm.trans h
    have St5 : St b (cenv.locals :: M) [t'] s' := S5.st.less (fun u hu => by rw [List.mem_singleton.mp hu, te]; exact List.mem_cons_of_mem _ htM) fun a h => (List.mem_cons.mp h).elim (fun q => q ▸ List.mem_cons_self) (mM1 a)
    have m5 : Mv M s₁ (cenv.locals :: M) s' := ⟨fun a h => List.mem_cons_of_mem _ h, fun a h => (List.mem_cons.mp h).elim (fun q => .inr (q ▸ hCs)) .inl, p15.more fun a h => by rw [List.mem_singleton.mp h]; exact htM⟩
    have C5 := at_replace (Xa := [t]) (X' := [t']) C1 (fun u hu => by rw [List.mem_singleton.mp hu]; exact hW) St5 m5 p15 (fun u hu => .inl (by rw [List.mem_singleton.mp hu, te]; exact List.mem_cons_self))
    show wpAny _ c.A (assign (.Name x pos') c.frm (.ref ax)) _ _ s'
    have hCW : cenv.locals ∉ Wr c.frm := fun q => hCM (S1.wrM _ q)
    refine PyProof.Rows.assign_Name (wp_weak (sv_store (ns := [x]) C5.sv hx (by simp) hdp) fun _ s₆ ⟨V6, p6⟩ => ?_)
    have p6' := p6.more (W' := Wr c.frm) wn_wr
    have g4 : s'.heap.Ns cenv.locals m := hl' ▸ F.ns
    refine ⟨m, g4.at' fun o e => p6'.kp _ o hCW e, fun h' hs' => ?_⟩
    have C6 := at_put C5 V6 p6'
    have m6 := m5.trans (mv_put C5 p6')
    have p7 : Pw [cenv.locals] s₆ { s₆ with heap := h' } := ⟨Kp.sameBut hs', rfl, rfl⟩
    obtain ⟨oC, -, -, eC, -⟩ := g4
    have eC' := p6'.kp _ oC hCW eC
    have C6' : (c.lock ((cenv.locals, oC) :: c.lk)).At (cenv.locals :: M) ((x, .list out) :: Del x ρ) (L ++ ([t'] ++ Rr)) s₆ := ⟨C6.sv, C6.sub, C6.new, C6.pw, C6.wr, C6.xs, fun q hq => by
      rcases List.mem_cons.mp hq with rfl | hq
      · refine ⟨eC', List.mem_cons_self, hCW, fun u hu e => ?_⟩
        replace e : u.addr = cenv.locals := e
        rcases List.mem_append.mp hu with h | h
        · exact hCM (e ▸ V.st.moM u (List.mem_append_left _ h))
        · rcases List.mem_append.mp h with h | h
          · rw [List.mem_singleton.mp h, te] at e; exact hCM (e ▸ htM)
          · exact hCM (e ▸ V.st.moM u (List.mem_append_right _ (List.mem_append_right _ h)))
      · exact C6.lk q hq⟩
    have C7 := at_end C6' (C1.fresh hCs) (fun q => hCM (C1.sub _ q)) (fun q hq e => by have := (C1.lk q hq).1; rw [e] at this; cases hCs.symm.trans this) p7
    have mA := m0.trans m6
    refine ⟨_, _, _, C7, ⟨fun a h => List.mem_filter.mpr ⟨mA.sub a h, by simpa using fun q : a = cenv.locals => hCM (q ▸ m0.sub a h)⟩, fun a h => mA.new a (List.mem_filter.mp h).1, ?_⟩, fin out t' te l5 q5⟩
    exact (mA.pw.more (W' := cenv.locals :: M0) fun a h => List.mem_cons_of_mem _ h).trans (p7.more (by simp)) |>.fresh fun a h => (List.mem_cons.mp h).elim (fun q => .inr (q ▸ m0.none_of (fun z => hCM (m0.sub _ z)) hCs)) .inl
  exact codeAny_compStart_list hloop (iter_self hit4 hloop)
end

/-- the feed of numbers -/
noncomputable abbrev fdK (cells : List Int) (k bl : Int) : List (Str × D) := [("cells", .dat (dI1 cells)), ("count", .int k), ("blend", .int bl)]
noncomputable abbrev Fd (a : Addr) (cells : List Int) (k : Nat) (bl : Int) : MO := .sdict a (fdK cells k bl)
theorem set_count {cells : List Int} {k bl i : Int} : setKv "count" (.int i) (fdK cells k bl) = fdK cells i bl := by rfl
section
variable {b : Bas} (G : Gs b) (K : Ks b)
include G in
theorem c_draw {a : Addr} {cells : List Int} {k : Nat} {bl many : Int} (hc : cells.length ≤ 100) (hk : k ≤ 1000) (hb : 0 ≤ bl ∧ bl ≤ 100000) (hm : 0 < many) : Cn b 1 [Fd a cells k bl] (.ref 473) [.raw (.ref a), .int many] (fun d X' => ∃ v : Int, (0 ≤ v ∧ v < many) ∧ d = .int v ∧ X' = [Fd a cells (k + 1) bl]) := by
  refine cn_of ["feed", "many"] G.f26 (fun c hV hW => ?_) (bind2 (by intros; rfl))
  have ha : a ∈ c.W ∨ c.s0.heap.get? a = none := .inl (by rw [hW]; simp [MO.addr])
  refine go_cons (do_assign (ef_pure (ev_item (evn (d := .raw (.ref a))) ev_str (itm_S List.mem_cons_self (d := .int k) rfl)) ?_))
  refine go_cons (do_setS (ef_pure (ev_bin (evn (d := .int k)) ev_int bin_add) ⟨a, "count", [], [], _, evn (d := .raw (.ref a)), ev_str, rfl, rfl, by show 3 ≤ 100; decide, ha, ?_⟩))
  rw [set_count, List.nil_append]
  have hl := fn_lenL (b := b) (n := 0) (X := [MO.sdict a (fdK cells ((k : Int) + 1) bl)]) (xs := cells.map .int)
  rw [List.length_map] at hl
  have hx : ∀ {d : D} {key : Str}, (fdK cells ((k : Int) + 1) bl).lookup key = some d → Itm b [MO.sdict a (fdK cells ((k : Int) + 1) bl)] (.raw (.ref a)) (.str key) d := fun h => itm_S List.mem_cons_self h
  refine go_cons (do_if (et_pure (tv_cmp (evn (d := .int k)) (ecallB (ev_glob G.len) (es1 (ev_item (evn (d := .raw (.ref a))) ev_str (hx (d := .dat (dI1 cells)) rfl))) hl) cmp_lt) (ite_of (fun h => ?_) fun h => ?_)))
  · have h := of_decide_eq_true h
    refine go_cons (do_return (ef_pure (ev_bin (ecallB (ev_glob G.abs) (es1 (ev_item (ev_item (evn (d := .raw (.ref a))) ev_str (hx (d := .dat (dI1 cells)) rfl)) (evn (d := .int k)) (itm_I1 (by omega)))) fn_abs) (evn (d := .int many)) (bin_mod (by omega))) ⟨_, List.Sublist.refl _, _, ⟨Int.fmod_nonneg_of_pos _ hm, Int.fmod_lt_of_pos _ hm⟩, rfl, rfl⟩))
  · have c1 : (k : Int) * k ≤ 1000 * 1000 := Int.mul_le_mul (by omega) (by omega) (by omega) (by omega)
    refine go_nil (go_cons (do_return (ef_pure (ev_bin (ev_bin (ev_bin (ev_bin (ev_bin (ev_bin ev_int (ev_item (evn (d := .raw (.ref a))) ev_str (hx (d := .int bl) rfl)) (bin_mul (mul_ok (by omega) (by omega)))) (ev_bin (ev_bin ev_int (evn (d := .int k)) (bin_mul (mul_ok (by omega) (by omega)))) (evn (d := .int k)) (bin_mul (mul_ok (by omega) (by omega)))) bin_add) (ev_bin ev_int (evn (d := .int k)) (bin_mul (mul_ok (by omega) (by omega)))) bin_add) ev_int bin_add) ev_int (bin_mod (by omega))) (evn (d := .int many)) (bin_mod (by omega))) ⟨_, List.Sublist.refl _, _, ⟨Int.fmod_nonneg_of_pos _ hm, Int.fmod_lt_of_pos _ hm⟩, rfl, rfl⟩)))
end

/-- a decision -/
structure Dec (σ σ' : Sto) : Prop where
  firsts : σ'.firsts = σ.firsts
  marks : σ'.marks = σ.marks
  ent : ∃ t, σ'.trail = σ.trail ++ t ∧ undoF t σ'.doms = σ.doms
  inv : Inv σ'
theorem dec_of {σ : Sto} {l : Lit} (h : Inv σ) (hf : σ.failed = false) (hx : l.x < σ.doms.length) : Dec σ (enterF σ l none).1 ∧ (enterF σ l none).2 = !(enterF σ l none).1.failed := by
  have t := hit_of (S := []) (V := fun _ => True) (l := l) (rs := []) h hf hx trivial (fun _ q => nomatch q) (by simp) (fun _ q => nomatch q) (fun _ q => nomatch q)
  have same : enterF σ l none = enterF σ l (some []) → Dec σ (enterF σ l none).1 ∧ (enterF σ l none).2 = !(enterF σ l none).1.failed := fun e => by
    rw [e]
    obtain ⟨u, u1, u2, u3, u4, u5⟩ := t.run.ent
    exact ⟨⟨t.run.firsts, t.run.marks, ⟨u, u1, u4⟩, t.inv⟩, t.res⟩
  by_cases c1 : struckF l (domAt σ l.x) = []
  · exact same (by unfold enterF; dsimp only; rw [if_pos c1, if_pos c1]; rfl)
  · by_cases c2 : struckF l (domAt σ l.x) = domAt σ l.x
    · exact same (by unfold enterF; dsimp only; rw [if_neg c1, if_neg c1, if_pos c2, if_pos c2])
    · have e : ∀ why, enterF σ l why = ({ σ with trail := σ.trail ++ [⟨l.x, domAt σ l.x, l, why⟩], doms := σ.doms.set l.x (struckF l (domAt σ l.x)) }, true) := fun why => by unfold enterF; dsimp only; rw [if_neg c1, if_neg c2]
      rw [e] at t ⊢
      obtain ⟨u, u1, u2, u3, u4, u5⟩ := t.run.ent
      have i := t.inv
      refine ⟨⟨rfl, rfl, ⟨[⟨l.x, domAt σ l.x, l, none⟩], rfl, ?_⟩, ⟨i.few, i.flen, i.fok, i.dok, i.sub, fun d hd => ?_, by have := i.cap; simpa using this⟩⟩, by rw [hf]; rfl⟩
      · have := List.append_cancel_left u1
        subst this
        exact u4
      · rcases List.mem_append.mp hd with q | q
        · exact i.ent d (List.mem_append_left _ q)
        · rw [List.mem_singleton.mp q]; show l.x < (σ.doms.set _ _).length; rw [List.length_set]; exact hx
noncomputable def dl3 (x : Nat) (s : Sg) (y : Int) : List PyData := [.int x, .str s.str, .int y]
noncomputable def sgAt : Nat → Sg
  | 0 => .le
  | 1 => .ge
  | 2 => .eq
  | _ => .ne
theorem sg_item {b : Bas} {X : List MO} {j : Nat} (h : j < 4) : Itm b X (.list [.str "<=", .str ">=", .str "=", .str "!="]) (.int j) (.str (sgAt j).str) := by
  match j, h with
  | 0, _ => exact itm_list (j := 0) rfl rfl
  | 1, _ => exact itm_list (j := 1) rfl rfl
  | 2, _ => exact itm_list (j := 2) rfl rfl
  | 3, _ => exact itm_list (j := 3) rfl rfl
section
variable {b : Bas} {n : Nat} {sc : Scope} {c : Cx b n sc} {ρ : List (Str × D)} {X : List MO}
/-- a tuple of data -/
theorem ef_tupE {es : List PySem.Expr} {k : Nat} {pos : Pos} {Q : D → List MO → Prop} (h : c.Es ρ X es fun ds X1 => ∃ ys : List PyData, ds = ys.map D.dat ∧ ys.length ≤ big ∧ Q (.tup ys) X1) : c.Ef ρ X (.Tuple es k pos) Q := fun M s S => by
  refine PySem.wpAny_Tuple (wp_weak (h M s pos S) fun vs s₁ ⟨M1, X1, ds, S1, m1, a1, ys, hd, hz, q⟩ => ?_)
  subst hd
  have r := a1.rp
  have hl := r.length
  have p2 : Pr s₁ { s₁ with heap := s₁.heap.push { cls := .type "tuple", data := .seq vs.toArray } } := ⟨Kp.push, rfl, rfl⟩
  have S2 := S1.pure p2
  exact ⟨by rw [hl]; exact big_line hz, M1, X1, .tup ys, S2, m1.trans p2.mv, Rp.tuple S1.sv.st.new hz (Heap.get?_push_size _ rfl) (by simpa using r.kp p2.kp fun _ h => nomatch h), q⟩
theorem es_one {e : PySem.Expr} {Q : List D → List MO → Prop} (h : c.Ef ρ X e fun d X1 => Q [d] X1) (he : ∀ env, starEach [e] env = (false, eval e env) :: starEach [] env := by intro _; rfl) : c.Es ρ X [e] Q := es_cons (ef_mono h fun d X1 q => es_nil q) he
end
section
variable {b : Bas} {A : Ad} {σ : Sto} (G : Gs b) (K : Ks b)
include G K in
theorem c_decided {a : Addr} {cells : List Int} {k : Nat} {bl : Int} (hc : cells.length ≤ 100) (hk : k ≤ 900) (hb : 0 ≤ bl ∧ bl ≤ 100000) (h : Inv σ) (hf : σ.failed = false) (h0 : 0 < σ.doms.length) :
    Cn b 6 (Fd a cells k bl :: Xs A σ) (.ref 537) [.raw (.ref a), .raw (.ref A.a)] (fun d X' => ∃ σ', Dec σ σ' ∧ d = .bool (!σ'.failed) ∧ X' = Fd a cells (k + 3) bl :: Xs A σ') := by
  refine cn_of ["feed", "store"] G.f38 (fun c hV hW => ?_) (bind2 (by intros; rfl))
  have ha : ∀ j, ∀ t ∈ [Fd a cells j bl], t.addr ∈ c.W ∨ c.s0.heap.get? t.addr = none := fun j t ht => .inl (by rw [hW, List.mem_singleton.mp ht]; exact List.mem_cons_self)
  have hS : ∀ τ, ∀ t ∈ Xs A τ, t.addr ∈ c.W ∨ c.s0.heap.get? t.addr = none := fun τ t ht => .inl (by rw [hW, List.map_cons, xs_addr, ← xs_addr (σ := τ)]; exact List.mem_cons_of_mem _ (List.mem_map_of_mem ht))
  have h4 := h.few
  have sb : ∀ j, (Xs A σ).Sublist (Fd a cells j bl :: Xs A σ) := fun j => List.sublist_cons_self _ _
  refine go_cons (do_assign (ef_call (ev_glob G.g26) G.f26.ke (es_pure (es2 (evn (d := .raw (.ref a))) (ev_meth (evn (d := .raw (.ref A.a))) (gm_store K K.m2 ((sb k).subset xs_a) ((sb k).subset xs_d)) K.f2.ke evs_nil (c_size G K (by omega)) (sb k))) (cl_cn [] [Fd a cells k bl] (Xs A σ) ((c_draw G hc (by omega) hb (by omega)).mono fun d X' ⟨v, hv, e1, e2⟩ => ?_) (by decide) (ha k)))))
  rw [e1, e2]
  obtain ⟨x, rfl⟩ : ∃ x : Nat, v = x := ⟨v.toNat, by omega⟩
  have hx : x < σ.doms.length := by omega
  obtain ⟨k1, k2⟩ := h.dk hx
  refine go_cons (do_assign (ef_pure (ecall (ev_glob G.g27) (es1 (ev_meth (evn (d := .raw (.ref A.a))) (gm_store K K.m3 ((sb (k + 1)).subset xs_a) ((sb (k + 1)).subset xs_d)) K.f3.ke (es1 (evn (d := .int x))) (c_dom K hx (by omega)) (sb (k + 1)))) G.f27.ke (f_law_list G k1)) ?_))
  have hpos : 0 < (valsAt σ x).length := List.length_pos_iff.mpr fun q => k2 ((values_nil k1).mpr q)
  have hl := fn_lenL (b := b) (n := 5) (X := Fd a cells (k + 1) bl :: Xs A σ) (xs := (valsAt σ x).map .int)
  rw [List.length_map] at hl
  refine go_cons (do_assign (ef_item (ef_pure (evn (d := .dat (dI1 (valsAt σ x)))) (ef_call (ev_glob G.g26) G.f26.ke (es_pure (es2 (evn (d := .raw (.ref a))) (ecallB (ev_glob G.len) (es1 (evn (d := .dat (dI1 (valsAt σ x))))) hl)) (cl_cn [] [Fd a cells (k + 1) bl] (Xs A σ) ((c_draw G hc (by omega) hb (by omega)).mono fun d X' ⟨v, hv, e1, e2⟩ => ?_) (by decide) (ha (k + 1))))))))
  obtain ⟨j, rfl⟩ : ∃ j : Nat, v = j := ⟨v.toNat, by omega⟩
  subst e1 e2
  refine ⟨.int (atI (valsAt σ x) j), itm_I1 (by omega), ?_⟩
  generalize atI (valsAt σ x) j = y
  refine go_cons (do_return (ef_meth (evn (d := .raw (.ref A.a))) (gm_store K K.m14 ((sb (k + 2)).subset xs_a) ((sb (k + 2)).subset xs_d)) K.f14.ke (es_one (ef_tupE (es_cons (ef_pure (evn (d := .int x)) (es_cons (ef_item (ef_pure (ev_list (ds := [.str "<=", .str ">=", .str "=", .str "!="]) (evs_cons (d := .str "<=") ev_str (evs_cons (d := .str ">=") ev_str (evs_cons (d := .str "=") ev_str (evs_cons (d := .str "!=") ev_str evs_nil)))) (by simp [big])) (ef_call (ev_glob G.g26) G.f26.ke (es_pure (es2 (evn (d := .raw (.ref a))) ev_int) (cl_cn [] [Fd a cells (k + 2) bl] (Xs A σ) ((c_draw G hc (by omega) hb (by decide)).mono fun d X' ⟨v, hv, e1, e2⟩ => ?_) (by decide) (ha (k + 2))))))))))))))
  obtain ⟨j, rfl⟩ : ∃ j : Nat, v = j := ⟨v.toNat, by omega⟩
  subst e1 e2
  refine ⟨.str (sgAt j).str, ?_, es_one (ef_pure (evn (d := .int y)) ⟨dl3 x (sgAt j) y, rfl, by simp [big, dl3], ?_⟩)⟩
  · exact sg_item (by omega)
  have hd := dec_of (l := ⟨x, sgAt j, y⟩) h hf hx
  refine cl_cn [Fd a cells (k + 3) bl] (Xs A σ) [] ((c_decide G K (l := ⟨x, sgAt j, y⟩) h.ok hx).mono fun d X' ⟨e1, e2⟩ => ?_) (by decide) (hS σ) (by simp)
  subst e1 e2
  exact ⟨_, List.Sublist.refl _, _, hd.1, by rw [hd.2]; rfl, by simp⟩
end

theorem dk_last {m a c e : Int} : ∀ {d : Dom}, Dk m (d ++ [(a, c)]) → c ≤ e → e ≤ 1000 → Dk m (d ++ [(a, e)])
  | [], h, h1, h2 => ⟨h.1, by have := h.2.1; omega, h2, trivial⟩
  | (l, i) :: r, h, h1, h2 => ⟨h.1, h.2.1, h.2.2.1, dk_last h.2.2.2 h1 h2⟩
theorem put_ok {d : Dom} {v : Int} (h : DomOk d) (hv : -1000 ≤ v ∧ v ≤ 1000) (hl : ∀ u ∈ valuesOf d, u ≤ v) : DomOk (putBehind d v v) ∧ ∀ u, u ∈ valuesOf (putBehind d v v) ↔ u ∈ valuesOf d ∨ u = v := by
  have one : ∀ a c u : Int, u ∈ valuesOf [(a, c)] ↔ a ≤ u ∧ u ≤ c := fun a c u => by rw [mem_values]; simp
  rcases List.eq_nil_or_concat d with rfl | ⟨e, ⟨a, c⟩, rfl⟩
  · exact ⟨⟨hv.1, Int.le_refl _, hv.2, trivial⟩, fun u => by
      show u ∈ valuesOf [(v, v)] ↔ _
      rw [one]
      constructor
      · intro q; exact .inr (by omega)
      · rintro (q | q)
        · cases q
        · omega⟩
  rw [List.concat_eq_append] at *
  have hac : a ≤ c := (h.ge (a, c) (List.mem_append_right _ List.mem_cons_self)).2
  have hcv : c ≤ v := hl c (mem_values.mpr ⟨(a, c), List.mem_append_right _ List.mem_cons_self, hac, Int.le_refl _⟩)
  have hg := greatest_ok h (by simp)
  have hgc : greatestOf (e ++ [(a, c)]) = c := by unfold greatestOf; simp
  rw [hgc] at hg
  have hp : putBehind (e ++ [(a, c)]) v v = if v ≤ c + 1 then (if v > c then e ++ [(a, v)] else e ++ [(a, c)]) else e ++ [(a, c)] ++ [(v, v)] := by
    unfold putBehind
    rw [List.getLast?_append]
    simp only [List.getLast?_singleton, Option.some_or, List.dropLast_concat]
  rw [hp]
  split
  · split
    · refine ⟨dk_last h (by omega) hv.2, fun u => ?_⟩
      rw [values_app, values_app, List.mem_append, List.mem_append, one, one]
      constructor
      · rintro (q | q)
        · exact .inl (.inl q)
        · by_cases z : u ≤ c
          · exact .inl (.inr (by omega))
          · exact .inr (by omega)
      · rintro ((q | q) | q)
        · exact .inl q
        · exact .inr (by omega)
        · exact .inr (by omega)
    · refine ⟨h, fun u => ⟨.inl, fun q => q.elim id fun q => ?_⟩⟩
      rw [q, show v = c by omega]; exact hg.1
  · refine ⟨dk_app (k := v) h (fun p q => ?_) hv.1 ⟨Int.le_refl _, Int.le_refl _, hv.2, trivial⟩, fun u => ?_⟩
    · have := hg.2 p.2 (mem_values.mpr ⟨p, q, (h.ge p q).2, Int.le_refl _⟩)
      omega
    · rw [values_app, List.mem_append, one]
      constructor
      · rintro (q | q)
        · exact .inl q
        · exact .inr (by omega)
      · rintro (q | q)
        · exact .inl q
        · exact .inr (by omega)
theorem pile_ok : ∀ {l : List Int} {d : Dom}, DomOk d → (l.Pairwise (· ≤ ·)) → (∀ v ∈ l, -1000 ≤ v ∧ v ≤ 1000) → (∀ u ∈ valuesOf d, ∀ v ∈ l, u ≤ v) →
    DomOk (l.foldl (fun d v => putBehind d v v) d) ∧ ∀ u, u ∈ valuesOf (l.foldl (fun d v => putBehind d v v) d) ↔ u ∈ valuesOf d ∨ u ∈ l
  | [], d, h, _, _, _ => ⟨h, fun u => by simp⟩
  | v :: l, d, h, hp, hb, hd => by
    obtain ⟨p1, p2⟩ := List.pairwise_cons.mp hp
    obtain ⟨k1, k2⟩ := put_ok h (hb v List.mem_cons_self) (fun u hu => hd u hu v List.mem_cons_self)
    obtain ⟨r1, r2⟩ := pile_ok (l := l) k1 p2 (fun w hw => hb w (List.mem_cons_of_mem _ hw)) (fun u hu w hw => by
      rcases (k2 u).mp hu with q | q
      · exact hd u q w (List.mem_cons_of_mem _ hw)
      · rw [q]; exact p1 w hw)
    refine ⟨r1, fun u => ?_⟩
    rw [List.foldl_cons, r2, k2, List.mem_cons, or_assoc]
theorem nd_len : ∀ {l m : List Int}, l.Nodup → (∀ x ∈ l, x ∈ m) → l.length ≤ m.length
  | [], _, _, _ => Nat.zero_le _
  | a :: r, m, h, k => by
    obtain ⟨h1, h2⟩ := List.nodup_cons.mp h
    have ha := k a List.mem_cons_self
    have := nd_len (l := r) (m := m.erase a) h2 fun x hx => (List.mem_erase_of_ne (show x ≠ a from fun e => h1 (e ▸ hx))).mpr (k x (List.mem_cons_of_mem _ hx))
    rw [List.length_erase_of_mem ha] at this
    have := List.length_pos_of_mem ha
    rw [List.length_cons]; omega
theorem from_ok {is : List Int} (hb : ∀ v ∈ is, -4 ≤ v ∧ v ≤ 4) (hne : is ≠ []) (hl : is.length ≤ 4) : DomOk (fromValues is) ∧ fromValues is ≠ [] ∧ (valuesOf (fromValues is)).length ≤ 4 ∧ ∀ v ∈ valuesOf (fromValues is), -4 ≤ v ∧ v ≤ 4 := by
  have hm : ∀ v, v ∈ sortI is ↔ v ∈ is := fun v => List.mem_mergeSort
  have hs : (sortI is).Pairwise (· ≤ ·) := by
    have := List.pairwise_mergeSort (le := fun x y : Int => decide (x ≤ y)) (fun a b c h1 h2 => by simp only [decide_eq_true_eq] at *; omega) (fun a b => by simp only [Bool.or_eq_true, decide_eq_true_eq]; omega) is
    exact this.imp fun h => of_decide_eq_true h
  obtain ⟨h1, h2⟩ := pile_ok (d := []) trivial hs (fun v hv => by have := hb v ((hm v).mp hv); omega) (fun u hu => nomatch hu)
  have hv : ∀ v, v ∈ valuesOf (fromValues is) ↔ v ∈ is := fun v => by
    unfold fromValues pileOf
    rw [h2, hm]
    simp [valuesOf]
  refine ⟨h1, fun e => ?_, ?_, fun v q => hb v ((hv v).mp q)⟩
  · obtain ⟨v, r, e'⟩ := List.exists_cons_of_ne_nil hne
    have := (hv v).mpr (by rw [e']; exact List.mem_cons_self)
    rw [e] at this; cases this
  · have nd : (valuesOf (fromValues is)).Nodup := (Dk.srt h1).imp fun h => by omega
    refine Nat.le_trans ?_ hl
    exact nd_len nd fun v q => (hv v).mp q

/-- a store as it is built -/
structure Bi (σ : Sto) (n : Nat) : Prop where
  len : σ.doms.length = n
  fd : σ.firsts = σ.doms
  tr : σ.trail = []
  mks : σ.marks = []
  ff : σ.failed = false
  ok : ∀ d ∈ σ.doms, DomOk d ∧ d ≠ [] ∧ (valuesOf d).length ≤ 4 ∧ ∀ v ∈ valuesOf d, -4 ≤ v ∧ v ≤ 4
theorem msr_le : ∀ {D : List Dom}, (∀ d ∈ D, (valuesOf d).length ≤ 4) → msr D ≤ 4 * D.length
  | [], _ => Nat.zero_le _
  | d :: r, h => by
    have := msr_le (D := r) fun e he => h e (List.mem_cons_of_mem _ he)
    have := h d List.mem_cons_self
    unfold msr at *
    rw [List.map_cons, List.sum_cons, List.length_cons]; omega
theorem Bi.inv {σ : Sto} {n : Nat} (h : Bi σ n) (hn : n ≤ 4) : Inv σ := by
  have hl := h.len
  refine ⟨by omega, by rw [h.fd], fun d hd => h.ok d (h.fd ▸ hd), fun d hd => ⟨(h.ok d hd).1, (h.ok d hd).2.1⟩, fun i hi v hv => by rw [h.fd]; exact hv, (fun e he => by rw [h.tr] at he; cases he), ?_⟩
  have := msr_le fun d hd => (h.ok d hd).2.2.1
  rw [h.tr, List.length_nil]; omega
theorem has_int {x : Str} {i j : Int} {ρ : List (Str × D)} (h : Has x (.int i) ρ) (e : i = j) : Has x (.int j) ρ := e ▸ h
section
variable {b : Bas} {n : Nat} {sc : Scope} {c : Cx b n sc} {ρ : List (Str × D)} (G : Gs b)
include G in
theorem ef_draw {a : Addr} {cells : List Int} {k : Nat} {bl many : Int} {o e : PySem.Expr} {p pos : Pos} {Q : D → List MO → Prop} (L R : List MO) (hW : a ∈ c.W ∨ c.s0.heap.get? a = none) (h1 : Ev b n sc ρ (L ++ ([Fd a cells k bl] ++ R)) o (.raw (.ref a))) (h2 : Ev b n sc ρ (L ++ ([Fd a cells k bl] ++ R)) e (.int many)) (hc : cells.length ≤ 100) (hk : k ≤ 1000) (hb : 0 ≤ bl ∧ bl ≤ 100000) (hm : 0 < many)
    (q : ∀ v : Nat, (v : Int) < many → Q (.int v) (L ++ ([Fd a cells (k + 1) bl] ++ R))) (hn : 1 ≤ n := by decide) (hg : sc.names.lookup ("_law_draw" : Str) = some .globalImplicit := by decide +kernel) (hp : plainArgs [o, e] = true := by rfl)
    (he : ∀ env, starEach [o, e] env = (false, eval o env) :: starEach [e] env := by intro _; rfl) (hf : ∀ env, starEach [e] env = (false, eval e env) :: starEach [] env := by intro _; rfl) : c.Ef ρ (L ++ ([Fd a cells k bl] ++ R)) (.Call (.Name "_law_draw" p) [o, e] [] pos) Q :=
  ef_call (ev_glob G.g26 hg) G.f26.ke (es_pure (es2 h1 h2 he hf) (cl_cn L [Fd a cells k bl] R ((c_draw G hc hk hb hm).mono fun d X' ⟨v, hv, e1, e2⟩ => by
    obtain ⟨x, rfl⟩ : ∃ x : Nat, v = x := ⟨v.toNat, by omega⟩
    rw [e1, e2]; exact q x hv.2) hn (fun t ht => by rw [List.mem_singleton.mp ht]; exact hW))) hp
end
/-- what is built -/
inductive BQ (b : Bas) (a : Addr) (cells : List Int) (bl : Int) (k : Nat) (kind : Int) (d : D) (X' : List MO) : Prop
  | mk (A : Ad) (σ : Sto) (scope : List Nat) (j : Nat) (p C dx : Addr) (st : Str) (F : Sto → Prop) (e1 : d = .trip A.a (dN scope) p) (e2 : X' = Fd a cells j bl :: (Xs A σ ++ Pp p C dx scope st)) (kd : Kd b kind scope σ.doms.length p C dx st F) (bi : Bi σ σ.doms.length) (h4 : σ.doms.length ≤ 4) (h0 : 0 < σ.doms.length) (hj : j ≤ k + 60) : BQ b a cells bl k kind d X'
inductive Ba (a : Addr) (cells : List Int) (bl kind : Int) (k : Nat) (ρ : List (Str × D)) (X : List MO) : Prop
  | mk (m j : Nat) (g1 : Has "feed" (.raw (.ref a)) ρ) (g2 : Has "kind" (.int kind) ρ) (g3 : Has "many" (.int m) ρ) (m1 : 1 ≤ m) (m3 : m ≤ 3) (mk : kind = 0 → m = 1) (hj : j ≤ k + 1) (e : X = [Fd a cells j bl]) : Ba a cells bl kind k ρ X
inductive Bb (a : Addr) (cells : List Int) (bl kind : Int) (k m : Nat) (w : Int) (A : Ad) (l : Nat) (ρ : List (Str × D)) (X : List MO) : Prop
  | mk (g4 : Has "feed" (.raw (.ref a)) ρ) (g5 : Has "kind" (.int kind) ρ) (g6 : Has "many" (.int m) ρ) (g7 : Has "wide" (.int w) ρ) (g8 : Has "store" (.raw (.ref A.a)) ρ) (σ : Sto) (j : Nat) (e : X = Fd a cells j bl :: Xs A σ) (bi : Bi σ l) (hj : j ≤ k + 1 + 5 * l) : Bb a cells bl kind k m w A l ρ X
inductive Bj (a : Addr) (cells : List Int) (bl : Int) (j : Nat) (out : List PyData) (t' : MO) : Prop
  | mk (is : List Int) (e1 : out = is.map .int) (e2 : ∀ i ∈ is, -4 ≤ i ∧ i ≤ 4) (e3 : t' = Fd a cells (j + 1 + out.length) bl) : Bj a cells bl j out t'
inductive Bc (a : Addr) (cells : List Int) (bl kind : Int) (k m : Nat) (A : Ad) (σ : Sto) (sc : Addr) (ρ : List (Str × D)) (X : List MO) : Prop
  | mk (xs : List Nat) (j' : Nat) (g9 : Has "kind" (.int kind) ρ) (g10 : Has "store" (.raw (.ref A.a)) ρ) (g11 : Has "scope" (.raw (.ref sc)) ρ) (hl : xs.length = m) (hx : ∀ x ∈ xs, x < m + 1) (hj : j' ≤ k + 40) (e : X = .list sc ((xs ++ [m]).map fun i : Nat => PyData.int i) :: Fd a cells j' bl :: Xs A σ) : Bc a cells bl kind k m A σ sc ρ X
section
variable {b : Bas} (G : Gs b) (K : Ks b) (P : Kr b)
include G K P in
theorem c_built {a : Addr} {cells : List Int} {k : Nat} {bl kind : Int} (hc : cells.length ≤ 100) (hk : k ≤ 800) (hb : 0 ≤ bl ∧ bl ≤ 100000) (hkd : kind = 0 ∨ kind = 1 ∨ kind = 2) :
    Cn b 6 [Fd a cells k bl] (.ref 530) [.raw (.ref a), .int kind] (BQ b a cells bl k kind) := by
  refine cn_of ["feed", "kind"] G.f37 (fun c hV hW => ?_) (bind2 (by intros; rfl))
  have ha : a ∈ c.W ∨ c.s0.heap.get? a = none := .inl (by rw [hW]; exact List.mem_cons_self)
  suffices hgo : c.Go ((["feed", "kind"] : List Str).zip [.raw (.ref a), .int kind]) [Fd a cells k bl] (bodyOf (stOf 37)) fun _ X' fl => BQ b a cells bl k kind fl.res X' from go_mono hgo fun _ X' _ q => ⟨X', List.Sublist.refl _, q⟩
  refine go_join (Ba a cells bl kind k) (do_assign (ef_ifexp (et_pure (tv_cmp (evn (d := .int kind)) ev_int cmp_eq) (ite_dd (fun e => ?_) fun e => ?_)))) ?_
  · exact ef_pure ev_int ⟨1, k, by trivial, by trivial, List.mem_cons_self, by omega, by omega, fun _ => rfl, by omega, rfl⟩
  · refine ef_bin (ef_pure ev_int (ef_draw G [] [] ha (evn (d := .raw (.ref a))) ev_int hc (by omega) hb (by omega) fun v hv => ⟨_, bin_add, 1 + v, k + 1, by trivial, by trivial, has_int List.mem_cons_self (by omega), by omega, by omega, fun q => ?_, by omega, rfl⟩))
    rw [q] at e; simp at e
  rintro ρ1 X1 ⟨m, j1, g1, g2, g3, m1, m3, mk, hj1, rfl⟩
  generalize hw : (if m = 3 then (3 : Int) else 6) = w
  have hw2 : w = 3 ∨ w = 6 := by rw [← hw]; split <;> simp
  have hst : Cn b 2 [] (.ref 265) [] fun d X' => ∃ A : Ad, d = .raw (.ref A.a) ∧ X' = Xs A sto0 := cn_class K.made fun a dx => (c_init G K).mono fun d X' ⟨e1, A, e2, e3⟩ => ⟨e1, A, by rw [e2], e3⟩
  refine go_cons (do_assign2T (es_cons (ef_pure (d := .int w) (ev_ifexp (tv_cmp (evn (d := .int m)) ev_int cmp_eq) (fun e => ?_) (fun e => ?_)) (es_one (ef_call (ev_glob P.gSt) K.made.ke (es_nil (cl_cn [Fd a cells j1 bl] [] [] (hst.mono fun d X' ⟨A, e1, e2⟩ => ?_) (by decide) (fun _ q => nomatch q))))))))
  · exact ev_eq ev_int (by rw [← hw, if_pos (by simp at e; omega)])
  · exact ev_eq ev_int (by rw [← hw, if_neg (by simp at e; omega)])
  rw [e1, e2, List.append_nil]
  refine ⟨_, _, rfl, ?_⟩
  refine go_own fun hown => ?_
  have hAc : OwnS c A := fun x hx => by
    obtain ⟨t, ht, e⟩ := List.mem_map.mp (show x ∈ (Xs A sto0).map MO.addr from hx)
    rw [hW, ← hV, ← e]
    exact hown t (List.mem_cons_of_mem _ ht)
  refine go_cons (do_for ["x"] (List.range (m + 1)) (fun i : Nat => .int i) (fun done rest ρ X => Bb a cells bl kind k m w A done.length ρ X)
    (ev_eq (ecallT (ev_glob G.range) (es1 (ev_bin (evn (d := .int m)) ev_int bin_add)) fn_range1) (d' := .rng 0 ((m + 1 : Nat) : Int)) rfl) (iter_nat (by omega)) ⟨by trivial, by trivial, by trivial, by trivial, by trivial, sto0, j1, rfl, ⟨rfl, rfl, rfl, rfl, rfl, fun _ q => nomatch q⟩, by simpa using hj1⟩ ?_ ?_)
  · rintro lk done x rest ρ2 X2 hd ⟨g4, g5, g6, g7, g8, σ, j, rfl, hσ, hj⟩
    have hdl : done.length ≤ m := by have := congrArg List.length hd; simp at this; omega
    refine ⟨_, asg_name (d := .int x), ?_⟩
    refine go_cons (do_assignCX ["k"] (ef_call (ev_glob G.range) ke_type (es_one (ef_bin (ef_pure ev_int (ef_draw G [] (Xs A σ) ha (evn (d := .raw (.ref a))) ev_int hc (by omega) hb (by omega) fun v hv => ⟨_, bin_add, cl_fn [] fn_range1 (Nat.le_refl _) (List.nil_sublist _) (CompX.mk [] (Fd a cells (j + 1) bl) (Xs A σ) ((List.range (1 + v)).map fun i : Nat => D.int i) (Bj a cells bl j) rfl ?_ ?_ ha ⟨[], rfl, (fun _ q => nomatch q), rfl⟩ ?_ ?_)⟩))))))
    · exact iter_nat (n := 1 + v) (by omega)
    · rw [List.length_map, List.length_range]; simp only [big]; omega
    · rintro y hy out t' te hol ⟨is, e1, e2, rfl⟩
      rw [List.length_map, List.length_range] at hol
      obtain ⟨i, hi, rfl⟩ := List.mem_map.mp hy
      refine ⟨_, asg_name (d := .int i), sub1, evx_bin (evx_call (ev_glob G.g26) (es2 (evn (d := .raw (.ref a))) (evn (d := .int w))) G.f26.ke ((c_draw G hc (by omega) hb (by omega)).mono fun d X' ⟨u, hu, q1, q2⟩ => ⟨_, q2, rfl, .int (w.fdiv 2), .int (u - w.fdiv 2), ev_bin (evn (d := .int w)) ev_int (bin_div (by decide) ?_), ?_, .int (u - w.fdiv 2), rfl, is ++ [u - w.fdiv 2], ?_, ?_, ?_⟩) (by decide))⟩
      · rcases hw2 with rfl | rfl <;> decide +kernel
      · rw [q1]; exact bin_sub
      · rw [e1, List.map_append]; rfl
      · intro i hi
        rcases List.mem_append.mp hi with q | q
        · exact e2 i q
        · rw [List.mem_singleton.mp q]
          rcases hw2 with rfl | rfl
          · have : (3 : Int).fdiv 2 = 1 := by decide
            omega
          · have : (6 : Int).fdiv 2 = 3 := by decide
            omega
      · rw [List.length_append, List.length_singleton, Nat.add_assoc]
    · rintro out t' te hl ⟨is, e1, e2, rfl⟩
      rw [List.length_map, List.length_range] at hl
      subst e1
      rw [List.length_map] at hl ⊢
      obtain ⟨k1, k2, k3, k4⟩ := from_ok e2 (fun e => by rw [e] at hl; simp at hl; omega) (by omega)
      have hσl := hσ.len
      refine go_cons (do_expr (ef_store K [Fd a cells (j + 1 + is.length) bl] [] hAc (evn (d := .raw (.ref A.a))) K.m1 K.f1 (es1 (ecall (ev_glob G.g3) (es1 (evn (d := .list (is.map .int)))) G.f3.ke (f_from_values G (by omega)))) (c_new_var G K k2 (by rw [hσ.fd]) (by omega)) fun d X' ⟨q1, q2⟩ => ?_))
      rw [q1, q2, List.append_nil]
      refine ⟨trivial, go_nil ⟨by trivial, by trivial, by trivial, by trivial, by trivial, _, _, rfl, ⟨?_, ?_, hσ.tr, hσ.mks, hσ.ff, fun d hd => ?_⟩, ?_⟩⟩
      · show (σ.doms ++ [_]).length = _
        rw [List.length_append, List.length_append, hσl]; rfl
      · show σ.firsts ++ [_] = σ.doms ++ [_]
        rw [hσ.fd]
      · rcases List.mem_append.mp hd with q | q
        · exact hσ.ok d q
        · rw [List.mem_singleton.mp q]; exact ⟨k1, k2, k3, k4⟩
      · rw [List.length_append, List.length_singleton]; omega
  rintro ρ3 X3 ⟨g4, g5, g6, g7, g8, σ, j, rfl, hσ, hj⟩
  rw [List.length_range] at hσ hj
  have hσl := hσ.len
  have hin := hσ.inv (by omega)
  have hlr : D.rng 0 ((m : Int) + 1) = .rng 0 ((m + 1 : Nat) : Int) := rfl
  refine go_cons (do_assign (ef_own (evF_range (ev_glob G.list) (ev_eq (ecallT (ev_glob G.range) (es1 (ev_bin (evn (d := .int m)) ev_int bin_add)) fn_range1) hlr) (by simp only [Small, big]; omega)) fun sc hsc => ?_))
  have hnum : (nums 0 ((m + 1 : Nat) : Int)).map PyData.int = (List.range m ++ [m]).map fun i : Nat => PyData.int i := by
    rw [nums_nat, List.map_map, ← List.range_succ]; rfl
  rw [hnum]
  refine go_join (Bc a cells bl kind k m A σ sc)
    (do_if (et_cmp (ef_draw G [.list sc ((List.range m ++ [m]).map fun i : Nat => PyData.int i)] (Xs A σ) ha (evn (d := .raw (.ref a))) ev_int hc (by omega) hb (by omega) fun v hv => ef_pure ev_int ⟨_, cmp_eq, ite_dd (fun e => ?_) fun e => ?_⟩))) ?_
  · refine go_cons (do_setL (ef_pure (evn (d := .int m)) ⟨sc, .int m, rfl, evn, ef_draw G [.list sc ((List.range m ++ [m]).map fun i : Nat => PyData.int i)] (Xs A σ) ha (evn (d := .raw (.ref a))) (evn (d := .int m)) hc (by omega) hb (by omega) fun u hu => ⟨[], _, _, u, u, rfl, rfl, by simp [big]; omega, seqAt (by simp; omega), .inr hsc, go_nil ⟨(List.range m).set u m, j + 1 + 1, by trivial, by trivial, by trivial, by simp, ?_, ?_, ?_⟩⟩⟩))
    · intro x hx
      rcases List.mem_or_eq_of_mem_set hx with q | q
      · have := List.mem_range.mp q; omega
      · omega
    · exact (show j + 1 + 1 ≤ k + 40 by omega)
    · rw [List.nil_append, ← List.set_append_left _ _ (by rw [List.length_range]; omega), List.map_set]; rfl
  · exact go_nil ⟨List.range m, j + 1, by trivial, by trivial, by trivial, by simp, fun x hx => by have := List.mem_range.mp hx; omega, by omega, rfl⟩
  rintro ρ4 X4 ⟨xs, j', g9, g10, g11, hxl, hxs, hj', rfl⟩
  refine go_freeze (L := []) "scope" sc _ g11 (by simp [big]; omega) hsc (fun ρ X q => ?_) ?_
  · obtain ⟨_, _, _, _, _, _, _, _, _, q, -⟩ := q
    cases q
  rw [List.nil_append]
  have hsz : xs ≠ [] := fun e => by rw [e] at hxl; simp at hxl; omega
  have hi0 : ∀ {X : List MO}, Itm b X (.dat (dN (xs ++ [m]))) (.int 0) (.int (nth xs 0)) := fun {X} => by
    refine itm_list (j := 0) (by unfold seqIndex?; simp) ?_
    cases xs with
    | nil => exact absurd rfl hsz
    | cons x r => rfl
  have hiL : ∀ {X : List MO}, Itm b X (.dat (dN (xs ++ [m]))) (.int (-1)) (.int m) := fun {X} => itm_list (seqL (by simp)) (by simp)
  refine go_cons (do_if (et_pure (tv_cmp (evn (d := .int kind)) ev_int cmp_eq) (ite_dd (fun e => ?_) fun e => go_nil ?_)))
  · have hk0 : kind = 0 := by simpa using e
    subst hk0
    obtain rfl : m = 1 := mk rfl
    obtain ⟨x, rfl⟩ := List.length_eq_one_iff.mp hxl
    refine go_cons (do_return (ef_trip (es_cons (ef_pure (evn (d := .raw (.ref A.a))) (es_cons (ef_pure (evn (d := .dat (dN ([x] ++ [1]))))
      (es_one (ef_call (ev_glob P.gA) P.A.made.ke (es_pure (es2 (ev_item (evn (d := .dat (dN ([x] ++ [1])))) ev_int hi0) (ev_item (evn (d := .dat (dN ([x] ++ [1])))) ev_int (itm_list (j := 1) rfl rfl))) (cl_cn (Fd a cells j' bl :: Xs A σ) [] [] ((k_abs G P (x := x) (z := 1)).mono fun d X' ⟨p, dx, q1, q2⟩ => ?_) (by decide) (fun _ q => nomatch q) (by simp)))))))))))
    rw [q1, q2, List.append_nil]
    exact ⟨A.a, dN ([x] ++ [1]), p, rfl, A, σ, [x, 1], j', p, 351, dx, "values", FixA x 1, rfl, rfl, kd_A G K P (by have := hxs x List.mem_cons_self; omega) (by omega), hσl ▸ hσ, by omega, by omega, by omega⟩
  · have hkn : kind ≠ 0 := by simpa using e
    have hbut : D.list ((xs ++ [m]).map fun i : Nat => PyData.int i).dropLast = .list (xs.map fun i : Nat => PyData.int i) := by rw [List.map_append]; simp
    refine go_cons (do_assign (ef_pure (ecallT (ev_glob G.tuple) (es1 (ev_eq (ev_butL (evn (d := .list ((xs ++ [m]).map fun i : Nat => PyData.int i))) (ev_neg ev_int)) hbut)) fn_tupL) ?_))
    refine go_cons (do_return (ef_trip (es_cons (ef_pure (evn (d := .raw (.ref A.a))) (es_cons (ef_pure (evn (d := .dat (dN (xs ++ [m]))))
      (es_one (ef_ifexp (et_pure (tv_cmp (evn (d := .int kind)) ev_int cmp_eq) (ite_dd (fun e => ?_) fun e => ?_))))))))))
    · obtain rfl : kind = 1 := by simpa using e
      refine ef_call (ev_glob P.gG) P.G.made.ke (es_pure (es2 (evn (d := .dat (dNt xs))) (ev_item (evn (d := .dat (dN (xs ++ [m])))) (ev_neg ev_int) hiL)) (cl_cn (Fd a cells j' bl :: Xs A σ) [] [] ((k_ext G P (xs := xs) (z := m) P.G P.supG P.supEG (.inl rfl) (by omega)).mono fun d X' ⟨p, dx, q1, q2⟩ => ?_) (by decide) (fun _ q => nomatch q) (by simp)))
      rw [q1, q2, List.append_nil]
      exact ⟨A.a, dN (xs ++ [m]), p, rfl, A, σ, xs ++ [m], j', p, 424, dx, "bounds", FixG xs m, rfl, rfl, kd_G G K P (fun x q => by have := hxs x q; omega) (by omega) hsz (by omega), hσl ▸ hσ, by omega, by omega, by omega⟩
    · obtain rfl : kind = 2 := by
        have : kind ≠ 1 := by simpa using e
        omega
      refine ef_call (ev_glob P.gS) P.S.made.ke (es_pure (es2 (evn (d := .dat (dNt xs))) (ev_item (evn (d := .dat (dN (xs ++ [m])))) (ev_neg ev_int) hiL)) (cl_cn (Fd a cells j' bl :: Xs A σ) [] [] ((k_ext G P (xs := xs) (z := m) P.S P.supS P.supES (.inr rfl) (by omega)).mono fun d X' ⟨p, dx, q1, q2⟩ => ?_) (by decide) (fun _ q => nomatch q) (by simp)))
      rw [q1, q2, List.append_nil]
      exact ⟨A.a, dN (xs ++ [m]), p, rfl, A, σ, xs ++ [m], j', p, 464, dx, "bounds", FixS xs m, rfl, rfl, kd_S G K P (fun x q => by have := hxs x q; omega) (by omega) hsz (by omega), hσl ▸ hσ, by omega, by omega, by omega⟩
end

theorem Inv.congr {σ τ : Sto} (h : Inv σ) (e1 : τ.doms = σ.doms) (e2 : τ.firsts = σ.firsts) (e3 : τ.trail = σ.trail) : Inv τ := by
  refine ⟨by rw [e1]; exact h.few, by rw [e1, e2]; exact h.flen, by rw [e2]; exact h.fok, by rw [e1]; exact h.dok, fun i hi v hv => ?_, by rw [e3, e1]; exact h.ent, by rw [e3, e1]; exact h.cap⟩
  rw [e2]
  unfold valsAt at hv
  rw [domAt_eq e1] at hv
  exact h.sub i (by rw [← e1]; exact hi) v hv
/-- the levels: what stood at each -/
structure Lv (σ : Sto) (sn : List (List Dom)) : Prop where
  len : σ.marks.length = sn.length
  low : ∀ i, i < sn.length → σ.marks.getD i 0 ≤ σ.trail.length
  undo : ∀ i, i < sn.length → undoF (σ.trail.drop (σ.marks.getD i 0)) σ.doms = sn.getD i []
  inv : ∀ i, i < sn.length → Inv { σ with doms := sn.getD i [], trail := σ.trail.take (σ.marks.getD i 0) }
  mono : ∀ i j, i ≤ j → j < sn.length → σ.marks.getD i 0 ≤ σ.marks.getD j 0
theorem getD_app {α : Type} {l : List α} {a d : α} {i : Nat} (h : i < l.length + 1) : (l ++ [a]).getD i d = if i < l.length then l.getD i d else a := by
  simp only [List.getD_eq_getElem?_getD]
  split
  · rename_i c; rw [List.getElem?_append_left c]
  · rename_i c; rw [List.getElem?_append_right (by omega), show i - l.length = 0 by omega]; rfl
theorem getD_take {α : Type} {l : List α} {d : α} {i k : Nat} (h : i < k) : (l.take k).getD i d = l.getD i d := by
  simp only [List.getD_eq_getElem?_getD]
  rw [List.getElem?_take_of_lt h]
theorem Lv.push {σ : Sto} {sn : List (List Dom)} (h : Lv σ sn) (hI : Inv σ) : Lv { σ with marks := σ.marks ++ [σ.trail.length] } (sn ++ [σ.doms]) := by
  have hl := h.len
  have e1 : ∀ i, i < sn.length + 1 → (σ.marks ++ [σ.trail.length]).getD i 0 = if i < sn.length then σ.marks.getD i 0 else σ.trail.length := fun i hi => by rw [getD_app (by omega), hl]
  have e2 : ∀ i, i < sn.length + 1 → (sn ++ [σ.doms]).getD i [] = if i < sn.length then sn.getD i [] else σ.doms := fun i hi => getD_app hi
  refine ⟨by simp [hl], fun i hi => ?_, fun i hi => ?_, fun i hi => ?_, fun i j hij hj => ?_⟩
  · have hi : i < sn.length + 1 := by simpa using hi
    show (σ.marks ++ [σ.trail.length]).getD i 0 ≤ σ.trail.length
    rw [e1 i hi]
    split
    · exact h.low i ‹_›
    · exact Nat.le_refl _
  · have hi : i < sn.length + 1 := by simpa using hi
    show undoF (σ.trail.drop ((σ.marks ++ [σ.trail.length]).getD i 0)) σ.doms = _
    rw [e1 i hi, e2 i hi]
    split
    · exact h.undo i ‹_›
    · rw [List.drop_length]; rfl
  · have hi : i < sn.length + 1 := by simpa using hi

    rw [e2 i hi]
    show Inv { σ with marks := _, doms := _, trail := σ.trail.take ((σ.marks ++ [σ.trail.length]).getD i 0) }
    rw [e1 i hi]
    split
    · exact (h.inv i ‹_›).congr rfl rfl rfl
    · exact hI.congr rfl rfl (by show σ.trail.take _ = _; rw [List.take_length])
  · have hj : j < sn.length + 1 := by simpa using hj
    show (σ.marks ++ [σ.trail.length]).getD i 0 ≤ (σ.marks ++ [σ.trail.length]).getD j 0
    rw [e1 i (by omega), e1 j hj]
    split
    · split
      · exact h.mono i j hij ‹_›
      · exact h.low i ‹_›
    · rw [if_neg (by omega)]; exact Nat.le_refl _
theorem Lv.step {σ τ : Sto} {sn : List (List Dom)} (h : Lv σ sn) (e : ∃ t, τ.trail = σ.trail ++ t ∧ undoF t τ.doms = σ.doms) (e1 : τ.marks = σ.marks) (e2 : τ.firsts = σ.firsts) : Lv τ sn := by
  obtain ⟨t, t1, t2⟩ := e
  refine ⟨by rw [e1]; exact h.len, fun i hi => ?_, fun i hi => ?_, fun i hi => ?_, fun i j => by rw [e1]; exact h.mono i j⟩
  · rw [e1, t1, List.length_append]; have := h.low i hi; omega
  · rw [e1, t1, List.drop_append_of_le_length (h.low i hi), undo_app, t2]; exact h.undo i hi
  · refine (h.inv i hi).congr rfl e2 ?_
    show τ.trail.take (τ.marks.getD i 0) = σ.trail.take _
    rw [e1, t1, List.take_append_of_le_length (h.low i hi)]
theorem Lv.pop {σ : Sto} {sn : List (List Dom)} (h : Lv σ sn) {k : Nat} (k1 : 1 ≤ k) (k2 : k ≤ sn.length) : (popF σ k).doms = sn.getD (sn.length - k) [] ∧ Inv (popF σ k) ∧ Lv (popF σ k) (sn.take (sn.length - k)) := by
  have hl := h.len
  have hj : sn.length - k < sn.length := by omega
  generalize hjj : sn.length - k = j at hj ⊢
  have hlow := h.low j hj
  have hu := h.undo j hj
  have hi := h.inv j hj
  generalize hm : σ.marks.getD j 0 = mark at hlow hu hi
  have hp : popF σ k = { σ with marks := σ.marks.take j, trail := σ.trail.take mark, doms := undoF (σ.trail.drop mark) σ.doms, failed := false, clash := [] } := by
    unfold popF
    rw [hl, hjj, hm]
  have hlen : (sn.take j).length = j := by rw [List.length_take]; omega
  rw [hp]
  refine ⟨hu, hi.congr hu rfl rfl, ⟨?_, fun i hi => ?_, fun i hi => ?_, fun i hi => ?_, fun i i' hii hi => ?_⟩⟩
  · show (σ.marks.take j).length = _
    rw [hlen, List.length_take]; omega
  · rw [hlen] at hi
    show (σ.marks.take j).getD i 0 ≤ (σ.trail.take mark).length
    rw [getD_take hi, List.length_take, ← hm]
    have := h.mono i j (by omega) hj
    omega
  · rw [hlen] at hi
    show undoF ((σ.trail.take mark).drop ((σ.marks.take j).getD i 0)) (undoF (σ.trail.drop mark) σ.doms) = _
    rw [getD_take hi, getD_take hi, ← undo_app, ← h.undo i (by omega)]
    have := h.mono i j (by omega) hj
    rw [hm] at this
    congr 1
    rw [← List.drop_append_of_le_length (by rw [List.length_take]; omega), List.take_append_drop]
  · rw [hlen] at hi
    have := h.mono i j (by omega) hj
    rw [hm] at this
    refine (h.inv i (by omega)).congr (getD_take hi) rfl ?_
    show (σ.trail.take mark).take ((σ.marks.take j).getD i 0) = σ.trail.take (σ.marks.getD i 0)
    rw [getD_take hi, List.take_take, Nat.min_eq_left this]
  · rw [hlen] at hi
    show (σ.marks.take j).getD i 0 ≤ (σ.marks.take j).getD i' 0
    rw [getD_take (by omega), getD_take hi]
    exact h.mono i i' hii (by omega)

theorem cut_upto (xs : List PyData) (i : Nat) : cut xs none (some (i : Int)) = xs.take i := by
  unfold cut clipAt
  simp only [Option.elim, List.drop_zero, Nat.sub_zero]
  rw [if_neg (by omega), show (max 0 (min (i : Int) xs.length)).toNat = min i xs.length by omega, ← List.take_eq_take_min]
theorem filt_snoc {α β : Type} (q : α → Bool) (f : α → β) (l : List α) (w : α) : ((l ++ [w]).filter q).map f = (l.filter q).map f ++ (if q w then [f w] else []) := by
  rw [List.filter_append, List.map_append]
  cases h : q w <;> simp [h]
theorem cmp_neBool {b : Bas} {t : Bool} : Cmp b .NotEq (.bool t) (.bool t) false := by
  have := cmp_neD (b := b) (d := .bool t) (e := .bool t) (by decide +revert) (by decide +revert)
  rwa [show (!(PyData.bool t).eqv (.bool t)) = false by simp [PyData.eqv]] at this
theorem doms_range {σ : Sto} : (List.range σ.doms.length).map (fun i => dD (domAt σ i)) = σ.doms.map dD := by
  refine List.ext_getElem (by simp) fun i h1 h2 => ?_
  have hi : i < σ.doms.length := by simpa using h1
  simp [domAt, List.getD_eq_getElem?_getD, hi]
theorem doms_D {σ : Sto} : D.list ((List.range σ.doms.length).map fun i => dD (domAt σ i)) = .dat (dDs σ.doms) := by rw [doms_range]
section
variable {b : Bas} {A : Ad} {σ : Sto} (G : Gs b) (K : Ks b)
section
variable {n : Nat} {sc : Scope} {c : Cx b n sc} {ρ : List (Str × D)} {X : List MO} {o e1 : PySem.Expr} {apos pos : Pos}
include K
theorem ev_domX {x : Nat} (hX : (Xs A σ).Sublist X) (ho : Ev b n sc ρ X o (.raw (.ref A.a))) (he : Ev b n sc ρ X e1 (.int x)) (h : σ.doms.length ≤ 4) (hx : x < σ.doms.length) (hn : 1 ≤ n := by decide) (hp : plainArgs [e1] = true := by rfl) (hs : ∀ env, starEach [e1] env = (false, eval e1 env) :: starEach [] env := by intro _; rfl)
    (hm : ∀ env, eval (.Call (.Attribute o "dom" apos) [e1] [] pos) env = (do
      let ov ← eval o env
      standAt apos.atName
      let (f, first) ← holding [ov] (getMethod ov "dom" (do return (← importBound o env).getD true))
      callWith pos f first (backTo pos (starEach [e1] env)) []) := by intro _; rfl) : Ev b n sc ρ X (.Call (.Attribute o "dom" apos) [e1] [] pos) (.dat (dD (domAt σ x))) :=
  ev_meth ho (gm_store K K.m3 (hX.subset xs_a) (hX.subset xs_d)) K.f3.ke (es1 he hs) (c_dom K hx (by omega)) hX hn hp hm
include G in
theorem ev_sizeX (hX : (Xs A σ).Sublist X) (ho : Ev b n sc ρ X o (.raw (.ref A.a))) (h : σ.doms.length ≤ 4) (hn : 1 ≤ n := by decide)
    (hm : ∀ env, eval (.Call (.Attribute o "size" apos) [] [] pos) env = (do
      let ov ← eval o env
      standAt apos.atName
      let (f, first) ← holding [ov] (getMethod ov "size" (do return (← importBound o env).getD true))
      callWith pos f first (backTo pos (starEach [] env)) []) := by intro _; rfl) : Ev b n sc ρ X (.Call (.Attribute o "size" apos) [] [] pos) (.int σ.doms.length) :=
  ev_meth ho (gm_store K K.m2 (hX.subset xs_a) (hX.subset xs_d)) K.f2.ke evs_nil (c_size G K (by omega)) hX hn rfl hm
end
end
theorem et_mono {b : Bas} {n : Nat} {sc : Scope} {c : Cx b n sc} {ρ : List (Str × D)} {X : List MO} {e : PySem.Expr} {Q Q' : Bool → List MO → Prop} (h : c.Et ρ X e Q) (k : ∀ t X', Q t X' → Q' t X') : c.Et ρ X e Q' := fun M s S => wp_weak (h M s S) fun _ _ ⟨M1, X1, S1, m1, q⟩ => ⟨M1, X1, S1, m1, k _ _ q⟩
theorem dec_refl {σ : Sto} (h : Inv σ) : Dec σ σ := ⟨rfl, rfl, ⟨[], by simp, rfl⟩, h⟩
/-- the names of the law's run -/
structure Nm (a : Addr) (kind : Int) (sa : Addr) (scope : List Nat) (p : Addr) (kp : D) (ρ : List (Str × D)) : Prop where
  g1 : Has "feed" (.raw (.ref a)) ρ
  g2 : Has "kind" (.int kind) ρ
  g3 : Has "store" (.raw (.ref sa)) ρ
  g4 : Has "scope" (.dat (dN scope)) ρ
  g5 : Has "struck_by" (.raw (.ref p)) ρ
  g6 : Has "kept" kp ρ
/-- ahead of a lap -/
inductive La (a : Addr) (cells : List Int) (bl kind : Int) (scope : List Nat) (p sp : Addr) (kp : D) (R : List MO) (σ : Sto) (j l : Nat) (ρ : List (Str × D)) (X : List MO) : Prop
  | mk (B : Ad) (τ : Sto) (sn : List (List Dom)) (i : Nat) (n : Nm a kind B.a scope p kp ρ) (g7 : Has "snaps" (.raw (.ref sp)) ρ)
      (e : X = .list sp (sn.map dDs) :: Fd a cells i bl :: (Xs B τ ++ R)) (lv : Lv τ sn) (it : Inv τ) (ft : τ.failed = false) (et1 : τ.firsts = σ.firsts) (et2 : τ.doms.length = σ.doms.length) (hsl : sn.length ≤ l) (hil : i ≤ j + 5 * l) : La a cells bl kind scope p sp kp R σ j l ρ X
/-- after the lap's literal -/
inductive Lb (a : Addr) (cells : List Int) (bl kind : Int) (scope : List Nat) (p sp : Addr) (kp : D) (R : List MO) (B : Ad) (sn1 : List (List Dom)) (τ1 : Sto) (i : Nat) (ρ : List (Str × D)) (X : List MO) : Prop
  | mk (υ : Sto) (i2 : Nat) (n : Nm a kind B.a scope p kp ρ) (g7 : Has "snaps" (.raw (.ref sp)) ρ) (g8 : Has "stands" (.bool (!υ.failed)) ρ) (e : X = .list sp (sn1.map dDs) :: Fd a cells i2 bl :: (Xs B υ ++ R)) (dc : Dec τ1 υ) (hi2 : i2 ≤ i + 3) : Lb a cells bl kind scope p sp kp R B sn1 τ1 i ρ X
/-- after the lap's strike -/
inductive Lc (a : Addr) (cells : List Int) (bl kind : Int) (scope : List Nat) (p sp : Addr) (kp : D) (R : List MO) (B : Ad) (sn1 : List (List Dom)) (σ : Sto) (i2 : Nat) (ρ : List (Str × D)) (X : List MO) : Prop
  | mk (ω : Sto) (n : Nm a kind B.a scope p kp ρ) (g7 : Has "snaps" (.raw (.ref sp)) ρ) (g8 : Has "stands" (.bool (!ω.failed)) ρ) (e : X = .list sp (sn1.map dDs) :: Fd a cells i2 bl :: (Xs B ω ++ R)) (lv : Lv ω sn1) (it : Inv ω) (ef : ω.firsts = σ.firsts) (el : ω.doms.length = σ.doms.length) : Lc a cells bl kind scope p sp kp R B sn1 σ i2 ρ X
/-- among the worlds -/
inductive Lw (a : Addr) (cells : List Int) (bl kind : Int) (scope : List Nat) (p kp : Addr) (R : List MO) (A : Ad) (σ : Sto) (j : Nat) (done : List (List Int)) (ρ : List (Str × D)) (X : List MO) : Prop
  | mk (n : Nm a kind A.a scope p (.raw (.ref kp)) ρ) (e : X = .list kp ((done.filter fun w => meantF kind (scope.map fun x => atI w x)).map dW) :: Fd a cells j bl :: (Xs A σ ++ R)) : Lw a cells bl kind scope p kp R A σ j done ρ X
section
variable {b : Bas} (G : Gs b) (K : Ks b)
include G K in
set_option maxHeartbeats 8000000 in
theorem law_laps {c : Cx b 9 (scopeOf (stOf 39))} {ρ : List (Str × D)} {a p C dx : Addr} {cells : List Int} {j : Nat} {bl kind : Int} {A : Ad} {σ : Sto} {scope : List Nat} {st : Str} {F : Sto → Prop} (hfr : ∀ {x : Addr}, x ∈ c.V ∨ c.s0.heap.get? x = none → c.s0.heap.get? x = none) (kd : Kd b kind scope σ.doms.length p C dx st F) (hσ : Bi σ σ.doms.length) (hin : Inv σ) (h0 : 0 < σ.doms.length) (hj : j ≤ 1 + 60) (hc : cells.length ≤ 100) (hbl : 0 ≤ bl ∧ bl ≤ 100000)
    (m1 : Has "feed" (.raw (.ref a)) ρ) (m2 : Has "kind" (.int kind) ρ) (m3 : Has "store" (.raw (.ref A.a)) ρ) (m4 : Has "scope" (.dat (dN scope)) ρ) (m5 : Has "struck_by" (.raw (.ref p)) ρ) (m6 : Has "kept" (.list ((keptF kind scope σ.firsts).map dW)) ρ) :
    c.Go ρ (Fd a cells j bl :: (Xs A σ ++ Pp p C dx scope st)) ((bodyOf (stOf 39)).drop 6) fun _ _ fl => fl.res = .bool true := by
  have h4 := hin.few
  generalize hR : Pp p C dx scope st = R
  have hsX : ∀ {L τ B}, (Xs B τ).Sublist (L ++ (Xs B τ ++ R)) := fun {L τ B} => (List.sublist_append_left _ _).trans (List.sublist_append_right _ _)
  have hXa : ∀ {L τ B}, MO.inst B.a 265 B.dx ∈ L ++ (Xs B τ ++ R) := fun {L τ B} => hsX.subset xs_a
  have hXd : ∀ {L τ B}, MO.dict B.dx (flds B τ.failed τ.clash) ∈ L ++ (Xs B τ ++ R) := fun {L τ B} => hsX.subset xs_d
  have own : ∀ {c : Cx b 9 (scopeOf (stOf 39))} {X : List MO} {B : Ad} {τ : Sto}, (∀ {x : Addr}, x ∈ c.V ∨ c.s0.heap.get? x = none → c.s0.heap.get? x = none) → (∀ t ∈ X, t.addr ∈ c.V ∨ c.s0.heap.get? t.addr = none) → (Xs B τ).Sublist X → OwnS c B := fun {c X B τ} hf ho hs x hx => by
    obtain ⟨t, ht, e⟩ := List.mem_map.mp (show x ∈ (Xs B τ).map MO.addr from hx)
    rw [← e]; exact .inr (hf (ho t (hs.subset ht)))
  show Cx.Go c ρ _ (_ :: _) _
  refine go_cons (do_assign (ef_own (evF_list (ds := []) evs_nil) fun sp hsp => ?_))
  refine go_cons (do_for ["lap"] (List.range 3) (fun i : Nat => .int i) (fun done rest ρ X => La a cells bl kind scope p sp (.dat (dWs (keptF kind scope σ.firsts))) R σ j done.length ρ X)
    (ecallT (ev_glob G.range) (es1 ev_int) fn_range1) (iter_nat (n := 3) (by omega)) ⟨A, σ, [], j, ⟨by trivial, by trivial, by trivial, by trivial, by trivial, by trivial⟩, by trivial, rfl, ?_, hin, hσ.ff, rfl, rfl, Nat.le_refl _, by simp⟩ ?_ ?_)
  · exact ⟨by rw [hσ.mks]; rfl, (fun i hi => nomatch hi), (fun i hi => nomatch hi), (fun i hi => nomatch hi), fun i j _ hi => nomatch hi⟩
  · rintro lk done lap rest ρ1 X1 hd ⟨B, τ, sn, i, ⟨g1, g2, g3, g4, g5, g6⟩, g7, rfl, lv, it, ft, et1, et2, hsl, hil⟩
    have hdl : done.length ≤ 2 := by have := congrArg List.length hd; simp at this; omega
    refine ⟨_, asg_name (d := .int lap), ?_⟩
    have hc4 : τ.doms.length ≤ 4 := it.few
    have htz : τ.trail.length ≤ 1000 := by have := it.cap; omega
    have hml := lv.len
    -- the domains as they are
    refine go_cons (do_expr (ef_append (d := dDs τ.doms) [] _ rfl (evn (d := .raw (.ref sp))) (ev_eq (ev_mapc ["x"] (List.range τ.doms.length) (fun i : Nat => .int i) (fun i => dD (domAt τ i)) (ecallT (ev_glob G.range) (es1 (ev_sizeX G K (hsX (L := [_, _])) (evn (d := .raw (.ref B.a))) hc4)) fn_range1) (iter_nat (by omega)) (by rw [List.length_range]; simp only [big]; omega) fun i hi => ⟨_, asg_name (d := .int i), sub1, ev_domX K (hsX (L := [_, _])) (evn (d := .raw (.ref B.a))) (evn (d := .int i)) hc4 (List.mem_range.mp hi)⟩) doms_D) (by rw [List.length_map]; simp only [big]; omega) (.inr hsp) ⟨trivial, ?_⟩))
    rw [List.nil_append, show sn.map dDs ++ [dDs τ.doms] = (sn ++ [τ.doms]).map dDs by rw [List.map_append]; rfl]
    have lv1 := lv.push it
    have hsl1 : (sn ++ [τ.doms]).length ≤ done.length + 1 := by rw [List.length_append, List.length_singleton]; omega
    have hlast : (sn ++ [τ.doms]).getD (sn ++ [τ.doms]).length.pred [] = τ.doms := by simp
    refine go_own fun ho => ?_
    have hB := own (c := c.lock lk) hfr ho (hsX (L := [_, _]))
    refine go_cons (do_expr (ef_store K [_, _] R hB (evn (d := .raw (.ref B.a))) K.m16 K.f16 evs_nil (c_push G K htz (by omega)) fun d X' ⟨q1, q2⟩ => ?_))
    rw [q1, q2]
    refine ⟨trivial, ?_⟩
    have it1 : Inv { τ with marks := τ.marks ++ [τ.trail.length] } := it.congr rfl rfl rfl
    have ft1 : ({ τ with marks := τ.marks ++ [τ.trail.length] } : Sto).failed = false := ft
    have et11 : ({ τ with marks := τ.marks ++ [τ.trail.length] } : Sto).firsts = σ.firsts := et1
    have et21 : ({ τ with marks := τ.marks ++ [τ.trail.length] } : Sto).doms.length = σ.doms.length := et2
    generalize ({ τ with marks := τ.marks ++ [τ.trail.length] } : Sto) = τ1 at lv1 it1 ft1 et11 et21
    generalize hsn1 : sn ++ [τ.doms] = sn1 at lv1 hsl1 hlast
    refine go_join (Lb a cells bl kind scope p sp (.dat (dWs (keptF kind scope σ.firsts))) R B sn1 τ1 i)
      (do_assign (ef_ifexp (et_pure (tv_cmp (evn (d := .int lap)) ev_int cmp_eq) (ite_dd (fun e => ?_) fun e => ?_)))) ?_
    · exact ef_pure ev_bool ⟨τ1, i, ⟨by trivial, by trivial, by trivial, by trivial, by trivial, by trivial⟩, by trivial, (by rw [ft1]; exact List.mem_cons_self), rfl, dec_refl it1, by omega⟩
    · refine ef_call (ev_glob G.g38) G.f38.ke (es_pure (es2 (evn (d := .raw (.ref a))) (evn (d := .raw (.ref B.a)))) (cl_cn [.list sp (sn1.map dDs)] (Fd a cells i bl :: Xs B τ1) R ((c_decided G K hc (by omega) hbl it1 ft1 (by omega)).mono fun d X' ⟨υ, r1, q1, q2⟩ => ?_) (by decide) (fun t ht => (List.mem_cons.mp ht).elim (fun q => .inr (hfr (ho t (by rw [q]; simp)))) fun q => own_t hB q)))
      rw [q1, q2]
      exact ⟨υ, i + 3, ⟨by trivial, by trivial, by trivial, by trivial, by trivial, by trivial⟩, by trivial, List.mem_cons_self, rfl, r1, by omega⟩
    have hfa : c.s0.heap.get? a = none := hfr (ho (Fd a cells i bl) (by simp))
    rintro ρ3 X3 ⟨υ, i2, ⟨g1, g2, g3, g4, g5, g6⟩, g7, g8, rfl, dc, hi2⟩
    have hυl : υ.doms.length = σ.doms.length := by
      obtain ⟨t, t1, t2⟩ := dc.ent
      rw [← et21, ← t2, undo_len]
    have lv2 := lv1.step dc.ent dc.marks dc.firsts
    -- asked to strike
    refine go_join (Lc a cells bl kind scope p sp (.dat (dWs (keptF kind scope σ.firsts))) R B sn1 σ i2)
      (do_if (et_pure (tv_value (evn (d := .bool (!υ.failed))) tr_bool) (ite_dd (fun e => ?_) fun e => ?_))) ?_
    · have fυ : υ.failed = false := by simpa using e
      have hkf : keptF kind scope υ.firsts = keptF kind scope σ.firsts := by rw [dc.firsts, et11]
      have hrun : Cn b 8 (Xs B υ ++ R) (.ref 525) [.raw (.ref p), .raw (.ref B.a), .int kind, .dat (dN scope), .dat (dWs (keptF kind scope σ.firsts))] (LQ B R (keptF kind scope υ.firsts) (· ∈ scope) υ) := by rw [← hkf, ← hR]; exact c_run G K kd dc.inv fυ hυl
      refine go_cons (do_assign (ef_call (ev_glob G.g36) G.f36.ke (es_pure (evs_cons (evn (d := .raw (.ref p))) (evs_cons (evn (d := .raw (.ref B.a))) (es3 (evn (d := .int kind)) (evn (d := .dat (dN scope))) (evn (d := .dat (dWs (keptF kind scope σ.firsts))))))) (cl_cn [.list sp (sn1.map dDs), Fd a cells i2 bl] (Xs B υ ++ R) [] (hrun.mono fun d X' ⟨ω, r1, r2, q1, q2⟩ => ?_) (by decide) (fun t ht => (List.mem_append.mp ht).elim (fun q => own_t hB q) fun q => .inr (hfr (ho t (List.mem_cons_of_mem _ (List.mem_cons_of_mem _ (List.mem_append_right _ q)))))) (by rw [List.append_nil]; rfl)))))
      rw [q1, q2, List.append_nil]
      refine go_cons (do_if (et_pure (t := false) (tv_cmp (evn (d := .bool (!ω.failed))) ev_none cmp_isNone) (go_nil (go_nil ⟨ω, ⟨by trivial, by trivial, by trivial, by trivial, by trivial, by trivial⟩, by trivial, List.mem_cons_self, rfl, lv2.step ?_ r1.marks r1.firsts, r2, by rw [r1.firsts, dc.firsts, et11], by rw [r1.len, hυl]⟩))))
      obtain ⟨t, t1, -, -, t4, -⟩ := r1.ent
      exact ⟨t, t1, t4⟩
    · exact go_nil ⟨υ, ⟨by trivial, by trivial, by trivial, by trivial, by trivial, by trivial⟩, by trivial, by trivial, rfl, lv2, dc.inv, by rw [dc.firsts, et11], hυl⟩
    rintro ρ4 X4 ⟨ω, ⟨g1, g2, g3, g4, g5, g6⟩, g7, g8, rfl, lv3, iω, fω, lω⟩
    refine go_cons (do_if (et_mono (Q := fun t X' => ∃ i3, i3 ≤ i2 + 1 ∧ X' = .list sp (sn1.map dDs) :: Fd a cells i3 bl :: (Xs B ω ++ R) ∧ (t = false → ω.failed = false)) (et_bool (ea_or (et_not (et_pure (tv_value (evn (d := .bool (!ω.failed))) tr_bool) ?_)))) fun t X' ⟨i3, hi3, hX', hT⟩ => ?_))
    · rw [Bool.not_not]
      refine ite_dd (fun e => ⟨i2, by omega, rfl, fun q => nomatch q⟩) fun e => ea_or (et_cmp (ef_draw G [.list sp (sn1.map dDs)] (Xs B ω ++ R) (.inr hfa) (evn (d := .raw (.ref a))) ev_int hc (by omega) hbl (by omega) fun v hv => ef_pure ev_int ⟨_, cmp_eq, ite_dd (fun _ => ?_) fun _ => ea_or_nil ?_⟩))
      · exact ⟨i2 + 1, by omega, rfl, fun q => nomatch q⟩
      · exact ⟨i2 + 1, by omega, rfl, fun _ => e⟩
    subst hX'
    have hs1 : 0 < sn1.length := by rw [← hsn1]; simp
    refine ite_dd (fun e => ?_) fun e => go_nil (go_nil ⟨B, ω, sn1, i3, ⟨by trivial, by trivial, by trivial, by trivial, by trivial, by trivial⟩, by trivial, rfl, lv3, iω, hT e, fω, lω, by rw [List.length_append, List.length_singleton]; exact hsl1, by rw [List.length_append, List.length_singleton]; omega⟩)
    have hml3 := lv3.len
    obtain ⟨p1, p2, p3⟩ := lv3.pop (k := 1) (Nat.le_refl _) hs1
    refine go_cons (do_expr (ef_store K [_, _] R hB (evn (d := .raw (.ref B.a))) K.m17 K.f17 (es1 (ev_eq ev_int (d' := .int ((1 : Nat) : Int)) rfl)) (c_pop G K iω.ok (Nat.le_refl _) (by omega) (by omega) (by rw [hml3]; exact lv3.low _ (by omega)) (fun d hd => (iω.fok d hd).2.1) iω.ent (by have := iω.flen; have := iω.few; omega)) fun d X' ⟨q1, B2, q2, q3⟩ => ?_))
    rw [q1, q3]
    refine ⟨trivial, ?_⟩
    rw [← q2] at g3
    have fp : (popF ω 1).firsts = ω.firsts := rfl
    have fq : (popF ω 1).failed = false := rfl
    generalize popF ω 1 = υ2 at p1 p2 p3 fp fq
    have h42 := p2.few
    have hlen2 : υ2.doms.length = σ.doms.length := by rw [p1, ← hsn1]; simp [et2]
    obtain ⟨s', l, hs'⟩ : ∃ s' l, sn1 = s' ++ [l] := ⟨sn, τ.doms, hsn1.symm⟩
    subst hs'
    have hs'l : s'.length ≤ done.length := by simpa using hsl1
    have e1 : υ2.doms = l := by rw [p1]; simp
    have e2 : (s' ++ [l]).take ((s' ++ [l]).length - 1) = s' := by simp
    rw [e2] at p3
    have hmap : (s' ++ [l]).map dDs = s'.map dDs ++ [dDs l] := by rw [List.map_append]; rfl
    rw [hmap]
    refine go_cons (do_if (et_bool (ea_or (et_pure (t := false) (tv_value (ev_eq (at_failed K (evn (d := .raw (.ref B2.a))) (hXa (L := [_, _])) (hXd (L := [_, _]))) (by rw [fq])) tr_bool) (ea_or (et_cmp (ef_meth (evn (d := .raw (.ref sp))) (gm_pop List.mem_cons_self) ke_builtin (es_pure evs_nil (cl_cn [] [.list sp (s'.map dDs ++ [dDs l])] (Fd a cells i3 bl :: (Xs B2 υ2 ++ R)) (cn_pop (by rw [List.length_map]; simp only [big]; omega) ?_) (Nat.le_refl _) (fun t ht => by rw [List.mem_singleton.mp ht]; exact .inr hsp))))))))))
    refine ef_pure (ev_eq (ev_mapc ["x"] (List.range υ2.doms.length) (fun i : Nat => .int i) (fun i => dD (domAt υ2 i)) (ecallT (ev_glob G.range) (es1 (ev_sizeX G K (hsX (L := [_, _])) (evn (d := .raw (.ref B2.a))) h42)) fn_range1) (iter_nat (by omega)) (by rw [List.length_range]; simp only [big]; omega) fun i hi => ⟨_, asg_name (d := .int i), sub1, ev_domX K (hsX (L := [_, _])) (evn (d := .raw (.ref B2.a))) (evn (d := .int i)) h42 (List.mem_range.mp hi)⟩) (d' := .dat (dDs l)) (by rw [doms_D, e1])) ⟨false, cmp_neSelf (pnDs l) (by omega), ea_or_nil (go_nil (go_nil (go_nil ⟨B2, υ2, s', i3, ⟨by trivial, by trivial, by trivial, by trivial, by trivial, by trivial⟩, by trivial, rfl, p3, p2, fq, by rw [fp, fω], hlen2, by rw [List.length_append, List.length_singleton]; omega, by rw [List.length_append, List.length_singleton]; omega⟩)))⟩
  · rintro ρ2 X2 ⟨B, τ, sn, i, ⟨g1, g2, g3, g4, g5, g6⟩, g7, rfl, lv, it, ft, et1, et2, hsl, hil⟩
    rw [List.length_range] at hsl
    have hsh : SeqAt.shaped (.list (sn.map dDs)) = true := (Pn.list (pn_map pnDs)).shaped (by omega)
    refine go_cons (do_if (et_pure (tv_eqM (evn (d := .raw (.ref sp))) (ev_list (ds := []) evs_nil) List.mem_cons_self hsh shaped_nil) ?_))
    rw [eqv_nil, isEmpty_map]
    refine ite_dd (fun e => ?_) fun e => go_nil ?_
    · exact go_cons (do_return (ef_pure ev_bool rfl))
    have hne : 0 < sn.length := by cases sn with | nil => cases e | cons => simp
    refine go_own fun ho => ?_
    have hl := fn_lenM (b := b) (n := 8) (a := sp) (xs := sn.map dDs) (by rw [List.length_map]; simp only [big]; omega)
    rw [List.length_map] at hl
    have hml := lv.len
    have hlow := lv.low 0 hne
    obtain ⟨p1, p2, -⟩ := lv.pop (k := sn.length) hne (Nat.le_refl _)
    rw [Nat.sub_self] at p1
    refine go_cons (do_expr (ef_store K [_, _] R (own hfr ho (hsX (L := [_, _]))) (evn (d := .raw (.ref B.a))) K.m17 K.f17 (es1 (ev_call (ev_glob G.len) (evs_cons (evn (d := .raw (.ref sp))) evs_nil) ke_builtin hl (by decide) (sub_one List.mem_cons_self))) (c_pop G K it.ok hne (by omega) (by omega) (by rw [hml, Nat.sub_self]; exact hlow) (fun d hd => (it.fok d hd).2.1) it.ent (by have := it.flen; have := it.few; omega)) fun d X' ⟨q1, B2, q2, q3⟩ => ?_))
    rw [q1, q3]
    refine ⟨trivial, ?_⟩
    rw [← q2] at g3
    have hfin : (popF τ sn.length).failed = false := rfl
    generalize popF τ sn.length = υ at p1 p2 hfin
    have h4υ := p2.few
    obtain ⟨s0, sr, rfl⟩ := List.exists_cons_of_length_pos hne
    have hs0 : υ.doms = s0 := p1
    refine go_cons (do_return (ef_pure (ev_and2 (c := true) (c' := true) (ev_eq (ev_not (at_failed K (evn (d := .raw (.ref B2.a))) (hXa (L := [_, _])) (hXd (L := [_, _]))) tr_bool) (by rw [hfin]; rfl)) fun _ => ev_cmp (ev_item (evn (d := .raw (.ref sp))) ev_int (itm_M List.mem_cons_self (by rw [List.length_map]; simp only [big]; omega) (seq0 (by simp)) (d := dDs s0) rfl)) (ev_eq (ev_mapc ["x"] (List.range υ.doms.length) (fun i : Nat => .int i) (fun i => dD (domAt υ i)) (ecallT (ev_glob G.range) (es1 (ev_sizeX G K (hsX (L := [_, _])) (evn (d := .raw (.ref B2.a))) h4υ)) fn_range1) (iter_nat (by omega)) (by rw [List.length_range]; simp only [big]; omega) fun i hi => ⟨_, asg_name (d := .int i), sub1, ev_domX K (hsX (L := [_, _])) (evn (d := .raw (.ref B2.a))) (evn (d := .int i)) h4υ (List.mem_range.mp hi)⟩) (d' := .dat (dDs s0)) (by rw [doms_D, hs0])) (cmp_eqP (pnDs s0) (pnDs s0) (by omega) (by simp))) ?_))
    rfl
end
section
variable {b : Bas} (G : Gs b) (K : Ks b) (P : Kr b) (f39 : IsFn b (stOf 39) 542)
include G K P f39 in
set_option maxHeartbeats 8000000 in
theorem c_law {ns : List Int} : Cn b 10 [] (.ref 542) [.dat (dI1 ns)] (fun d _ => d = .bool true) := by
  refine cn_of ["script"] f39 (fun c hV hW => ?_) (bind1 (by intros; rfl))
  suffices hgo : c.Go ((["script"] : List Str).zip [.dat (dI1 ns)]) [] (bodyOf (stOf 39)) fun _ _ fl => fl.res = .bool true from go_mono hgo fun _ X' _ q => ⟨X', List.Sublist.refl _, q⟩
  have hfr : ∀ {x : Addr}, x ∈ c.V ∨ c.s0.heap.get? x = none → c.s0.heap.get? x = none := fun h => h.elim (fun q => by rw [hV] at q; cases q) id
  generalize hcl : ns.take 40 = cells
  have hc : cells.length ≤ 40 := by rw [← hcl, List.length_take]; omega
  have hcut : D.list (cut (ns.map .int) none (some 40)) = .dat (dI1 cells) := by rw [show (40 : Int) = ((40 : Nat) : Int) from rfl, cut_upto, ← List.map_take, hcl]
  have hbm : ∀ x ∈ cells.map fun c => (aI c).fmod 89, 0 ≤ x ∧ x ≤ 88 := fun x hx => by
    obtain ⟨c, _, rfl⟩ := List.mem_map.mp hx
    have h1 := Int.fmod_nonneg_of_pos (aI c) (b := 89) (by omega)
    have h2 := Int.fmod_lt_of_pos (aI c) (b := 89) (by omega)
    omega
  have hsum : PySem.SumFits (cells.map fun c => (aI c).fmod 89) := PyProof.Rows.sumFits_small (fun x hx => by have := hbm x hx; omega) (by rw [List.length_map]; omega)
  have hbl : 0 ≤ (cells.map fun c => (aI c).fmod 89).sum ∧ (cells.map fun c => (aI c).fmod 89).sum ≤ 100000 := by
    have key : ∀ l : List Int, (∀ x ∈ l, 0 ≤ x ∧ x ≤ 88) → 0 ≤ l.sum ∧ l.sum ≤ 88 * l.length := by
      intro l
      induction l with
      | nil => intro _; simp
      | cons x r ih =>
        intro h
        have h1 := h x List.mem_cons_self
        have h2 := ih fun y hy => h y (List.mem_cons_of_mem _ hy)
        rw [List.sum_cons, List.length_cons]; omega
    have := key _ hbm
    rw [List.length_map] at this
    omega
  refine go_cons (do_assign (ef_dict3 (d1 := .dat (dI1 cells)) (d2 := .int 0) (d3 := .int (cells.map fun c => (aI c).fmod 89).sum) (ev_eq (ev_sliceL (evn (d := .dat (dI1 ns))) part_none (part_some ev_int)) hcut) ev_int
    (ecallB (ev_glob G.sum) (es1 (ev_eq (ev_mapc ["cell"] cells (fun c => .int c) (fun c => .int ((aI c).fmod 89)) (ev_eq (ev_sliceL (evn (d := .dat (dI1 ns))) part_none (part_some ev_int)) hcut) iter_map (by simp only [big]; omega) fun c hc => ⟨_, asg_name (d := .int c), sub1, ev_bin (ecallB (ev_glob G.abs) (es1 (evn (d := .int c))) fn_abs) ev_int (bin_mod (by decide))⟩) (d' := .list ((cells.map fun c => (aI c).fmod 89).map .int)) (by rw [List.map_map]; rfl))) (fn_sum hsum)) (by decide +kernel) fun a ha => ?_))
  generalize (cells.map fun c => (aI c).fmod 89).sum = bl at hbl
  show c.Go _ [Fd a cells 0 bl] _ _
  refine go_cons (do_assign (ef_draw G [] [] (.inr ha) (evn (d := .raw (.ref a))) ev_int (by omega) (by omega) hbl (by omega) fun v hv => ?_))
  have hkd : (v : Int) = 0 ∨ (v : Int) = 1 ∨ (v : Int) = 2 := by omega
  generalize (v : Int) = kind at hkd
  refine go_cons (do_assignT ["store", "scope", "struck_by"] (ef_call (ev_glob G.g37) G.f37.ke (es_pure (es2 (evn (d := .raw (.ref a))) (evn (d := .int kind))) (cl_cn [] [Fd a cells 1 bl] [] ((c_built G K P (by omega) (by omega) hbl hkd).mono fun d X' ⟨A, σ, scope, j, p, C, dx, st, F, q1, q2, kd, hσ, h4, h0, hj⟩ => ?_) (by decide) (fun t ht => by rw [List.mem_singleton.mp ht]; exact .inr ha)))))
  rw [q1, q2, List.append_nil]
  refine ⟨_, asg_trip, ?_⟩
  have hin := hσ.inv h4
  generalize hR : Pp p C dx scope st = R
  have hi1 : ∀ {L τ B}, MO.inst p C dx ∈ L ++ (Xs B τ ++ R) := fun {L τ B} => List.mem_append_right _ (List.mem_append_right _ (by rw [← hR]; exact List.mem_cons_self))
  have hi2 : ∀ {L τ B}, MO.dict dx (pf scope st) ∈ L ++ (Xs B τ ++ R) := fun {L τ B} => List.mem_append_right _ (List.mem_append_right _ (by rw [← hR]; exact List.mem_cons_of_mem _ List.mem_cons_self))
  have hsX : ∀ {L τ B}, (Xs B τ).Sublist (L ++ (Xs B τ ++ R)) := fun {L τ B} => (List.sublist_append_left _ _).trans (List.sublist_append_right _ _)
  have hX0 : (Xs A σ).Sublist (Fd a cells j bl :: (Xs A σ ++ R)) := hsX (L := [_])
  have hten : ∀ l ∈ lists σ, l.length ≤ 10 := fun l hl => (hin.lsok.each l hl).1
  have hll : (lists σ).length = σ.doms.length := List.length_map ..
  refine go_cons (do_assign (ef_pure (ecall (ev_glob G.g30) (es1 (ev_eq (ev_mapc ["x"] (List.range σ.doms.length) (fun i : Nat => D.int i) (fun i => dI1 (valsAt σ i)) (ecallT (ev_glob G.range) (es1 (ev_sizeX G K hX0 (evn (d := .raw (.ref A.a))) h4)) fn_range1) (iter_nat (by omega)) (by rw [List.length_range]; simp only [big]; omega) fun i hi => ⟨_, asg_name (d := .int i), sub1, ecall (ev_glob G.g27) (es1 (ev_domX K hX0 (evn (d := .raw (.ref A.a))) (evn (d := .int i)) h4 (List.mem_range.mp hi))) G.f27.ke (f_law_list G (hin.dk (List.mem_range.mp hi)).1)⟩) lists_D)) G.f30.ke (f_worlds G hten (by omega))) ?_))
  have hwz : (worldsF (lists σ)).length ≤ big := Nat.le_trans (worlds_len hten) (Nat.le_trans (Nat.pow_le_pow_right (by omega) (show (lists σ).length ≤ 4 by omega)) (by decide))
  refine go_cons (do_assign (ef_own (evF_list (ds := []) evs_nil) fun kp hkp => ?_))
  obtain ⟨fc, stc, mc, fnc, chk⟩ := kd.check
  have h2s := kd.two
  have h4s := kd.few
  refine go_cons (do_for ["world"] (worldsF (lists σ)) (fun w => .dat (dW w)) (fun done rest ρ X => Lw a cells bl kind scope p kp R A σ j done ρ X)
    (evn (d := .dat (dWs (worldsF (lists σ))))) iter_map ⟨⟨by trivial, by trivial, by trivial, by trivial, by trivial, by trivial⟩, rfl⟩ ?_ ?_)
  · rintro lk done w rest ρ1 X1 hd ⟨⟨g1, g2, g3, g4, g5, g6⟩, rfl⟩
    have hwm : w ∈ worldsF (lists σ) := by rw [hd]; exact List.mem_append_right _ List.mem_cons_self
    obtain ⟨w1, w2⟩ := mem_worlds.mp hwm
    rw [hll] at w1 w2
    have hdz : done.length ≤ big := by rw [hd, List.length_append] at hwz; omega
    have hlt : ∀ x ∈ scope, x < w.length := fun x q => by rw [w1]; exact kd.lt x q
    refine ⟨_, asg_name (d := .dat (dW w)), ?_⟩
    refine go_cons (do_mapc ["x"] scope (fun i : Nat => .int i) (fun i => .int (atI w i)) (evn (d := .dat (dN scope))) iter_map (by simp only [big]; omega) (fun i hi => ⟨_, asg_name (d := .int i), sub1, ev_item (evn (d := .dat (dW w))) (evn (d := .int i)) (itm_W (hlt i hi))⟩) ?_)
    rw [show (scope.map fun i => PyData.int (atI w i)) = (scope.map fun x => atI w x).map .int by rw [List.map_map]; rfl]
    have hrow : 2 ≤ (scope.map fun x => atI w x).length := by rw [List.length_map]; exact h2s
    have hme : ∀ {X : List MO}, Fn b 1 X (.ref 490) [.int kind, .dat (dI1 (scope.map fun x => atI w x))] (.bool (meantF kind (scope.map fun x => atI w x))) := fun {X} => by
      refine f_meant G hrow (by rw [List.length_map]; omega) fun v hv => ?_
      obtain ⟨x, hx, rfl⟩ := List.mem_map.mp hv
      have hxl := kd.lt x hx
      have := w2 x hxl
      rw [atL_lists] at this
      have := hin.vals hxl _ this
      omega
    refine go_cons (do_if (et_pure (t := false) ?_ (go_nil ?_)))
    · exact tv_cmp (ev_meth (evn (d := .raw (.ref p))) (gm_meth kd.cls mc (hi1 (L := [_, _])) (hi2 (L := [_, _]))) fnc.ke (es1 (evn (d := .list ((scope.map fun x => atI w x).map .int)))) (chk _ _ hrow) (List.Sublist.refl _)) (ecall (ev_glob G.g29) (es2 (evn (d := .int kind)) (evn (d := .list ((scope.map fun x => atI w x).map .int)))) G.f29.ke hme) cmp_neBool
    have happ : (((done ++ [w]).filter fun w => meantF kind (scope.map fun x => atI w x)).map dW) = ((done.filter fun w => meantF kind (scope.map fun x => atI w x)).map dW) ++ (if meantF kind (scope.map fun x => atI w x) then [dW w] else []) := by
      exact filt_snoc _ _ _ _
    refine go_cons (do_if (et_pure (tv_value (ecall (ev_glob G.g29) (es2 (evn (d := .int kind)) (evn (d := .list ((scope.map fun x => atI w x).map .int)))) G.f29.ke hme) tr_bool) (ite_dd (fun e => ?_) fun e => go_nil (go_nil ?_))))
    · refine go_cons (do_expr (ef_append (d := dW w) [] _ rfl (evn (d := .raw (.ref kp))) (evn (d := .dat (dW w))) (by rw [List.length_map]; exact Nat.le_trans (List.length_filter_le _ _) hdz) (.inr hkp) ⟨trivial, go_nil (go_nil ⟨⟨by trivial, by trivial, by trivial, by trivial, by trivial, by trivial⟩, ?_⟩)⟩))
      rw [happ, if_pos e, List.nil_append]
    · refine ⟨⟨by trivial, by trivial, by trivial, by trivial, by trivial, by trivial⟩, ?_⟩
      rw [happ, if_neg (by rw [e]; simp), List.append_nil]
  rintro ρ2 X2 ⟨⟨g1, g2, g3, g4, g5, g6⟩, rfl⟩
  refine go_freeze (L := []) "kept" kp _ g6 (by rw [List.length_map]; exact Nat.le_trans (List.length_filter_le _ _) hwz) hkp (fun _ _ q => nomatch q) ?_
  rw [List.nil_append]
  subst hR
  have hkf : ((worldsF (lists σ)).filter fun w => meantF kind (scope.map fun x => atI w x)) = keptF kind scope σ.firsts := by unfold keptF lists; rw [hσ.fd]
  rw [hkf]
  exact law_laps G K (fun {x} h => hfr h) kd hσ hin (by omega) hj (by omega) hbl (by trivial) (by trivial) (by trivial) (by trivial) (by trivial) List.mem_cons_self
end

/-- an entry of a dict that keys of the text open -/
noncomputable def eK (P : Params) (x : Str) (t : Nat) (v : Value) : DictEntry := ⟨PyData.keyHash P x, .str x t, v⟩
noncomputable abbrev cutPy : Str := "/claim/cut.py"
noncomputable def cdA (c : Nat) (nm q : Str) (t : Nat) (ln ac : Int) (la : Nat) : Obj := ⟨.type "code", none, .fields #[.str nm t, .str q (t + 1), .str cutPy (t + 2), .int ln 0, .int ac 0, .int 0 0, .int 0 0, .int 3 0, .ref (c - 5), .bool true, .int 181 0, .ref (c - 4), .none, .ref (c - 3), .ref (c - 2), .ref (c - 1), .int la 0, .int ln 0, .str cutPy (la + 1)], #[]⟩
noncomputable def cdB (c : Nat) (nm q : Str) (t : Nat) (ln ac : Int) (la : Nat) : Obj := ⟨.type "code", none, .fields #[.str nm t, .str q (t + 1), .str cutPy (t + 2), .int ln 0, .int ac 0, .int 0 0, .int 0 0, .int 3 0, .ref (c - 3), .bool true, .int 181 0, .ref (c - 2), .none, .none, .none, .ref (c - 1), .int la 0, .int ln 0, .str cutPy (la + 1)], #[]⟩
noncomputable def fnO (st : Stmt) (c : Nat) (nm q md : Str) (mt : Nat) : Obj := ⟨.type "function", none, .func (fdOf st nm q (.ref c) .none (.str md mt) .none none), #[]⟩
noncomputable def fnA (st : Stmt) (c : Nat) (nm q : Str) (t : Nat) (ln ac : Int) (la : Nat) (md : Str) (mt : Nat) : Frag := [(c, cdA c nm q t ln ac la), (c + 1, fnO st c nm q md mt)]
noncomputable def fnB (st : Stmt) (c : Nat) (nm q : Str) (t : Nat) (ln ac : Int) (la : Nat) (md : Str) (mt : Nat) : Frag := [(c, cdB c nm q t ln ac la), (c + 1, fnO st c nm q md mt)]
noncomputable def fnQ (st : Stmt) (c : Nat) (nm q : Str) (t : Nat) (ln ac : Int) (la : Nat) (md : Str) (mt cc : Nat) : Frag := [(c, cdA c nm q t ln ac la), (c + 1, ⟨.type "function", none, .func { fdOf st nm q (.ref c) .none (.str md mt) (.ref (c - 6)) none with closure := [("__class__", cc)] }, #[]⟩)]
/-- what the text's top leaves, as far as the law's run asks for it -/
noncomputable def K0 (P : Params) : Frag := [
  (2, ⟨.none, none, (.dict #[] 0), #[]⟩),
  (3, ⟨(.type "dict"), none, (.dict #[eK P "__name__" 165 (.str "law_no0320_01" 760), eK P "__doc__" 166 .none, eK P "__package__" 167 .none, eK P "__loader__" 168 (.builtin "__main__.__loader__#opaque"), eK P "__spec__" 169 .none, eK P "__annotations__" 170 (.ref 6), eK P "__builtins__" 171 (.ref 4), eK P "__file__" 173 (.str "/claim/cut.py" 172), eK P "__cached__" 174 .none, eK P "_wall" 193 (.ref 21), eK P "put_behind" 204 (.ref 28), eK P "from_values" 213 (.ref 35), eK P "least" 220 (.ref 42), eK P "greatest" 227 (.ref 49), eK P "next_from" 237 (.ref 56), eK P "has" 245 (.ref 63), eK P "has_domains" 246 (.ref 63), eK P "values" 256 (.ref 70), eK P "up_to" 262 (.ref 75), eK P "from_on" 268 (.ref 80), eK P "without" 276 (.ref 87), eK P "meet" 289 (.ref 94), eK P "negation" 299 (.ref 101), eK P "struck" 309 (.ref 108), eK P "said_of" 318 (.ref 115), eK P "Store" 512 (.ref 265), eK P "Propagator" 567 (.ref 307), eK P "Absolute" 623 (.ref 351), eK P "Extreme" 663 (.ref 384), eK P "Greatest" 711 (.ref 424), eK P "Smallest" 759 (.ref 464), eK P "_law_draw" 770 (.ref 473), eK P "_law_list" 776 (.ref 478), eK P "_law_says" 786 (.ref 485), eK P "_law_meant" 792 (.ref 490), eK P "_law_worlds" 798 (.ref 495), eK P "_law_is_in" 804 (.ref 500), eK P "_law_do_hold" 810 (.ref 505), eK P "_law_are_kept" 816 (.ref 510), eK P "_law_behind" 822 (.ref 515), eK P "_law_has_supports" 828 (.ref 520), eK P "_law_run" 834 (.ref 525), eK P "_law_built" 840 (.ref 530), eK P "_law_decided" 851 (.ref 537), eK P "law" 857 (.ref 542)] 45), #[]⟩),
  (264, ⟨(.type "dict"), none, (.dict #[eK P "__module__" 328 (.str "fdsolve.store" 319), eK P "__firstlineno__" 332 (.int (70) 331), eK P "__init__" 339 (.ref 129), eK P "new_var" 347 (.ref 136), eK P "size" 354 (.ref 143), eK P "dom" 362 (.ref 150), eK P "initial" 370 (.ref 157), eK P "low" 378 (.ref 164), eK P "high" 386 (.ref 171), eK P "has" 395 (.ref 178), eK P "is_fixed" 403 (.ref 185), eK P "value" 411 (.ref 192), eK P "width" 419 (.ref 199), eK P "holds" 427 (.ref 206), eK P "enter" 440 (.ref 213), eK P "strike" 449 (.ref 220), eK P "decide" 457 (.ref 227), eK P "fail" 465 (.ref 234), eK P "push" 472 (.ref 241), eK P "pop" 482 (.ref 248), eK P "depth" 489 (.ref 255), eK P "changed" 496 (.ref 262), eK P "__static_attributes__" 505 (.ref 263), eK P "__dict__" 507 (.ref 266), eK P "__weakref__" 509 (.ref 267), eK P "__doc__" 510 .none] 4), #[]⟩),
  (265, ⟨(.type "type"), none, (.cls { name := "Store", bases := [(.type "object")], mro := [(.ref 265), (.type "object")], ns := 264, qualname := "Store", hasDict := true, slotNames := [], subclasses := [], abstract := false, collection := none, hasDel := false }), #[none, none, some (.str "Store" 321), some (.str "Store" 329), some (.builtin "object.__new__"), some (.bool true)]⟩),
  (306, ⟨(.type "dict"), none, (.dict #[eK P "__module__" 520 (.str "fdsolve.store" 319), eK P "__firstlineno__" 524 (.int (163) 523), eK P "__init__" 533 (.ref 283), eK P "propagate" 541 (.ref 290), eK P "check" 549 (.ref 297), eK P "told" 556 (.ref 304), eK P "__static_attributes__" 560 (.ref 305), eK P "__dict__" 562 (.ref 308), eK P "__weakref__" 564 (.ref 309), eK P "__doc__" 565 .none] 4), #[]⟩),
  (307, ⟨(.type "type"), none, (.cls { name := "Propagator", bases := [(.type "object")], mro := [(.ref 307), (.type "object")], ns := 306, qualname := "Propagator", hasDict := true, slotNames := [], subclasses := [(.ref 351), (.ref 384)], abstract := false, collection := none, hasDel := false }), #[none, none, some (.str "Propagator" 513), some (.str "Propagator" 521), some (.builtin "object.__new__"), some (.bool true)]⟩),
  (315, ⟨(.type "cell"), none, (.cell (some (.ref 351))), #[]⟩),
  (350, ⟨(.type "dict"), none, (.dict #[eK P "__module__" 577 (.str "fdsolve.arith" 568), eK P "__firstlineno__" 581 (.int (179) 580), eK P "__init__" 591 (.ref 327), eK P "told" 598 (.ref 334), eK P "propagate" 610 (.ref 341), eK P "check" 618 (.ref 348), eK P "__static_attributes__" 619 (.ref 349), eK P "__doc__" 621 .none] 3), #[]⟩),
  (351, ⟨(.type "type"), none, (.cls { name := "Absolute", bases := [(.ref 307)], mro := [(.ref 351), (.ref 307), (.type "object")], ns := 350, qualname := "Absolute", hasDict := true, slotNames := [], subclasses := [], abstract := false, collection := none, hasDel := false }), #[some (.ref 312), none, some (.str "Absolute" 570), some (.str "Absolute" 578), some (.builtin "object.__new__"), some (.bool true)]⟩),
  (357, ⟨(.type "cell"), none, (.cell (some (.ref 384))), #[]⟩),
  (383, ⟨(.type "dict"), none, (.dict #[eK P "__module__" 631 (.str "fdsolve.arith" 568), eK P "__firstlineno__" 635 (.int (210) 634), eK P "__init__" 644 (.ref 369), eK P "once" 652 (.ref 376), eK P "propagate" 658 (.ref 381), eK P "__static_attributes__" 659 (.ref 382), eK P "__doc__" 661 .none] 3), #[]⟩),
  (384, ⟨(.type "type"), none, (.cls { name := "Extreme", bases := [(.ref 307)], mro := [(.ref 384), (.ref 307), (.type "object")], ns := 383, qualname := "Extreme", hasDict := true, slotNames := [], subclasses := [(.ref 424), (.ref 464)], abstract := false, collection := none, hasDel := false }), #[some (.ref 354), none, some (.str "Extreme" 624), some (.str "Extreme" 632), some (.builtin "object.__new__"), some (.bool true)]⟩),
  (390, ⟨(.type "cell"), none, (.cell (some (.ref 424))), #[]⟩),
  (423, ⟨(.type "dict"), none, (.dict #[eK P "__module__" 671 (.str "fdsolve.arith" 568), eK P "__firstlineno__" 675 (.int (225) 674), eK P "__init__" 685 (.ref 402), eK P "told" 692 (.ref 409), eK P "once" 698 (.ref 414), eK P "check" 706 (.ref 421), eK P "__static_attributes__" 707 (.ref 422), eK P "__doc__" 709 .none] 3), #[]⟩),
  (424, ⟨(.type "type"), none, (.cls { name := "Greatest", bases := [(.ref 384)], mro := [(.ref 424), (.ref 384), (.ref 307), (.type "object")], ns := 423, qualname := "Greatest", hasDict := true, slotNames := [], subclasses := [], abstract := false, collection := none, hasDel := false }), #[some (.ref 387), none, some (.str "Greatest" 664), some (.str "Greatest" 672), some (.builtin "object.__new__"), some (.bool true)]⟩),
  (430, ⟨(.type "cell"), none, (.cell (some (.ref 464))), #[]⟩),
  (463, ⟨(.type "dict"), none, (.dict #[eK P "__module__" 719 (.str "fdsolve.arith" 568), eK P "__firstlineno__" 723 (.int (253) 722), eK P "__init__" 733 (.ref 442), eK P "told" 740 (.ref 449), eK P "once" 746 (.ref 454), eK P "check" 754 (.ref 461), eK P "__static_attributes__" 755 (.ref 462), eK P "__doc__" 757 .none] 3), #[]⟩),
  (464, ⟨(.type "type"), none, (.cls { name := "Smallest", bases := [(.ref 384)], mro := [(.ref 464), (.ref 384), (.ref 307), (.type "object")], ns := 463, qualname := "Smallest", hasDict := true, slotNames := [], subclasses := [], abstract := false, collection := none, hasDel := false }), #[some (.ref 427), none, some (.str "Smallest" 712), some (.str "Smallest" 720), some (.builtin "object.__new__"), some (.bool true)]⟩)] ++ (fnA (stOf 2) 27 "put_behind" "put_behind" 196 5 3 202 "fdsolve.domains" 194 ++ (
  fnA (stOf 3) 34 "from_values" "from_values" 205 11 1 211 "fdsolve.domains" 194 ++ (
  fnA (stOf 4) 41 "least" "least" 214 16 1 218 "fdsolve.domains" 194 ++ (
  fnA (stOf 5) 48 "greatest" "greatest" 221 18 1 225 "fdsolve.domains" 194 ++ (
  fnA (stOf 6) 55 "next_from" "next_from" 228 20 2 235 "fdsolve.domains" 194 ++ (
  fnA (stOf 7) 62 "has" "has" 238 25 2 243 "fdsolve.domains" 194 ++ (
  fnA (stOf 9) 69 "values" "values" 247 28 1 254 "fdsolve.domains" 194 ++ (
  fnB (stOf 10) 74 "up_to" "up_to" 257 33 2 260 "fdsolve.domains" 194 ++ (
  fnB (stOf 11) 79 "from_on" "from_on" 263 35 2 266 "fdsolve.domains" 194 ++ (
  fnA (stOf 12) 86 "without" "without" 269 37 2 274 "fdsolve.domains" 194 ++ (
  fnA (stOf 13) 93 "meet" "meet" 277 39 2 287 "fdsolve.domains" 194 ++ (
  fnA (stOf 14) 100 "negation" "negation" 290 50 1 297 "fdsolve.domains" 194 ++ (
  fnA (stOf 15) 107 "struck" "struck" 300 57 2 307 "fdsolve.domains" 194 ++ (
  fnA (stOf 16) 114 "said_of" "said_of" 310 64 2 316 "fdsolve.domains" 194 ++ (
  fnA (methOf 18 0) 128 "__init__" "Store.__init__" 333 72 1 337 "fdsolve.store" 319 ++ (
  fnA (methOf 18 1) 135 "new_var" "Store.new_var" 340 82 2 345 "fdsolve.store" 319 ++ (
  fnA (methOf 18 2) 142 "size" "Store.size" 348 89 1 352 "fdsolve.store" 319 ++ (
  fnA (methOf 18 3) 149 "dom" "Store.dom" 355 92 2 360 "fdsolve.store" 319 ++ (
  fnA (methOf 18 5) 163 "low" "Store.low" 371 98 2 376 "fdsolve.store" 319 ++ (
  fnA (methOf 18 6) 170 "high" "Store.high" 379 101 2 384 "fdsolve.store" 319 ++ (
  fnA (methOf 18 7) 177 "has" "Store.has" 387 104 3 393 "fdsolve.store" 319 ++ (
  fnA (methOf 18 12) 212 "enter" "Store.enter" 428 119 4 438 "fdsolve.store" 319 ++ (
  fnA (methOf 18 13) 219 "strike" "Store.strike" 441 132 3 447 "fdsolve.store" 319 ++ (
  fnA (methOf 18 14) 226 "decide" "Store.decide" 450 135 2 455 "fdsolve.store" 319 ++ (
  fnA (methOf 18 15) 233 "fail" "Store.fail" 458 138 2 463 "fdsolve.store" 319 ++ (
  fnA (methOf 18 16) 240 "push" "Store.push" 466 143 1 470 "fdsolve.store" 319 ++ (
  fnA (methOf 18 17) 247 "pop" "Store.pop" 473 146 2 480 "fdsolve.store" 319 ++ (
  fnA (methOf 19 0) 282 "__init__" "Propagator.__init__" 525 165 3 531 "fdsolve.store" 319 ++ (
  fnQ (methOf 21 0) 326 "__init__" "Absolute.__init__" 582 181 3 589 "fdsolve.arith" 568 315 ++ (
  fnA (methOf 21 2) 340 "propagate" "Absolute.propagate" 599 187 2 608 "fdsolve.arith" 568 ++ (
  fnA (methOf 21 3) 347 "check" "Absolute.check" 611 208 2 616 "fdsolve.arith" 568 ++ (
  fnQ (methOf 22 0) 368 "__init__" "Extreme.__init__" 636 212 2 642 "fdsolve.arith" 568 357 ++ (
  fnB (methOf 22 2) 380 "propagate" "Extreme.propagate" 653 218 2 656 "fdsolve.arith" 568 ++ (
  fnQ (methOf 23 0) 401 "__init__" "Greatest.__init__" 676 227 3 683 "fdsolve.arith" 568 390 ++ (
  fnB (methOf 23 2) 413 "once" "Greatest.once" 693 233 2 696 "fdsolve.arith" 568 ++ (
  fnA (methOf 23 3) 420 "check" "Greatest.check" 699 251 2 704 "fdsolve.arith" 568 ++ (
  fnQ (methOf 24 0) 441 "__init__" "Smallest.__init__" 724 255 3 731 "fdsolve.arith" 568 430 ++ (
  fnB (methOf 24 2) 453 "once" "Smallest.once" 741 261 2 744 "fdsolve.arith" 568 ++ (
  fnA (methOf 24 3) 460 "check" "Smallest.check" 747 279 2 752 "fdsolve.arith" 568 ++ (
  fnA (stOf 26) 472 "_law_draw" "_law_draw" 762 282 2 768 "law_no0320_01" 760 ++ (
  fnB (stOf 27) 477 "_law_list" "_law_list" 771 288 1 774 "law_no0320_01" 760 ++ (
  fnA (stOf 28) 484 "_law_says" "_law_says" 777 290 2 784 "law_no0320_01" 760 ++ (
  fnB (stOf 29) 489 "_law_meant" "_law_meant" 787 295 2 790 "law_no0320_01" 760 ++ (
  fnB (stOf 30) 494 "_law_worlds" "_law_worlds" 793 299 1 796 "law_no0320_01" 760 ++ (
  fnB (stOf 31) 499 "_law_is_in" "_law_is_in" 799 304 2 802 "law_no0320_01" 760 ++ (
  fnB (stOf 32) 504 "_law_do_hold" "_law_do_hold" 805 306 2 808 "law_no0320_01" 760 ++ (
  fnB (stOf 33) 509 "_law_are_kept" "_law_are_kept" 811 308 2 814 "law_no0320_01" 760 ++ (
  fnB (stOf 34) 514 "_law_behind" "_law_behind" 817 310 3 820 "law_no0320_01" 760 ++ (
  fnB (stOf 35) 519 "_law_has_supports" "_law_has_supports" 823 321 4 826 "law_no0320_01" 760 ++ (
  fnB (stOf 36) 524 "_law_run" "_law_run" 829 333 5 832 "law_no0320_01" 760 ++ (
  fnB (stOf 37) 529 "_law_built" "_law_built" 835 350 2 838 "law_no0320_01" 760 ++ (
  fnA (stOf 38) 536 "_law_decided" "_law_decided" 841 363 2 849 "law_no0320_01" 760 ++ (
  fnB (stOf 39) 541 "law" "law" 852 368 1 855 "law_no0320_01" 760)))))))))))))))))))))))))))))))))))))))))))))))))))))
noncomputable def as0 : List Addr := [2, 3, 264, 265, 306, 307, 315, 350, 351, 357, 383, 384, 390, 423, 424, 430, 463, 464, 27, 28, 34, 35, 41, 42, 48, 49, 55, 56, 62, 63, 69, 70, 74, 75, 79, 80, 86, 87, 93, 94, 100, 101, 107, 108, 114, 115, 128, 129, 135, 136, 142, 143, 149, 150, 163, 164, 170, 171, 177, 178, 212, 213, 219, 220, 226, 227, 233, 234, 240, 241, 247, 248, 282, 283, 326, 327, 340, 341, 347, 348, 368, 369, 380, 381, 401, 402, 413, 414, 420, 421, 441, 442, 453, 454, 460, 461, 472, 473, 477, 478, 484, 485, 489, 490, 494, 495, 499, 500, 504, 505, 509, 510, 514, 515, 519, 520, 524, 525, 529, 530, 536, 537, 541, 542]
theorem as0_is : ∀ P, as0 = (K0 P).map (·.1) := fun _ => by rfl

noncomputable def q0 : Program := { pw with main := { pw.main with body := pw.main.body.drop 39 } }
noncomputable def topNames (p : Program) : List Str := p.main.body.flatMap bindsAtTop
noncomputable def loose0 : List Str := (topNames pw).eraseDups.filter (fun n => !(n == ("law" : Str)))
noncomputable abbrev row0 : RowW := PySem.Challenge.rw_no0320_01.row.toRowW
noncomputable abbrev Xt0 : Shared → Bool := fun s => xlAt q0 [] s && recOk (RowW.records row0) s
set_option maxRecDepth 100000 in
theorem size0 : ∀ w : World, ((boot_heap w.params).isNs mainGlobals && (Array.mk [] : Array GenState).size == 0, (boot_heap w.params).objs.size, (boot_heap w.params).nsMap mainGlobals "__annotations__") = (true, 11, some (.ref 6)) := by
  intro w; kernel_rfl

noncomputable abbrev obs0 : Shared → List (Option Obj) := fun s => as0.map s.heap.get?
noncomputable abbrev val0 : World → List (Option Obj) := fun w => (K0 w.params).map fun p => some p.2
set_option maxRecDepth 100000 in
set_option maxHeartbeats 8000000 in
theorem open0 : ∀ w : World, (fencedOpening treeTable pw w 7038).map (fun s => (s.heap, s.gens, s.drawn, s.toks)) = some (boot_heap w.params, Array.mk [], boot_drawn, boot_toks) :=
  boot_open (by kernel_rfl) (by kernel_rfl) (by intro s; kernel_rfl)
theorem left_of {p q : Program} {loose : List Str} {Xt : Shared → Bool} {α : Type} {Yf : Shared → α} {Ya : World → α} {N : Nat} {g0 : Bool} {H₀ : Params → Heap}
    {gs₀ : Array GenState} {d₀ : Drawn} {k₀ : Nat} {m₀ : Nat} {ann : Option Value}
    (open_ : ∀ w : World, (fencedOpening treeTable p w N).map (fun s => (s.heap, s.gens, s.drawn, s.toks)) = some (H₀ w.params, gs₀, d₀, k₀))
    (size : ∀ w : World, ((H₀ w.params).isNs mainGlobals && gs₀.size == 0, (H₀ w.params).objs.size, (H₀ w.params).nsMap mainGlobals "__annotations__") = (true, m₀, ann))
    (run : ∀ w : World, (fun os => (topRun treeTable p w m₀ ann N ⟨H₀ w.params, gs₀, d₀, k₀, os⟩ (topStub p)).map (fun s => ((staticsOk (importedModules p.main.body) (H₀ w.params) s.heap && namesBound p s.heap && gensDone s && laidKept (H₀ w.params) s.heap),
        openSeen q loose (importedModules p.main.body) Xt g0 s, Yf s))) = fun _ => some (true, openGood q loose, Ya w)) : LeftO p q loose Xt Yf Ya N g0 := fun w => by
  obtain ⟨⟨h, gs, d, k, os⟩, e, e'⟩ := Option.map_eq_some_iff.mp (open_ w)
  obtain ⟨rfl, rfl, rfl, rfl⟩ : h = H₀ w.params ∧ gs = gs₀ ∧ d = d₀ ∧ k = k₀ := by simpa using e'
  obtain ⟨z1, z2, z3⟩ : _ ∧ _ ∧ _ := by simpa only [Prod.mk.injEq] using size w
  obtain ⟨s₁, hr, r⟩ := Option.map_eq_some_iff.mp (congrFun (run w) os)
  obtain ⟨l1, l2⟩ := Prod.mk.inj r
  have t : topFrom treeTable p w N ⟨H₀ w.params, gs, d, k, os⟩ = some s₁ := by
    unfold topFrom
    dsimp only
    rw [z1, z2, z3, hr]
    show (match staticsOk (importedModules p.main.body) (H₀ w.params) s₁.heap && namesBound p s₁.heap && gensDone s₁ && laidKept (H₀ w.params) s₁.heap with | true => _ | false => _) = _
    rw [l1]
  unfold openEnds
  rw [e]
  show (topFrom treeTable p w N _).map _ = _
  rw [t]
  exact congrArg some l2
noncomputable def goT (th ok : Thread → Bool) (st : SharedT → Thread → Option (SharedT × Thread)) : Nat → SharedT → Thread → Option SharedT
  | 0, _, _ => none
  | n + 1, s, t => match th t with
    | true => some s
    | false => match ok t with
      | false => none
      | true => match st s t with
        | some (s', t') => goT th ok st n s' t'
        | none => none
theorem goT_top {tb : String → Option Builtin} {p : Program} {w : World} {n₀ : Nat} {ann : Option Value} : ∀ {n : Nat} {s s' : SharedT} {t : Thread}, goT through (stepOk n₀ ann) (stepT (denote tb) p w) n s t = some s' → topRun tb p w n₀ ann n s.abs t = some s'.abs
  | 0, _, _, _, h => by cases h
  | n + 1, s, s', t, h => by
    unfold goT at h
    unfold topRun
    cases he : through t with
    | true => rw [he] at h; cases h; rfl
    | false =>
      rw [he] at h
      cases hk : stepOk n₀ ann t with
      | false => rw [hk] at h; cases h
      | true =>
        rw [hk] at h
        cases hs : stepT (denote tb) p w s t with
        | none => rw [hs] at h; cases h
        | some r => obtain ⟨s₂, t₂⟩ := r; rw [hs] at h; rw [stepT_spec hs]; exact goT_top h
noncomputable def T0 (P : Params) : BT := ((boot_heap P).objs.toList.foldl (fun (x : BT × Nat) o => (x.1.ins x.2 o, x.2 + 1)) (.nil, 0)).1
theorem abs0 : ∀ P, absHeap (T0 P) 11 (boot_heap P).life = boot_heap P := by
  intro P; kernel_rfl
noncomputable def look0 (w : World) (s : Shared) := ((staticsOk (importedModules pw.main.body) (boot_heap w.params) s.heap && namesBound pw s.heap && gensDone s && laidKept (boot_heap w.params) s.heap),
        openSeen q0 loose0 (importedModules pw.main.body) Xt0 true s, obs0 s)
set_option maxRecDepth 100000 in
set_option maxHeartbeats 8000000 in
theorem runT : ∀ w : World, (fun os => (goT through (stepOk 11 (some (.ref 6))) (stepT (denote treeTable) pw w) 7038 ⟨T0 w.params, 11, (boot_heap w.params).life, Array.mk [], boot_drawn, boot_toks, os⟩ (topStub pw)).map (fun s => look0 w s.abs)) = fun _ => some (true, openGood q0 loose0, val0 w) := by
  intro w
  unfold look0
  first | rw [PySem.W.Fast.te10156331382660048174] | skip
  first | rw [PySem.W.Fast.te14364793385576792824] | skip
  first | rw [PySem.W.Fast.te11892475500146522536] | skip
  first | rw [PySem.W.Fast.te6613529449190102663] | skip
  first | rw [PySem.W.Fast.te4187177175401517315] | skip
  kernel_rfl
theorem abs_eq {T : BT} {n : Nat} {l : Life} {h : Heap} (e : absHeap T n l = h) (g : Array GenState) (d : Drawn) (k : Nat) (os : OsState) : SharedT.abs ⟨T, n, l, g, d, k, os⟩ = ⟨h, g, d, k, os⟩ := by subst e; rfl
theorem run0 : ∀ w : World, (fun os => (topRun treeTable pw w 11 (some (.ref 6)) 7038 ⟨boot_heap w.params, Array.mk [], boot_drawn, boot_toks, os⟩ (topStub pw)).map (fun s => ((staticsOk (importedModules pw.main.body) (boot_heap w.params) s.heap && namesBound pw s.heap && gensDone s && laidKept (boot_heap w.params) s.heap),
        openSeen q0 loose0 (importedModules pw.main.body) Xt0 true s, obs0 s))) = fun _ => some (true, openGood q0 loose0, val0 w) := by
  intro w
  funext os
  obtain ⟨s, h, e⟩ := Option.map_eq_some_iff.mp (congrFun (runT w) os)
  have h := goT_top h
  rw [abs_eq (abs0 w.params)] at h
  exact (congrArg (Option.map (look0 w)) h).trans (congrArg some e)
theorem left0 : LeftO pw q0 loose0 Xt0 obs0 val0 7038 := left_of open0 size0 run0

/-- a base that holds what the text's top leaves -/
structure Bs (b : Bas) : Prop where
  K : b.K = K0 b.w.params
  bi : ∀ x : Str, x ≠ "__name__" → b.mb x = bootBuiltins x
section
variable {b : Bas} (B : Bs b)
include B
theorem gl_of {x : Str} {v : Value} (e : ∀ P, nsIn (K0 P) mainGlobals x = some (some v)) : b.Gl x v := .inl (mg_of b.hK b.ng (B.K ▸ e _))
theorem bi_of {x : Str} {v : Value} (e : ∀ P, nsIn (K0 P) mainGlobals x = some none) (hv : bootBuiltins x = some v) (hn : x ≠ "__name__") : b.Gl x v := .inr ⟨mg_none_of b.hK b.ng (B.K ▸ e _), (B.bi x hn).trans hv⟩
theorem at_of {a : Addr} {o : Obj} (e : (K0 b.w.params).lookup a = some o) : b.B.get? a = some o := b.hK _ _ (B.K ▸ e)
theorem fa_of {st : Stmt} {a c : Addr} {nm q md : Str} {mt t la : Nat} {ln ac : Int} (e1 : ∀ P, (K0 P).lookup a = some (fnO st c nm q md mt)) (e2 : ∀ P, (K0 P).lookup c = some (cdA c nm q t ln ac la)) : IsFn b st a :=
  ⟨nm, q, _, _, _, _, _, at_of B (e1 _), c, _, _, _, rfl, at_of B (e2 _), rfl, rfl⟩
theorem fb_of {st : Stmt} {a c : Addr} {nm q md : Str} {mt t la : Nat} {ln ac : Int} (e1 : ∀ P, (K0 P).lookup a = some (fnO st c nm q md mt)) (e2 : ∀ P, (K0 P).lookup c = some (cdB c nm q t ln ac la)) : IsFn b st a :=
  ⟨nm, q, _, _, _, _, _, at_of B (e1 _), c, _, _, _, rfl, at_of B (e2 _), rfl, rfl⟩
theorem cls_of {C : Addr} (e : ∀ P, (findIn (K0 P) (.ref C) "__getattribute__", findIn (K0 P) (.ref C) "__getattr__", hasDictIn (K0 P) C, findIn (K0 P) (.ref C) "__setattr__", plainOver (K0 P) C) = (some (some (.builtin "object.__getattribute__")), some none, true, some (some (.builtin "object.__setattr__")), true)) : Cls b C := by
  have e := e b.w.params
  rw [← B.K] at e
  simp only [Prod.mk.injEq] at e
  obtain ⟨e1, e2, e3, e4, e5⟩ := e
  exact ⟨e1, e2, e3, e4, e5⟩
theorem mk_of {C fI : Addr} (e : ∀ P, (makesIn (K0 P) C, findIn (K0 P) (.ref C) "__init__", typeIn (K0 P) (.ref fI), keepIn (K0 P) (.ref C)) = (true, some (some (.ref fI)), some (.type "function"), true)) : Mk b C fI := by
  have e := e b.w.params
  rw [← B.K] at e
  simp only [Prod.mk.injEq] at e
  obtain ⟨e1, e2, e3, e4⟩ := e
  exact ⟨e1, e2, e3, e4⟩
theorem no_of {C : Addr} {name : Str} (e : ∀ P, findIn (K0 P) (.ref C) name = some none) : NoAt b C name := by
  have e := e b.w.params
  rw [← B.K] at e
  exact e
theorem me_of {C : Addr} {name : Str} {f : Addr} (e : ∀ P, (findIn (K0 P) (.ref C) name, typeIn (K0 P) (.ref f)) = (some (some (.ref f)), some (.type "function"))) : Meth b C name f := by
  have e := e b.w.params
  rw [← B.K] at e
  simp only [Prod.mk.injEq] at e
  exact e
theorem su_of {st : Stmt} {f C Ba f2 c cc : Addr} {nm q md : Str} {mt t la : Nat} {ln ac : Int} (e : ∀ P, ((clsIn (K0 P) Ba).isSome, mroIn (K0 P) C (.ref Ba), nsIn (K0 P) cStatics "thirdparty.any", ks_superIn (K0 P) C Ba "__init__", typeIn (K0 P) (.ref f2), fnIn (K0 P) f2, nsIn (K0 P) mainGlobals "super") = (true, some true, some none, some (some (.ref f2)), some (.type "function"), true, some none))
    (e1 : ∀ P, (K0 P).lookup f = some ⟨.type "function", none, .func { fdOf st nm q (.ref c) .none (.str md mt) (.ref (c - 6)) none with closure := [("__class__", cc)] }, #[]⟩) (e2 : ∀ P, (K0 P).lookup c = some (cdA c nm q t ln ac la)) (e3 : ∀ P, (K0 P).lookup cc = some ⟨.type "cell", none, .cell (some (.ref Ba)), #[]⟩) : Sup b st f C Ba f2 := by
  have e4 := e b.w.params
  simp only [Prod.mk.injEq] at e4
  obtain ⟨x1, x2, x3, x4, x5, x6, x7⟩ := e4
  have e1' := e1 b.w.params
  have e2' := e2 b.w.params
  have e3' := e3 b.w.params
  refine ⟨⟨nm, q, c, _, _, _, _, cc, ⟨at_of B e1', c, _, _, _, rfl, at_of B e2', rfl, rfl⟩, ⟨_, _, _, _, _, _, by rw [B.K]; exact e2', rfl, by decide +kernel⟩, ⟨_, _, _, by rw [B.K]; exact e3'⟩⟩, ?_, by rw [B.K]; exact x2, by rw [B.K]; exact x3, by rw [B.K]; exact x4, by rw [B.K]; exact x5, by rw [B.K]; exact x6, .inr ⟨mg_none_of b.hK b.ng (B.K ▸ x7), (B.bi _ (by decide)).trans (by decide +kernel)⟩⟩
  rw [B.K]
  exact Option.isSome_iff_exists.mp x1
theorem gs_of : Gs b where
  f2 := fa_of B (fun P => rfl) (fun P => rfl)
  g2 := gl_of B (by intro P; kernel_rfl)
  f3 := fa_of B (fun P => rfl) (fun P => rfl)
  g3 := gl_of B (by intro P; kernel_rfl)
  f4 := fa_of B (fun P => rfl) (fun P => rfl)
  g4 := gl_of B (by intro P; kernel_rfl)
  f5 := fa_of B (fun P => rfl) (fun P => rfl)
  g5 := gl_of B (by intro P; kernel_rfl)
  f6 := fa_of B (fun P => rfl) (fun P => rfl)
  g6 := gl_of B (by intro P; kernel_rfl)
  f7 := fa_of B (fun P => rfl) (fun P => rfl)
  g7 := gl_of B (by intro P; kernel_rfl)
  g8 := gl_of B (by intro P; kernel_rfl)
  f9 := fa_of B (fun P => rfl) (fun P => rfl)
  g9 := gl_of B (by intro P; kernel_rfl)
  f10 := fb_of B (fun P => rfl) (fun P => rfl)
  g10 := gl_of B (by intro P; kernel_rfl)
  f11 := fb_of B (fun P => rfl) (fun P => rfl)
  g11 := gl_of B (by intro P; kernel_rfl)
  f12 := fa_of B (fun P => rfl) (fun P => rfl)
  g12 := gl_of B (by intro P; kernel_rfl)
  f13 := fa_of B (fun P => rfl) (fun P => rfl)
  g13 := gl_of B (by intro P; kernel_rfl)
  f14 := fa_of B (fun P => rfl) (fun P => rfl)
  g14 := gl_of B (by intro P; kernel_rfl)
  f15 := fa_of B (fun P => rfl) (fun P => rfl)
  g15 := gl_of B (by intro P; kernel_rfl)
  f16 := fa_of B (fun P => rfl) (fun P => rfl)
  g16 := gl_of B (by intro P; kernel_rfl)
  f26 := fa_of B (fun P => rfl) (fun P => rfl)
  g26 := gl_of B (by intro P; kernel_rfl)
  f27 := fb_of B (fun P => rfl) (fun P => rfl)
  g27 := gl_of B (by intro P; kernel_rfl)
  f28 := fa_of B (fun P => rfl) (fun P => rfl)
  g28 := gl_of B (by intro P; kernel_rfl)
  f29 := fb_of B (fun P => rfl) (fun P => rfl)
  g29 := gl_of B (by intro P; kernel_rfl)
  f30 := fb_of B (fun P => rfl) (fun P => rfl)
  g30 := gl_of B (by intro P; kernel_rfl)
  f31 := fb_of B (fun P => rfl) (fun P => rfl)
  g31 := gl_of B (by intro P; kernel_rfl)
  f32 := fb_of B (fun P => rfl) (fun P => rfl)
  g32 := gl_of B (by intro P; kernel_rfl)
  f33 := fb_of B (fun P => rfl) (fun P => rfl)
  g33 := gl_of B (by intro P; kernel_rfl)
  f34 := fb_of B (fun P => rfl) (fun P => rfl)
  g34 := gl_of B (by intro P; kernel_rfl)
  f35 := fb_of B (fun P => rfl) (fun P => rfl)
  g35 := gl_of B (by intro P; kernel_rfl)
  f36 := fb_of B (fun P => rfl) (fun P => rfl)
  g36 := gl_of B (by intro P; kernel_rfl)
  f37 := fb_of B (fun P => rfl) (fun P => rfl)
  g37 := gl_of B (by intro P; kernel_rfl)
  f38 := fa_of B (fun P => rfl) (fun P => rfl)
  g38 := gl_of B (by intro P; kernel_rfl)
  max := bi_of B (by intro P; kernel_rfl) (by decide +kernel) (by decide)
  min := bi_of B (by intro P; kernel_rfl) (by decide +kernel) (by decide)
  len := bi_of B (by intro P; kernel_rfl) (by decide +kernel) (by decide)
  abs := bi_of B (by intro P; kernel_rfl) (by decide +kernel) (by decide)
  sum := bi_of B (by intro P; kernel_rfl) (by decide +kernel) (by decide)
  sorted := bi_of B (by intro P; kernel_rfl) (by decide +kernel) (by decide)
  range := bi_of B (by intro P; kernel_rfl) (by decide +kernel) (by decide)
  tuple := bi_of B (by intro P; kernel_rfl) (by decide +kernel) (by decide)
  list := bi_of B (by intro P; kernel_rfl) (by decide +kernel) (by decide)
  set := bi_of B (by intro P; kernel_rfl) (by decide +kernel) (by decide)
theorem ks_of : Ks b where
  c := cls_of B (by intro P; kernel_rfl)
  made := mk_of B (by intro P; kernel_rfl)
  nD := no_of B (by intro P; kernel_rfl)
  nF := no_of B (by intro P; kernel_rfl)
  nT := no_of B (by intro P; kernel_rfl)
  nM := no_of B (by intro P; kernel_rfl)
  nN := no_of B (by intro P; kernel_rfl)
  nS := no_of B (by intro P; kernel_rfl)
  nI := no_of B (by intro P; kernel_rfl)
  nC := no_of B (by intro P; kernel_rfl)
  f0 := fa_of B (fun P => rfl) (fun P => rfl)
  f1 := fa_of B (fun P => rfl) (fun P => rfl)
  m1 := me_of B (by intro P; kernel_rfl)
  f2 := fa_of B (fun P => rfl) (fun P => rfl)
  m2 := me_of B (by intro P; kernel_rfl)
  f3 := fa_of B (fun P => rfl) (fun P => rfl)
  m3 := me_of B (by intro P; kernel_rfl)
  f5 := fa_of B (fun P => rfl) (fun P => rfl)
  m5 := me_of B (by intro P; kernel_rfl)
  f6 := fa_of B (fun P => rfl) (fun P => rfl)
  m6 := me_of B (by intro P; kernel_rfl)
  f7 := fa_of B (fun P => rfl) (fun P => rfl)
  m7 := me_of B (by intro P; kernel_rfl)
  f12 := fa_of B (fun P => rfl) (fun P => rfl)
  m12 := me_of B (by intro P; kernel_rfl)
  f13 := fa_of B (fun P => rfl) (fun P => rfl)
  m13 := me_of B (by intro P; kernel_rfl)
  f14 := fa_of B (fun P => rfl) (fun P => rfl)
  m14 := me_of B (by intro P; kernel_rfl)
  f15 := fa_of B (fun P => rfl) (fun P => rfl)
  m15 := me_of B (by intro P; kernel_rfl)
  f16 := fa_of B (fun P => rfl) (fun P => rfl)
  m16 := me_of B (by intro P; kernel_rfl)
  f17 := fa_of B (fun P => rfl) (fun P => rfl)
  m17 := me_of B (by intro P; kernel_rfl)
theorem kr_of : Kr b where
  A := ⟨cls_of B (by intro P; kernel_rfl), mk_of B (by intro P; kernel_rfl), no_of B (by intro P; kernel_rfl), no_of B (by intro P; kernel_rfl), no_of B (by intro P; kernel_rfl)⟩
  G := ⟨cls_of B (by intro P; kernel_rfl), mk_of B (by intro P; kernel_rfl), no_of B (by intro P; kernel_rfl), no_of B (by intro P; kernel_rfl), no_of B (by intro P; kernel_rfl)⟩
  S := ⟨cls_of B (by intro P; kernel_rfl), mk_of B (by intro P; kernel_rfl), no_of B (by intro P; kernel_rfl), no_of B (by intro P; kernel_rfl), no_of B (by intro P; kernel_rfl)⟩
  supA := su_of B (by intro P; kernel_rfl) (fun P => rfl) (fun P => rfl) (fun P => rfl)
  supG := su_of B (by intro P; kernel_rfl) (fun P => rfl) (fun P => rfl) (fun P => rfl)
  supS := su_of B (by intro P; kernel_rfl) (fun P => rfl) (fun P => rfl) (fun P => rfl)
  supEG := su_of B (by intro P; kernel_rfl) (fun P => rfl) (fun P => rfl) (fun P => rfl)
  supES := su_of B (by intro P; kernel_rfl) (fun P => rfl) (fun P => rfl) (fun P => rfl)
  fP := fa_of B (fun P => rfl) (fun P => rfl)
  fAp := fa_of B (fun P => rfl) (fun P => rfl)
  mAp := me_of B (by intro P; kernel_rfl)
  fAc := fa_of B (fun P => rfl) (fun P => rfl)
  mAc := me_of B (by intro P; kernel_rfl)
  fEp := fb_of B (fun P => rfl) (fun P => rfl)
  mGp := me_of B (by intro P; kernel_rfl)
  mSp := me_of B (by intro P; kernel_rfl)
  fGo := fb_of B (fun P => rfl) (fun P => rfl)
  mGo := me_of B (by intro P; kernel_rfl)
  fGc := fa_of B (fun P => rfl) (fun P => rfl)
  mGc := me_of B (by intro P; kernel_rfl)
  fSo := fb_of B (fun P => rfl) (fun P => rfl)
  mSo := me_of B (by intro P; kernel_rfl)
  fSc := fa_of B (fun P => rfl) (fun P => rfl)
  mSc := me_of B (by intro P; kernel_rfl)
  gA := gl_of B (by intro P; kernel_rfl)
  gG := gl_of B (by intro P; kernel_rfl)
  gS := gl_of B (by intro P; kernel_rfl)
  gSt := gl_of B (by intro P; kernel_rfl)
theorem f39_of : IsFn b (stOf 39) 542 := fb_of B (fun P => rfl) (fun P => rfl)
end

theorem rp_ints {P : Params} {h : Heap} {vs : List Value} {xs : List WData} (w : WellAll P h vs xs) (k : ∀ d ∈ xs, ∃ i, d = .int i) : ∃ ns : List Int, xs = ns.map .int ∧ RpAll [] h vs (ns.map .int) := by
  induction xs generalizing vs with
  | nil => cases w; exact ⟨[], rfl, .nil⟩
  | cons d xs ih =>
    cases w with
    | cons w r =>
      obtain ⟨i, rfl⟩ := k d List.mem_cons_self
      obtain ⟨ns, rfl, q⟩ := ih r fun d hd => k d (List.mem_cons_of_mem _ hd)
      cases w with | int _ t => exact ⟨i :: ns, rfl, .cons (.int i t) q⟩
theorem args0 {P : Params} {h : Heap} {args : List WData} {vals : List Value} (hpre : row0.claim.pre args = true) (hw : WellAll P h vals args) : ∃ (ns : List Int) (v : Value), args = [.list (ns.map .int)] ∧ vals = [v] ∧ Dp [] h v (.dat (dI1 ns)) := by
  obtain ⟨h1, h2⟩ := pre_splitW hpre
  obtain ⟨d, r, rfl, hd, hr⟩ := hasAllW_cons h1
  obtain rfl := hasAllW_nil hr
  obtain ⟨xs, rfl, hi⟩ := hasW_list hd
  cases hw with
  | cons w wn =>
    cases wn
    cases w with
    | @list a vs _ e wa =>
      obtain ⟨ns, rfl, q⟩ := rp_ints wa fun d hd => hasW_int (hasItemsW_at hi d hd)
      have hl : (!decide ((63 : Int) < (ns.map WData.int).length) && true) = true := condW_of h2 (by wtm_val)
      have hl : ns.length ≤ 63 := by
        simp only [Bool.and_true, Bool.not_eq_true', decide_eq_false_iff_not, List.length_map] at hl; omega
      exact ⟨ns, _, rfl, rfl, .list (by simp) (by simp only [List.length_map, big]; omega) e q⟩
theorem walk0 {d : DefRec} {kwd : List (Str × PySem.Expr)} (hd : d.name = "law") : WalkO q0 loose0 (PySem.W.XL q0 []) (InK K0) row0 d kwd fun f vs => PySem.call f vs := by
  intro w s₀ s₁ mg mb G Y fa o pm cd doc dV kV ho hdt hcd hD hmg hg args vals as hpre hlay hrd hwl hlo
  obtain ⟨ns, v, rfl, rfl, hv⟩ := args0 hpre hwl
  let b : Bas := ⟨w, s₁.heap, s₁.os, mg, mb, G.T.g, G.T.b, G.T.nolimit, K0 w.params, Y⟩
  have B : Bs b := ⟨rfl, G.T.builtins⟩
  have hl : b.mg "law" = some (.ref 542) := mg_of b.hK b.ng (show nsIn (K0 w.params) mainGlobals "law" = _ by kernel_rfl)
  rw [hd] at hmg
  obtain rfl : fa = 542 := by
    have := hmg.symm.trans hl
    simpa using this
  refine wpAny_mono (c_law (gs_of B) (ks_of B) (kr_of B) (f39_of B) callerA [] s₁ [v] ⟨rfl, by decide +kernel, by decide +kernel⟩ ⟨Kp.refl, hg, rfl, nofun, nofun, List.nodup_nil, nofun, nofun⟩ (.cons hv .nil)) (fun u s' ⟨M', X', d, S', m, p, hx, hdp, q⟩ => ?_) fun e s' q => q.elim
  subst q
  cases hdp
  exact GoodW.toG ⟨.inl ⟨_, .bool true, [], rfl, fun cls => rfl, .bool true, by kernel_rfl, fun _ => ⟨List.nodup_nil, nofun⟩⟩, p.kp.all, p.os, S'.gens⟩

set_option maxRecDepth 100000 in
set_option maxHeartbeats 8000000 in
theorem said0 : PySem.Challenge.rw_no0320_01.wellSaid = true := by
  unfold OpenLaw.wellSaid OpenRow.wellSaid OpenRow.partSaid looksOpen
  repeat' (with_reducible refine look_both ?_ ?_)
  all_goals decide +kernel
end Mine
set_option maxHeartbeats 8000000 in
theorem PySem.Challenge.cw_no0320_01_holds : PySem.Challenge.rw_no0320_01.Holds := by
  refine holds_law Mine.said0 fun said => ?_
  refine holds_open (q := Mine.q0) (loose := Mine.loose0) (Xt := Mine.Xt0) (XP := PySem.W.XL Mine.q0 []) (Yf := Mine.obs0) (Ya := Mine.val0) (YP := InK Mine.K0) (N := 7038) (d := ?d) (kwd := ?kwd) ?a1 ?a2 ?a3 ?a4 ?a5 ?a6 ?a7 ?a8 ?a9 ?a10 ?a11 ?a12 ?a13 ?hw ?hc
  case a2 => exact InK.of Mine.as0_is
  case a3 => exact InK.keeps
  case a4 => exact fun s e => xl_of s (Bool.and_eq_true_iff.mp e).1
  case a5 => exact PySem.W.XL.keeps
  case a6 => rfl
  case a7 => rfl
  case a8 => rfl
  case a9 => exact fun s e => recFacts_of (Bool.and_eq_true_iff.mp e).2
  case a10 => rfl
  case a11 => exact said
  case a12 => decide +kernel
  case a13 => exact ⟨rfl, rfl, rfl, rfl, rfl, by decide +kernel⟩
  case hw => w_witness2
  case hc => exact Mine.walk0 rfl
  case a1 => exact Mine.left0

