import PyProof.Rows.All
import Wide.All
import OpenK.AllK
import Wide.FinOn
import HandS.ForMost
import HandS.Evl
import HandS.IsInst
import HandS.Star
import HandS.Property
import HandS.DictComp
import HandS.Zip
import HandS.Zip0
import KE.KDictZip
import PyProof.Rows.SortShellAny
import KE.KRevSl
import HandS.StrMore
import HandS.Defaults
import HandS.Iter
import HandS.Steps
import HandS.Codes
import HandS.WordsDict
import KE.KEqSeq
import PyProof.Rows.StrMeet
import PySem.Challenge.RW_gapkinds_k74_best_rows_judged
set_option Elab.async false
set_option linter.all false
set_option maxRecDepth 100000
set_option maxHeartbeats 4000000
set_option pp.maxSteps 400
/-! universal rules, by values: one rule for each piece of syntax, whatever stands in it -/
namespace GK
open PySem PySem.Spec PyProof.Rows L2
section
variable {X : Cx}
def rIxD : R2 := fun x y H Q => ∃ a v, x = .ref a ∧ DGet H a y (some v) ∧ Q v H
theorem ix_dict (hu : X.A.units + 1 < cLine) : IxR X rIxD := by
  intro value slice pins s σ H x y v u Q I rx ry h hs
  obtain ⟨a, z, rfl, g, q⟩ := h
  obtain rfl : v = Value.ref a := rx
  have hT : s.TypeIs (.ref a) "dict" := dict_typeIs I g
  unfold subscriptTail
  refine wpAny_bind ?_
  rw [getitemInPython_of_ne hT.not_modules]
  refine wpAny_bind (wpAny_specialOf hT PySem.F.slot_dict_getitem.lookup ?_)
  have fin : wpAny (model X.prog X.w) X.A (subscripted slice false (.ref a) u) (fun r s₃ => wpAny (model X.prog X.w) X.A (letTemporaryGo value (.ref a) r >>= fun _ => pure r) (EP X pins σ Q) X.xe s₃) X.xe s := by
    rw [hs]
    refine wpAny_operating (wpAny_mono (d_getItem (Q := EP X pins σ Q) hu I g ry fun w' s3 I3 rw' => ⟨z, H, I3, rw', q⟩) (fun r s₃ h₃ => wpAny_bind (wpAny_letTemporaryGo (wpAny_pure h₃))) fun _ _ x => x)
  first
    | exact wpAny_pure (wpAny_bind fin)
    | exact wpAny_bind (wpAny_pure (wpAny_bind fin))
    | exact wpAny_bind fin
def rIxU (K : PySem.W.Frag) : R2 := fun x y H Q => rIx K x y H Q ∨ rIxD x y H Q
theorem ix_uni (hu : X.A.units + 1 < cLine) : IxR X (rIxU X.K) := ix_seq.or (ix_dict hu)

def rAddI : R2 := rI0 fun i j => .int (i + j)
def rAddS : R2 := fun x y H Q => ∃ i j, x = .str i ∧ y = .str j ∧ i.length + j.length ≤ sizeLine ∧ Q (.str (i ++ j)) H
def rAddU : R2 := fun x y H Q => rAddI x y H Q ∨ rAddS x y H Q ∨ rCat x y H Q
theorem u_add : OpR X (binaryOp .Add) rAddU := OpR.or op_add (OpR.or op_add_str op_cat)
def rSubU : R2 := rI0 fun i j => .int (i - j)
theorem u_sub : OpR X (binaryOp .Sub) rSubU := op_sub
def rMulU : R2 := rI CMul fun i j => .int (i * j)
theorem u_mul : OpR X (binaryOp .Mult) rMulU := op_mul
def rModU : R2 := rI (fun _ j => 0 < j) fun i j => .int (i % j)
theorem u_mod : OpR X (binaryOp .Mod) rModU := op_mod
def rDivU : R2 := rI CDiv fun i j => .int (i / j)
theorem u_div : OpR X (binaryOp .FloorDiv) rDivU := op_fdiv
def rPowU : R2 := rI CPow fun i j => .int (i ^ j.toNat)
theorem u_pow : OpR X (binaryOp .Pow) rPowU := op_pow
def rNegU : V → Hp → VK → Prop := rU fun i => .int (-i)
theorem u_neg : UnR X (unaryOp .USub) rNegU := un_neg

def rLtU : R2 := fun x y H Q => (rI0 fun i j => .bl (decide (i < j))) x y H Q ∨ ∃ i j, x = .str i ∧ y = .str j ∧ Q (.bl (decide (i.cps.toList < j.cps.toList))) H
theorem u_lt : OpR X (compareOp .Lt) rLtU := OpR.or op_lt op_lt_str
def rLeU : R2 := rI0 fun i j => .bl (decide (i ≤ j))
theorem u_le : OpR X (compareOp .LtE) rLeU := op_le
def rGtU : R2 := rI0 fun i j => .bl (decide (j < i))
theorem u_gt : OpR X (compareOp .Gt) rGtU := op_gt
def rGeU : R2 := rI0 fun i j => .bl (decide (j ≤ i))
theorem u_ge : OpR X (compareOp .GtE) rGeU := op_ge
def rEqU (K : PySem.W.Frag) : R2 := fun x y H Q => rEq x y H Q ∨ rEqD K x y H Q
theorem u_eq (hu : X.A.units + 64 < cLine) : OpR X (compareOp .Eq) (rEqU X.K) := OpR.or op_eq (op_eqD hu)
def rNeU (K : PySem.W.Frag) : R2 := fun x y H Q => rNe x y H Q ∨ rNeD K x y H Q
theorem u_ne (hu : X.A.units + 64 < cLine) : OpR X (compareOp .NotEq) (rNeU X.K) := OpR.or op_ne (op_neD hu)
def rIsU : R2 := fun x y H Q => y = .non ∧ Q (.bl (decide (x = .non))) H
theorem u_is : OpR X (compareOp .Is) rIsU := op_isN
def rIsNotU : R2 := fun x y H Q => y = .non ∧ Q (.bl (!decide (x = .non))) H
theorem u_isnot : OpR X (compareOp .IsNot) rIsNotU := op_notN

def rInD : R2 := fun y x H Q => ∃ a o, x = .ref a ∧ DGet H a y o ∧ Q (.bl o.isSome) H
theorem op_in_dict (hu : X.A.units + 1 < cLine) : OpR X (compareOp .In) rInD := by
  intro pins s σ H y x iv u Q I ry rx h
  obtain ⟨a, o, rfl, g, q⟩ := h
  obtain rfl : u = Value.ref a := rx
  exact d_in hu I g ry fun s3 I3 => ⟨.bl o.isSome, H, I3, rfl, q⟩
def rNinD : R2 := fun y x H Q => ∃ a o, x = .ref a ∧ DGet H a y o ∧ Q (.bl (!o.isSome)) H
theorem op_nin_dict (hu : X.A.units + 1 < cLine) : OpR X (compareOp .NotIn) rNinD := by
  intro pins s σ H y x iv u Q I ry rx h
  obtain ⟨a, o, rfl, g, q⟩ := h
  obtain rfl : u = Value.ref a := rx
  exact d_notIn hu I g ry fun s3 I3 => ⟨.bl (!o.isSome), H, I3, rfl, q⟩
def rInC : R2 := fun x y H Q => ∃ (c : Nat) (z : Str), x = .str ⟨#[c]⟩ ∧ y = .str z ∧ Q (.bl (decide (c ∈ z.cps.toList))) H
def rNinC : R2 := fun x y H Q => ∃ (c : Nat) (z : Str), x = .str ⟨#[c]⟩ ∧ y = .str z ∧ Q (.bl (!decide (c ∈ z.cps.toList))) H
def rInU (K : PySem.W.Frag) : R2 := fun x y H Q => rInC x y H Q ∨ rIn K false x y H Q ∨ rInD x y H Q
theorem u_in (hu : X.A.units + 1 < cLine) : OpR X (compareOp .In) (rInU X.K) := OpR.or op_in_sign (OpR.or op_in_seq (op_in_dict hu))
def rNinU (K : PySem.W.Frag) : R2 := fun x y H Q => rNinC x y H Q ∨ rIn K true x y H Q ∨ rNinD x y H Q
theorem u_nin (hu : X.A.units + 1 < cLine) : OpR X (compareOp .NotIn) (rNinU X.K) := OpR.or op_notIn_sign (OpR.or op_notIn_seq (op_nin_dict hu))

def rSlU (K : PySem.W.Frag) : V → Option Int → Option Int → Hp → VK → Prop := fun x lo hi H Q => rSlL K x lo hi H Q ∨ rSlT K x lo hi H Q ∨ rSlS x lo hi H Q
theorem sl_uni : SlR X (rSlU X.K) := SlR.or sl_list (SlR.or sl_tup sl_str)

/-! what is walked: a list, a tuple, a text -/
def iAny (K : PySem.W.Frag) (tl : TE) : TI := fun σ H R => tl σ H fun x H1 => (∃ a xs, x = .ref a ∧ SqL K H1 a xs ∧ R (Itl K a) H1) ∨ (∃ a xs, x = .ref a ∧ SqT K H1 a xs ∧ R (Itt K a) H1) ∨ ∃ z, x = .str z ∧ R (Its z) H1
theorem run_or3 {α : Type} {P1 P2 P3 : Prop} (h : P1 ∨ P2 ∨ P3) {C : Prop} (h1 : P1 → C) (h2 : P2 → C) (h3 : P3 → C) : C := by
  rcases h with h | h | h
  · exact h1 h
  · exact h2 h
  · exact h3 h
/-- a value already there, for the three rules of the library -/
theorem pi_any {tg l : Expr} {tl : TE} (hl : PE X l tl) : PI X tg l (iAny X.K tl) := by
  refine ⟨fun pins s σ H R I h => ?_⟩
  refine thn (hl.run pins s σ H _ I h) fun v s1 ⟨x, H1, I1, r1, q1⟩ => ?_
  rcases q1 with ⟨a, xs, e, hq, q⟩ | ⟨a, xs, e, hq, q⟩ | ⟨z, e, q⟩
  · subst e
    cases r1
    obtain ⟨its, rv, p, hz⟩ := I1.list hq
    refine wpAny_pyIter_list p.isList ?_
    refine ⟨s1.heap.objs.size, [s1.heap.objs.size], _, _, H1, rfl, I1.kept (t' := s1.toks) fun b o e => Heap.get?_push_of_some _ e, turn_list a _, ⟨_, Heap.get?_push_size _ rfl, rfl, rfl⟩, fun b hb => ?_, q⟩
    have e : b = s1.heap.objs.size := by simpa using hb
    subst e
    exact I1.fpOk (Nat.le_refl _) (I1.hok.fresh (Nat.le_refl _))
  · subst e
    cases r1
    obtain ⟨its, rv, p, hz⟩ := I1.tuple hq
    refine wpAny_pyIter_tuple (show s1.heap.IsTuple a its.toArray from p) ?_
    refine ⟨s1.heap.objs.size, [s1.heap.objs.size], _, _, H1, rfl, I1.kept (t' := s1.toks) fun b o e => Heap.get?_push_of_some _ e, turn_tuple a _, ⟨_, Heap.get?_push_size _ rfl, rfl, rfl⟩, fun b hb => ?_, q⟩
    have e : b = s1.heap.objs.size := by simpa using hb
    subst e
    exact I1.fpOk (Nat.le_refl _) (I1.hok.fresh (Nat.le_refl _))
  · subst e
    obtain ⟨t, rfl⟩ := r1
    cases ha : z.cps.all (· < 128)
    · exact wpAny_pyIter_wide ha (pi_one (tk := s1.toks) I1 _ (turn_str _ z t "str_iterator" (.inr rfl)) ⟨_, Heap.get?_push_size _ rfl, rfl, rfl⟩ q)
    · exact wpAny_pyIter_ascii ha (pi_one (tk := s1.toks) I1 _ (turn_str _ z t "str_ascii_iterator" (.inl rfl)) ⟨_, Heap.get?_push_size _ rfl, rfl, rfl⟩ q)
end
end GK

/-! data, what stands for data in the heap, what evaluates to what -/
namespace GK
open PySem PySem.Spec PyProof.Rows L2
/-! what may change: N in the heaps' relation, M in the facts (no fact leans on an object of M) -/
structure Md where
  N : Addr → Prop
  M : Addr → Prop
  sub : ∀ a, N a → M a
  /-- a well: a list of two ints, and so it stays -/
  W : Addr → Prop
def IsW : HO → Prop := fun o => ∃ i j : Int, o = .lst [.int i, .int j]
/-- nothing changes -/
def Md.pure (M : Addr → Prop) : Md := ⟨fun _ => False, M, fun _ h => h.elim, fun _ => False⟩
/-- p may change -/
def Md.one (M : Addr → Prop) (p : Addr) (h : M p) : Md := ⟨fun a => a = p, M, fun a e => e ▸ h, fun _ => False⟩
/-- the well at p may change -/
def Md.well (M : Addr → Prop) (p : Addr) : Md := ⟨fun a => a = p, fun a => M a ∨ a = p, fun a e => .inr e, fun a => a = p⟩
/-- what may change is there -/
def Dm (m : Md) (H : Hp) : Prop := ∀ a, m.M a → H a ≠ none
structure G (m : Md) (H H1 : Hp) : Prop where
  dm : Dm m H1
  st : ∀ a o, ¬ m.N a → H a = some o → H1 a = some o
  th : ∀ a o, H a = some o → ∃ o', H1 a = some o' ∧ (m.W a → IsW o → IsW o')
section
variable {m m1 : Md} {H H1 H2 : Hp} {p : Addr} {o : HO}
theorem G.rf (h : Dm m H) : G m H H := ⟨h, fun a o _ h => h, fun a o h => ⟨o, h, fun _ z => z⟩⟩
theorem G.r1 (g : G m H H1) : G m H1 H1 := G.rf g.dm
theorem G.trans (g : G m H H1) (g1 : G m H1 H2) : G m H H2 := ⟨g1.dm, fun a o n h => g1.st a o n (g.st a o n h), fun a o h => by
  obtain ⟨o1, h1, w1⟩ := g.th a o h
  obtain ⟨o2, h2, w2⟩ := g1.th a o1 h1
  exact ⟨o2, h2, fun w i => w2 w (w1 w i)⟩⟩
theorem G.free (g : G m H H1) (h : H1 p = none) : H p = none := by
  cases e : H p with
  | none => rfl
  | some o =>
    obtain ⟨o1, h1, _⟩ := g.th p o e
    rw [h1] at h; cases h
theorem Dm.upd (h : Dm m H) : Dm m (upd H p o) := fun a ha e => by
  by_cases q : a = p
  · subst q; rw [upd_same] at e; cases e
  · rw [upd_ne q] at e; exact h a ha e
theorem Dm.out (h : Dm m H) (e : H p = none) : ¬ m.M p := fun z => h p z e
theorem G.out (g : G m H H1) (e : H1 p = none) : ¬ m.M p := g.dm.out e
theorem G.mut (g : G m H H1) (h : H p = none) : G m H (upd H1 p o) := ⟨g.dm.upd, fun a u n e => by
  rw [upd_ne (ne_of_none e h)]
  exact g.st a u n e, fun a u e => by
  rw [upd_ne (ne_of_none e h)]
  exact g.th a u e⟩
theorem G.new (g : G m H H1) (h : H1 p = none) : G m H1 (upd H1 p o) := g.r1.mut h
theorem Dm.ex (d : Dm m H) (e : ∀ a o, H a = some o → H1 a = some o) : Dm m H1 := fun a ha n => by
  cases q : H a with
  | none => exact d a ha q
  | some o =>
    rw [e a o q] at n
    cases n
theorem G.all (d : Dm m H) (e : ∀ a o, H a = some o → H1 a = some o) : G m H H1 := ⟨d.ex e, fun a o _ h => e a o h, fun a o h => ⟨o, e a o h, fun _ z => z⟩⟩
theorem G.ex {M : Addr → Prop} (g : G (Md.pure M) H H1) : ∀ a o, H a = some o → H1 a = some o := fun a o h => g.st a o (fun z => z) h
/-- an object that may change is changed -/
theorem G.put (g : G m H H1) (n : m.N p) (w : m.W p → IsW o := by exact fun z => z.elim) : G m H (upd H1 p o) := ⟨g.dm.upd, fun a u na e => by
  have q : a ≠ p := fun z => na (z ▸ n)
  rw [upd_ne q]
  exact g.st a u na e, fun a u e => by
  by_cases q : a = p
  · subst q; exact ⟨_, upd_same, fun z _ => w z⟩
  · rw [upd_ne q]; exact g.th a u e⟩
end

/-! data -/
inductive D where
  | s (x : V) | t (ds : List D) | l (ds : List D) | d (ks : List Key) (ds : List D) | i (C : Addr) (fs : List Str) (ds : List D)

def RdM (M : Addr → Prop) (H : Hp) (p : Addr) (u : HO) : Prop := ¬ M p ∧ Rd H p u
def KTup (K : PySem.W.Frag) (a : Addr) (xs : List V) : Prop := ∃ (o : Obj) (its : Array Value) (n : Nat), K.lookup a = some o ∧ o.cls = .type "tuple" ∧ o.data = .seq its n ∧ its.size ≤ sizeLine ∧ Vals xs its.toList
def KLst (K : PySem.W.Frag) (a : Addr) (xs : List V) : Prop := ∃ (o : Obj) (its : Array Value) (n : Nat), K.lookup a = some o ∧ o.cls = .type "list" ∧ o.dict = none ∧ o.data = .seq its n ∧ its.size ≤ sizeLine ∧ Vals xs its.toList
def StT (M : Addr → Prop) (K : PySem.W.Frag) (H : Hp) (p : Addr) (xs : List V) : Prop := RdM M H p (.tup xs) ∨ KTup K p xs
def StL (M : Addr → Prop) (K : PySem.W.Frag) (H : Hp) (p : Addr) (xs : List V) : Prop := RdM M H p (.lst xs) ∨ KLst K p xs
def StD (M : Addr → Prop) (H : Hp) (p : Addr) (kvs : List (Key × V)) : Prop := RdM M H p (.dK kvs)
def StI (M : Addr → Prop) (H : Hp) (p C dx : Addr) (kvs : List (Str × V)) : Prop := ¬ M p ∧ H p = some (.ins C dx kvs)
/-- the fields of an instance, and no others -/
def FsOk (fs : List Str) (kvs : List (Str × V)) (xs : List V) : Prop := (∀ (j : Nat) f x, fs[j]? = some f → xs[j]? = some x → kvs.lookup f = some x) ∧ ∀ f, f ∉ fs → kvs.lookup f = none
mutual
def Rep (M : Addr → Prop) (K : PySem.W.Frag) (H : Hp) : D → V → Prop
  | .s x, v => v = x
  | .t ds, v => ∃ p xs, v = .ref p ∧ StT M K H p xs ∧ Reps M K H ds xs
  | .l ds, v => ∃ p xs, v = .ref p ∧ StL M K H p xs ∧ Reps M K H ds xs
  | .d ks ds, v => ∃ p xs, v = .ref p ∧ StD M H p (ks.zip xs) ∧ ks.length = ds.length ∧ Reps M K H ds xs
  | .i C fs ds, v => ∃ p dx kvs xs, v = .ref p ∧ StI M H p C dx kvs ∧ FsOk fs kvs xs ∧ Reps M K H ds xs
def Reps (M : Addr → Prop) (K : PySem.W.Frag) (H : Hp) : List D → List V → Prop
  | [], xs => xs = []
  | d :: ds, xs => ∃ x r, xs = x :: r ∧ Rep M K H d x ∧ Reps M K H ds r
end
section
variable {m : Md} {K : PySem.W.Frag} {H H1 H2 : Hp} {p : Addr} {xs : List V} {ds : List D} {d : D} {v x : V}
theorem RdM.mono {u : HO} (g : G m H H1) (h : RdM m.M H p u) : RdM m.M H1 p u := ⟨h.1, by
  have n : ¬ m.N p := fun z => h.1 (m.sub p z)
  rcases h.2 with e | ⟨o, e⟩
  · exact .inl (g.st p _ n e)
  · exact .inr ⟨o, g.st p _ n e⟩⟩
theorem StT.mono (g : G m H H1) (h : StT m.M K H p xs) : StT m.M K H1 p xs := h.imp (RdM.mono g) id
theorem StL.mono (g : G m H H1) (h : StL m.M K H p xs) : StL m.M K H1 p xs := h.imp (RdM.mono g) id
theorem StD.mono {kvs : List (Key × V)} (g : G m H H1) (h : StD m.M H p kvs) : StD m.M H1 p kvs := RdM.mono g h
theorem StI.mono {C dx : Addr} {kvs : List (Str × V)} (g : G m H H1) (h : StI m.M H p C dx kvs) : StI m.M H1 p C dx kvs := ⟨h.1, g.st p _ (fun z => h.1 (m.sub p z)) h.2⟩
theorem StT.here {M : Addr → Prop} (h : StT M K H p xs) : SqT K H p xs := h.imp (fun h => h.2) id
theorem StL.here {M : Addr → Prop} (h : StL M K H p xs) : SqL K H p xs := h.imp (fun h => h.2) id
theorem StT.of {M : Addr → Prop} (h : H p = some (.tup xs)) (s : ¬ M p) : StT M K H p xs := .inl ⟨s, .inl h⟩
theorem StL.of {M : Addr → Prop} (h : H p = some (.lst xs)) (s : ¬ M p) : StL M K H p xs := .inl ⟨s, .inl h⟩
theorem StD.of {M : Addr → Prop} {kvs : List (Key × V)} (h : H p = some (.dK kvs)) (s : ¬ M p) : StD M H p kvs := ⟨s, .inl h⟩
theorem StI.of {M : Addr → Prop} {C dx : Addr} {kvs : List (Str × V)} (h : H p = some (.ins C dx kvs)) (s : ¬ M p) : StI M H p C dx kvs := ⟨s, h⟩
mutual
theorem Rep.mono (g : G m H H1) : ∀ {d : D} {v : V}, Rep m.M K H d v → Rep m.M K H1 d v
  | .s _, _, h => by
    unfold Rep at h ⊢
    exact h
  | .t ds, _, h => by
    unfold Rep at h ⊢
    obtain ⟨p, xs, e, st, r⟩ := h
    exact ⟨p, xs, e, st.mono g, Reps.mono g r⟩
  | .l ds, _, h => by
    unfold Rep at h ⊢
    obtain ⟨p, xs, e, st, r⟩ := h
    exact ⟨p, xs, e, st.mono g, Reps.mono g r⟩
  | .d ks ds, _, h => by
    unfold Rep at h ⊢
    obtain ⟨p, xs, e, st, l, r⟩ := h
    exact ⟨p, xs, e, st.mono g, l, Reps.mono g r⟩
  | .i C fs ds, _, h => by
    unfold Rep at h ⊢
    obtain ⟨p, dx, kvs, xs, e, st, l, r⟩ := h
    exact ⟨p, dx, kvs, xs, e, st.mono g, l, Reps.mono g r⟩
theorem Reps.mono (g : G m H H1) : ∀ {ds : List D} {xs : List V}, Reps m.M K H ds xs → Reps m.M K H1 ds xs
  | [], _, h => by
    unfold Reps at h ⊢
    exact h
  | d :: ds, _, h => by
    unfold Reps at h ⊢
    obtain ⟨x, r, e, h1, h2⟩ := h
    exact ⟨x, r, e, Rep.mono g h1, Reps.mono g h2⟩
end
theorem rep_s {x v : V} : Rep m.M K H (.s x) v ↔ v = x := by unfold Rep; exact Iff.rfl
theorem rep_t {v : V} : Rep m.M K H (.t ds) v ↔ ∃ p xs, v = .ref p ∧ StT m.M K H p xs ∧ Reps m.M K H ds xs := by unfold Rep; exact Iff.rfl
theorem rep_l {v : V} : Rep m.M K H (.l ds) v ↔ ∃ p xs, v = .ref p ∧ StL m.M K H p xs ∧ Reps m.M K H ds xs := by unfold Rep; exact Iff.rfl
theorem rep_d {v : V} {ks : List Key} : Rep m.M K H (.d ks ds) v ↔ ∃ p xs, v = .ref p ∧ StD m.M H p (ks.zip xs) ∧ ks.length = ds.length ∧ Reps m.M K H ds xs := by unfold Rep; exact Iff.rfl
theorem rep_i {v : V} {C : Addr} {fs : List Str} : Rep m.M K H (.i C fs ds) v ↔ ∃ p dx kvs xs, v = .ref p ∧ StI m.M H p C dx kvs ∧ FsOk fs kvs xs ∧ Reps m.M K H ds xs := by unfold Rep; exact Iff.rfl
theorem reps_nil : Reps m.M K H [] xs ↔ xs = [] := by unfold Reps; exact Iff.rfl
theorem reps_cons : Reps m.M K H (d :: ds) xs ↔ ∃ x r, xs = x :: r ∧ Rep m.M K H d x ∧ Reps m.M K H ds r := by
  constructor
  · intro h; unfold Reps at h; exact h
  · intro h; unfold Reps; exact h
theorem Reps.nil : Reps m.M K H [] [] := reps_nil.mpr rfl
theorem Reps.cons (h : Rep m.M K H d x) (r : Reps m.M K H ds xs) : Reps m.M K H (d :: ds) (x :: xs) := reps_cons.mpr ⟨x, xs, rfl, h, r⟩
theorem Reps.len : ∀ {ds : List D} {xs : List V}, Reps m.M K H ds xs → xs.length = ds.length
  | [], _, h => by rw [reps_nil.mp h]; rfl
  | d :: ds, _, h => by
    obtain ⟨x, r, rfl, _, h2⟩ := reps_cons.mp h
    rw [List.length_cons, List.length_cons, Reps.len h2]
theorem Reps.get : ∀ {ds : List D} {xs : List V} {j : Nat} {d : D}, Reps m.M K H ds xs → ds[j]? = some d → ∃ x, xs[j]? = some x ∧ Rep m.M K H d x
  | [], _, _, _, _, e => by simp at e
  | d :: ds, _, 0, _, h, e => by
    obtain ⟨x, r, rfl, h1, _⟩ := reps_cons.mp h
    have e' : d = _ := Option.some.inj e
    subst e'
    exact ⟨x, rfl, h1⟩
  | d :: ds, _, j + 1, _, h, e => by
    obtain ⟨x, r, rfl, _, h2⟩ := reps_cons.mp h
    obtain ⟨y, h3, h4⟩ := Reps.get (j := j) h2 e
    exact ⟨y, h3, h4⟩
theorem Reps.get' : ∀ {ds : List D} {xs : List V} {j : Nat} {x : V}, Reps m.M K H ds xs → xs[j]? = some x → ∃ d, ds[j]? = some d ∧ Rep m.M K H d x
  | [], _, _, _, h, e => by rw [reps_nil.mp h] at e; simp at e
  | d :: ds, _, 0, _, h, e => by
    obtain ⟨x, r, rfl, h1, _⟩ := reps_cons.mp h
    have e' : x = _ := Option.some.inj e
    subst e'
    exact ⟨d, rfl, h1⟩
  | d :: ds, _, j + 1, _, h, e => by
    obtain ⟨x, r, rfl, _, h2⟩ := reps_cons.mp h
    obtain ⟨y, h3, h4⟩ := Reps.get' (j := j) h2 e
    exact ⟨y, h3, h4⟩
theorem Reps.app : ∀ {ds es : List D} {xs ys : List V}, Reps m.M K H ds xs → Reps m.M K H es ys → Reps m.M K H (ds ++ es) (xs ++ ys)
  | [], _, _, _, h, h' => by rw [reps_nil.mp h]; exact h'
  | d :: ds, _, _, _, h, h' => by
    obtain ⟨x, r, rfl, h1, h2⟩ := reps_cons.mp h
    exact Reps.cons h1 (Reps.app h2 h')
theorem Reps.snoc (h : Reps m.M K H ds xs) (h1 : Rep m.M K H d x) : Reps m.M K H (ds ++ [d]) (xs ++ [x]) := h.app (Reps.cons h1 Reps.nil)
theorem Reps.drop : ∀ {ds : List D} {xs : List V} (n : Nat), Reps m.M K H ds xs → Reps m.M K H (ds.drop n) (xs.drop n)
  | _, _, 0, h => h
  | [], _, n + 1, h => by rw [reps_nil.mp h]; exact Reps.nil
  | d :: ds, _, n + 1, h => by
    obtain ⟨x, r, rfl, _, h2⟩ := reps_cons.mp h
    exact Reps.drop n h2
theorem Reps.take : ∀ {ds : List D} {xs : List V} (n : Nat), Reps m.M K H ds xs → Reps m.M K H (ds.take n) (xs.take n)
  | _, _, 0, _ => Reps.nil
  | [], _, n + 1, h => by rw [reps_nil.mp h]; exact Reps.nil
  | d :: ds, _, n + 1, h => by
    obtain ⟨x, r, rfl, h1, h2⟩ := reps_cons.mp h
    exact Reps.cons h1 (Reps.take n h2)
/-- scalars -/
theorem reps_s : ∀ {ys xs : List V}, Reps m.M K H (ys.map D.s) xs ↔ xs = ys
  | [], _ => reps_nil
  | y :: ys, xs => by
    rw [List.map_cons, reps_cons]
    constructor
    · rintro ⟨x, r, rfl, h1, h2⟩
      rw [rep_s.mp h1, reps_s.mp h2]
    · rintro rfl
      exact ⟨y, ys, rfl, rep_s.mpr rfl, reps_s.mpr rfl⟩
end
abbrev dI (i : Int) : D := .s (.int i)
abbrev dS (x : Str) : D := .s (.str x)
abbrev dB (b : Bool) : D := .s (.bl b)
abbrev dN : D := .s .non
section
variable {m : Md} {K : PySem.W.Frag} {H H1 H2 : Hp} {p : Addr} {xs : List V}
theorem reps_int {ns : List Int} : Reps m.M K H (ns.map dI) xs ↔ xs = ns.map V.int := by
  have e : ns.map dI = (ns.map V.int).map D.s := by rw [List.map_map]; rfl
  rw [e]; exact reps_s
theorem reps_str {ns : List Str} : Reps m.M K H (ns.map dS) xs ↔ xs = ns.map V.str := by
  have e : ns.map dS = (ns.map V.str).map D.s := by rw [List.map_map]; rfl
  rw [e]; exact reps_s
theorem reps_bl {ns : List Bool} : Reps m.M K H (ns.map dB) xs ↔ xs = ns.map V.bl := by
  have e : ns.map dB = (ns.map V.bl).map D.s := by rw [List.map_map]; rfl
  rw [e]; exact reps_s
end

/-! ### what evaluates to what -/
section
variable (m : Md) (K : PySem.W.Frag)
/-- te evaluates to something of which P holds -/
def EvP (te : TE) (σ : L2.St) (H : Hp) (P : V → Hp → Prop) : Prop := ∀ H1, G m H H1 → ∀ Q : VK, (∀ v H2, G m H1 H2 → P v H2 → Q v H2) → te σ H1 Q
def EvD (te : TE) (σ : L2.St) (H : Hp) (d : D) : Prop := EvP m te σ H fun v H2 => Rep m.M K H2 d v
/-- a new list, not known before -/
def EvL (te : TE) (σ : L2.St) (H : Hp) (ds : List D) : Prop := EvP m te σ H fun v H2 => ∃ p xs, v = .ref p ∧ H p = none ∧ ¬ m.M p ∧ H2 p = some (.lst xs) ∧ Reps m.M K H2 ds xs
def EvT (tt : TT) (σ : L2.St) (H : Hp) (b : Bool) : Prop := ∀ H1, G m H H1 → ∀ Q : Bool → Hp → Prop, (∀ H2, G m H1 H2 → Q b H2) → tt σ H1 Q
def EvA (ta : TA) (σ : L2.St) (H : Hp) (ds : List D) : Prop := ∀ H1, G m H H1 → ∀ Q : List V → Hp → Prop, (∀ vs H2, G m H1 H2 → Reps m.M K H2 ds vs → Q vs H2) → ta σ H1 Q
def EvO (to : TO) (σ : L2.St) (H : Hp) (o : Option Int) : Prop := ∀ H1, G m H H1 → ∀ Q : Option Int → Hp → Prop, (∀ H2, G m H1 H2 → Q o H2) → to σ H1 Q
def OpD (r : R2) (d1 d2 : D) (H : Hp) (d : D) : Prop := ∀ v1 v2 H1, G m H H1 → Rep m.M K H1 d1 v1 → Rep m.M K H1 d2 v2 → ∀ Q : VK, (∀ v H2, G m H1 H2 → Rep m.M K H2 d v → Q v H2) → r v1 v2 H1 Q
def UnD (r : V → Hp → VK → Prop) (d1 : D) (H : Hp) (d : D) : Prop := ∀ v1 H1, G m H H1 → Rep m.M K H1 d1 v1 → ∀ Q : VK, (∀ v H2, G m H1 H2 → Rep m.M K H2 d v → Q v H2) → r v1 H1 Q
def CallD (r : List V → Hp → VK → Prop) (ds : List D) (H : Hp) (d : D) : Prop := ∀ vs H1, G m H H1 → Reps m.M K H1 ds vs → ∀ Q : VK, (∀ v H2, G m H1 H2 → Rep m.M K H2 d v → Q v H2) → r vs H1 Q
def CallP (r : List V → Hp → VK → Prop) (ds : List D) (H : Hp) (P : V → Hp → Prop) : Prop := ∀ vs H1, G m H H1 → Reps m.M K H1 ds vs → ∀ Q : VK, (∀ v H2, G m H1 H2 → P v H2 → Q v H2) → r vs H1 Q
def SlD (r : V → Option Int → Option Int → Hp → VK → Prop) (d1 : D) (lo hi : Option Int) (H : Hp) (d : D) : Prop := ∀ v1 H1, G m H H1 → Rep m.M K H1 d1 v1 → ∀ Q : VK, (∀ v H2, G m H1 H2 → Rep m.M K H2 d v → Q v H2) → r v1 lo hi H1 Q
end
section
variable {m : Md} {K : PySem.W.Frag} {σ : L2.St} {H H' : Hp} {ta tb tc te : TE} {t u : TT} {d d1 d2 d3 : D} {ds es : List D} {v x y : V} {r : R2} {P : V → Hp → Prop}
theorem EvP.mono (g : G m H H') (h : EvP m te σ H P) : EvP m te σ H' P := fun H1 a Q q => h H1 (g.trans a) Q q
theorem EvD.mono (g : G m H H') (h : EvD m K te σ H d) : EvD m K te σ H' d := fun H1 a Q q => h H1 (g.trans a) Q q
theorem EvT.mono {b : Bool} (g : G m H H') (h : EvT m t σ H b) : EvT m t σ H' b := fun H1 a Q q => h H1 (g.trans a) Q q
theorem EvA.mono {ta : TA} (g : G m H H') (h : EvA m K ta σ H ds) : EvA m K ta σ H' ds := fun H1 a Q q => h H1 (g.trans a) Q q
theorem EvP.run (dm : Dm m H) (h : EvP m te σ H P) {Q : VK} (k : ∀ v H2, G m H H2 → P v H2 → Q v H2) : te σ H Q := h H (G.rf dm) Q k
theorem EvD.run (dm : Dm m H) (h : EvD m K te σ H d) {Q : VK} (k : ∀ v H2, G m H H2 → Rep m.M K H2 d v → Q v H2) : te σ H Q := h H (G.rf dm) Q k
theorem EvD.is {d' : D} (h : EvD m K te σ H d) (e : d = d') : EvD m K te σ H d' := e ▸ h
theorem EvT.is {b b' : Bool} (h : EvT m t σ H b) (e : b = b') : EvT m t σ H b' := e ▸ h
/-! names, constants -/
theorem ev_var {i : Nat} (h : σ[i]? = some (some v)) (r : Rep m.M K H d v) : EvD m K (tVar i) σ H d := fun H1 g Q q => ⟨v, h, q v H1 g.r1 (r.mono g)⟩
theorem ev_vs {i : Nat} (h : σ[i]? = some (some v)) : EvD m K (tVar i) σ H (.s v) := ev_var h (rep_s.mpr rfl)
theorem ev_c : EvD m K (tC v) σ H (.s v) := fun H1 g Q q => q v H1 g.r1 (rep_s.mpr rfl)
theorem ev_cD (r : Rep m.M K H d v) : EvD m K (tC v) σ H d := fun H1 g Q q => q v H1 g.r1 (r.mono g)
/-! operators -/
theorem ev_op (ha : EvD m K ta σ H d1) (hb : EvD m K tb σ H d2) (ho : OpD m K r d1 d2 H d) : EvD m K (tOp r ta tb) σ H d := fun H1 g Q q =>
  ha H1 g _ fun x H2 g2 rx => hb H2 (g.trans g2) _ fun y H3 g3 ry => ho x y H3 ((g.trans g2).trans g3) (rx.mono g3) ry Q fun z H4 g4 rz => q z H4 ((g2.trans g3).trans g4) rz
theorem ev_un {r : V → Hp → VK → Prop} (ha : EvD m K ta σ H d1) (ho : UnD m K r d1 H d) : EvD m K (tUn r ta) σ H d := fun H1 g Q q =>
  ha H1 g _ fun x H2 g2 rx => ho x H2 (g.trans g2) rx Q fun z H4 g4 rz => q z H4 (g2.trans g4) rz
theorem OpD.of2 (h : ∀ v1 v2 H1, G m H H1 → Rep m.M K H1 d1 v1 → Rep m.M K H1 d2 v2 → ∀ Q : VK, (∀ v, Rep m.M K H1 d v → Q v H1) → r v1 v2 H1 Q) : OpD m K r d1 d2 H d :=
  fun v1 v2 H1 g r1 r2 Q q => h v1 v2 H1 g r1 r2 Q fun v rv => q v H1 g.r1 rv
theorem opd_addI {i j : Int} : OpD m K rAddU (dI i) (dI j) H (dI (i + j)) := .of2 fun v1 v2 H1 g r1 r2 Q q => by
  rw [rep_s.mp r1, rep_s.mp r2]
  exact .inl ⟨i, j, rfl, rfl, q _ (rep_s.mpr rfl)⟩
theorem opd_addS {i j : Str} (hl : i.length + j.length ≤ sizeLine) : OpD m K rAddU (dS i) (dS j) H (dS (i ++ j)) := .of2 fun v1 v2 H1 g r1 r2 Q q => by
  rw [rep_s.mp r1, rep_s.mp r2]
  exact .inr (.inl ⟨i, j, rfl, rfl, hl, q _ (rep_s.mpr rfl)⟩)
theorem opd_sub {i j : Int} : OpD m K rSubU (dI i) (dI j) H (dI (i - j)) := .of2 fun v1 v2 H1 g r1 r2 Q q => by
  rw [rep_s.mp r1, rep_s.mp r2]
  exact ⟨i, j, rfl, rfl, q _ (rep_s.mpr rfl)⟩
theorem opd_mul {i j : Int} (hc : CMul i j) : OpD m K rMulU (dI i) (dI j) H (dI (i * j)) := .of2 fun v1 v2 H1 g r1 r2 Q q => by
  rw [rep_s.mp r1, rep_s.mp r2]
  exact ⟨i, j, rfl, rfl, hc, q _ (rep_s.mpr rfl)⟩
theorem opd_mod {i j : Int} (hc : 0 < j) : OpD m K rModU (dI i) (dI j) H (dI (i % j)) := .of2 fun v1 v2 H1 g r1 r2 Q q => by
  rw [rep_s.mp r1, rep_s.mp r2]
  exact ⟨i, j, rfl, rfl, hc, q _ (rep_s.mpr rfl)⟩
theorem opd_div {i j : Int} (hc : CDiv i j) : OpD m K rDivU (dI i) (dI j) H (dI (i / j)) := .of2 fun v1 v2 H1 g r1 r2 Q q => by
  rw [rep_s.mp r1, rep_s.mp r2]
  exact ⟨i, j, rfl, rfl, hc, q _ (rep_s.mpr rfl)⟩
theorem opd_pow {i j : Int} (hc : CPow i j) : OpD m K rPowU (dI i) (dI j) H (dI (i ^ j.toNat)) := .of2 fun v1 v2 H1 g r1 r2 Q q => by
  rw [rep_s.mp r1, rep_s.mp r2]
  exact ⟨i, j, rfl, rfl, hc, q _ (rep_s.mpr rfl)⟩
theorem und_neg {i : Int} : UnD m K rNegU (dI i) H (dI (-i)) := fun v1 H1 g r1 Q q => by
  rw [rep_s.mp r1]
  exact ⟨i, rfl, q _ H1 g.r1 (rep_s.mpr rfl)⟩
/-! comparisons -/
theorem opd_ltI {i j : Int} : OpD m K rLtU (dI i) (dI j) H (dB (decide (i < j))) := .of2 fun v1 v2 H1 g r1 r2 Q q => by
  rw [rep_s.mp r1, rep_s.mp r2]
  exact .inl ⟨i, j, rfl, rfl, q _ (rep_s.mpr rfl)⟩
theorem opd_ltS {i j : Str} : OpD m K rLtU (dS i) (dS j) H (dB (decide (i.cps.toList < j.cps.toList))) := .of2 fun v1 v2 H1 g r1 r2 Q q => by
  rw [rep_s.mp r1, rep_s.mp r2]
  exact .inr ⟨i, j, rfl, rfl, q _ (rep_s.mpr rfl)⟩
theorem opd_le {i j : Int} : OpD m K rLeU (dI i) (dI j) H (dB (decide (i ≤ j))) := .of2 fun v1 v2 H1 g r1 r2 Q q => by
  rw [rep_s.mp r1, rep_s.mp r2]
  exact ⟨i, j, rfl, rfl, q _ (rep_s.mpr rfl)⟩
theorem opd_gt {i j : Int} : OpD m K rGtU (dI i) (dI j) H (dB (decide (j < i))) := .of2 fun v1 v2 H1 g r1 r2 Q q => by
  rw [rep_s.mp r1, rep_s.mp r2]
  exact ⟨i, j, rfl, rfl, q _ (rep_s.mpr rfl)⟩
theorem opd_ge {i j : Int} : OpD m K rGeU (dI i) (dI j) H (dB (decide (j ≤ i))) := .of2 fun v1 v2 H1 g r1 r2 Q q => by
  rw [rep_s.mp r1, rep_s.mp r2]
  exact ⟨i, j, rfl, rfl, q _ (rep_s.mpr rfl)⟩
theorem opd_eq {x y : V} (h : scal x y = true) : OpD m K (rEqU K) (.s x) (.s y) H (dB (decide (x = y))) := .of2 fun v1 v2 H1 g r1 r2 Q q => by
  rw [rep_s.mp r1, rep_s.mp r2]
  exact .inl ⟨h, q _ (rep_s.mpr rfl)⟩
theorem opd_ne {x y : V} (h : scal x y = true) : OpD m K (rNeU K) (.s x) (.s y) H (dB (!decide (x = y))) := .of2 fun v1 v2 H1 g r1 r2 Q q => by
  rw [rep_s.mp r1, rep_s.mp r2]
  exact .inl ⟨h, q _ (rep_s.mpr rfl)⟩
/-- is this datum None -/
def isN : D → Bool
  | .s .non => true
  | _ => false
theorem rep_isN {d : D} {v : V} (r : Rep m.M K H d v) : decide (v = .non) = isN d := by
  cases d with
  | s x =>
    rw [rep_s.mp r]
    cases x <;> first | rfl | simp [isN]
  | t ds => obtain ⟨p, xs, rfl, _⟩ := rep_t.mp r; simp [isN]
  | l ds => obtain ⟨p, xs, rfl, _⟩ := rep_l.mp r; simp [isN]
  | d ks ds => obtain ⟨p, xs, rfl, _⟩ := rep_d.mp r; simp [isN]
  | i C fs ds => obtain ⟨p, dx, kvs, xs, rfl, _⟩ := rep_i.mp r; simp [isN]
theorem opd_is : OpD m K rIsU d dN H (dB (isN d)) := .of2 fun v1 v2 H1 g r1 r2 Q q => by
  rw [rep_s.mp r2]
  exact ⟨rfl, by rw [rep_isN r1]; exact q _ (rep_s.mpr rfl)⟩
theorem opd_isnot : OpD m K rIsNotU d dN H (dB (!isN d)) := .of2 fun v1 v2 H1 g r1 r2 Q q => by
  rw [rep_s.mp r2]
  exact ⟨rfl, by rw [rep_isN r1]; exact q _ (rep_s.mpr rfl)⟩
theorem opd_inC {c : Nat} {z : Str} : OpD m K (rInU K) (dS ⟨#[c]⟩) (dS z) H (dB (decide (c ∈ z.cps.toList))) := .of2 fun v1 v2 H1 g r1 r2 Q q => by
  rw [rep_s.mp r1, rep_s.mp r2]
  exact .inl ⟨c, z, rfl, rfl, q _ (rep_s.mpr rfl)⟩
theorem opd_ninC {c : Nat} {z : Str} : OpD m K (rNinU K) (dS ⟨#[c]⟩) (dS z) H (dB (!decide (c ∈ z.cps.toList))) := .of2 fun v1 v2 H1 g r1 r2 Q q => by
  rw [rep_s.mp r1, rep_s.mp r2]
  exact .inl ⟨c, z, rfl, rfl, q _ (rep_s.mpr rfl)⟩
theorem opd_inT {x : V} {ys : List V} (hx : flatV x = true) (hy : ys.all flatV = true) : OpD m K (rInU K) (.s x) (.t (ys.map D.s)) H (dB (inV x ys)) := .of2 fun v1 v2 H1 g r1 r2 Q q => by
  obtain ⟨p, xs, rfl, st, rs⟩ := rep_t.mp r2
  rw [rep_s.mp r1]
  rw [reps_s.mp rs] at st
  exact .inr (.inl ⟨p, ys, rfl, .inr st.here, hx, hy, q _ (rep_s.mpr rfl)⟩)
theorem opd_ninT {x : V} {ys : List V} (hx : flatV x = true) (hy : ys.all flatV = true) : OpD m K (rNinU K) (.s x) (.t (ys.map D.s)) H (dB (!inV x ys)) := .of2 fun v1 v2 H1 g r1 r2 Q q => by
  obtain ⟨p, xs, rfl, st, rs⟩ := rep_t.mp r2
  rw [rep_s.mp r1]
  rw [reps_s.mp rs] at st
  exact .inr (.inl ⟨p, ys, rfl, .inr st.here, hx, hy, q _ (rep_s.mpr rfl)⟩)
theorem dget_of {kvs : List (Key × V)} {k : Key} {p : Addr} (h : Rd H p (.dK kvs)) : DGet H p (kV k) (valV kvs k) := .inl ⟨kvs, k, h, rfl, rfl⟩
def inK (k : Key) (ks : List Key) : Bool := ks.any fun q => decide (q = k)
theorem inK_cons {a k : Key} {r : List Key} : inK k (a :: r) = (decide (a = k) || inK k r) := by unfold inK; rw [List.any_cons]
theorem zip_val {ks : List Key} {xs : List V} : ks.length = xs.length → ∀ {k : Key}, (valV (ks.zip xs) k).isSome = inK k ks := by
  induction ks generalizing xs with
  | nil => intro _ k; rfl
  | cons a r ih =>
    intro hl k
    cases xs with
    | nil => simp at hl
    | cons x xs =>
      rw [List.zip_cons_cons, inK_cons]
      by_cases e : a = k
      · rw [valV_pos (p := (a, x)) (r := r.zip xs) e, decide_eq_true e]
        rfl
      · rw [valV_neg (p := (a, x)) (r := r.zip xs) e, ih (by simpa using hl), decide_eq_false e]
        rfl
theorem opd_inD {ks : List Key} {k : Key} : OpD m K (rInU K) (.s (kV k)) (.d ks ds) H (dB (inK k ks)) := .of2 fun v1 v2 H1 g r1 r2 Q q => by
  obtain ⟨p, xs, rfl, st, l, rs⟩ := rep_d.mp r2
  rw [rep_s.mp r1]
  refine .inr (.inr ⟨p, _, rfl, dget_of (k := k) st.2, ?_⟩)
  rw [zip_val (by rw [l, rs.len])]
  exact q _ (rep_s.mpr rfl)
/-! subscripts -/
theorem atI_rep {i : Int} {xs : List V} (rs : Reps m.M K H ds xs) (h : atI ds i = some d) : ∃ x, atI xs i = some x ∧ Rep m.M K H d x := by
  unfold atI at h ⊢
  rw [rs.len]
  cases e : ixN ds.length i with
  | none => rw [e] at h; simp at h
  | some j =>
    rw [e] at h
    have h' : ds[j]? = some d := h
    obtain ⟨x, h1, h2⟩ := rs.get h'
    exact ⟨x, h1, h2⟩
theorem opd_ixL {i : Int} (h : atI ds i = some d) : OpD m K (rIxU K) (.l ds) (dI i) H d := .of2 fun v1 v2 H1 g r1 r2 Q q => by
  obtain ⟨p, xs, rfl, st, rs⟩ := rep_l.mp r1
  rw [rep_s.mp r2]
  obtain ⟨x, h1, h2⟩ := atI_rep rs h
  exact .inl (.inl ⟨p, xs, i, x, rfl, rfl, st.here, h1, q x h2⟩)
theorem opd_ixT {i : Int} (h : atI ds i = some d) : OpD m K (rIxU K) (.t ds) (dI i) H d := .of2 fun v1 v2 H1 g r1 r2 Q q => by
  obtain ⟨p, xs, rfl, st, rs⟩ := rep_t.mp r1
  rw [rep_s.mp r2]
  obtain ⟨x, h1, h2⟩ := atI_rep rs h
  exact .inl (.inr (.inl ⟨p, xs, i, x, rfl, rfl, st.here, h1, q x h2⟩))
theorem opd_ixS {z : Str} {i : Int} {c : Nat} (hl : z.length ≤ sizeLine) (h : atI z.cps.toList i = some c) : OpD m K (rIxU K) (dS z) (dI i) H (dS ⟨#[c]⟩) := .of2 fun v1 v2 H1 g r1 r2 Q q => by
  rw [rep_s.mp r1, rep_s.mp r2]
  exact .inl (.inr (.inr ⟨z, i, c, rfl, rfl, hl, h, q _ (rep_s.mpr rfl)⟩))
theorem zip_get {ks : List Key} {xs : List V} {j : Nat} {k : Key} {x : V} : ks.Nodup → ks[j]? = some k → xs[j]? = some x → valV (ks.zip xs) k = some x := by
  induction ks generalizing xs j with
  | nil => intro _ h; simp at h
  | cons a r ih =>
    intro nd h1 h2
    cases xs with
    | nil => simp at h2
    | cons y xs =>
      rw [List.zip_cons_cons]
      cases j with
      | zero =>
        have e1 : a = k := Option.some.inj h1
        have e2 : y = x := Option.some.inj h2
        rw [valV_pos (p := (a, y)) (r := r.zip xs) e1, e2]
      | succ j =>
        have h1' : r[j]? = some k := h1
        have ne : ¬ a = k := fun q => by
          subst q
          exact (List.nodup_cons.mp nd).1 (List.mem_of_getElem? h1')
        rw [valV_neg (p := (a, y)) (r := r.zip xs) ne]
        exact ih (List.nodup_cons.mp nd).2 h1' h2
theorem opd_ixD {ks : List Key} {k : Key} {j : Nat} (nd : ks.Nodup) (hk : ks[j]? = some k) (hd : ds[j]? = some d) : OpD m K (rIxU K) (.d ks ds) (.s (kV k)) H d := .of2 fun v1 v2 H1 g r1 r2 Q q => by
  obtain ⟨p, xs, rfl, st, l, rs⟩ := rep_d.mp r1
  rw [rep_s.mp r2]
  obtain ⟨x, h1, h2⟩ := rs.get hd
  refine .inr ⟨p, x, rfl, ?_, q x h2⟩
  have e := dget_of (k := k) st.2
  rw [zip_get nd hk h1] at e
  exact e
/-! slices -/
theorem eo_none : EvO m tNoPart σ H none := fun H1 g _ q => q H1 g.r1
theorem eo_some {i : Int} (h : EvD m K te σ H (dI i)) : EvO m (tPart te) σ H (some i) := fun H1 g _ q => h H1 g _ fun v H2 g2 r => ⟨i, rep_s.mp r, q H2 g2⟩
theorem ev_sl {r : V → Option Int → Option Int → Hp → VK → Prop} {tl th : TO} {lo hi : Option Int} (h : EvD m K te σ H d1) (h1 : EvO m tl σ H lo) (h2 : EvO m th σ H hi) (hs : SlD m K r d1 lo hi H d) : EvD m K (tSl r te tl th) σ H d := fun H1 g Q q =>
  h H1 g _ fun x H2 g2 rx => h1 H2 (g.trans g2) _ fun H3 g3 => h2 H3 ((g.trans g2).trans g3) _ fun H4 g4 =>
    hs x H4 (((g.trans g2).trans g3).trans g4) ((rx.mono g3).mono g4) Q fun z H5 g5 rz => q z H5 (((g2.trans g3).trans g4).trans g5) rz
def cutD (ds : List D) (lo hi : Option Int) : List D := (ds.drop (HT.sIx ds.length 0 lo)).take (HT.sIx ds.length ds.length hi - HT.sIx ds.length 0 lo)
theorem reps_cut {xs : List V} {lo hi : Option Int} (rs : Reps m.M K H ds xs) : Reps m.M K H (cutD ds lo hi) (cutV xs lo hi) := by
  unfold cutD cutV
  rw [rs.len]
  exact (rs.drop _).take _
theorem sld_str {z : Str} {lo hi : Option Int} (hl : z.length ≤ sizeLine) : SlD m K (rSlU K) (dS z) lo hi H (dS (cutS z lo hi)) := fun v1 H1 g r1 Q q => by
  rw [rep_s.mp r1]
  exact .inr (.inr ⟨z, rfl, hl, q _ H1 g.r1 (rep_s.mpr rfl)⟩)
theorem sld_list {lo hi : Option Int} : SlD m K (rSlU K) (.l ds) lo hi H (.l (cutD ds lo hi)) := fun v1 H1 g r1 Q q => by
  obtain ⟨p, xs, rfl, st, rs⟩ := rep_l.mp r1
  refine .inl ⟨p, xs, rfl, st.here, fun l hl => ?_⟩
  have g2 : G m H1 (upd H1 l (.lst (cutV xs lo hi))) := g.new hl
  exact q _ _ g2 (rep_l.mpr ⟨l, _, rfl, StL.of upd_same (g.out hl), reps_cut (rs.mono g2)⟩)
/-! tests -/
theorem et_test {b : Bool} (h : EvD m K te σ H (dB b)) : EvT m (tTest te) σ H b := fun H1 g _ q => h H1 g _ fun v H2 g2 r => ⟨b, rep_s.mp r, q H2 g2⟩
theorem et_B {b : Bool} (h : EvD m K te σ H (dB b)) : EvT m (tB te) σ H b := fun H1 g _ q => h H1 g _ fun v H2 g2 r => ⟨b, rep_s.mp r, q H2 g2⟩
theorem et_and {a b : Bool} (h1 : EvT m t σ H a) (h2 : a = true → EvT m u σ H b) : EvT m (tAnd t u) σ H (a && b) := fun H1 g Q q => h1 H1 g _ fun H2 g2 => by
  cases a with
  | true =>
    show u σ H2 Q
    exact h2 rfl H2 (g.trans g2) Q fun H3 g3 => q H3 (g2.trans g3)
  | false =>
    show Q false H2
    exact q H2 g2
theorem et_or {a b : Bool} (h1 : EvT m t σ H a) (h2 : a = false → EvT m u σ H b) : EvT m (tOr t u) σ H (a || b) := fun H1 g Q q => h1 H1 g _ fun H2 g2 => by
  cases a with
  | true =>
    show Q true H2
    exact q H2 g2
  | false =>
    show u σ H2 Q
    exact h2 rfl H2 (g.trans g2) Q fun H3 g3 => q H3 (g2.trans g3)
theorem et_not {a : Bool} (h1 : EvT m t σ H a) : EvT m (tNot t) σ H (!a) := fun H1 g _ q => h1 H1 g _ fun H2 g2 => q H2 g2
theorem et_yes : EvT m tYes σ H true := fun H1 g _ q => q H1 g.r1
theorem ev_andV {a b : Bool} (h1 : EvD m K ta σ H (dB a)) (h2 : a = true → EvD m K tb σ H (dB b)) : EvD m K (tAndV ta tb) σ H (dB (a && b)) := fun H1 g Q q => h1 H1 g _ fun v H2 g2 r => ⟨a, rep_s.mp r, by
  cases a with
  | true =>
    show tb σ H2 Q
    exact h2 rfl H2 (g.trans g2) Q fun w H3 g3 rw' => q w H3 (g2.trans g3) rw'
  | false =>
    show Q (.bl false) H2
    exact q _ H2 g2 (rep_s.mpr rfl)⟩
theorem ev_orV {a b : Bool} (h1 : EvD m K ta σ H (dB a)) (h2 : a = false → EvD m K tb σ H (dB b)) : EvD m K (tOrV ta tb) σ H (dB (a || b)) := fun H1 g Q q => h1 H1 g _ fun v H2 g2 r => ⟨a, rep_s.mp r, by
  cases a with
  | true =>
    show Q (.bl true) H2
    exact q _ H2 g2 (rep_s.mpr rfl)
  | false =>
    show tb σ H2 Q
    exact h2 rfl H2 (g.trans g2) Q fun w H3 g3 rw' => q w H3 (g2.trans g3) rw'⟩
theorem ev_notV {a : Bool} (h1 : EvD m K ta σ H (dB a)) : EvD m K (tNotV ta) σ H (dB (!a)) := fun H1 g _ q => h1 H1 g _ fun v H2 g2 r => ⟨a, rep_s.mp r, q _ H2 g2 (rep_s.mpr rfl)⟩
theorem ev_if {b : Bool} (h : EvT m t σ H b) (h1 : b = true → EvP m ta σ H P) (h2 : b = false → EvP m tb σ H P) : EvP m (tIf t ta tb) σ H P := fun H1 g Q q => h H1 g _ fun H2 g2 => by
  cases b with
  | true =>
    show ta σ H2 Q
    exact h1 rfl H2 (g.trans g2) Q fun w H3 g3 rw' => q w H3 (g2.trans g3) rw'
  | false =>
    show tb σ H2 Q
    exact h2 rfl H2 (g.trans g2) Q fun w H3 g3 rw' => q w H3 (g2.trans g3) rw'
theorem ev_ifD {b : Bool} (h : EvT m t σ H b) (h1 : b = true → EvD m K ta σ H d) (h2 : b = false → EvD m K tb σ H d) : EvD m K (tIf t ta tb) σ H d := ev_if h h1 h2
/-- a < b < c -/
theorem ev_chain {r r' : R2} {a b : Bool} (ha : EvD m K ta σ H d1) (hb : EvD m K tb σ H d2) (hc : a = true → EvD m K tc σ H d3) (h1 : OpD m K r d1 d2 H (dB a)) (h2 : a = true → OpD m K r' d2 d3 H (dB b)) : EvD m K (tChain r r' ta tb tc) σ H (dB (a && b)) := fun H1 g Q q =>
  ha H1 g _ fun x H2 g2 rx => hb H2 (g.trans g2) _ fun y H3 g3 ry => h1 x y H3 ((g.trans g2).trans g3) (rx.mono g3) ry _ fun z H4 g4 rz => ⟨a, rep_s.mp rz, by
    cases a with
    | true =>
      refine iteT ?_
      exact hc rfl H4 (((g.trans g2).trans g3).trans g4) _ fun w H5 g5 rw' => h2 rfl y w H5 ((((g.trans g2).trans g3).trans g4).trans g5) ((ry.mono g4).mono g5) rw' Q fun k H6 g6 rk => q k H6 ((((g2.trans g3).trans g4).trans g5).trans g6) rk
    | false =>
      refine iteF ?_
      exact q _ H4 ((g2.trans g3).trans g4) (rep_s.mpr rfl)⟩
/-! arguments, displays, calls -/
theorem ea_nil : EvA m K tNil σ H [] := fun H1 g _ q => q [] H1 g.r1 Reps.nil
theorem ea_cons {tr : TA} (h : EvD m K ta σ H d) (hr : EvA m K tr σ H ds) : EvA m K (tCons ta tr) σ H (d :: ds) := fun H1 g _ q =>
  h H1 g _ fun v H2 g2 rv => hr H2 (g.trans g2) _ fun vs H3 g3 rs => q _ H3 (g2.trans g3) (Reps.cons (rv.mono g3) rs)
theorem ev_tup {ta : TA} (h : EvA m K ta σ H ds) (hl : ds.length ≤ 100000) : EvD m K (tTup ta) σ H (.t ds) := fun H1 g _ q =>
  h H1 g _ fun vs H2 g2 rs => ⟨by rw [rs.len]; exact Evl.sz_of hl, fun p hp => by
    have g3 : G m H2 (upd H2 p (.tup vs)) := g2.new hp
    exact q _ _ (g2.trans g3) (rep_t.mpr ⟨p, vs, rfl, StT.of upd_same (g2.out hp), rs.mono g3⟩)⟩
theorem ev_lst {ta : TA} (h : EvA m K ta σ H ds) (hl : ds.length ≤ 100000) : EvL m K (tLst ta) σ H ds := fun H1 g _ q =>
  h H1 g _ fun vs H2 g2 rs => ⟨by rw [rs.len]; exact Evl.sz_of hl, fun p hp => by
    have g3 : G m H2 (upd H2 p (.lst vs)) := g2.new hp
    exact q _ _ (g2.trans g3) ⟨p, vs, rfl, (g.trans g2).free hp, g2.out hp, upd_same, rs.mono g3⟩⟩
theorem EvL.frz (h : EvL m K te σ H ds) : EvD m K te σ H (.l ds) := fun H1 g Q q =>
  h H1 g Q fun v H2 g2 ⟨p, xs, e, _, n, h2, rs⟩ => q v H2 g2 (rep_l.mpr ⟨p, xs, e, StL.of h2 n, rs⟩)
theorem ev_cb {r : List V → Hp → VK → Prop} {ta : TA} (h : EvA m K ta σ H ds) (hr : CallD m K r ds H d) : EvD m K (tCB r ta) σ H d := fun H1 g Q q =>
  h H1 g _ fun vs H2 g2 rs => hr vs H2 (g.trans g2) rs Q fun z H3 g3 rz => q z H3 (g2.trans g3) rz
theorem ev_cbP {r : List V → Hp → VK → Prop} {ta : TA} (h : EvA m K ta σ H ds) (hr : CallP m K r ds H P) : EvP m (tCB r ta) σ H P := fun H1 g Q q =>
  h H1 g _ fun vs H2 g2 rs => hr vs H2 (g.trans g2) rs Q fun z H3 g3 rz => q z H3 (g2.trans g3) rz
/-- an own def called: its promise from data to P -/
def SpP (m : Md) (K : PySem.W.Frag) (sp : Sp) (ds : List D) (H : Hp) (P : V → Hp → Prop) : Prop := ∀ vs H1, G m H H1 → Reps m.M K H1 ds vs → ∀ (Q : VK) (E : XK), (∀ v H2, G m H1 H2 → P v H2 → Q v H2) → sp vs H1 Q E
theorem ev_call {sp : Sp} {E : XK} {ta : TA} (h : EvA m K ta σ H ds) (hs : SpP m K sp ds H P) : EvP m (tCall sp [] E ta) σ H P := fun H1 g Q q =>
  h H1 g _ fun vs H2 g2 rs => by
    show sp (vs ++ []) H2 Q E
    rw [List.append_nil]
    exact hs vs H2 (g.trans g2) rs Q E fun v H3 g3 p => q v H3 (g2.trans g3) p
theorem ev_callD {sp : Sp} {E : XK} {ta : TA} (h : EvA m K ta σ H ds) (hs : SpP m K sp ds H fun v H2 => Rep m.M K H2 d v) : EvD m K (tCall sp [] E ta) σ H d := ev_call h hs
/-! fields -/
theorem ev_fld {C : Addr} {f : Str} {fs : List Str} {j : Nat} (h : EvD m K ta σ H (.i C fs ds)) (hf : fs[j]? = some f) (hd : ds[j]? = some d) (c : Cls K C) (n : NoAttr K C f) : EvD m K (tFld K ta f) σ H d := fun H1 g Q q =>
  h H1 g _ fun v H2 g2 r => by
    obtain ⟨p, dx, kvs, xs, rfl, st, l, rs⟩ := rep_i.mp r
    obtain ⟨x, h1, h2⟩ := rs.get hd
    exact ⟨p, C, dx, kvs, x, rfl, st.2, c, n, l.1 j f x hf h1, q x H2 g2 h2⟩
end
end GK

/-! statements, loops, comprehensions, built-in calls -/
namespace GK
open PySem PySem.Spec PyProof.Rows L2
/-! a further object that may change -/
def addA (M : Addr → Prop) (p : Addr) : Addr → Prop := fun a => M a ∨ a = p
section
variable {M M' : Addr → Prop} {K : PySem.W.Frag} {H H1 : Hp} {p q : Addr} {u : HO} {d : D} {v : V} {ds : List D} {xs : List V}
theorem RdM.add (n : H q = none) (h : RdM M H p u) : RdM (addA M q) H p u := ⟨fun z => by
  rcases z with z | z
  · exact h.1 z
  · subst z
    rcases h.2 with e | ⟨o, e⟩ <;> (rw [n] at e; cases e), h.2⟩
theorem RdM.less (s : ∀ a, M a → M' a) (h : RdM M' H p u) : RdM M H p u := ⟨fun z => h.1 (s _ z), h.2⟩
mutual
theorem Rep.add (n : H q = none) : ∀ {d : D} {v : V}, Rep M K H d v → Rep (addA M q) K H d v
  | .s _, _, h => by
    unfold Rep at h ⊢
    exact h
  | .t ds, _, h => by
    unfold Rep at h ⊢
    obtain ⟨p, xs, e, st, r⟩ := h
    exact ⟨p, xs, e, st.imp (RdM.add n) id, Reps.add n r⟩
  | .l ds, _, h => by
    unfold Rep at h ⊢
    obtain ⟨p, xs, e, st, r⟩ := h
    exact ⟨p, xs, e, st.imp (RdM.add n) id, Reps.add n r⟩
  | .d ks ds, _, h => by
    unfold Rep at h ⊢
    obtain ⟨p, xs, e, st, l, r⟩ := h
    exact ⟨p, xs, e, RdM.add n st, l, Reps.add n r⟩
  | .i C fs ds, _, h => by
    unfold Rep at h ⊢
    obtain ⟨p, dx, kvs, xs, e, st, l, r⟩ := h
    refine ⟨p, dx, kvs, xs, e, ⟨fun z => ?_, st.2⟩, l, Reps.add n r⟩
    rcases z with z | z
    · exact st.1 z
    · subst z
      have e2 := st.2
      rw [n] at e2
      cases e2
theorem Reps.add (n : H q = none) : ∀ {ds : List D} {xs : List V}, Reps M K H ds xs → Reps (addA M q) K H ds xs
  | [], _, h => by
    unfold Reps at h ⊢
    exact h
  | d :: ds, _, h => by
    unfold Reps at h ⊢
    obtain ⟨x, r, e, h1, h2⟩ := h
    exact ⟨x, r, e, Rep.add n h1, Reps.add n h2⟩
end
mutual
theorem Rep.less (s : ∀ a, M a → M' a) : ∀ {d : D} {v : V}, Rep M' K H d v → Rep M K H d v
  | .s _, _, h => by
    unfold Rep at h ⊢
    exact h
  | .t ds, _, h => by
    unfold Rep at h ⊢
    obtain ⟨p, xs, e, st, r⟩ := h
    exact ⟨p, xs, e, st.imp (RdM.less s) id, Reps.less s r⟩
  | .l ds, _, h => by
    unfold Rep at h ⊢
    obtain ⟨p, xs, e, st, r⟩ := h
    exact ⟨p, xs, e, st.imp (RdM.less s) id, Reps.less s r⟩
  | .d ks ds, _, h => by
    unfold Rep at h ⊢
    obtain ⟨p, xs, e, st, l, r⟩ := h
    exact ⟨p, xs, e, RdM.less s st, l, Reps.less s r⟩
  | .i C fs ds, _, h => by
    unfold Rep at h ⊢
    obtain ⟨p, dx, kvs, xs, e, st, l, r⟩ := h
    exact ⟨p, dx, kvs, xs, e, ⟨fun z => st.1 (s _ z), st.2⟩, l, Reps.less s r⟩
theorem Reps.less (s : ∀ a, M a → M' a) : ∀ {ds : List D} {xs : List V}, Reps M' K H ds xs → Reps M K H ds xs
  | [], _, h => by
    unfold Reps at h ⊢
    exact h
  | d :: ds, _, h => by
    unfold Reps at h ⊢
    obtain ⟨x, r, e, h1, h2⟩ := h
    exact ⟨x, r, e, Rep.less s h1, Reps.less s h2⟩
end
theorem addA_le {a : Addr} (h : M a) : addA M p a := .inl h
theorem addA_at : addA M p p := .inr rfl
/-! no list within -/
mutual
def noL : D → Bool
  | .s _ => true
  | .t ds => noLs ds
  | .l _ => false
  | .d _ ds => noLs ds
  | .i _ _ ds => noLs ds
def noLs : List D → Bool
  | [] => true
  | d :: ds => noL d && noLs ds
end
theorem RdM.putL {ys : List V} {z : HO} (n : ∀ xs, u ≠ .lst xs) (e : H q = some (.lst ys)) (h : RdM M H p u) : RdM M (upd H q z) p u := ⟨h.1, by
  rcases h.2 with f | ⟨o, f⟩
  · have ne : p ≠ q := fun k => by
      subst k
      rw [f] at e
      exact n ys (Option.some.inj e)
    exact .inl (by rw [upd_ne ne]; exact f)
  · have ne : p ≠ q := fun k => by
      subst k
      rw [f] at e
      cases e
    exact .inr ⟨o, by rw [upd_ne ne]; exact f⟩⟩
mutual
theorem Rep.putL {ys : List V} {z : HO} (e : H q = some (.lst ys)) : ∀ {d : D} {v : V}, noL d = true → Rep M K H d v → Rep M K (upd H q z) d v
  | .s _, _, _, h => by
    unfold Rep at h ⊢
    exact h
  | .t ds, _, w, h => by
    unfold Rep at h ⊢
    unfold noL at w
    obtain ⟨p, xs, e1, st, r⟩ := h
    exact ⟨p, xs, e1, st.imp (RdM.putL (fun _ k => by cases k) e) id, Reps.putL e w r⟩
  | .l ds, _, w, h => by
    unfold noL at w
    cases w
  | .d ks ds, _, w, h => by
    unfold Rep at h ⊢
    unfold noL at w
    obtain ⟨p, xs, e1, st, l, r⟩ := h
    exact ⟨p, xs, e1, RdM.putL (fun _ k => by cases k) e st, l, Reps.putL e w r⟩
  | .i C fs ds, _, w, h => by
    unfold Rep at h ⊢
    unfold noL at w
    obtain ⟨p, dx, kvs, xs, e1, st, l, r⟩ := h
    refine ⟨p, dx, kvs, xs, e1, ⟨st.1, ?_⟩, l, Reps.putL e w r⟩
    have ne : p ≠ q := fun k => by
      subst k
      have f := st.2
      rw [f] at e
      cases e
    rw [upd_ne ne]
    exact st.2
theorem Reps.putL {ys : List V} {z : HO} (e : H q = some (.lst ys)) : ∀ {ds : List D} {xs : List V}, noLs ds = true → Reps M K H ds xs → Reps M K (upd H q z) ds xs
  | [], _, _, h => by
    unfold Reps at h ⊢
    exact h
  | d :: ds, _, w, h => by
    unfold Reps at h ⊢
    unfold noLs at w
    obtain ⟨x, r, e1, h1, h2⟩ := h
    have w' := w
    rw [Bool.and_eq_true] at w'
    exact ⟨x, r, e1, Rep.putL e w'.1 h1, Reps.putL e w'.2 h2⟩
end
theorem noLs_app : ∀ {a b : List D}, noLs a = true → noLs b = true → noLs (a ++ b) = true
  | [], _, _, h => h
  | d :: ds, b, h, h' => by
    unfold noLs at h
    rw [Bool.and_eq_true] at h
    show noLs (d :: (ds ++ b)) = true
    unfold noLs
    rw [Bool.and_eq_true]
    exact ⟨h.1, noLs_app h.2 h'⟩
theorem noLs_all : ∀ {a : List D}, (∀ d ∈ a, noL d = true) → noLs a = true
  | [], _ => by unfold noLs; rfl
  | d :: ds, h => by
    unfold noLs
    rw [Bool.and_eq_true]
    exact ⟨h d List.mem_cons_self, noLs_all fun x hx => h x (List.mem_cons_of_mem _ hx)⟩
end
/-- what is as it was, but p that was not there -/
theorem G.exN {M : Addr → Prop} {p : Addr} {hp : M p} {H H1 : Hp} (g : G (Md.one M p hp) H H1) (n : H p = none) : ∀ a o, H a = some o → H1 a = some o := fun a o e =>
  g.st a o (fun z => by
    have z' : a = p := z
    subst z'
    rw [n] at e
    cases e) e
theorem G.one_of {M : Addr → Prop} {p : Addr} (hp : M p) {H H1 : Hp} (g : G (Md.pure M) H H1) : G (Md.one M p hp) H H1 := ⟨g.dm, fun a o _ e => g.ex a o e, g.th⟩

/-! ### what stands in a sequence -/
def signs (z : Str) : List D := z.cps.toList.map fun c => dS ⟨#[c]⟩
def itemsOf : D → Option (List D)
  | .l ds => some ds
  | .t ds => some ds
  | .s (.str z) => some (signs z)
  | _ => none

section
variable {m : Md} {K : PySem.W.Frag} {σ : L2.St} {H H' : Hp} {ta tb tc te : TE} {t u : TT} {d d1 d2 d3 dd : D} {ds es : List D} {v x y : V} {P : V → Hp → Prop} {D0 : Ends} {tu tw tz : TS} {g : TG}
/-! ### statements -/
theorem sq {t1 t2 : TS} (h : t1 { D0 with nx := t2 D0 } σ H) : tSeq t1 t2 D0 σ H := h
theorem s_asg {i : Nat} (dm : Dm m H) (h : EvD m K te σ H d) (k : ∀ v H1, G m H H1 → Rep m.M K H1 d v → D0.nx (σ.set i (some v)) H1) : tAsg te (gName i) D0 σ H := h.run dm fun v H1 g r => k v H1 g r
theorem s_asgS {i : Nat} (dm : Dm m H) (h : EvD m K te σ H (.s x)) (k : ∀ H1, G m H H1 → D0.nx (σ.set i (some x)) H1) : tAsg te (gName i) D0 σ H := h.run dm fun v H1 g r => by
  rw [rep_s.mp r]
  exact k H1 g
theorem s_asgP {i : Nat} (dm : Dm m H) (h : EvP m te σ H P) (k : ∀ v H1, G m H H1 → P v H1 → D0.nx (σ.set i (some v)) H1) : tAsg te (gName i) D0 σ H := h.run dm fun v H1 g r => k v H1 g r
theorem s_asgL {i : Nat} (dm : Dm m H) (h : EvL m K te σ H ds) (k : ∀ p xs H1, G m H H1 → H p = none → ¬ m.M p → H1 p = some (.lst xs) → Reps m.M K H1 ds xs → D0.nx (σ.set i (some (.ref p))) H1) : tAsg te (gName i) D0 σ H :=
  EvP.run dm h fun v H1 g ⟨p, xs, e, n, nM, h1, rs⟩ => by
    subst e
    exact k p xs H1 g n nM h1 rs
theorem s_ret (dm : Dm m H) (h : EvP m te σ H P) (k : ∀ v H1, G m H H1 → P v H1 → D0.rt v H1) : tRet te D0 σ H := h.run dm fun v H1 g r => k v H1 g r
theorem s_retD (dm : Dm m H) (h : EvD m K te σ H d) (k : ∀ v H1, G m H H1 → Rep m.M K H1 d v → D0.rt v H1) : tRet te D0 σ H := h.run dm fun v H1 g r => k v H1 g r
theorem s_if {b : Bool} (dm : Dm m H) (h : EvT m t σ H b) (h1 : b = true → ∀ H1, G m H H1 → tu D0 σ H1) (h2 : b = false → ∀ H1, G m H H1 → tw D0 σ H1) : tIfS t tu tw D0 σ H := h H (G.rf dm) _ fun H1 g => by
  cases b with
  | true =>
    show tu D0 σ H1
    exact h1 rfl H1 g
  | false =>
    show tw D0 σ H1
    exact h2 rfl H1 g
theorem s_drop (dm : Dm m H) (h : EvP m te σ H P) (k : ∀ v H1, G m H H1 → P v H1 → D0.nx σ H1) : tDrop te D0 σ H := h.run dm fun v H1 g r => k v H1 g r
/-- xs.append(e) -/
theorem s_app {l : Addr} {xs : List V} (dm : Dm m H) (hl : H l = some (.lst xs)) (nl : ¬ m.N l) (ha : EvD m K ta σ H (.s (.ref l))) (h : EvD m K te σ H d) (hz : xs.length < 1000000) (k : ∀ v H1, G m H H1 → Rep m.M K H1 d v → D0.nx σ (upd H1 l (.lst (xs ++ [v])))) :
    tDrop (tBM K "list" rAppend ta (tCons te tNil)) D0 σ H := ha.run dm fun a H1 g1 ra => by
  rw [rep_s.mp ra]
  have h1 : H1 l = some (.lst xs) := g1.st l _ nl hl
  refine ⟨Or.inl ⟨rfl, xs, SqL.of h1⟩, h H1 g1 _ fun v H2 g2 rv => ⟨l, xs, v, rfl, rfl, g2.st l _ nl h1, Nat.lt_trans hz (by decide), k v H2 (g1.trans g2) rv⟩⟩
/-- a, b = e1, e2 -/
theorem s_par {i j : Nat} {ta : TA} (dm : Dm m H) (h : EvA m K ta σ H [d1, d2]) (k : ∀ v w H1, G m H H1 → Rep m.M K H1 d1 v → Rep m.M K H1 d2 w → D0.nx ((σ.set i (some v)).set j (some w)) H1) : tPar i j ta D0 σ H := h H (G.rf dm) _ fun vs H1 g rs => by
  obtain ⟨x, r, rfl, r1, r2⟩ := reps_cons.mp rs
  obtain ⟨y, r', rfl, r3, r4⟩ := reps_cons.mp r2
  rw [reps_nil.mp r4]
  exact ⟨x, y, rfl, k x y H1 g r1 r3⟩
/-- targets: a tuple taken apart -/
theorem g_tup {n : Nat} {ts : TGs} {Q : L2.St → Hp → Prop} (r : Rep m.M K H (.t ds) v) (hn : ds.length = n) (k : ∀ xs, Reps m.M K H ds xs → ts xs σ H Q) : gTup K n ts v σ H Q := by
  obtain ⟨p, xs, rfl, st, rs⟩ := rep_t.mp r
  exact ⟨p, xs, rfl, st.here, by rw [rs.len]; exact hn, k xs rs⟩

/-! ### loops -/
theorem s_for (dm : Dm m H) (h : EvD m K tl σ H dd) (hit : itemsOf dd = some ds)
    (k : ∀ H1, G m H H1 → ∃ m1 : Md, m1.M = m.M ∧ ∃ Pv : Nat → L2.St → Hp → Prop, Pv 0 σ H1 ∧ (∀ i σ' H', Pv i σ' H' → G m1 H1 H') ∧
      (∀ (i : Nat) d x σ' H', ds[i]? = some d → Rep m.M K H' d x → Pv i σ' H' → g x σ' H' fun σ2 H2 => tu { D0 with nx := Pv (i + 1), ct := Pv (i + 1), bk := D0.nx } σ2 H2) ∧ (∀ σ' H', Pv ds.length σ' H' → D0.nx σ' H')) :
    tFor (iAny K tl) g tu D0 σ H := h.run dm fun v H1 g1 r => by
  obtain ⟨m1, em, Pv, h0, hG, hs, hd⟩ := k H1 g1
  cases dd with
  | l es =>
    have e : es = ds := Option.some.inj hit
    subst e
    obtain ⟨p, xs, rfl, st, rs⟩ := rep_l.mp r
    rw [← em] at st rs
    refine .inl ⟨p, xs, rfl, st.here, for_list (K := K) (a := p) (xs := xs) Pv h0 (fun i σ' H' _ pv => (st.mono (hG i σ' H' pv)).here) (fun i x σ' H' hx pv => ?_) (fun σ' H' pv => hd σ' H' (by rw [← rs.len]; exact pv))⟩
    obtain ⟨d, h1, h2⟩ := rs.get' hx
    exact hs i d x σ' H' h1 (by rw [← em]; exact h2.mono (hG i σ' H' pv)) pv
  | t es =>
    have e : es = ds := Option.some.inj hit
    subst e
    obtain ⟨p, xs, rfl, st, rs⟩ := rep_t.mp r
    rw [← em] at st rs
    refine .inr (.inl ⟨p, xs, rfl, st.here, for_tup (K := K) (a := p) (xs := xs) Pv h0 (fun i σ' H' _ pv => (st.mono (hG i σ' H' pv)).here) (fun i x σ' H' hx pv => ?_) (fun σ' H' pv => hd σ' H' (by rw [← rs.len]; exact pv))⟩)
    obtain ⟨d, h1, h2⟩ := rs.get' hx
    exact hs i d x σ' H' h1 (by rw [← em]; exact h2.mono (hG i σ' H' pv)) pv
  | s x =>
    cases x with
    | str z =>
      have e : signs z = ds := Option.some.inj hit
      subst e
      rw [rep_s.mp r]
      have hlen : (signs z).length = z.cps.size := by unfold signs; rw [List.length_map, Array.length_toList]
      refine .inr (.inr ⟨z, rfl, fun n mm σ' H' => mm = z.cps.size - n ∧ n ≤ z.cps.size ∧ Pv n σ' H', ⟨z.cps.size, by simp, Nat.zero_le _, h0⟩, ?_⟩)
      rintro n mm σ' H' ⟨rfl, hn, pv⟩
      by_cases hlt : n < z.cps.size
      · refine .inr ⟨hlt, Pv (n + 1), fun σ2 H2 p2 => ⟨z.cps.size - (n + 1), by omega, rfl, hlt, p2⟩, fun x H2 y => ?_⟩
        obtain ⟨e1, c, hc, e2⟩ := y
        subst e1
        subst e2
        have hd1 : (signs z)[n]? = some (dS ⟨#[c]⟩) := by
          unfold signs
          rw [List.getElem?_map, Array.getElem?_toList, hc]
          rfl
        exact hs n _ _ σ' H2 hd1 (rep_s.mpr rfl) pv
      · have e : n = z.cps.size := by omega
        subst e
        exact .inl ⟨Nat.le_refl _, hd σ' H' (by rw [hlen]; exact pv)⟩
    | _ => cases hit
  | _ => cases hit
theorem s_forR1 {ta : TA} {j : Nat} {n : Int} (dm : Dm m H) (h : EvA m K ta σ H [dI n]) (hn : n ≤ 1000000) (hn' : -1000000 ≤ n)
    (k : ∀ H1, G m H H1 → ∃ Pv : Nat → L2.St → Hp → Prop, Pv 0 σ H1 ∧
      (∀ (i : Nat) σ' H', (i : Int) < n → Pv i σ' H' → tu { D0 with nx := Pv (i + 1), ct := Pv (i + 1), bk := D0.nx } (σ'.set j (some (.int (i : Int)))) H') ∧ (∀ σ' H', Pv n.toNat σ' H' → D0.nx σ' H')) : tFor (iRng1 ta) (gName j) tu D0 σ H :=
  h H (G.rf dm) _ fun vs H1 g rs => by
    obtain ⟨Pv, h0, hs, hd⟩ := k H1 g
    obtain ⟨x, r, rfl, r1, r2⟩ := reps_cons.mp rs
    rw [rep_s.mp r1, reps_nil.mp r2]
    refine ⟨n, rfl, by omega, by omega, for_range (lo := 0) (n := n.toNat) Pv h0 (fun i σ' H' hi p => ?_) hd⟩
    have e0 : (0 : Int) + (i : Int) = (i : Int) := Int.zero_add _
    show tu { D0 with nx := Pv (i + 1), ct := Pv (i + 1), bk := D0.nx } (σ'.set j (some (.int ((0 : Int) + (i : Int))))) H'
    rw [e0]
    exact hs i σ' H' (by omega) p
theorem s_forR2 {ta : TA} {j : Nat} {lo n : Int} (dm : Dm m H) (h : EvA m K ta σ H [dI lo, dI n]) (hn : -1000000 ≤ lo ∧ lo ≤ 1000000 ∧ -1000000 ≤ n ∧ n ≤ 1000000)
    (k : ∀ H1, G m H H1 → ∃ Pv : Nat → L2.St → Hp → Prop, Pv 0 σ H1 ∧
      (∀ (i : Nat) σ' H', lo + (i : Int) < n → Pv i σ' H' → tu { D0 with nx := Pv (i + 1), ct := Pv (i + 1), bk := D0.nx } (σ'.set j (some (.int (lo + (i : Int))))) H') ∧ (∀ σ' H', Pv (n - lo).toNat σ' H' → D0.nx σ' H')) : tFor (iRng2 ta) (gName j) tu D0 σ H :=
  h H (G.rf dm) _ fun vs H1 g rs => by
    obtain ⟨Pv, h0, hs, hd⟩ := k H1 g
    obtain ⟨x, r, rfl, r1, r2⟩ := reps_cons.mp rs
    obtain ⟨y, r', rfl, r3, r4⟩ := reps_cons.mp r2
    rw [rep_s.mp r1, rep_s.mp r3, reps_nil.mp r4]
    exact ⟨lo, n, rfl, ⟨by omega, by omega, by omega, by omega⟩, for_range (lo := lo) (n := (n - lo).toNat) Pv h0 (fun i σ' H' hi p => hs i σ' H' (by omega) p) hd⟩
theorem s_while (W : Nat → L2.St → Hp → Prop) (m0 : Nat) (h0 : W m0 σ H)
    (hs : ∀ n σ' H', W n σ' H' → ∃ (m : Md) (b : Bool), Dm m H' ∧ EvT m t σ' H' b ∧ (b = true → ∀ H1, G m H' H1 → ∃ N : L2.St → Hp → Prop, (∀ σ2 H2, N σ2 H2 → ∃ n', n' < n ∧ W n' σ2 H2) ∧ tu { D0 with nx := N, ct := N, bk := D0.nx } σ' H1) ∧ (b = false → ∀ H1, G m H' H1 → D0.nx σ' H1)) : tWhile t tu D0 σ H :=
  ⟨W, ⟨m0, h0⟩, fun n σ' H' hw => by
    obtain ⟨m, b, dm, hb, h1, h2⟩ := hs n σ' H' hw
    refine hb H' (G.rf dm) _ fun H1 g => ?_
    cases b with
    | true => exact h1 rfl H1 g
    | false => exact h2 rfl H1 g⟩

/-! ### comprehensions -/
theorem given_succ {f : D → Bool} {w : D → D} {ds : List D} {i : Nat} {d : D} (h : ds[i]? = some d) : (((ds.take (i + 1)).filter f).map w) = ((ds.take i).filter f).map w ++ (if f d then [w d] else []) := by
  have e : ds.take (i + 1) = ds.take i ++ [d] := by
    rw [List.take_add_one, h]
    rfl
  rw [e, List.filter_append, List.map_append]
  congr 1
  by_cases c : f d = true
  · rw [if_pos c, List.filter_cons, if_pos c]
    rfl
  · rw [if_neg c, List.filter_cons, if_neg c]
    rfl
/-- what one turn asks -/
def LcTurn (m : Md) (K : PySem.W.Frag) (g : TG) (t : TT) (te : TE) (vs : List Nat) (σ : L2.St) (f : D → Bool) (w : D → D) (d : D) (x : V) (H' : Hp) : Prop :=
  g x (wipe σ vs) H' fun σ2 H2 => H2 = H' ∧ wipe σ2 vs = wipe σ vs ∧ EvT m t σ2 H2 (f d) ∧ (f d = true → EvD m K te σ2 H2 (w d))
/-- the target may be anything that hands on what it is asked for -/
def GMono (g : TG) : Prop := ∀ v σ H Q Q', (∀ σ' H', Q σ' H' → Q' σ' H') → g v σ H Q → g v σ H Q'
theorem gm_name {i : Nat} : GMono (gName i) := fun v σ H Q Q' h q => h _ _ q
theorem gm_nil (vs : List V) (σ : L2.St) (H : Hp) (Q Q' : L2.St → Hp → Prop) (h : ∀ σ' H', Q σ' H' → Q' σ' H') (q : gNil vs σ H Q) : gNil vs σ H Q' := ⟨q.1, h _ _ q.2⟩
def GsMono (g : TGs) : Prop := ∀ v σ H Q Q', (∀ σ' H', Q σ' H' → Q' σ' H') → g v σ H Q → g v σ H Q'
theorem gms_nil : GsMono gNil := fun v σ H Q Q' h q => gm_nil v σ H Q Q' h q
theorem gms_cons {g : TG} {gs : TGs} (h1 : GMono g) (h2 : GsMono gs) : GsMono (gCons g gs) := fun vs σ H Q Q' h q => by
  obtain ⟨v, r, e, q⟩ := q
  exact ⟨v, r, e, h1 v σ H _ _ (fun σ' H' q' => h2 r σ' H' Q Q' h q') q⟩
theorem gm_tup {K : PySem.W.Frag} {n : Nat} {gs : TGs} (h2 : GsMono gs) : GMono (gTup K n gs) := fun v σ H Q Q' h q => by
  obtain ⟨a, xs, e, s, l, q⟩ := q
  exact ⟨a, xs, e, s, l, h2 xs σ H Q Q' h q⟩
theorem lc_turn {f : D → Bool} {w : D → D} {vs : List Nat} {Dl : Addr} {i : Nat} {H1 H2 : Hp} (gm : GMono g) (hn : m.N Dl → False) (g1 : G m H1 H2) (d0 : H1 Dl = none) {acc : List V} (ha : H2 Dl = some (.lst acc)) (ra : Reps m.M K H2 (((ds.take i).filter f).map w) acc) (hw : noLs (((ds.take i).filter f).map w) = true)
    (hi : i < 1000000) (hd : ds[i]? = some d) (hwd : f d = true → noL (w d) = true) (ht : LcTurn m K g t te vs σ f w d x H2) :
    g x (wipe σ vs) H2 fun σ2 H3 => wipe σ2 vs = wipe σ vs ∧ t σ2 H3 fun b H4 =>
      if b = true then te σ2 H4 fun y H5 => ∃ acc, H5 Dl = some (.lst acc) ∧ acc.length < sizeLine ∧ (G m H1 (upd H5 Dl (.lst (acc ++ [y]))) ∧ ∃ acc', (upd H5 Dl (.lst (acc ++ [y]))) Dl = some (.lst acc') ∧ Reps m.M K (upd H5 Dl (.lst (acc ++ [y]))) (((ds.take (i + 1)).filter f).map w) acc' ∧ noLs (((ds.take (i + 1)).filter f).map w) = true)
      else (G m H1 H4 ∧ ∃ acc', H4 Dl = some (.lst acc') ∧ Reps m.M K H4 (((ds.take (i + 1)).filter f).map w) acc' ∧ noLs (((ds.take (i + 1)).filter f).map w) = true) := by
  refine gm _ _ _ _ _ (fun σ2 H3 q => ?_) ht
  obtain ⟨eH, ew, hT, he⟩ := q
  subst eH
  refine ⟨ew, hT _ g1.r1 _ fun H4 g4 => ?_⟩
  have h4 : H4 Dl = some (.lst acc) := g4.st Dl _ hn ha
  have acl : acc.length ≤ i := by
    rw [ra.len, List.length_map]
    exact Nat.le_trans (List.length_filter_le _ _) (by rw [List.length_take]; omega)
  cases c : f d with
  | true =>
    show te σ2 H4 _
    refine he c H4 g4 _ fun y H5 g5 ry => ⟨acc, g5.st Dl _ hn h4, Nat.lt_of_le_of_lt acl (Nat.lt_trans hi (by decide)), ((g1.trans g4).trans g5).mut d0, acc ++ [y], upd_same, ?_, ?_⟩
    · rw [given_succ hd, if_pos c]
      exact Reps.snoc (Reps.putL (g5.st Dl _ hn h4) hw ((ra.mono g4).mono g5)) (Rep.putL (g5.st Dl _ hn h4) (hwd c) ry)
    · rw [given_succ hd, if_pos c]
      refine noLs_app hw ?_
      unfold noLs
      rw [hwd c]
      unfold noLs
      rfl
  | false =>
    show G m H1 H4 ∧ _
    refine ⟨g1.trans g4, acc, h4, ?_, ?_⟩
    · rw [given_succ hd, if_neg (by rw [c]; decide), List.append_nil]
      exact ra.mono g4
    · rw [given_succ hd, if_neg (by rw [c]; decide), List.append_nil]
      exact hw
theorem ev_lc {tl : TE} {vs : List Nat} (f : D → Bool) (w : D → D) (hm : ∀ p, ¬ m.M p → m.N p → False) (gm : GMono g) (h : EvD m K tl σ H dd) (hit : itemsOf dd = some ds) (hz : ds.length ≤ 900000)
    (hw : ∀ d ∈ ds, f d = true → noL (w d) = true) (ht : ∀ (i : Nat) d x H', G m H H' → ds[i]? = some d → Rep m.M K H' d x → LcTurn m K g t te vs σ f w d x H') :
    EvL m K (tLc (iAny K tl) g t te vs) σ H ((ds.filter f).map w) := fun H0 g0 Q q => h H0 g0 _ fun v H1 g1 r => by
  have base : ∀ Dl, H1 Dl = none → (G m H1 (upd H1 Dl (.lst [])) ∧ ∃ acc', (upd H1 Dl (.lst [])) Dl = some (.lst acc') ∧ Reps m.M K (upd H1 Dl (.lst [])) (((ds.take 0).filter f).map w) acc' ∧ noLs (((ds.take 0).filter f).map w) = true) := fun Dl hD =>
    ⟨g1.r1.mut hD, [], upd_same, Reps.nil, by rw [List.take_zero]; show noLs [] = true; unfold noLs; rfl⟩
  have fin : ∀ Dl H', H1 Dl = none → (G m H1 H' ∧ ∃ acc', H' Dl = some (.lst acc') ∧ Reps m.M K H' (((ds.take ds.length).filter f).map w) acc' ∧ noLs (((ds.take ds.length).filter f).map w) = true) → Q (.ref Dl) H' := fun Dl H' hD ⟨gg, acc, ha, ra, _⟩ => by
    rw [List.take_length] at ra
    exact q _ _ (g1.trans gg) ⟨Dl, acc, rfl, (g0.trans g1).free hD, g1.out hD, ha, ra⟩
  cases dd with
  | l es =>
    have e : es = ds := Option.some.inj hit
    subst e
    obtain ⟨p, xs, rfl, st, rs⟩ := rep_l.mp r
    refine .inl ⟨p, xs, rfl, st.here, fun Dl hD => lc_list (K := K) (a := p) (xs := xs) (fun i H' => G m H1 H' ∧ ∃ acc', H' Dl = some (.lst acc') ∧ Reps m.M K H' (((es.take i).filter f).map w) acc' ∧ noLs (((es.take i).filter f).map w) = true) (base Dl hD) (fun i H' _ pv => (st.mono pv.1).here) (fun i x H' hx pv => ?_) (fun H' pv => fin Dl H' hD (by rw [← rs.len]; exact pv))⟩
    obtain ⟨gg, acc, ha, ra, hnl⟩ := pv
    obtain ⟨d, h1, h2⟩ := rs.get' hx
    have hi : i < es.length := (List.getElem?_eq_some_iff.mp h1).1
    exact lc_turn gm (hm Dl (g1.out hD)) gg hD ha ra hnl (by omega) h1 (hw d (List.mem_of_getElem? h1)) (ht i d x H' ((g0.trans g1).trans gg) h1 (h2.mono gg))
  | t es =>
    have e : es = ds := Option.some.inj hit
    subst e
    obtain ⟨p, xs, rfl, st, rs⟩ := rep_t.mp r
    refine .inr (.inl ⟨p, xs, rfl, st.here, fun Dl hD => lc_tup (K := K) (a := p) (xs := xs) (fun i H' => G m H1 H' ∧ ∃ acc', H' Dl = some (.lst acc') ∧ Reps m.M K H' (((es.take i).filter f).map w) acc' ∧ noLs (((es.take i).filter f).map w) = true) (base Dl hD) (fun i H' _ pv => (st.mono pv.1).here) (fun i x H' hx pv => ?_) (fun H' pv => fin Dl H' hD (by rw [← rs.len]; exact pv))⟩)
    obtain ⟨gg, acc, ha, ra, hnl⟩ := pv
    obtain ⟨d, h1, h2⟩ := rs.get' hx
    have hi : i < es.length := (List.getElem?_eq_some_iff.mp h1).1
    exact lc_turn gm (hm Dl (g1.out hD)) gg hD ha ra hnl (by omega) h1 (hw d (List.mem_of_getElem? h1)) (ht i d x H' ((g0.trans g1).trans gg) h1 (h2.mono gg))
  | s x =>
    cases x with
    | str z =>
      have e : signs z = ds := Option.some.inj hit
      subst e
      rw [rep_s.mp r]
      have hlen : (signs z).length = z.cps.size := by unfold signs; rw [List.length_map, Array.length_toList]
      refine .inr (.inr ⟨z, rfl, fun Dl hD => ⟨fun n mm H' => mm = z.cps.size - n ∧ n ≤ z.cps.size ∧ (G m H1 H' ∧ ∃ acc', H' Dl = some (.lst acc') ∧ Reps m.M K H' ((((signs z).take n).filter f).map w) acc' ∧ noLs ((((signs z).take n).filter f).map w) = true), ⟨z.cps.size, by simp, Nat.zero_le _, base Dl hD⟩, ?_⟩⟩)
      rintro n mm H' ⟨rfl, hn, pv⟩
      by_cases hlt : n < z.cps.size
      · refine .inr ⟨hlt, fun H' => G m H1 H' ∧ ∃ acc', H' Dl = some (.lst acc') ∧ Reps m.M K H' ((((signs z).take (n + 1)).filter f).map w) acc' ∧ noLs ((((signs z).take (n + 1)).filter f).map w) = true, fun H2 p2 => ⟨z.cps.size - (n + 1), by omega, rfl, hlt, p2⟩, fun x H2 y => ?_⟩
        obtain ⟨e1, c, hc, e2⟩ := y
        subst e1
        subst e2
        obtain ⟨gg, acc, ha, ra, hnl⟩ := pv
        have hd1 : (signs z)[n]? = some (dS ⟨#[c]⟩) := by
          unfold signs
          rw [List.getElem?_map, Array.getElem?_toList, hc]
          rfl
        exact lc_turn gm (hm Dl (g1.out hD)) gg hD ha ra hnl (by omega) hd1 (hw _ (List.mem_of_getElem? hd1)) (ht n _ _ H2 ((g0.trans g1).trans gg) hd1 (rep_s.mpr rfl))
      · have e : n = z.cps.size := by omega
        subst e
        exact .inl ⟨Nat.le_refl _, fin Dl H' hD (by rw [hlen]; exact pv)⟩
    | _ => cases hit
  | _ => cases hit
/-- over a range: the turn's number as a datum -/
def nats (n : Nat) : List D := (List.range n).map fun (i : Nat) => dI (i : Int)
theorem nats_get {n i : Nat} (h : i < n) : (nats n)[i]? = some (dI (i : Int)) := by
  unfold nats
  rw [List.getElem?_map, List.getElem?_range h]
  rfl
theorem nats_len {n : Nat} : (nats n).length = n := by unfold nats; rw [List.length_map, List.length_range]
theorem ev_lcR {ta : TA} {vs : List Nat} {n : Int} (f : D → Bool) (w : D → D) (hm : ∀ p, ¬ m.M p → m.N p → False) (gm : GMono g) (h : EvA m K ta σ H [dI n]) (hn : n ≤ 900000) (hn' : -900000 ≤ n)
    (hw : ∀ d ∈ nats n.toNat, f d = true → noL (w d) = true) (ht : ∀ (i : Nat) H', G m H H' → (i : Int) < n → LcTurn m K g t te vs σ f w (dI (i : Int)) (.int (i : Int)) H') :
    EvL m K (tLc (iRng1 ta) g t te vs) σ H (((nats n.toNat).filter f).map w) := fun H0 g0 Q q => h H0 g0 _ fun us H1 g1 rs => by
  obtain ⟨x, r, rfl, r1, r2⟩ := reps_cons.mp rs
  rw [rep_s.mp r1, reps_nil.mp r2]
  refine ⟨n, rfl, by omega, by omega, fun Dl hD => lc_range (lo := 0) (n := n.toNat) (fun i H' => G m H1 H' ∧ ∃ acc', H' Dl = some (.lst acc') ∧ Reps m.M K H' ((((nats n.toNat).take i).filter f).map w) acc' ∧ noLs ((((nats n.toNat).take i).filter f).map w) = true) ⟨g1.r1.mut hD, [], upd_same, Reps.nil, by rw [List.take_zero]; show noLs [] = true; unfold noLs; rfl⟩ (fun i H' hi pv => ?_) (fun H' pv => ?_)⟩
  · obtain ⟨gg, acc, ha, ra, hnl⟩ := pv
    have e0 : (0 : Int) + (i : Int) = (i : Int) := Int.zero_add _
    rw [e0]
    have hd1 := nats_get (n := n.toNat) hi
    exact lc_turn gm (hm Dl (g1.out hD)) gg hD ha ra hnl (by omega) hd1 (hw _ (List.mem_of_getElem? hd1)) (ht i H' ((g0.trans g1).trans gg) (by omega))
  · obtain ⟨gg, acc, ha, ra, _⟩ := pv
    have e : (nats n.toNat).take n.toNat = nats n.toNat := List.take_of_length_le (by rw [nats_len]; exact Nat.le_refl _)
    rw [e] at ra
    exact q _ _ (g1.trans gg) ⟨Dl, acc, rfl, (g0.trans g1).free hD, g1.out hD, ha, ra⟩

/-! ### built-in calls -/
theorem CallD.of (h : ∀ vs H1, G m H H1 → Reps m.M K H1 ds vs → ∀ Q : VK, (∀ v, Rep m.M K H1 d v → Q v H1) → r vs H1 Q) : CallD m K r ds H d := fun vs H1 g rs Q q => h vs H1 g rs Q fun v rv => q v H1 g.r1 rv
theorem reps1 {d1 : D} {vs : List V} {H1 : Hp} (rs : Reps m.M K H1 [d1] vs) : ∃ x, vs = [x] ∧ Rep m.M K H1 d1 x := by
  obtain ⟨x, r, rfl, r1, r2⟩ := reps_cons.mp rs
  rw [reps_nil.mp r2]
  exact ⟨x, rfl, r1⟩
theorem reps2 {d1 d2 : D} {vs : List V} {H1 : Hp} (rs : Reps m.M K H1 [d1, d2] vs) : ∃ x y, vs = [x, y] ∧ Rep m.M K H1 d1 x ∧ Rep m.M K H1 d2 y := by
  obtain ⟨x, r, rfl, r1, r2⟩ := reps_cons.mp rs
  obtain ⟨y, rfl, r3⟩ := reps1 r2
  exact ⟨x, y, rfl, r1, r3⟩
theorem reps3 {d1 d2 d3 : D} {vs : List V} {H1 : Hp} (rs : Reps m.M K H1 [d1, d2, d3] vs) : ∃ x y z, vs = [x, y, z] ∧ Rep m.M K H1 d1 x ∧ Rep m.M K H1 d2 y ∧ Rep m.M K H1 d3 z := by
  obtain ⟨x, r, rfl, r1, r2⟩ := reps_cons.mp rs
  obtain ⟨y, z, rfl, r3, r4⟩ := reps2 r2
  exact ⟨x, y, z, rfl, r1, r3, r4⟩
def lenD : D → Option Nat
  | .l ds => some ds.length
  | .t ds => some ds.length
  | .s (.str z) => some z.length
  | _ => none
def rLenU (K : PySem.W.Frag) : List V → Hp → VK → Prop := fun xs H Q => ∃ x n, xs = [x] ∧ LenV K x H n ∧ Q (.int n) H
theorem u_len {X : Cx} : CallR X (.builtin "len") (rLenU X.K) := call_len
theorem cd_len {n : Nat} (h : lenD d = some n) (hn : n ≤ 1000000) : CallD m K (rLenU K) [d] H (dI (n : Int)) := .of fun vs H1 g rs Q q => by
  obtain ⟨x, rfl, r1⟩ := reps1 rs
  cases d with
  | l ds =>
    obtain ⟨p, xs, rfl, st, rs'⟩ := rep_l.mp r1
    have e : ds.length = n := Option.some.inj h
    refine ⟨.ref p, n, rfl, .inl ⟨xs, st.here, by rw [rs'.len, e]⟩, q _ (rep_s.mpr rfl)⟩
  | t ds =>
    obtain ⟨p, xs, rfl, st, rs'⟩ := rep_t.mp r1
    have e : ds.length = n := Option.some.inj h
    refine ⟨.ref p, n, rfl, .inr ⟨xs, st.here, by rw [rs'.len, e]⟩, q _ (rep_s.mpr rfl)⟩
  | s x =>
    cases x with
    | str z =>
      have e : z.length = n := Option.some.inj h
      rw [rep_s.mp r1]
      exact ⟨.str z, n, rfl, ⟨by rw [e]; exact Nat.le_trans hn (by decide), e.symm⟩, q _ (rep_s.mpr rfl)⟩
    | _ => cases h
  | _ => cases h
def rAllU (K : PySem.W.Frag) : List V → Hp → VK → Prop := rAll K
theorem cd_all {bs : List Bool} : CallD m K (rAll K) [.l (bs.map dB)] H (dB (bs.all id)) := .of fun vs H1 g rs Q q => by
  obtain ⟨x, rfl, r1⟩ := reps1 rs
  obtain ⟨p, xs, rfl, st, rs'⟩ := rep_l.mp r1
  rw [reps_bl.mp rs'] at st
  exact ⟨p, bs, rfl, st.here, q _ (rep_s.mpr rfl)⟩
theorem cd_any {bs : List Bool} : CallD m K (rAny K) [.l (bs.map dB)] H (dB (bs.any id)) := .of fun vs H1 g rs Q q => by
  obtain ⟨x, rfl, r1⟩ := reps1 rs
  obtain ⟨p, xs, rfl, st, rs'⟩ := rep_l.mp r1
  rw [reps_bl.mp rs'] at st
  exact ⟨p, bs, rfl, st.here, q _ (rep_s.mpr rfl)⟩
theorem cd_sum {ns : List Int} : CallD m K (rSum K) [.l (ns.map dI)] H (dI ns.sum) := .of fun vs H1 g rs Q q => by
  obtain ⟨x, rfl, r1⟩ := reps1 rs
  obtain ⟨p, xs, rfl, st, rs'⟩ := rep_l.mp r1
  rw [reps_int.mp rs'] at st
  exact ⟨p, ns, rfl, st.here, q _ (rep_s.mpr rfl)⟩
end
end GK

/-! zip of a plain text and a tuple; a dict of it -/
namespace ZS
open PySem PySem.Spec PyProof.Rows
open PySem.Sem (wp)
open PySem.W (kdx_alive)
abbrev AIt (h : Heap) (i : Addr) (x : Str) (t : Tok) (k : Nat) : Prop := h.IsStrIter i "str_ascii_iterator" x t k
theorem AIt.ext {h h' : Heap} {i j : Addr} {x : Str} {t : Tok} {k : Nat} (a : AIt h i x t k) (e : ∀ o, h.get? i = some o → h'.get? i = some o) : AIt h' i x t k := let ⟨o, ho, r⟩ := a; ⟨o, e o ho, r⟩
section
variable {prog : Program} {w : World} {A : Around} {E : Value → Shared → Prop} {s : Shared}
theorem zs_next_item {z TI TO i1 i2 l2 : Addr} {k1 k2 : Nat} {xs : Str} {tx : Tok} {ys : Array Value} {c : Nat} {y a b : Value} {Q : Value → Shared → Prop} (D : ZipApart z TI TO i1 i2 l2 l2)
    (hz : IsZip s.heap z TI TO .none) (hTI : IsPair s.heap TI (.ref i1) (.ref i2)) (hTO : IsPair s.heap TO a b)
    (h1 : AIt s.heap i1 xs tx k1) (h2 : s.heap.IsTupleIter i2 l2 k2) (hl2 : s.heap.IsTuple l2 ys) (hx : xs.cps[k1]? = some c) (hy : ys[k2]? = some y)
    (hQ : ∀ h', IsZip h' z TI TO (rawInt s.heap.objs.size) → IsPair h' TO (.str ⟨#[c]⟩ s.toks) y → AIt h' i1 xs tx (k1 + 1) → h'.IsTupleIter i2 l2 (k2 + 1) → IsPair h' s.heap.objs.size (.str ⟨#[c]⟩ s.toks) y → h'.objs.size = s.heap.objs.size + 1 →
      (∀ c o, c ≠ z → c ≠ TO → c ≠ i1 → c ≠ i2 → s.heap.get? c = some o → h'.get? c = some o) → Q (.ref s.heap.objs.size) { s with heap := h', toks := s.toks + 1 }) :
    wpAny (model prog w) A (Builtin.«zip.__next__» ⟨[.ref z], []⟩) (fun fin s' => ∃ v, fin = .done (.ret v) ∧ Q v s') E s := by
  show wpAny _ _ (field (.ref z) 2 >>= _) _ _ _
  refine wpAny_bind (wpAny_field hz rfl (x := .bool false) rfl ?_)
  show wpAny _ _ (field (.ref z) 3 >>= _) _ _ _
  refine wpAny_bind (wpAny_field hz rfl (x := .ref TI) rfl ?_)
  refine wpAny_bind (wpAny_seqItems hTI rfl ?_)
  show wpAny _ _ (Builtin.SmallTypes.ownedTupleIsFree (.ref z) >>= _) _ _ _
  refine wpAny_bind ?_
  unfold Builtin.SmallTypes.ownedTupleIsFree
  refine wpAny_bind (wpAny_field hz rfl (x := .none) rfl (wpAny_pure ?_))
  simp only [if_true]
  refine wpAny_bind (wpAny_rule ?_)
  refine wpAny_bind (wpAny_field hz rfl (x := .ref TO) rfl ?_)
  refine wpAny_bind (wpAny_setField_rec hz (by simp) fun h₁ hz₁ hs₁ => ?_)
  replace hz₁ : IsZip h₁ z TI TO .ellipsis := hz₁
  refine wpAny_bind ?_
  simp only [List.zipIdx_cons, List.zipIdx_nil, List.forIn_cons, List.forIn_nil]
  refine wpAny_bind (wpAny_bind (wpAny_onRaise ?_))
  show wpAny _ _ (Builtin.SmallTypes.nextOf (.ref i1) >>= _) _ _ _
  refine wpAny_bind (wpAny_nextOf_ascii_item (s := { s with heap := h₁ }) (AIt.ext (j := i1) h1 fun o e => hs₁.extBut _ _ D.i1z e) hx fun h₂ h1₂ hs₂ => wpAny_pure ?_)
  have hTO₂ : IsPair h₂ TO a b := hs₂.extBut _ _ D.TOi1 (hs₁.extBut _ _ D.TOz hTO)
  refine wpAny_bind (wpAny_seqItems hTO₂ rfl ?_)
  refine wpAny_bind (wpAny_updateSeq_pair hTO₂ fun h₃ hTO₃ hs₃ => ?_)
  replace hTO₃ : IsPair h₃ TO (.str ⟨#[c]⟩ s.toks) b := hTO₃
  refine wpAny_bind (wpAny_letGo (wpAny_pure ?_))
  refine wpAny_bind (wpAny_bind (wpAny_onRaise ?_))
  show wpAny _ _ (Builtin.SmallTypes.nextOf (.ref i2) >>= _) _ _ _
  refine wpAny_bind (RZ.nextOf_tuple_item (((h2.extBut hs₁.extBut D.i2z).extBut hs₂.extBut D.i12.symm).extBut hs₃.extBut D.TOi2.symm)
    (((hl2.extBut hs₁.extBut D.l2z).extBut hs₂.extBut D.l2i1).extBut hs₃.extBut D.l2TO) hy fun h₄ h2₄ hs₄ => wpAny_pure ?_)
  have hTO₄ : IsPair h₄ TO (.str ⟨#[c]⟩ s.toks) b := hs₄.extBut _ _ D.TOi2 hTO₃
  refine wpAny_bind (wpAny_seqItems hTO₄ rfl ?_)
  refine wpAny_bind (wpAny_updateSeq_pair hTO₄ fun h₅ hTO₅ hs₅ => ?_)
  replace hTO₅ : IsPair h₅ TO (.str ⟨#[c]⟩ s.toks) y := hTO₅
  refine wpAny_bind (wpAny_letGo (wpAny_pure (wpAny_pure ?_)))
  refine wpAny_bind (wpAny_seqItems hTO₅ rfl ?_)
  refine wpAny_bind (wpAny_newTuple ?_)
  have hsz : h₅.objs.size = s.heap.objs.size := by rw [hs₅.1, hs₄.1, hs₃.1, hs₂.1, hs₁.1]
  have hz₅ : IsZip h₅ z TI TO .ellipsis := hs₅.extBut _ _ D.TOz.symm (hs₄.extBut _ _ D.i2z.symm (hs₃.extBut _ _ D.TOz.symm (hs₂.extBut _ _ D.i1z.symm hz₁)))
  have hk₅ : ∀ c o, c ≠ z → c ≠ TO → c ≠ i1 → c ≠ i2 → s.heap.get? c = some o → h₅.get? c = some o := fun c o c1 c2 c3 c4 e =>
    hs₅.extBut _ _ c2 (hs₄.extBut _ _ c4 (hs₃.extBut _ _ c2 (hs₂.extBut _ _ c3 (hs₁.extBut _ _ c1 e))))
  have h1₅ : AIt h₅ i1 xs tx (k1 + 1) := AIt.ext (j := i1) h1₂ fun o e => hs₅.extBut _ _ D.TOi1.symm (hs₄.extBut _ _ D.i12 (hs₃.extBut _ _ D.TOi1.symm e))
  have h2₅ : h₅.IsTupleIter i2 l2 (k2 + 1) := h2₄.extBut hs₅.extBut D.TOi2.symm
  have hzlt : z < h₅.objs.size := Heap.lt_size hz₅
  show wpAny _ _ (Builtin.SmallTypes.ownedTupleHandOut (.ref z) (.ref h₅.objs.size) >>= _) _ _ _
  refine wpAny_bind ?_
  unfold Builtin.SmallTypes.ownedTupleHandOut
  have hz₆ : IsZip (h₅.push { cls := .type "tuple", data := .seq #[.str ⟨#[c]⟩ s.toks, y] }) z TI TO .ellipsis := Heap.get?_push_of_some _ hz₅
  refine wpAny_bind (wpAny_setField_rec hz₆ (by simp) fun h₇ hz₇ hs₇ => ?_)
  replace hz₇ : IsZip h₇ z TI TO (rawInt h₅.objs.size) := hz₇
  refine wpAny_setField_rec hz₇ (by simp) fun h₈ hz₈ hs₈ => ?_
  replace hz₈ : IsZip h₈ z TI TO (rawInt h₅.objs.size) := hz₈
  have up : ∀ c o, c ≠ z → h₅.get? c = some o → h₈.get? c = some o := fun c o c1 e => hs₈.extBut _ _ c1 (hs₇.extBut _ _ c1 (Heap.get?_push_of_some _ e))
  have hT₈ : IsPair h₈ h₅.objs.size (.str ⟨#[c]⟩ s.toks) y := hs₈.extBut _ _ (Nat.ne_of_gt hzlt) (hs₇.extBut _ _ (Nat.ne_of_gt hzlt) (Heap.get?_push_size _ rfl))
  have hz8 : h₈.objs.size = h₅.objs.size + 1 := by rw [hs₈.1, hs₇.1, Heap.size_push]
  rw [hsz] at hz₈ hT₈ hz8
  refine wpAny_pure ⟨_, rfl, ?_⟩
  show Q (.ref h₅.objs.size) _
  rw [hsz]
  exact hQ h₈ hz₈ (up _ _ D.TOz hTO₅) (AIt.ext (j := i1) h1₅ fun o e => up _ o D.i1z e) (h2₅.at fun o e => up _ o D.i2z e) hT₈ hz8 fun c o c1 c2 c3 c4 e => up c o c1 (hk₅ c o c1 c2 c3 c4 e)
theorem zs_next_item_held {z TI TO T i1 i2 l2 : Addr} {f : Bool} {oT : Obj} {k1 k2 : Nat} {xs : Str} {tx : Tok} {ys : Array Value} {c : Nat} {y : Value} {Q : Value → Shared → Prop} (D : ZipApart z TI TO i1 i2 l2 l2)
    (hz : IsZipHeld s.heap z TI TO T f) (hT : s.heap.get? T = some oT) (hTI : IsPair s.heap TI (.ref i1) (.ref i2))
    (h1 : AIt s.heap i1 xs tx k1) (h2 : s.heap.IsTupleIter i2 l2 k2) (hl2 : s.heap.IsTuple l2 ys) (hx : xs.cps[k1]? = some c) (hy : ys[k2]? = some y)
    (hQ : ∀ h', IsZipHeld h' z TI TO T true → AIt h' i1 xs tx (k1 + 1) → h'.IsTupleIter i2 l2 (k2 + 1) → IsPair h' s.heap.objs.size (.str ⟨#[c]⟩ s.toks) y → h'.objs.size = s.heap.objs.size + 1 →
      (∀ c o, c ≠ z → c ≠ i1 → c ≠ i2 → s.heap.get? c = some o → h'.get? c = some o) → Q (.ref s.heap.objs.size) { s with heap := h', toks := s.toks + 1 }) :
    wpAny (model prog w) A (Builtin.«zip.__next__» ⟨[.ref z], []⟩) (fun fin s' => ∃ v, fin = .done (.ret v) ∧ Q v s') E s := by
  show wpAny _ _ (field (.ref z) 2 >>= _) _ _ _
  refine wpAny_bind (wpAny_field hz rfl (x := .bool false) rfl ?_)
  show wpAny _ _ (field (.ref z) 3 >>= _) _ _ _
  refine wpAny_bind (wpAny_field hz rfl (x := .ref TI) rfl ?_)
  refine wpAny_bind (wpAny_seqItems hTI rfl ?_)
  show wpAny _ _ (Builtin.SmallTypes.ownedTupleIsFree (.ref z) >>= _) _ _ _
  refine wpAny_bind (wpAny_tupleHeld_zip hz hT fun h₁ hz₁ hs₁ => ?_)
  simp only [Bool.false_eq_true, if_false]
  refine wpAny_bind ?_
  rw [← Array.forIn_toList]
  simp only [List.forIn_cons, List.forIn_nil]
  refine wpAny_bind (wpAny_bind (wpAny_holding ?_))
  show wpAny _ _ (Builtin.SmallTypes.nextOf (.ref i1) >>= _) _ _ _
  refine wpAny_bind (wpAny_nextOf_ascii_item (s := { s with heap := h₁ }) (AIt.ext (j := i1) h1 fun o e => hs₁.extBut _ _ D.i1z e) hx fun h₂ h1₂ hs₂ => wpAny_pure ?_)
  refine wpAny_pure ?_
  refine wpAny_bind (wpAny_bind (wpAny_holding ?_))
  show wpAny _ _ (Builtin.SmallTypes.nextOf (.ref i2) >>= _) _ _ _
  refine wpAny_bind (RZ.nextOf_tuple_item (s := { s with heap := h₂, toks := s.toks + 1 }) ((h2.extBut hs₁.extBut D.i2z).extBut hs₂.extBut D.i12.symm) ((hl2.extBut hs₁.extBut D.l2z).extBut hs₂.extBut D.l2i1) hy fun h₃ h2₃ hs₃ => wpAny_pure ?_)
  refine wpAny_pure (wpAny_pure ?_)
  show wpAny _ _ (newTuple [.str ⟨#[c]⟩ s.toks, y] >>= _) _ _ _
  refine wpAny_bind (wpAny_newTuple ?_)
  have hsz : h₃.objs.size = s.heap.objs.size := by rw [hs₃.1, hs₂.1, hs₁.1]
  have hz₃ : IsZipHeld h₃ z TI TO T true := hs₃.extBut _ _ D.i2z.symm (hs₂.extBut _ _ D.i1z.symm hz₁)
  have hk : ∀ c o, c ≠ z → c ≠ i1 → c ≠ i2 → s.heap.get? c = some o → h₃.get? c = some o := fun c o c1 c2 c3 e => hs₃.extBut _ _ c3 (hs₂.extBut _ _ c2 (hs₁.extBut _ _ c1 e))
  have h1₃ : AIt h₃ i1 xs tx (k1 + 1) := AIt.ext (j := i1) h1₂ fun o e => hs₃.extBut _ _ D.i12 e
  refine wpAny_pure ⟨_, rfl, ?_⟩
  show Q (.ref h₃.objs.size) _
  have hp : IsPair (h₃.push { cls := .type "tuple", data := .seq #[.str ⟨#[c]⟩ s.toks, y] }) h₃.objs.size (.str ⟨#[c]⟩ s.toks) y := Heap.get?_push_size _ rfl
  have hz4 : (h₃.push { cls := .type "tuple", data := .seq #[.str ⟨#[c]⟩ s.toks, y] }).objs.size = h₃.objs.size + 1 := Heap.size_push ..
  rw [hsz] at hp hz4 ⊢
  exact hQ _ (Heap.get?_push_of_some _ hz₃) (AIt.ext (j := i1) h1₃ fun o e => Heap.get?_push_of_some _ e) (h2₃.at fun o e => Heap.get?_push_of_some _ e) hp hz4 fun c o c1 c2 c3 e => Heap.get?_push_of_some _ (hk c o c1 c2 c3 e)
theorem zs_next_end {z TI TO i1 i2 l2 : Addr} {k1 k2 : Nat} {xs : Str} {tx : Tok} {ys : Array Value} {a b : Value} {Q : Fin → Shared → Prop} (hh : A.handled = none) (D : ZipApart z TI TO i1 i2 l2 l2)
    (hz : IsZip s.heap z TI TO .none) (hTI : IsPair s.heap TI (.ref i1) (.ref i2)) (hTO : IsPair s.heap TO a b)
    (h1 : AIt s.heap i1 xs tx k1) (hx : xs.cps[k1]? = none)
    (hE : ∀ h' e, (∀ c o, c ≠ z → c ≠ TO → c ≠ i1 → c ≠ i2 → s.heap.get? c = some o → h'.get? c = some o) → (∃ o, h'.get? e = some o ∧ o.cls = .type "StopIteration") → E (.ref e) { s with heap := h' }) :
    wpAny (model prog w) A (Builtin.«zip.__next__» ⟨[.ref z], []⟩) Q E s := by
  show wpAny _ _ (field (.ref z) 2 >>= _) _ _ _
  refine wpAny_bind (wpAny_field hz rfl (x := .bool false) rfl ?_)
  show wpAny _ _ (field (.ref z) 3 >>= _) _ _ _
  refine wpAny_bind (wpAny_field hz rfl (x := .ref TI) rfl ?_)
  refine wpAny_bind (wpAny_seqItems hTI rfl ?_)
  show wpAny _ _ (Builtin.SmallTypes.ownedTupleIsFree (.ref z) >>= _) _ _ _
  refine wpAny_bind ?_
  unfold Builtin.SmallTypes.ownedTupleIsFree
  refine wpAny_bind (wpAny_field hz rfl (x := .none) rfl (wpAny_pure ?_))
  simp only [if_true]
  refine wpAny_bind (wpAny_rule ?_)
  refine wpAny_bind (wpAny_field hz rfl (x := .ref TO) rfl ?_)
  refine wpAny_bind (wpAny_setField_rec hz (by simp) fun h₁ hz₁ hs₁ => ?_)
  replace hz₁ : IsZip h₁ z TI TO .ellipsis := hz₁
  refine wpAny_bind ?_
  simp only [List.zipIdx_cons, List.zipIdx_nil, List.forIn_cons, List.forIn_nil]
  refine wpAny_bind (wpAny_bind (wpAny_onRaise ?_))
  show wpAny _ _ (Builtin.SmallTypes.nextOf (.ref i1) >>= _) _ _ _
  refine wpAny_bind (wpAny_nextOf_ascii_end (s := { s with heap := h₁ }) hh (AIt.ext (j := i1) h1 fun o e => hs₁.extBut _ _ D.i1z e) hx fun h₂ e hs₂ he => ?_)
  obtain ⟨oe, hoe, hce⟩ := he
  have hz₂ : IsZip h₂ z TI TO .ellipsis := hs₂ _ _ D.i1z.symm hz₁
  have hez : e ≠ z := fun x => by subst x; rw [hz₂] at hoe; cases hoe; simp at hce
  refine wpAny_setField_rec hz₂ (by simp) fun h₃ _ hs₃ => hE h₃ e (fun c o c1 _ c3 _ x => hs₃.extBut _ _ c1 (hs₂ _ _ c3 (hs₁.extBut _ _ c1 x))) ⟨oe, hs₃.extBut _ _ hez hoe, hce⟩
theorem zs_next_end_held {z TI TO T i1 i2 l2 : Addr} {f : Bool} {oT : Obj} {k1 k2 : Nat} {xs : Str} {tx : Tok} {ys : Array Value} {Q : Fin → Shared → Prop} (hh : A.handled = none) (D : ZipApart z TI TO i1 i2 l2 l2)
    (hz : IsZipHeld s.heap z TI TO T f) (hT : s.heap.get? T = some oT) (hTI : IsPair s.heap TI (.ref i1) (.ref i2))
    (h1 : AIt s.heap i1 xs tx k1) (hx : xs.cps[k1]? = none)
    (hE : ∀ h' e, (∀ c o, c ≠ z → c ≠ i1 → c ≠ i2 → s.heap.get? c = some o → h'.get? c = some o) → (∃ o, h'.get? e = some o ∧ o.cls = .type "StopIteration") → E (.ref e) { s with heap := h' }) :
    wpAny (model prog w) A (Builtin.«zip.__next__» ⟨[.ref z], []⟩) Q E s := by
  show wpAny _ _ (field (.ref z) 2 >>= _) _ _ _
  refine wpAny_bind (wpAny_field hz rfl (x := .bool false) rfl ?_)
  show wpAny _ _ (field (.ref z) 3 >>= _) _ _ _
  refine wpAny_bind (wpAny_field hz rfl (x := .ref TI) rfl ?_)
  refine wpAny_bind (wpAny_seqItems hTI rfl ?_)
  show wpAny _ _ (Builtin.SmallTypes.ownedTupleIsFree (.ref z) >>= _) _ _ _
  refine wpAny_bind (wpAny_tupleHeld_zip hz hT fun h₁ hz₁ hs₁ => ?_)
  simp only [Bool.false_eq_true, if_false]
  refine wpAny_bind ?_
  rw [← Array.forIn_toList]
  simp only [List.forIn_cons, List.forIn_nil]
  refine wpAny_bind (wpAny_bind (wpAny_holding ?_))
  show wpAny _ _ (Builtin.SmallTypes.nextOf (.ref i1) >>= _) _ _ _
  refine wpAny_bind (wpAny_nextOf_ascii_end (s := { s with heap := h₁ }) hh (AIt.ext (j := i1) h1 fun o e => hs₁.extBut _ _ D.i1z e) hx fun h₂ e hs₂ he => ?_)
  exact hE h₂ e (fun c o c1 c2 _ x => hs₂ _ _ c2 (hs₁.extBut _ _ c1 x)) he
theorem pyNext_zs_item {z TI TO i1 i2 l2 : Addr} {k1 k2 : Nat} {xs : Str} {tx : Tok} {ys : Array Value} {c : Nat} {y a b : Value} {Q : Option Value → Shared → Prop} (D : ZipApart z TI TO i1 i2 l2 l2)
    (hz : IsZip s.heap z TI TO .none) (hTI : IsPair s.heap TI (.ref i1) (.ref i2)) (hTO : IsPair s.heap TO a b)
    (h1 : AIt s.heap i1 xs tx k1) (h2 : s.heap.IsTupleIter i2 l2 k2) (hl2 : s.heap.IsTuple l2 ys) (hx : xs.cps[k1]? = some c) (hy : ys[k2]? = some y)
    (hQ : ∀ h', IsZip h' z TI TO (rawInt s.heap.objs.size) → IsPair h' TO (.str ⟨#[c]⟩ s.toks) y → AIt h' i1 xs tx (k1 + 1) → h'.IsTupleIter i2 l2 (k2 + 1) → IsPair h' s.heap.objs.size (.str ⟨#[c]⟩ s.toks) y → h'.objs.size = s.heap.objs.size + 1 →
      (∀ c o, c ≠ z → c ≠ TO → c ≠ i1 → c ≠ i2 → s.heap.get? c = some o → h'.get? c = some o) → Q (some (.ref s.heap.objs.size)) { s with heap := h', toks := s.toks + 1 }) :
    wpAny (model prog w) A (pyNext (.ref z)) Q E s := by
  have hT : s.TypeIs (.ref z) "zip" := ⟨_, hz, rfl⟩
  unfold pyNext
  exact wpAny_bind (wpAny_attempt (wpAny_callSpecial?_slot (name := Str.ofString "__next__") hT F.slot_zip_next
    (wpAny_call_entry F.slot_zip_next hT F.entry_zip_next
      (zs_next_item D hz hTI hTO h1 h2 hl2 hx hy fun h' a1 a2 a3 a4 a5 a6 a7 => wpAny_pure (hQ h' a1 a2 a3 a4 a5 a6 a7)) (F.args_zip_next_1 _))))
theorem pyNext_zs_item_held {z TI TO T i1 i2 l2 : Addr} {f : Bool} {oT : Obj} {k1 k2 : Nat} {xs : Str} {tx : Tok} {ys : Array Value} {c : Nat} {y : Value} {Q : Option Value → Shared → Prop} (D : ZipApart z TI TO i1 i2 l2 l2)
    (hz : IsZipHeld s.heap z TI TO T f) (hT : s.heap.get? T = some oT) (hTI : IsPair s.heap TI (.ref i1) (.ref i2))
    (h1 : AIt s.heap i1 xs tx k1) (h2 : s.heap.IsTupleIter i2 l2 k2) (hl2 : s.heap.IsTuple l2 ys) (hx : xs.cps[k1]? = some c) (hy : ys[k2]? = some y)
    (hQ : ∀ h', IsZipHeld h' z TI TO T true → AIt h' i1 xs tx (k1 + 1) → h'.IsTupleIter i2 l2 (k2 + 1) → IsPair h' s.heap.objs.size (.str ⟨#[c]⟩ s.toks) y → h'.objs.size = s.heap.objs.size + 1 →
      (∀ c o, c ≠ z → c ≠ i1 → c ≠ i2 → s.heap.get? c = some o → h'.get? c = some o) → Q (some (.ref s.heap.objs.size)) { s with heap := h', toks := s.toks + 1 }) :
    wpAny (model prog w) A (pyNext (.ref z)) Q E s := by
  have hTy : s.TypeIs (.ref z) "zip" := ⟨_, hz, rfl⟩
  unfold pyNext
  exact wpAny_bind (wpAny_attempt (wpAny_callSpecial?_slot (name := Str.ofString "__next__") hTy F.slot_zip_next
    (wpAny_call_entry F.slot_zip_next hTy F.entry_zip_next
      (zs_next_item_held D hz hT hTI h1 h2 hl2 hx hy fun h' a1 a3 a4 a5 a6 a7 => wpAny_pure (hQ h' a1 a3 a4 a5 a6 a7)) (F.args_zip_next_1 _))))
theorem pyNext_zs_end {z TI TO i1 i2 l2 : Addr} {k1 k2 : Nat} {xs : Str} {tx : Tok} {ys : Array Value} {a b : Value} {Q : Option Value → Shared → Prop} (hh : A.handled = none) (D : ZipApart z TI TO i1 i2 l2 l2)
    (hz : IsZip s.heap z TI TO .none) (hTI : IsPair s.heap TI (.ref i1) (.ref i2)) (hTO : IsPair s.heap TO a b)
    (h1 : AIt s.heap i1 xs tx k1) (hx : xs.cps[k1]? = none)
    (hQ : ∀ h', (∀ c o, c ≠ z → c ≠ TO → c ≠ i1 → c ≠ i2 → s.heap.get? c = some o → h'.get? c = some o) → Q none { s with heap := h' }) : wpAny (model prog w) A (pyNext (.ref z)) Q E s := by
  have hT : s.TypeIs (.ref z) "zip" := ⟨_, hz, rfl⟩
  unfold pyNext
  refine wpAny_bind (wpAny_attempt (wpAny_callSpecial?_slot (name := Str.ofString "__next__") hT F.slot_zip_next
    (wpAny_call_entry F.slot_zip_next hT F.entry_zip_next (zs_next_end (k2 := k2) (ys := ys) hh D hz hTI hTO h1 hx fun h' e hk he => ?_) (F.args_zip_next_1 _))))
  obtain ⟨o, ho, hc⟩ := he
  refine wpAny_bind (wpAny_isInstance (T := "StopIteration") (b := true) ⟨o, ho, hc⟩ isSubtype_stop ?_)
  exact wpAny_pure (hQ _ hk)
theorem pyNext_zs_end_held {z TI TO T i1 i2 l2 : Addr} {f : Bool} {oT : Obj} {k1 k2 : Nat} {xs : Str} {tx : Tok} {ys : Array Value} {Q : Option Value → Shared → Prop} (hh : A.handled = none) (D : ZipApart z TI TO i1 i2 l2 l2)
    (hz : IsZipHeld s.heap z TI TO T f) (hT : s.heap.get? T = some oT) (hTI : IsPair s.heap TI (.ref i1) (.ref i2))
    (h1 : AIt s.heap i1 xs tx k1) (hx : xs.cps[k1]? = none)
    (hQ : ∀ h', (∀ c o, c ≠ z → c ≠ i1 → c ≠ i2 → s.heap.get? c = some o → h'.get? c = some o) → Q none { s with heap := h' }) : wpAny (model prog w) A (pyNext (.ref z)) Q E s := by
  have hTy : s.TypeIs (.ref z) "zip" := ⟨_, hz, rfl⟩
  unfold pyNext
  refine wpAny_bind (wpAny_attempt (wpAny_callSpecial?_slot (name := Str.ofString "__next__") hTy F.slot_zip_next
    (wpAny_call_entry F.slot_zip_next hTy F.entry_zip_next (zs_next_end_held (k2 := k2) (ys := ys) hh D hz hT hTI h1 hx fun h' e hk he => ?_) (F.args_zip_next_1 _))))
  obtain ⟨o, ho, hc⟩ := he
  refine wpAny_bind (wpAny_isInstance (T := "StopIteration") (b := true) ⟨o, ho, hc⟩ isSubtype_stop ?_)
  exact wpAny_pure (hQ _ hk)
end
abbrev zH1 (h : Heap) (x : Str) (t : Tok) : Heap := h.push { cls := .type "str_ascii_iterator", data := .fields #[.str x t, .int 0 0] }
abbrev zH2 (h : Heap) (x : Str) (t : Tok) (l2 : Addr) : Heap := (zH1 h x t).push { cls := .type "tuple_iterator", data := .fields #[.ref l2, .int 0 0] }
abbrev zH3 (h : Heap) (x : Str) (t : Tok) (l2 : Addr) : Heap := (zH2 h x t l2).push { cls := .type "tuple", data := .seq #[.ref h.objs.size, .ref (zH1 h x t).objs.size] }
abbrev zH4 (h : Heap) (x : Str) (t : Tok) (l2 : Addr) : Heap := (zH3 h x t l2).push { cls := .type "tuple", data := .seq #[.none, .none] }
abbrev zH5 (h : Heap) (x : Str) (t : Tok) (l2 : Addr) : Heap := (zH4 h x t l2).push { cls := .type "zip", data := .fields #[.none, .bool false, .bool false, .ref (zH2 h x t l2).objs.size, .ref (zH3 h x t l2).objs.size] }
theorem meets_zs_new (x : Str) (t : Tok) (ha : x.cps.all (· < 128) = true) (l2 : Addr) (ys : Array Value) :
    Meets (Builtin.«zip.__new__» ⟨[.type "zip", .str x t, .ref l2], []⟩) (fun _ R s => s.heap.IsTuple l2 ys ∧
      R (.ok (.ret (.ref (zH4 s.heap x t l2).objs.size))) { s with heap := zH5 s.heap x t l2 }) :=
  .of_wp fun prog w A R s h => by
    obtain ⟨hp, g, d, tk, os⟩ := s; obtain ⟨hl2, h⟩ := h
    have hsub := sub_zip
    have hL2 : Heap.IsTuple (Shared.heap ⟨hp.push { cls := .type "str_ascii_iterator", data := .fields #[.str x t, .int 0 0] }, g, d, tk, os⟩) l2 ys := Heap.IsTuple.push hl2 _
    wp_walk using wpAny_pyIter_ascii ha, wpAny_pyIter_tuple hL2
    exact ⟨_, rfl, h⟩
section
variable {prog : Program} {w : World} {A : Around} {E : Value → Shared → Prop} {s : Shared}
theorem call_zs {x : Str} {t : Tok} (ha : x.cps.all (· < 128) = true) {l2 : Addr} {ys : Array Value} {Q : Value → Shared → Prop} (hl2 : s.heap.IsTuple l2 ys)
    (h : ∀ h', IsZip h' (s.heap.objs.size + 4) (s.heap.objs.size + 2) (s.heap.objs.size + 3) .none → IsPair h' (s.heap.objs.size + 2) (.ref s.heap.objs.size) (.ref (s.heap.objs.size + 1)) →
      IsPair h' (s.heap.objs.size + 3) .none .none → AIt h' s.heap.objs.size x t 0 → h'.IsTupleIter (s.heap.objs.size + 1) l2 0 → h'.objs.size = s.heap.objs.size + 5 →
      (∀ c o, s.heap.get? c = some o → h'.get? c = some o) → Q (.ref (s.heap.objs.size + 4)) { s with heap := h' }) :
    wpAny (model prog w) A (call (.type "zip") [.str x t, .ref l2]) Q E s := by
  refine callType_new F.called_zip (by decide) (F.typeCall_zip_2 _ _) (F.newCall_zip_2 _ _) (fun obj => F.args_object_init_3 obj _ _) F.entry_zip_new
    (meets_zs_new x t ha l2 ys) ⟨hl2, ?_⟩
  have z1 : (zH1 s.heap x t).objs.size = s.heap.objs.size + 1 := Heap.size_push ..
  have z2 : (zH2 s.heap x t l2).objs.size = s.heap.objs.size + 2 := by rw [Heap.size_push, z1]
  have z3 : (zH3 s.heap x t l2).objs.size = s.heap.objs.size + 3 := by rw [Heap.size_push, z2]
  have z4 : (zH4 s.heap x t l2).objs.size = s.heap.objs.size + 4 := by rw [Heap.size_push, z3]
  have z5 : (zH5 s.heap x t l2).objs.size = s.heap.objs.size + 5 := by rw [Heap.size_push, z4]
  have g5 : (zH5 s.heap x t l2).get? (zH4 s.heap x t l2).objs.size = some _ := Heap.get?_push_size _ rfl
  have g4 : (zH5 s.heap x t l2).get? (zH3 s.heap x t l2).objs.size = some _ := Heap.get?_push_of_some _ (Heap.get?_push_size _ rfl)
  have g3 : (zH5 s.heap x t l2).get? (zH2 s.heap x t l2).objs.size = some _ := Heap.get?_push_of_some _ (Heap.get?_push_of_some _ (Heap.get?_push_size _ rfl))
  have g2 : (zH5 s.heap x t l2).get? (zH1 s.heap x t).objs.size = some _ := Heap.get?_push_of_some _ (Heap.get?_push_of_some _ (Heap.get?_push_of_some _ (Heap.get?_push_size _ rfl)))
  have g1 : (zH5 s.heap x t l2).get? s.heap.objs.size = some _ := Heap.get?_push_of_some _ (Heap.get?_push_of_some _ (Heap.get?_push_of_some _ (Heap.get?_push_of_some _ (Heap.get?_push_size _ rfl))))
  show _ ∧ _
  rw [z2, z3, z4] at g5
  rw [z1, z2] at g3
  rw [z3] at g4
  rw [z1] at g2
  rw [z4]
  exact ⟨⟨_, g5, rfl⟩, h _ g5 g3 g4 ⟨_, g1, rfl, rfl⟩ ⟨_, g2, rfl, rfl⟩ z5 fun c o x =>
    Heap.get?_push_of_some _ (Heap.get?_push_of_some _ (Heap.get?_push_of_some _ (Heap.get?_push_of_some _ (Heap.get?_push_of_some _ x))))⟩
end
section
variable {prog : Program} {w : World}
theorem PairArg.zs (z TI TO i1 i2 l2 : Addr) (D : ZipApart z TI TO i1 i2 l2 l2) (xs : Str) (tx : Tok) (ys : Array Value) (hsz : xs.cps.size = ys.size) :
    PairArg prog w "zip" z [z, TI, TO, i1, i2, l2] [z, TO, i1, i2] ys.size (fun i k v => (∃ c t, xs.cps[i]? = some c ∧ k = .str ⟨#[c]⟩ t) ∧ ys[i]? = some v)
      (fun h => IsZip h z TI TO .none ∧ IsPair h TI (.ref i1) (.ref i2) ∧ (∃ a b, IsPair h TO a b) ∧ AIt h i1 xs tx 0 ∧ h.IsTupleIter i2 l2 0 ∧ h.IsTuple l2 ys) where
  type := fun s ok => ⟨_, ok.1, rfl⟩
  notDict := by decide
  keep := fun h h' ok hk => by
    obtain ⟨hz, hTI, ⟨a, b, hTO⟩, h1, h2, hl2⟩ := ok
    exact ⟨hk _ _ hz, hk _ _ hTI, ⟨a, b, hk _ _ hTO⟩, AIt.ext (j := i1) h1 fun o e => hk _ o e, h2.at fun o e => hk _ o e, hl2.at fun o e => hk _ o e⟩
  there := fun h ok b hb => by
    obtain ⟨hz, hTI, ⟨a, c, hTO⟩, ⟨o1, h1, _⟩, ⟨o2, h2, _⟩, ⟨o4, hl2, _⟩⟩ := ok
    simp only [List.mem_cons, List.not_mem_nil, or_false] at hb
    rcases hb with rfl | rfl | rfl | rfl | rfl | rfl
    all_goals first | exact ⟨_, hz⟩ | exact ⟨_, hTI⟩ | exact ⟨_, hTO⟩ | exact ⟨_, h1⟩ | exact ⟨_, h2⟩ | exact ⟨_, hl2⟩
  sub := fun b hb => by simp at hb ⊢; rcases hb with rfl | rfl | rfl | rfl <;> simp
  noKeys := fun A s Q E hA ok h => getAttrOr_miss_zip ok.1 rfl rfl rfl zip_no_keys (by decide +kernel) hA h
  iter := fun A s d Q E hA ok hd hdf h => by
    obtain ⟨hz, hTI, ⟨a, b, hTO⟩, h1, h2, hl2⟩ := ok
    simp only [List.mem_cons, List.not_mem_nil, or_false, not_or] at hdf
    obtain ⟨dz, dTI, dTO, di1, di2, dl2⟩ := hdf
    refine wpAny_pyIter_zip hz (h z [z, TO, i1, i2] (fun i h => IsPair h TI (.ref i1) (.ref i2) ∧ AIt h i1 xs tx i ∧ h.IsTupleIter i2 l2 i ∧ h.IsTuple l2 ys ∧
      ((IsZip h z TI TO .none ∧ ∃ a b, IsPair h TO a b) ∨ ∃ T f oT, IsZipHeld h z TI TO T f ∧ h.get? T = some oT ∧ T ≠ z ∧ T ≠ i1 ∧ T ≠ i2 ∧ T ≠ d)) s.heap s.toks ?_
      ⟨hTI, h1, h2, hl2, .inl ⟨hz, a, b, hTO⟩⟩ (fun _ _ e => e) fun b hb => .inl hb)
    exact {
      off := fun hm => by
        simp only [List.mem_cons, List.not_mem_nil, or_false] at hm
        rcases hm with e | e | e | e
        · exact dz e
        · exact dTO e
        · exact di1 e
        · exact di2 e
      frame := fun i h₁ h₂ st hk => by
        obtain ⟨hTI, h1, h2, hl2, hz⟩ := st
        refine ⟨hk _ _ (Ne.symm dTI) hTI, AIt.ext (j := i1) h1 fun o e => hk _ o (Ne.symm di1) e, h2.at fun o e => hk _ o (Ne.symm di2) e, hl2.at fun o e => hk _ o (Ne.symm dl2) e, ?_⟩
        rcases hz with ⟨hz, a, b, hTO⟩ | ⟨T, f, oT, hz, hT, r1, r2, r3, r4⟩
        · exact .inl ⟨hk _ _ (Ne.symm dz) hz, a, b, hk _ _ (Ne.symm dTO) hTO⟩
        · exact .inr ⟨T, f, oT, hk _ _ (Ne.symm dz) hz, hk _ _ r4 hT, r1, r2, r3, r4⟩
      item := fun i s₁ Q₁ E₁ hi st hds hQ => by
        obtain ⟨hTI, h1, h2, hl2, hz⟩ := st
        have hix : i < xs.cps.size := by omega
        have ex := Array.getElem?_eq_getElem hix
        have ey := Array.getElem?_eq_getElem hi
        have lt : ∀ {c o}, s₁.heap.get? c = some o → s₁.heap.objs.size ≠ c := fun e => Nat.ne_of_gt (Heap.lt_size e)
        have n1 : s₁.heap.objs.size ≠ i1 := let ⟨_, e, _⟩ := h1; lt e
        have n2 : s₁.heap.objs.size ≠ i2 := let ⟨_, e, _⟩ := h2; lt e
        rcases hz with ⟨hz, a, b, hTO⟩ | ⟨T, f, oT, hz, hT, r1, r2, r3, r4⟩
        · refine pyNext_zs_item D hz hTI hTO h1 h2 hl2 ex ey fun h' a1 a2 a3 a4 a5 a6 hk => ?_
          exact hQ s₁.heap.objs.size _ _ h' (s₁.toks + 1) ⟨⟨_, _, ex, rfl⟩, ey⟩ (.inl ⟨_, a5, rfl, _, rfl⟩)
            ⟨hk _ _ D.TIz D.TITO D.TIi1 D.TIi2 hTI, a3, a4, hl2.at fun o e => hk _ o D.l2z D.l2TO D.l2i1 D.l2i2 e,
              .inr ⟨s₁.heap.objs.size, false, _, a1, a5, lt hz, n1, n2, Nat.ne_of_gt hds⟩⟩
            fun c o hc e => hk c o (fun x => hc (by simp [x])) (fun x => hc (by simp [x])) (fun x => hc (by simp [x])) (fun x => hc (by simp [x])) e
        · refine pyNext_zs_item_held D hz hT hTI h1 h2 hl2 ex ey fun h' a1 a3 a4 a5 a6 hk => ?_
          exact hQ s₁.heap.objs.size _ _ h' (s₁.toks + 1) ⟨⟨_, _, ex, rfl⟩, ey⟩ (.inl ⟨_, a5, rfl, _, rfl⟩)
            ⟨hk _ _ D.TIz D.TIi1 D.TIi2 hTI, a3, a4, hl2.at fun o e => hk _ o D.l2z D.l2i1 D.l2i2 e,
              .inr ⟨T, true, oT, a1, hk _ _ r1 r2 r3 hT, r1, r2, r3, r4⟩⟩
            fun c o hc e => hk c o (fun x => hc (by simp [x])) (fun x => hc (by simp [x])) (fun x => hc (by simp [x])) e
      done := fun s₁ Q₁ E₁ st hQ => by
        obtain ⟨hTI, h1, h2, hl2, hz⟩ := st
        have hend : xs.cps[ys.size]? = none := Array.getElem?_eq_none (by omega)
        rcases hz with ⟨hz, a, b, hTO⟩ | ⟨T, f, oT, hz, hT, r1, r2, r3, r4⟩
        · exact pyNext_zs_end (k2 := 0) (ys := ys) hA D hz hTI hTO h1 hend fun h' hk => hQ h' s₁.toks fun c o hc e => hk c o (fun x => hc (by simp [x])) (fun x => hc (by simp [x])) (fun x => hc (by simp [x])) (fun x => hc (by simp [x])) e
        · exact pyNext_zs_end_held (k2 := 0) (ys := ys) hA D hz hT hTI h1 hend fun h' hk => hQ h' s₁.toks fun c o hc e => hk c o (fun x => hc (by simp [x])) (fun x => hc (by simp [x])) (fun x => hc (by simp [x])) e }
end
end ZS

/-! further rules: defs, classes, constants of the module; dict(zip(..)); sorted of texts -/
namespace GK
open PySem PySem.Spec PyProof.Rows L2
section
variable {X : Cx}
/-! dict(zip(text, tuple)) -/
def tDictZip (K : PySem.W.Frag) (ta : TA) : TE := fun σ H Q => ta σ H fun vs H1 => ∃ (x : Str) (t : Addr) (xs : List V), vs = [.str x, .ref t] ∧ x.cps.all (· < 128) = true ∧ SqT K H1 t xs ∧ xs.length = x.cps.size ∧
  ∀ p, H1 p = none → Q (.ref p) (upd H1 p (.dK (mergeK [] ((x.cps.toList.map fun c => (Sum.inr ⟨#[c]⟩ : Key)).zip xs))))
theorem kv_zip : ∀ {ks : List Key} {xs : List V} {us : List Value}, Vals xs us → KV (ks.zip xs) (ks.zip us)
  | [], _, _, _ => by rw [List.zip_nil_left, List.zip_nil_left]; exact .nil
  | k :: ks, _, _, .nil => by rw [List.zip_nil_right, List.zip_nil_right]; exact .nil
  | k :: ks, _, _, .cons r t => by rw [List.zip_cons_cons, List.zip_cons_cons]; exact .cons ⟨rfl, r⟩ (kv_zip t)
theorem pe_dictzip {a b : Expr} {ta : TA} {p p2 pos pos2 : Pos} (hc : X.calm = true) (hgD : Gl X "dict") (hmD : X.mg "dict" = none) (hgZ : Gl X "zip") (hmZ : X.mg "zip" = none) (ha : PA X [a, b] ta)
    (hs1 : starEach [.Call (.Name "zip" p2) [a, b] [] pos2] X.env = (false, eval (.Call (.Name "zip" p2) [a, b] [] pos2) X.env) :: starEach [] X.env := by rfl)
    (hpl1 : (backTo pos (starEach [] X.env)).any (·.1) = false := by rfl)
    (hs2 : starEach [a, b] X.env = (false, eval a X.env) :: starEach [b] X.env := by rfl) (hpl2 : (backTo pos2 (starEach [b] X.env)).any (·.1) = false := by rfl) :
    PE X (.Call (.Name "dict" p) [.Call (.Name "zip" p2) [a, b] [] pos2] [] pos) (tDictZip X.K ta) := by
  refine ⟨fun pins s σ H Q I h => ?_⟩
  refine wpAny_Call_Name_kw (ld_blt I hgD hmD (by decide +kernel : bootBuiltins "dict" = some (.type "dict")) ?_)
  refine PyProof.Rows.callWith_type1 ?_ hs1 hpl1
  rw [hs1]
  show wpAny _ _ (spliced ((false, eval (.Call (.Name "zip" p2) [a, b] [] pos2) X.env) :: backTo pos (starEach [] X.env))) _ _ s
  refine Calls.spliced_cons ?_
  refine wpAny_Call_Name_kw (ld_blt I hgZ hmZ PyProof.Rows.boot_zip ?_)
  refine PyProof.Rows.callWith_type1 (thn (ha.run pos2 pins s σ H _ I h) fun us s1 ⟨vs, H1, I1, r1, q1⟩ => ?_) hs2 hpl2
  obtain ⟨x, t, xs, ex, hasc, hq, hlen, q⟩ := q1
  subst ex
  cases r1 with
  | cons r rr =>
    cases rr with
    | cons r' rr =>
      cases rr
      obtain ⟨tk, rfl⟩ := r
      cases r'
      obtain ⟨its, rv, p1, hz⟩ := I1.tuple hq
      obtain ⟨o1, ho1, hrest⟩ := id p1
      have hl : xs.length = its.length := rv.length
      refine ZS.call_zs hasc (show s1.heap.IsTuple t its.toArray from p1) fun h' hz' hTI hTO h1 h2 hsz hk => ?_
      refine Calls.spliced_nil ?_
      have D := PySem.W.ktu_apart s1.heap.objs.size t t (Heap.lt_size ho1) (Heap.lt_size ho1)
      have p1' : h'.IsTuple t its.toArray := Heap.IsTuple.at (show s1.heap.IsTuple t its.toArray from p1) fun o e => hk _ o e
      refine PySem.call_dict_pairs (s := { s1 with heap := h' }) (knd := mixKind X.prog X.w) (kvs := (x.cps.toList.map fun c => (Sum.inr ⟨#[c]⟩ : Key)).zip its) (ZS.PairArg.zs _ _ _ _ _ _ D x tk its.toArray (hlen.symm.trans (hl.trans List.size_toArray.symm))) (I1.ok.hd hc) ⟨hz', hTI, ⟨_, _, hTO⟩, h1, h2, p1'⟩ ⟨?_, ?_⟩ (by rw [List.size_toArray, ← hl]; exact hz) fun h'' tk' hd' hk' => ?_
      · have e1 : x.cps.toList.length = its.length := hlen.symm.trans hl
        rw [List.length_zip, List.length_map, e1, Nat.min_self]
        exact List.size_toArray.symm
      · rintro i key v ⟨⟨c, tt, hc1, rfl⟩, hv⟩
        refine ⟨Sum.inr ⟨#[c]⟩, ?_, mixKind_str _ _ _ _⟩
        rw [List.getElem?_zip_eq_some]
        exact ⟨by rw [List.getElem?_map, Array.getElem?_toList, hc1]; rfl, by simpa using hv⟩
      · have lo : ∀ b o, s1.heap.get? b = some o → h''.get? b = some o := fun b o e => by
          have hb : b < s1.heap.objs.size := Heap.lt_size e
          refine hk' b o ?_ (hk b o e)
          simp only [List.mem_cons, List.not_mem_nil, or_false, not_or]
          exact ⟨Nat.ne_of_lt (Nat.lt_add_right 4 hb), Nat.ne_of_lt (Nat.lt_add_right 3 hb), Nat.ne_of_lt hb, Nat.ne_of_lt (Nat.lt_add_right 1 hb)⟩
        have hm : (h'.objs.size == sysModules) = false := beq_eq_false_iff_ne.mpr (by rw [hsz]; exact Nat.ne_of_gt (Nat.lt_of_lt_of_le I1.big (Nat.le_add_right _ 5)))
        have hkv : KV (mergeK [] ((x.cps.toList.map fun c => (Sum.inr ⟨#[c]⟩ : Key)).zip xs)) (merged [] ((x.cps.toList.map fun c => (Sum.inr ⟨#[c]⟩ : Key)).zip its)) := KV.merge (kv_zip rv) .nil
        have hle : (mergeK [] ((x.cps.toList.map fun c => (Sum.inr ⟨#[c]⟩ : Key)).zip xs)).length ≤ sizeLine := by
          refine Nat.le_trans (length_mergeK _ []) ?_
          rw [List.length_nil, Nat.zero_add, List.length_zip]
          exact Nat.le_trans (Nat.min_le_right _ _) hz
        have hge : s1.heap.objs.size ≤ h'.objs.size := by rw [hsz]; exact Nat.le_add_right _ 5
        exact ⟨.ref h'.objs.size, upd H1 h'.objs.size (.dK _), I1.laid (t' := tk') lo hge ⟨hle, hm, _, hkv, hd'⟩, rfl, q _ (I1.hok.fresh hge)⟩
/-! sorted of texts, any number -/
def rSortedSA (K : PySem.W.Frag) : List V → Hp → VK → Prop := fun vs H Q => ∃ (a : Addr) (xs : List Str), vs = [V.ref a] ∧ SqL K H a (xs.map V.str) ∧
  ∀ (ys : List Str) (p : Addr), ys.Perm xs → sortedS ys = true → H p = none → Q (.ref p) (upd H p (.lst (ys.map V.str)))
theorem cr_sortedSA : CallR X (.builtin "sorted") (rSortedSA X.K) := by
  intro pins s σ H vs us Q I r h
  obtain ⟨a, xs, rfl, hs, q⟩ := h
  obtain ⟨its, rv, hl, hz⟩ := I.list hs
  rw [Vals.ref1 r]
  have hlen0 := rv.length
  refine PyProof.Rows.sorted_strsAny hl.isList rv.strs (by rw [← hlen0]; exact hz) fun out ys h1 h2 h3 => ?_
  obtain ⟨ep, he'⟩ := PyProof.Rows.sortedAll_at s.heap its out
  have hlen : (ys.map V.str).length ≤ sizeLine := by
    rw [List.length_map, h2.length_eq]
    rw [List.length_map] at hz
    exact hz
  exact ⟨.ref _, upd H (s.heap.objs.size + 1) (.lst (ys.map V.str)), I.laid (t' := s.toks) (fun _ _ => PyProof.Rows.sortedAll_old) (Nat.le_succ _) ⟨hlen, out.toList, ep, vals_of_strs h1, he'⟩, rfl, q ys _ h2 h3 (I.hok.fresh (Nat.le_succ _))⟩

/-! what stands in the module -/
def Kst (mg : Str → Option Value) (x : Str) (v : V) : Prop := ∃ u, mg x = some u ∧ RelV v u
theorem pe_kst {x : Str} {v : V} {pos : Pos} (k : Kst X.mg x v) (hg : Gl X x := by rfl) (hd : (x == ("__debug__" : Str)) = false := by decide) : PE X (.Name x pos) (tC v) := by
  obtain ⟨u, h1, h2⟩ := k
  exact pe_glob hg h1 h2 hd
end
/-- a def of the module as it stands there -/
def DefAt (K : PySem.W.Frag) (mg : Str → Option Value) (x : Str) (st : Stmt) (ps : List Str) : Prop :=
  ∃ f fd, Fun K x x st f fd ∧ mg x = some (.ref f) ∧ Binds K fd ps []
/-- a def of the module and its promise -/
def Callee (P : Program) (w : World) (K : PySem.W.Frag) (mg : Str → Option Value) (base : Heap) (x : Str) (ps : List Str) (k : Nat) (sp : Sp) : Prop :=
  ∃ f fd, FnOk P w K mg base CX0 k f fd ps sp ∧ mg x = some (.ref f) ∧ PySem.W.keepIn K (.ref f) = true ∧ Binds K fd ps []
theorem Callee.imp {P : Program} {w : World} {K : PySem.W.Frag} {mg : Str → Option Value} {base : Heap} {x : Str} {ps : List Str} {k j : Nat} {sp : Sp} (c : Callee P w K mg base x ps j sp) (h : j ≤ k) : Callee P w K mg base x ps k sp := by
  obtain ⟨f, fd, h1, h2, h3, h4⟩ := c
  exact ⟨f, fd, h1.mono h, h2, h3, h4⟩
/-- a method of the class at C: the arguments that are not given are dvs -/
def MethAt (K : PySem.W.Frag) (C : Addr) (m qual : Str) (st : Stmt) (ps : List Str) (dvs : List V) : Prop :=
  ∃ f fd ds, Fun K m qual st f fd ∧ Meth K C m f ∧ Vals dvs ds ∧ Binds K fd ps [] ∧ Binds K fd ps ds
def CalleeM (P : Program) (w : World) (K : PySem.W.Frag) (mg : Str → Option Value) (base : Heap) (C : Addr) (m : Str) (ps : List Str) (k : Nat) (sp : Sp) (dvs : List V) : Prop :=
  ∃ f fd ds, FnOk P w K mg base CX0 k f fd ps sp ∧ Meth K C m f ∧ Vals dvs ds ∧ Binds K fd ps [] ∧ Binds K fd ps ds
/-- a class of the module, made by its __init__ -/
def InitAt (K : PySem.W.Frag) (mg : Str → Option Value) (x : Str) (C : Addr) (qual : Str) (st : Stmt) (ps : List Str) (dvs : List V) : Prop :=
  ∃ f fd ds, Fun K "__init__" qual st f fd ∧ Mk K C f ∧ mg x = some (.ref C) ∧ Vals dvs ds ∧ Binds K fd ps [] ∧ Binds K fd ps ds
def CalleeC (P : Program) (w : World) (K : PySem.W.Frag) (mg : Str → Option Value) (base : Heap) (x : Str) (C : Addr) (ps : List Str) (k : Nat) (sp : Sp) (dvs : List V) : Prop :=
  ∃ f fd ds, FnOk P w K mg base CX0 k f fd ps sp ∧ Mk K C f ∧ mg x = some (.ref C) ∧ Vals dvs ds ∧ Binds K fd ps [] ∧ Binds K fd ps ds
/-- a property of the class at C -/
def PropAt (K : PySem.W.Frag) (C : Addr) (f qual : Str) (st : Stmt) : Prop :=
  ∃ p g fd, Fun K f qual st g fd ∧ PropOf K C f p g ∧ Binds K fd ["self"] []
def CalleeP (P : Program) (w : World) (K : PySem.W.Frag) (mg : Str → Option Value) (base : Heap) (C : Addr) (f : Str) (k : Nat) (sp : Sp) : Prop :=
  ∃ p g fd, FnOk P w K mg base CX0 k g fd ["self"] sp ∧ PropOf K C f p g ∧ Binds K fd ["self"] []
section
variable {X : Cx} {k j : Nat} {C : Addr} {ps : List Str} {sp : Sp} {x m : Str} {p pos apos : Pos} {e o : Expr} {es : List Expr} {ta : TE} {t : TA} {dvs : List V}
theorem pe_fn (c : Callee X.prog X.w X.K X.mg X.base x ps j sp) (hr : Room k X.A) (hj : j ≤ k) (ha : PA X (e :: es) t) (hg : Gl X x := by rfl) (hdb : (x == ("__debug__" : Str)) = false := by decide)
    (he : starEach (e :: es) X.env = (false, eval e X.env) :: starEach es X.env := by rfl) (hpl : (backTo pos (starEach es X.env)).any (·.1) = false := by rfl) :
    PE X (.Call (.Name x p) (e :: es) [] pos) (tCall sp [] E0 t) := by
  obtain ⟨f, fd, F, hm, hk, hb⟩ := c
  exact pe_call F (hr.mono hj) hg hm hk hb .nil pass0 ha hdb he hpl
theorem pe_mt {pl : Sem Bool} (he : PE X o ta) (c : Cls X.K C) (cm : CalleeM X.prog X.w X.K X.mg X.base C m ps j sp dvs) (hr : Room k X.A) (hj : j ≤ k) (ha : PA X (e :: es) t)
    (hst : starEach (e :: es) X.env = (false, eval e X.env) :: starEach es X.env := by rfl) (hpl : (backTo pos (starEach es X.env)).any (·.1) = false := by rfl)
    (ht : eval (.Call (.Attribute o m apos) (e :: es) [] pos) X.env = (do
      let ov ← eval o X.env
      standAt apos.atName
      let (f, first) ← holding [ov] (getMethod ov m pl)
      callWith pos f first (backTo pos (starEach (e :: es) X.env)) (backToKw pos (keywordEach [] X.env))) := by rfl) :
    PE X (.Call (.Attribute o m apos) (e :: es) [] pos) (tMeth C m sp [] E0 ta t) := by
  obtain ⟨f, fd, ds, F, M, vd, b0, b1⟩ := cm
  exact pe_meth he c M F (hr.mono hj) b0 .nil pass0 ha hst hpl ht
theorem pe_mt0 {pl : Sem Bool} (he : PE X o ta) (c : Cls X.K C) (cm : CalleeM X.prog X.w X.K X.mg X.base C m ps j sp dvs) (hr : Room k X.A) (hj : j ≤ k)
    (ht : eval (.Call (.Attribute o m apos) [] [] pos) X.env = (do
      let ov ← eval o X.env
      standAt apos.atName
      let (f, first) ← holding [ov] (getMethod ov m pl)
      callWith pos f first (backTo pos (starEach [] X.env)) (backToKw pos (keywordEach [] X.env))) := by rfl) :
    PE X (.Call (.Attribute o m apos) [] [] pos) (tMeth C m sp [] E0 ta tNil) := by
  obtain ⟨f, fd, ds, F, M, vd, b0, b1⟩ := cm
  exact pe_meth0 he c M F (hr.mono hj) b0 .nil pass0 ht
/-- C(e, ..), all given -/
theorem pe_mk (c : CalleeC X.prog X.w X.K X.mg X.base x C ps j sp dvs) (hr : Room k X.A) (hj : j + 1 ≤ k) (ha : PA X (e :: es) t) (hg : Gl X x := by rfl) (hdb : (x == ("__debug__" : Str)) = false := by decide) (he : starEach (e :: es) X.env = (false, eval e X.env) :: starEach es X.env := by rfl) (hpl : (backTo pos (starEach es X.env)).any (·.1) = false := by rfl) :
    PE X (.Call (.Name x p) (e :: es) [] pos) (tMake C sp [] E0 t) := by
  obtain ⟨f, fd, ds, F, M, hm, vd, b0, b1⟩ := c
  exact pe_make M F (hr.mono hj) hg hm b0 .nil pass0 ha hdb he hpl
/-- C(e, ..), the defaults left out -/
theorem pe_mkD (c : CalleeC X.prog X.w X.K X.mg X.base x C ps j sp dvs) (hr : Room k X.A) (hj : j + 1 ≤ k) (ha : PA X (e :: es) t) (hg : Gl X x := by rfl) (hdb : (x == ("__debug__" : Str)) = false := by decide) (he : starEach (e :: es) X.env = (false, eval e X.env) :: starEach es X.env := by rfl) (hpl : (backTo pos (starEach es X.env)).any (·.1) = false := by rfl) :
    PE X (.Call (.Name x p) (e :: es) [] pos) (tMake C sp dvs E0 t) := by
  obtain ⟨f, fd, ds, F, M, hm, vd, b0, b1⟩ := c
  exact pe_make M F (hr.mono hj) hg hm b1 vd pass0 ha hdb he hpl
theorem pe_pr (he : PE X e ta) (c : Cls X.K C) {f : Str} (cp : CalleeP X.prog X.w X.K X.mg X.base C f j sp) (hr : Room k X.A) (hj : j + 1 ≤ k) (hb : attributeBase e f X.env (eval e X.env) = eval e X.env := by rfl) :
    PE X (.Attribute e f pos) (tProp C sp [] E0 ta) := by
  obtain ⟨p, g, fd, F, P, b⟩ := cp
  exact pe_prop he c P F (hr.mono hj) b .nil pass0 hb
end
section
variable {X : Cx} {pos : Pos}
/-! o.f = .. as a target -/
def gFld (K : PySem.W.Frag) (to : TE) (f : Str) : TG := fun v σ H Q => to σ H fun x H1 => ∃ a C dx fs, x = .ref a ∧ H1 a = some (.ins C dx fs) ∧ Cls K C ∧ NoAttr K C f ∧ fs.length < 1000 ∧ Q σ (upd H1 a (.ins C dx (putF f v fs)))
theorem pg_fld {o : Expr} {to : TE} {f : Str} (ho : PE X o to) : PG X (.Attribute o f pos) (gFld X.K to f) := by
  refine ⟨fun pins s σ H v u Q I r h => ?_⟩
  rw [assign_Attribute]
  refine wpAny_bind (wpAny_holding (thn (ho.run pins s σ H _ I h) fun ov s1 ⟨x, H1, I1, rx, a, C, dx, fs, ex, ea, c, n, l, q1⟩ => ?_))
  subst ex
  obtain rfl : ov = Value.ref a := rx
  refine wpAny_bind (wpAny_standAt (wpAny_bind (wpAny_holding (setattr_ok I1 ea c n l r fun s3 I3 => ?_))))
  exact wpAny_release ⟨σ, _, I3, q1⟩
/-! a, b, c = x, y, z with plain local names -/
def tPar3 (i j l : Nat) (ta : TA) : TS := fun D σ H => ta σ H fun vs H1 => ∃ v w z, vs = [v, w, z] ∧ D.nx (((σ.set i (some v)).set j (some w)).set l (some z)) H1
theorem ps_par3 {i j l : Nat} {x y z : Str} {a b c : Expr} {ta : TA} {px py pz pt : Pos} {kt k2 pt2} (hc : X.calm = true) (hN : X.N.Nodup) (hi : X.N[i]? = some x) (hj : X.N[j]? = some y) (hl : X.N[l]? = some z) (hij : i ≠ j) (hil : i ≠ l) (hjl : j ≠ l)
    (hx : X.env.scope.names.lookup x = some .local) (hy : X.env.scope.names.lookup y = some .local) (hz : X.env.scope.names.lookup z = some .local) (ha : PA X [a, b, c] ta)
    (hw : swappedStores [.Tuple [.Name x px, .Name y py, .Name z pz] kt pt] (.Tuple [a, b, c] k2 pt2) X.env = pure (some [x, y, z]))
    (hs : swapsWithSole [.Tuple [.Name x px, .Name y py, .Name z pz] kt pt] (.Tuple [a, b, c] k2 pt2) pos.line X.env = pure false := by rfl) :
    PS X (.Assign [.Tuple [.Name x px, .Name y py, .Name z pz] kt pt] (.Tuple [a, b, c] k2 pt2) pos) (tPar3 i j l ta) := by
  refine ⟨fun pins s σ H D I h => ?_⟩
  rw [exec_Assign_arm]
  refine wpAny_bind (wpAny_standAt ?_)
  rw [hs]
  refine wpAny_bind (wpAny_pure ?_)
  rw [if_neg (by decide)]
  refine wpAny_bind (Tuple_ (thn (ha.run _ pins s σ H _ I h) fun us s1 ⟨vs, H1, I1, r1, q1⟩ => ?_))
  obtain ⟨v, w, z', e1, q1⟩ := q1
  subst e1
  obtain ⟨u1, u2, u3, rfl, rv, rw', rz⟩ : ∃ u1 u2 u3, us = [u1, u2, u3] ∧ RelV v u1 ∧ RelV w u2 ∧ RelV z' u3 := by
    cases r1 with
    | cons p q =>
      cases q with
      | cons p' q' =>
        cases q' with
        | cons p'' q'' =>
          cases q''
          exact ⟨_, _, _, rfl, p, p', p''⟩
  refine wpAny_newObj_type ?_ (by show 3 ≤ sizeLine; decide)
  have I2 : Inv X pins σ H1 { s1 with heap := s1.heap.push { cls := .type "tuple", data := .seq [u1, u2, u3].toArray } } := I1.kept (t' := s1.toks) fun b o e => Heap.get?_push_of_some _ e
  rw [hw]
  refine wpAny_bind (wpAny_pure ?_)
  show wpAny (model X.prog X.w) X.A (do rule "assign.swapped-stores"; let items ← unpackItems (.ref s1.heap.objs.size) 3 none; assignInOrder [fun v => bindName X.env z v, fun v => bindName X.env y v, fun v => bindName X.env x v] items.reverse; pure Flow.next) _ _ _
  refine wpAny_bind (wpAny_rule (wpAny_bind (unpackItems_tuple (items := #[u1, u2, u3]) (I.ok.hd hc) (IsTup.new s1.heap _) fun h' hx' => ?_)))
  have I3 := I2.kept (h' := h') (t' := s1.toks) fun b o e => hx' b o (Nat.ne_of_lt (Heap.lt_size e)) e
  show wpAny _ _ (assignInOrder [fun v => bindName X.env z v, fun v => bindName X.env y v, fun v => bindName X.env x v] [u3, u2, u1] >>= fun _ => pure Flow.next) _ _ _
  refine wpAny_bind (assignInOrder_cons (wpAny_bindName (store_ok I3 hN hl (.inl hz) rz (fun s2 I4 => ?_) (.inr hz))))
  refine assignInOrder_cons (wpAny_bindName (store_ok I4 hN hj (.inl hy) rw' (fun s3 I5 => ?_) (.inr hy)))
  refine assignInOrder_cons (wpAny_bindName (store_ok I5 hN hi (.inl hx) rv (fun s4 I6 => assignInOrder_nil (wpAny_pure ?_)) (.inr hx)))
  have e : ((σ.set l (some z')).set j (some w)).set i (some v) = ((σ.set i (some v)).set j (some w)).set l (some z') := by
    rw [List.set_comm _ _ (Ne.symm hjl), List.set_comm _ _ (Ne.symm hil), List.set_comm (l := σ) _ _ (Ne.symm hij)]
  rw [e] at I6
  exact ⟨_, H1, I6, q1⟩
/-! o[i] = v, a list or a dict -/
def rSetD : V → V → V → Hp → (Hp → Prop) → Prop := fun o i v H Q => ∃ a H', o = .ref a ∧ DPut H a i v H' ∧ Q H'
theorem set_dict (hu : X.A.units + 1 < cLine) : PSet X rSetD := by
  intro pins s σ H o i v ov iv u Q I ro ri rv h
  obtain ⟨a, H', rfl, g, q⟩ := h
  obtain rfl : ov = Value.ref a := ro
  exact d_setItem hu I g ri rv fun s' I' => ⟨H', I', q⟩
def rSetU : V → V → V → Hp → (Hp → Prop) → Prop := fun o i v H Q => rSetL o i v H Q ∨ rSetD o i v H Q
theorem set_uni (hu : X.A.units + 1 < cLine) : PSet X rSetU := by
  intro pins s σ H o i v ov iv u Q I ro ri rv h
  rcases h with h | h
  · exact set_list pins s σ H o i v ov iv u Q I ro ri rv h
  · exact set_dict hu pins s σ H o i v ov iv u Q I ro ri rv h
end
end GK

/-! the module's names, built-in calls by data, the rule as data -/
namespace GK
open PySem PySem.Spec PyProof.Rows L2
structure Ad where
  K : PySem.W.Frag
  Rule : Addr := 0
  Tails : Addr := 0
  Web : Addr := 0
  Laying : Addr := 0
structure BI (mg : Str → Option Value) : Prop where
  b_len : mg "len" = none
  b_range : mg "range" = none
  b_all : mg "all" = none
  b_any : mg "any" = none
  b_sum : mg "sum" = none
  b_max : mg "max" = none
  b_min : mg "min" = none
  b_abs : mg "abs" = none
  b_divmod : mg "divmod" = none
  b_sorted : mg "sorted" = none
  b_isinstance : mg "isinstance" = none
  b_int : mg "int" = none
  b_str : mg "str" = none
  b_bool : mg "bool" = none
  b_tuple : mg "tuple" = none
  b_list : mg "list" = none
  b_dict : mg "dict" = none
  b_zip : mg "zip" = none
  b_enumerate : mg "enumerate" = none
abbrev v_MOST_KINDS : V := .int 4
abbrev v_MOST_BARS : V := .int 40
abbrev v_MOST_PLACES : V := .int 1000
abbrev v_MOST_WINDOWS : V := .int 400
abbrev v_MOST_MORE : V := .int 200
abbrev v_LETTERS : V := .str "abcdefghijklmnopqrstuvwxyz"
abbrev v_DIGITS : V := .str "0123456789"
abbrev v_DISTANCES : V := .str "12345"
/-! ### texts by their signs -/
def st (l : List Nat) : Str := ⟨l.toArray⟩
theorem st_cps (l : List Nat) : (st l).cps.toList = l := by unfold st; simp
theorem st_len (l : List Nat) : (st l).length = l.length := by unfold st Str.length; simp
theorem st_app (a b : List Nat) : st a ++ st b = st (a ++ b) := by
  apply PySem.Str.ext'
  show ((st a).cps ++ (st b).cps) = (st (a ++ b)).cps
  unfold st
  simp
theorem st_inj {a b : List Nat} (h : st a = st b) : a = b := by
  have e := congrArg (fun s => s.cps.toList) h
  simpa [st] using e
theorem st_of (s : Str) : st s.cps.toList = s := by
  apply PySem.Str.ext'
  unfold st
  simp
theorem st_eq {a b : List Nat} : decide (V.str (st a) = V.str (st b)) = decide (a = b) := by
  by_cases e : a = b
  · subst e; simp
  · rw [decide_eq_false e]
    refine decide_eq_false fun q => e ?_
    injection q with q
    exact st_inj q
theorem st_one (c : Nat) : (⟨#[c]⟩ : Str) = st [c] := rfl
theorem signs_st (l : List Nat) : signs (st l) = l.map fun c => dS (st [c]) := by
  unfold signs
  rw [st_cps]
  rfl
/-! ### built-in calls, by data -/
section
variable {X : Cx}
def rIntU : List V → Hp → VK → Prop := fun xs H Q => ((∃ i, xs = [.int i] ∧ Q (.int i) H) ∨ ∃ k, xs = [.bl k] ∧ Q (.int (if k then 1 else 0)) H) ∨ ∃ a n, xs = [.str a] ∧ PySem.intText? a = some n ∧ a.length ≤ 640 ∧ Q (.int n) H
theorem u_int : CallR X (.type "int") rIntU := CallR.or call_int1 call_int_str
def rStrU : List V → Hp → VK → Prop := fun xs H Q => ∃ i, xs = [.int i] ∧ i.natAbs.log2 < 1920 ∧ Q (.str (toString i)) H
theorem u_str : CallR X (.type "str") rStrU := call_str_int
def rTupleU (K : PySem.W.Frag) : List V → Hp → VK → Prop := fun xs H Q => ∃ p ys, xs = [.ref p] ∧ ((SqL K H p ys ∧ ∀ l, H l = none → Q (.ref l) (upd H l (.tup ys))) ∨ (SqT K H p ys ∧ Q (.ref p) H))
theorem u_tuple : CallR X (.type "tuple") (rTupleU X.K) := call_tuple_of
def rListU (K : PySem.W.Frag) : List V → Hp → VK → Prop := fun xs H Q => ∃ p ys, xs = [.ref p] ∧ (SqL K H p ys ∨ SqT K H p ys) ∧ ∀ l, H l = none → Q (.ref l) (upd H l (.lst ys))
theorem u_list : CallR X (.type "list") (rListU X.K) := call_list_of
def rMax2 : List V → Hp → VK → Prop := fun xs H Q => ∃ i j, xs = [.int i, .int j] ∧ Q (.int (if j > i then j else i)) H
def rAbs : List V → Hp → VK → Prop := fun xs H Q => ∃ i, xs = [.int i] ∧ Q (.int (if i < 0 then -i else i)) H
def rDivmod : List V → Hp → VK → Prop := fun xs H Q => ∃ i j, xs = [.int i, .int j] ∧ CDiv i j ∧ ∀ p, H p = none → Q (.ref p) (upd H p (.tup [.int (i / j), .int (i % j)]))
def rSplit : V → List V → Hp → VK → Prop := fun x xs H Q => ∃ a b, x = .str a ∧ xs = [.str b] ∧ (b.length == 0) = false ∧ a.length + 2 ≤ sizeLine ∧ rNewStrs (Txt.split a b) H Q
def rJoin (K : PySem.W.Frag) : V → List V → Hp → VK → Prop := fun x xs H Q => ∃ a p, ∃ ys : List Str, x = .str a ∧ xs = [.ref p] ∧ (SqL K H p (ys.map V.str) ∨ SqT K H p (ys.map V.str)) ∧ (ys.map (·.length)).sum + ys.length * a.length ≤ 16777216 ∧ Q (.str (Txt.join a ys)) H
end
section
variable {m : Md} {K : PySem.W.Frag} {σ : L2.St} {H H' : Hp} {d : D} {ds : List D} {te to : TE}
theorem cd_int {i : Int} : CallD m K rIntU [dI i] H (dI i) := .of fun vs H1 g rs Q q => by
  obtain ⟨x, rfl, r1⟩ := reps1 rs
  rw [rep_s.mp r1]
  exact .inl (.inl ⟨i, rfl, q _ (rep_s.mpr rfl)⟩)
theorem cd_intS {a : Str} {n : Int} (h : PySem.intText? a = some n) (hl : a.length ≤ 640) : CallD m K rIntU [dS a] H (dI n) := .of fun vs H1 g rs Q q => by
  obtain ⟨x, rfl, r1⟩ := reps1 rs
  rw [rep_s.mp r1]
  exact .inr ⟨a, n, rfl, h, hl, q _ (rep_s.mpr rfl)⟩
theorem cd_str {i : Int} (h : i.natAbs.log2 < 1920) : CallD m K rStrU [dI i] H (dS (toString i)) := .of fun vs H1 g rs Q q => by
  obtain ⟨x, rfl, r1⟩ := reps1 rs
  rw [rep_s.mp r1]
  exact ⟨i, rfl, h, q _ (rep_s.mpr rfl)⟩
theorem cd_tupleL : CallD m K (rTupleU K) [.l ds] H (.t ds) := fun vs H1 g rs Q q => by
  obtain ⟨x, rfl, r1⟩ := reps1 rs
  obtain ⟨p, xs, rfl, st, rs'⟩ := rep_l.mp r1
  refine ⟨p, xs, rfl, .inl ⟨st.here, fun l hl => ?_⟩⟩
  have g2 : G m H1 (upd H1 l (.tup xs)) := g.new hl
  exact q _ _ g2 (rep_t.mpr ⟨l, xs, rfl, StT.of upd_same (g.out hl), rs'.mono g2⟩)
theorem cd_listT : CallD m K (rListU K) [.t ds] H (.l ds) := fun vs H1 g rs Q q => by
  obtain ⟨x, rfl, r1⟩ := reps1 rs
  obtain ⟨p, xs, rfl, st, rs'⟩ := rep_t.mp r1
  refine ⟨p, xs, rfl, .inr st.here, fun l hl => ?_⟩
  have g2 : G m H1 (upd H1 l (.lst xs)) := g.new hl
  exact q _ _ g2 (rep_l.mpr ⟨l, xs, rfl, StL.of upd_same (g.out hl), rs'.mono g2⟩)
theorem cd_max {ns : List Int} {b : Int} (hm : b ∈ ns) (hl : ∀ y ∈ ns, y ≤ b) : CallD m K (rMax K) [.l (ns.map dI)] H (dI b) := .of fun vs H1 g rs Q q => by
  obtain ⟨x, rfl, r1⟩ := reps1 rs
  obtain ⟨p, xs, rfl, st, rs'⟩ := rep_l.mp r1
  rw [reps_int.mp rs'] at st
  refine ⟨p, ns, rfl, st.here, List.length_pos_of_mem hm, fun z hz hz2 => ?_⟩
  have e : z = b := Int.le_antisymm (hl z hz) (hz2 b hm)
  subst e
  exact q _ (rep_s.mpr rfl)
theorem cd_max2 {i j : Int} : CallD m K rMax2 [dI i, dI j] H (dI (if j > i then j else i)) := .of fun vs H1 g rs Q q => by
  obtain ⟨x, y, rfl, r1, r2⟩ := reps2 rs
  rw [rep_s.mp r1, rep_s.mp r2]
  exact ⟨i, j, rfl, q _ (rep_s.mpr rfl)⟩
theorem cd_abs {i : Int} : CallD m K rAbs [dI i] H (dI (if i < 0 then -i else i)) := .of fun vs H1 g rs Q q => by
  obtain ⟨x, rfl, r1⟩ := reps1 rs
  rw [rep_s.mp r1]
  exact ⟨i, rfl, q _ (rep_s.mpr rfl)⟩
theorem cd_divmod {i j : Int} (h : CDiv i j) : CallD m K rDivmod [dI i, dI j] H (.t [dI (i / j), dI (i % j)]) := fun vs H1 g rs Q q => by
  obtain ⟨x, y, rfl, r1, r2⟩ := reps2 rs
  rw [rep_s.mp r1, rep_s.mp r2]
  refine ⟨i, j, rfl, h, fun p hp => ?_⟩
  have g2 : G m H1 (upd H1 p (.tup [.int (i / j), .int (i % j)])) := g.new hp
  exact q _ _ g2 (rep_t.mpr ⟨p, _, rfl, StT.of upd_same (g.out hp), Reps.cons (rep_s.mpr rfl) (Reps.cons (rep_s.mpr rfl) Reps.nil)⟩)
/-- sorted of a list of texts: some arrangement in order -/
theorem cd_sorted {ss ys : List Str} (hy : ∀ zs : List Str, zs.Perm ss → sortedS zs = true → zs = ys) : CallD m K (rSortedSA K) [.l (ss.map dS)] H (.l (ys.map dS)) := fun vs H1 g rs Q q => by
  obtain ⟨x, rfl, r1⟩ := reps1 rs
  obtain ⟨p, xs, rfl, st, rs'⟩ := rep_l.mp r1
  rw [reps_str.mp rs'] at st
  refine ⟨p, ss, rfl, st.here, fun zs l h1 h2 hl => ?_⟩
  have e := hy zs h1 h2
  subst e
  have g2 : G m H1 (upd H1 l (.lst (zs.map V.str))) := g.new hl
  exact q _ _ g2 (rep_l.mpr ⟨l, _, rfl, StL.of upd_same (g.out hl), reps_str.mpr rfl⟩)
theorem cp_sorted {ss : List Str} : CallP m K (rSortedSA K) [.l (ss.map dS)] H (fun v H2 => ∃ zs : List Str, zs.Perm ss ∧ sortedS zs = true ∧ Rep m.M K H2 (.l (zs.map dS)) v) := fun vs H1 g rs Q q => by
  obtain ⟨x, rfl, r1⟩ := reps1 rs
  obtain ⟨p, xs, rfl, st, rs'⟩ := rep_l.mp r1
  rw [reps_str.mp rs'] at st
  refine ⟨p, ss, rfl, st.here, fun zs l h1 h2 hl => ?_⟩
  have g2 : G m H1 (upd H1 l (.lst (zs.map V.str))) := g.new hl
  exact q _ _ g2 ⟨zs, h1, h2, rep_l.mpr ⟨l, _, rfl, StL.of upd_same (g.out hl), reps_str.mpr rfl⟩⟩
/-! isinstance -/
theorem cd_isiI {i : Int} {n : String} {b : Bool} (h : kitB "int" n = some b) : CallD m K (rIsi K) [dI i, .s (.ty n)] H (dB b) := .of fun vs H1 g rs Q q => by
  obtain ⟨x, y, rfl, r1, r2⟩ := reps2 rs
  rw [rep_s.mp r1, rep_s.mp r2]
  exact ⟨_, _, _, _, b, rfl, .ty n, .base (.int i), kit_ty h, q _ (rep_s.mpr rfl)⟩
theorem cd_isiS {i : Str} {n : String} {b : Bool} (h : kitB "str" n = some b) : CallD m K (rIsi K) [dS i, .s (.ty n)] H (dB b) := .of fun vs H1 g rs Q q => by
  obtain ⟨x, y, rfl, r1, r2⟩ := reps2 rs
  rw [rep_s.mp r1, rep_s.mp r2]
  exact ⟨_, _, _, _, b, rfl, .ty n, .base (.str i), kit_ty h, q _ (rep_s.mpr rfl)⟩
theorem tyX_t {M : Addr → Prop} {p : Addr} {xs : List V} (h : StT M K H p xs) : TyX K H (.ref p) (.type "tuple") := by
  rcases h with h | ⟨o, its, n, h1, h2, _⟩
  · rcases h.2 with e | ⟨o, e⟩
    · exact .base (.tup e)
    · exact .fTuple e
  · exact .kTuple h1 h2
theorem cd_isiT {n : String} {b : Bool} (h : kitB "tuple" n = some b) : CallD m K (rIsi K) [.t ds, .s (.ty n)] H (dB b) := .of fun vs H1 g rs Q q => by
  obtain ⟨x, y, rfl, r1, r2⟩ := reps2 rs
  rw [rep_s.mp r2]
  obtain ⟨p, xs, rfl, st, _⟩ := rep_t.mp r1
  exact ⟨_, _, _, _, b, rfl, .ty n, tyX_t st, kit_ty h, q _ (rep_s.mpr rfl)⟩
/-! texts -/
theorem ev_m1 {r : V → List V → Hp → VK → Prop} {a : Str} {P : V → Hp → Prop} (h : EvD m K to σ H (dS a)) (h1 : EvD m K te σ H d) (hr : ∀ v H1, G m H H1 → Rep m.M K H1 d v → ∀ Q : VK, (∀ v H2, G m H1 H2 → P v H2 → Q v H2) → r (.str a) [v] H1 Q) : EvP m (tM1 r to te) σ H P := fun H1 g Q q =>
  h H1 g _ fun v H2 g2 rv => by
    rw [rep_s.mp rv]
    exact ⟨⟨a, rfl⟩, h1 H2 (g.trans g2) _ fun w H3 g3 rw' => hr w H3 ((g.trans g2).trans g3) rw' Q fun z H4 g4 p => q z H4 ((g2.trans g3).trans g4) p⟩
theorem ev_split {a b : Str} (h : EvD m K to σ H (dS a)) (h1 : EvD m K te σ H (dS b)) (hb : (b.length == 0) = false) (ha : a.length + 2 ≤ sizeLine) : EvL m K (tM1 rSplit to te) σ H ((Txt.split a b).map dS) := fun H1 g Q q =>
  h H1 g _ fun v H2 g2 rv => by
    rw [rep_s.mp rv]
    refine ⟨⟨a, rfl⟩, h1 H2 (g.trans g2) _ fun w H3 g3 rw' => ?_⟩
    rw [rep_s.mp rw']
    refine ⟨a, b, rfl, rfl, hb, ha, fun p hp => ?_⟩
    exact q _ _ ((g2.trans g3).trans (g3.new hp)) ⟨p, _, rfl, ((g.trans g2).trans g3).free hp, g3.out hp, upd_same, reps_str.mpr rfl⟩
theorem ev_join {a : Str} {ys : List Str} (h : EvD m K to σ H (dS a)) (h1 : EvD m K te σ H (.l (ys.map dS))) (hs : (ys.map (·.length)).sum + ys.length * a.length ≤ 16777216) : EvD m K (tM1 (rJoin K) to te) σ H (dS (Txt.join a ys)) :=
  ev_m1 h h1 fun v H1 g rv Q q => by
    obtain ⟨p, xs, rfl, st, rs⟩ := rep_l.mp rv
    rw [reps_str.mp rs] at st
    exact ⟨a, p, ys, rfl, rfl, .inl st.here, hs, q _ H1 g.r1 (rep_s.mpr rfl)⟩
end
/-! ### the rule -/
structure Rl where
  kinds : List Nat
  worths : List Nat
  bars : List (Nat × Nat × Nat)
namespace Rl
def kword (k w : Nat) : List Nat := [k, 48 + w]
def bword (b : Nat × Nat × Nat) : List Nat := [b.1, b.2.1, 48 + b.2.2]
def kwords (R : Rl) : List (List Nat) := List.zipWith kword R.kinds R.worths
def bwords (R : Rl) : List (List Nat) := R.bars.map bword
def wKinds : List Nat := [107, 105, 110, 100, 115]
def wBars : List Nat := [98, 97, 114, 115]
def line1 (R : Rl) : List Nat := TL.joinL [32] (wKinds :: R.kwords)
def line2 (R : Rl) : List Nat := TL.joinL [32] (wBars :: R.bwords)
def text (R : Rl) : List Nat := R.line1 ++ 10 :: R.line2
def reach (R : Rl) : Nat := R.bars.foldl (fun n b => max n b.2.2) 1
structure Ok (R : Rl) : Prop where
  lw : R.worths.length = R.kinds.length
  l1 : 1 ≤ R.kinds.length
  l4 : R.kinds.length ≤ 4
  az : ∀ k ∈ R.kinds, 97 ≤ k ∧ k ≤ 122
  up : R.kinds.Pairwise (· < ·)
  w9 : ∀ w ∈ R.worths, w ≤ 9
  bk : ∀ b ∈ R.bars, b.1 ∈ R.kinds ∧ b.2.1 ∈ R.kinds ∧ 1 ≤ b.2.2 ∧ b.2.2 ≤ 5
  bu : (R.bars.map bword).Pairwise (· < ·)
  b40 : R.bars.length ≤ 40
def at_ (R : Rl) (k : Nat) : List (Nat × Nat) := (R.bars.filter fun b => decide (b.2.1 = k)).map fun b => (b.1, b.2.2)
/-- does the bar (first, distance) forbid one more place behind the row -/
def hit (row : List Nat) (b : Nat × Nat) : Bool := decide (b.2 ≤ row.length) && decide (row[row.length - b.2]? = some b.1)
def fits (R : Rl) (row : List Nat) (k : Nat) : Bool := (R.at_ k).all fun b => !hit row b
def bsign (c : Nat) : D := dS (st [c])
def keyOf (c : Nat) : Key := .inr (st [c])
def trip (b : Nat × Nat × Nat) : D := .t [bsign b.1, bsign b.2.1, dI (b.2.2 : Int)]
def pairD (b : Nat × Nat) : D := .t [bsign b.1, dI (b.2 : Int)]
end Rl
def ruleF : List Str := ["text", "kinds", "worths", "bars", "triples", "reach", "worth_of", "behind"]
def ruleDs (R : Rl) : List D := [dS (st R.text), dS (st R.kinds), .t (R.worths.map fun (w : Nat) => dI (w : Int)), .t (R.bars.map fun b => dS (st (Rl.bword b))), .t (R.bars.map Rl.trip), dI (R.reach : Int),
  .d (R.kinds.map Rl.keyOf) (R.worths.map fun (w : Nat) => dI (w : Int)), .d (R.kinds.map Rl.keyOf) (R.kinds.map fun k => .l ((R.at_ k).map Rl.pairD))]
def ruleD (A : Ad) (R : Rl) : D := .i A.Rule ruleF (ruleDs R)
structure RuleT (A : Ad) : Prop where
  cl_Rule : Cls A.K A.Rule
  text : NoAttr A.K A.Rule "text"
  kinds : NoAttr A.K A.Rule "kinds"
  worths : NoAttr A.K A.Rule "worths"
  bars : NoAttr A.K A.Rule "bars"
  triples : NoAttr A.K A.Rule "triples"
  reach : NoAttr A.K A.Rule "reach"
  worth_of : NoAttr A.K A.Rule "worth_of"
  behind : NoAttr A.K A.Rule "behind"
section
variable {A : Ad} {R : Rl} {m : Md} {σ : L2.St} {H : Hp} {ta : TE}
theorem ev_kinds (T : RuleT A) (h : EvD m A.K ta σ H (ruleD A R)) : EvD m A.K (tFld A.K ta "kinds") σ H (dS (st R.kinds)) := ev_fld (j := 1) h rfl rfl T.cl_Rule T.kinds
theorem ev_worths (T : RuleT A) (h : EvD m A.K ta σ H (ruleD A R)) : EvD m A.K (tFld A.K ta "worths") σ H (.t (R.worths.map fun (w : Nat) => dI (w : Int))) := ev_fld (j := 2) h rfl rfl T.cl_Rule T.worths
theorem ev_bars (T : RuleT A) (h : EvD m A.K ta σ H (ruleD A R)) : EvD m A.K (tFld A.K ta "bars") σ H (.t (R.bars.map fun b => dS (st (Rl.bword b)))) := ev_fld (j := 3) h rfl rfl T.cl_Rule T.bars
theorem ev_triples (T : RuleT A) (h : EvD m A.K ta σ H (ruleD A R)) : EvD m A.K (tFld A.K ta "triples") σ H (.t (R.bars.map Rl.trip)) := ev_fld (j := 4) h rfl rfl T.cl_Rule T.triples
theorem ev_reach (T : RuleT A) (h : EvD m A.K ta σ H (ruleD A R)) : EvD m A.K (tFld A.K ta "reach") σ H (dI (R.reach : Int)) := ev_fld (j := 5) h rfl rfl T.cl_Rule T.reach
theorem ev_worth_of (T : RuleT A) (h : EvD m A.K ta σ H (ruleD A R)) : EvD m A.K (tFld A.K ta "worth_of") σ H (.d (R.kinds.map Rl.keyOf) (R.worths.map fun (w : Nat) => dI (w : Int))) := ev_fld (j := 6) h rfl rfl T.cl_Rule T.worth_of
theorem ev_behind (T : RuleT A) (h : EvD m A.K ta σ H (ruleD A R)) : EvD m A.K (tFld A.K ta "behind") σ H (.d (R.kinds.map Rl.keyOf) (R.kinds.map fun k => .l ((R.at_ k).map Rl.pairD))) := ev_fld (j := 7) h rfl rfl T.cl_Rule T.behind
end
/-! ### promises -/
/-- the callee's side: the arguments stand for ds (no fact of theirs leans on M); whatever stood stays, the answer stands for d -/
def Pd (K : PySem.W.Frag) (vs : List V) (H : Hp) (Q : VK) (ds : List D) (d : D) : Prop := ∃ M : Addr → Prop, (∀ a, M a → H a ≠ none) ∧ Reps M K H ds vs ∧ ∀ v H', (∀ a o, H a = some o → H' a = some o) → Rep M K H' d v → Q v H'
def Pp (K : PySem.W.Frag) (vs : List V) (H : Hp) (Q : VK) (ds : List D) (P : (Addr → Prop) → V → Hp → Prop) : Prop := ∃ M : Addr → Prop, (∀ a, M a → H a ≠ none) ∧ Reps M K H ds vs ∧ ∀ v H', (∀ a o, H a = some o → H' a = some o) → P M v H' → Q v H'
theorem spd {m : Md} {K : PySem.W.Frag} {sp : Sp} {ds : List D} {H : Hp} {d : D} (h : ∀ vs H1 Q E, Pd K vs H1 Q ds d → sp vs H1 Q E) : SpP m K sp ds H fun v H2 => Rep m.M K H2 d v := fun vs H1 g rs Q E k =>
  h vs H1 Q E ⟨m.M, g.dm, rs, fun v H2 e r => k v H2 (G.all g.dm e) r⟩
theorem spp {m : Md} {K : PySem.W.Frag} {sp : Sp} {ds : List D} {H : Hp} {P : (Addr → Prop) → V → Hp → Prop} (h : ∀ vs H1 Q E, Pp K vs H1 Q ds P → sp vs H1 Q E) : SpP m K sp ds H fun v H2 => P m.M v H2 := fun vs H1 g rs Q E k =>
  h vs H1 Q E ⟨m.M, g.dm, rs, fun v H2 e r => k v H2 (G.all g.dm e) r⟩
end GK

/-! slices backwards, str.index, a method with one keyword, a dict's values and items of a call's answer -/
namespace GK
open PySem PySem.Spec PyProof.Rows L2
/-! xs[::-1], xs[:0:-1] -/
def backV {α : Type} (xs : List α) : Option Int → List α
  | none => xs.reverse
  | some _ => (xs.drop 1).reverse
theorem rv_tail (its : List Value) : slicePick its.toArray none (some 0) (some (-1)) = (its.drop 1).reverse.toArray := by
  cases its with
  | nil => rfl
  | cons a r =>
    have hb : sliceBounds none (some 0) (some (-1)) (a :: r).toArray.size = ((r.length : Int), 0, -1) := by
      simp [sliceBounds]
      try omega
    unfold slicePick
    rw [hb]
    show ((sliceRange (r.length : Int) 0 (-1)).filterMap ((a :: r).toArray[·]?)).toArray = _
    have hr : sliceRange (r.length : Int) 0 (-1) = (List.range r.length).map fun k => r.length - k := by
      unfold sliceRange
      have h1 : ¬ ((-1 : Int) > 0) := by decide
      by_cases h : (r.length : Int) > 0
      · have e : ((r.length : Int) - 0 - -1 - 1) / (- -1) = (r.length : Int) := by
          rw [show (- -1 : Int) = 1 by decide, Int.ediv_one]
          omega
        simp only [h1, if_false, h, if_true, e, Int.toNat_natCast]
        apply List.map_congr_left
        intro k hk
        have := List.mem_range.mp hk
        omega
      · have e : r.length = 0 := by omega
        rw [e]
        simp
    have hm : (List.range r.length).map (fun k => r.length - k) = ((List.range r.length).map Nat.succ).reverse := by
      apply List.ext_getElem
      · simp
      · intro i h1 h2
        simp at h1
        rw [List.getElem_map, List.getElem_reverse]
        simp
        omega
    rw [hr, hm, List.filterMap_reverse, List.filterMap_map]
    have e := PySem.W.krv_all r.toArray
    simp only [List.size_toArray] at e
    have e2 : (List.range r.length).filterMap ((fun x => (a :: r).toArray[x]?) ∘ Nat.succ) = r := by
      have : ((fun x => (a :: r).toArray[x]?) ∘ Nat.succ) = fun x => r.toArray[x]? := by
        funext x
        simp
      rw [this, e]
    rw [e2]
    rfl
theorem slicePick_back (its : List Value) (hi : Option Int) (h : hi = none ∨ hi = some 0) : slicePick its.toArray none hi (some (-1)) = (backV its hi).toArray := by
  rcases h with rfl | rfl
  · rw [PySem.W.krv_pick]; rfl
  · rw [rv_tail]; rfl
theorem vals_back {xs : List V} {its : List Value} (r : Vals xs its) (hi : Option Int) : Vals (backV xs hi) (backV its hi) := by
  cases hi with
  | none => exact r.reverse
  | some i => exact (r.drop 1).reverse
theorem backV_len {α : Type} (xs : List α) (hi : Option Int) : (backV xs hi).length ≤ xs.length := by
  cases hi with
  | none => unfold backV; simp
  | some i => unfold backV; simp
/-- xs[:hi:st], the step -1 -/
def tSlB (K : PySem.W.Frag) (te : TE) (th : TO) (ts : TO) : TE := fun σ H Q => te σ H fun x H1 => th σ H1 fun u H2 => ts σ H2 fun k H3 => ∃ a xs, x = .ref a ∧ SqL K H3 a xs ∧ (u = none ∨ u = some 0) ∧ k = some (-1) ∧
  ∀ p, H3 p = none → Q (.ref p) (upd H3 p (.lst (backV xs u)))
theorem pe_slb {X : Cx} {e : Expr} {hi : Option Expr} {st : Expr} {te : TE} {th ts : TO} {p2 pos : Pos} (he : PE X e te) (hu : PO X hi th) (hst : PO X (some st) ts) : PE X (.Subscript e (.Slice none hi (some st) p2) pos) (tSlB X.K te th ts) := by
  refine ⟨fun pins s σ H Q I h => ?_⟩
  refine Subscript_ (thn (he.run pins s σ H _ I h) fun v s1 ⟨x, H1, I1, r1, q1⟩ => ?_)
  refine wpAny_Slice ?_
  rw [evalPart_none]
  refine wpAny_pure ?_
  refine thn (hu.run pins s1 σ H1 _ I1 q1) fun vu s3 ⟨u, H3, I3, pu, q3⟩ => thn (hst.run pins s3 σ H3 _ I3 q3) fun vk s4 ⟨k, H4, I4, pk, q4⟩ => ?_
  obtain ⟨a, xs, ex, hx, hu0, hk, q⟩ := q4
  subst ex
  obtain rfl : v = Value.ref a := r1
  have I5 : Inv X pins σ H4 { s4 with heap := s4.heap.push { cls := .type "slice", data := .fields #[.none, vu, vk] } } := I4.kept (t' := s4.toks) fun b ob q => Heap.get?_push_of_some _ q
  obtain ⟨its, r, ht, hz⟩ := I5.list hx
  have hlen := r.length
  show wpAny (model X.prog X.w) X.A (subscriptTail e (.Slice none hi (some st) p2) (.ref a) (.ref s4.heap.objs.size)) (EP X pins σ Q) X.xe { s4 with heap := s4.heap.push { cls := .type "slice", data := .fields #[.none, vu, vk] } }
  refine tail_any (ops := [.ref a, .ref s4.heap.objs.size]) ht.isList.typeIs slot_list_getitem.lookup ?_ (by with_unfolding_all rfl)
  refine wpAny_getItem_list_slice ht.isList (Heap.IsSliceOf.new ..) .none pu pk (by rw [hk]; decide) ?_ (by rw [List.size_toArray] <;> omega)
  rw [hk, slicePick_back its u hu0]
  refine ⟨.ref _, _, I5.laid (t' := s4.toks) (o := .lst (backV xs u)) (fun b ob q => Heap.get?_push_of_some _ q) (Nat.le_refl _) ?_, rfl, q _ (I5.hok.fresh (Nat.le_refl _))⟩
  exact ⟨Nat.le_trans (backV_len xs u) hz, _, 0, vals_back r u, Heap.get?_push_size _ rfl⟩
/-! z.index(c) -/
def rStrIndex : V → List V → Hp → VK → Prop := fun x xs H Q => ∃ (a b : Str) (k : Nat), x = .str a ∧ xs = [.str b] ∧ Txt.index0 a b = some k ∧ Q (.int (k : Int)) H
theorem mt_strindex {X : Cx} : MtR X "str.index" rStrIndex := by
  intro pins s σ H x xs v us Q I rx rs h
  obtain ⟨a, b, k, rfl, rfl, hk, w⟩ := h
  obtain ⟨t, rfl⟩ := rx
  cases rs with
  | cons r1 rs =>
    cases rs
    obtain ⟨u, rfl⟩ := r1
    cases q : Builtin.Str.occurrences a b 0 a.length 1 with
    | nil =>
      unfold Txt.index0 at hk
      rw [q] at hk
      cases hk
    | cons j rest =>
      unfold Txt.index0 at hk
      rw [q] at hk
      have e : j = k := Option.some.inj hk
      subst e
      exact PySem.SC.index q ⟨.int (j : Nat), H, I.tok _, ⟨_, rfl⟩, w⟩
/-! o.m(k = e) -/
def CalleeK (P : Program) (w : World) (K : PySem.W.Frag) (mg : Str → Option Value) (base : Heap) (C : Addr) (m : Str) (ps ks : List Str) (k : Nat) (sp : Sp) : Prop :=
  ∃ f fd, FnOk P w K mg base CX0 k f fd ps sp ∧ Meth K C m f ∧ KBn K fd ps 1 ks (fun us ws => us ++ ws) (fun vs zs => vs ++ zs)
def tMethK (C : Addr) (m : Str) (n : Nat) (sp : Sp) (E : XK) (ta : TE) (tk : TA) : TE := fun σ H Q => ta σ H fun x H1 => ∃ a dx fs, x = .ref a ∧ H1 a = some (.ins C dx fs) ∧ fs.lookup m = none ∧
  tk σ H1 fun zs H2 => zs.length = n ∧ sp (x :: zs) H2 Q E
theorem pe_mtK {X : Cx} {k j : Nat} {C : Addr} {ps ks : List Str} {sp : Sp} {m : Str} {pos apos : Pos} {o : Expr} {kws : List Keyword} {ta : TE} {tk : TA} {pl : Sem Bool} (he : PE X o ta) (c : Cls X.K C) (cm : CalleeK X.prog X.w X.K X.mg X.base C m ps ks j sp) (hr : Room k X.A) (hj : j ≤ k) (hkw : PK X kws tk)
    (hall : (backToKw pos (keywordEach kws X.env)).all (·.1.isSome) = true := by rfl) (hks : (backToKw pos (keywordEach kws X.env)).filterMap (·.1) = ks := by rfl)
    (hpl : ((backTo pos (starEach [] X.env)).any (·.1) || (backToKw pos (keywordEach kws X.env)).any (·.1.isNone)) = false := by rfl)
    (ht : eval (.Call (.Attribute o m apos) [] kws pos) X.env = (do
      let ov ← eval o X.env
      standAt apos.atName
      let (f, first) ← holding [ov] (getMethod ov m pl)
      callWith pos f first (backTo pos (starEach [] X.env)) (backToKw pos (keywordEach kws X.env))) := by rfl) :
    PE X (.Call (.Attribute o m apos) [] kws pos) (tMethK C m ks.length sp E0 ta tk) := by
  obtain ⟨f, fd, F, M, hb⟩ := cm
  refine ⟨fun pins s σ H Q I h => ?_⟩
  refine PySem.W.methodCall_KW (pl := pl) (thn (he.run pins s σ H _ I h) fun u s1 ⟨x, H1, I1, rx, a, dx, fs, ex, ea, l, q⟩ => ?_) ht
  subst ex
  obtain rfl : u = Value.ref a := rx
  refine getmeth_ok I1 ea c M l ?_
  refine PySem.W.callWith_KW0 (first := [.ref a]) (h₀ := X.base) I.ok.mod.kin M.kp hall (thn (hkw.run pos pins s1 σ H1 _ I1 q) fun ws s2 ⟨zs, H2, I2, rz, l2, q2⟩ => ⟨I2.kIn, ?_⟩) hpl
  rw [hks]
  exact run_fnN (us := [.ref a]) (vs := [.ref a]) F (hr.mono hj) hb pass0 I2 (.cons rfl .nil) rz rfl l2 q2
/-! a dict's values and pairs; a dict of that moment is locked from then on -/
/-- te, and what it gives locked if it is a dict of that moment -/
def tFrz (td : TE) : TE := fun σ H Q => td σ H fun x H1 => ∃ d kvs, x = .ref d ∧ ((∃ o, H1 d = some (.frz o (.dK kvs)) ∧ Q x H1) ∨ (H1 d = some (.dK kvs) ∧ ∀ o, Q x (upd H1 d (.frz o (.dK kvs)))))
theorem pe_frz {X : Cx} {e : Expr} {td : TE} (he : PE X e td) : PE X e (tFrz td) := by
  refine ⟨fun pins s σ H Q I h => ?_⟩
  refine thn (he.run pins s σ H _ I h) fun u s1 ⟨x, H1, I1, rx, d, kvs, ex, q⟩ => ?_
  rcases q with ⟨o, hd, q⟩ | ⟨hd, q⟩
  · exact ⟨x, H1, I1, rx, q⟩
  · obtain ⟨od, I2⟩ := I1.lock hd True.intro
    exact ⟨x, _, I2, rx, q od⟩
def iValuesL (td : TE) : TI := iVals (tFrz td)
def iItemsL (td : TE) : TI := iItems (tFrz td)
theorem pi_valuesL {X : Cx} {tg e : Expr} {td : TE} {apos cpos : Pos} (he : PE X e td) (hbase : attributeBase e "values" X.env (eval e X.env) = eval e X.env := by rfl) (hline : (apos.endLine == cpos.line) = true := by rfl) : PI X tg (.Call (.Attribute e "values" apos) [] [] cpos) (iValuesL td) :=
  pi_values (td := tFrz td) (pe_frz he) hbase hline
theorem pi_itemsL {X : Cx} {e : Expr} {elts : List Expr} {kk : Nat} {tpos : Pos} {td : TE} {apos cpos : Pos} (he : PE X e td) (hbase : attributeBase e "items" X.env (eval e X.env) = eval e X.env := by rfl) (hline : (apos.endLine == cpos.line) = true := by rfl) :
    PI X (.Tuple elts kk tpos) (.Call (.Attribute e "items" apos) [] [] cpos) (iItemsL td) :=
  pi_items (td := tFrz td) (pe_frz he) hbase hline
end GK

/-! promises, small facts -/
namespace GK
open PySem PySem.Spec PyProof.Rows L2
/-! promises -/
theorem Pd.use {K : PySem.W.Frag} {vs : List V} {H : Hp} {Q : VK} {ds : List D} {d : D} (h : Pd K vs H Q ds d) : ∃ M : Addr → Prop, Dm (Md.pure M) H ∧ Reps (Md.pure M).M K H ds vs ∧ ∀ v H', G (Md.pure M) H H' → Rep (Md.pure M).M K H' d v → Q v H' := by
  obtain ⟨M, dm, rs, q⟩ := h
  exact ⟨M, dm, rs, fun v H' g r => q v H' g.ex r⟩
theorem Pd.len {K : PySem.W.Frag} {vs : List V} {H : Hp} {Q : VK} {ds : List D} {d : D} (h : Pd K vs H Q ds d) : vs.length = ds.length := by
  obtain ⟨M, dm, rs, _⟩ := h
  exact Reps.len (m := Md.pure M) rs
theorem Pp.use {K : PySem.W.Frag} {vs : List V} {H : Hp} {Q : VK} {ds : List D} {P : (Addr → Prop) → V → Hp → Prop} (h : Pp K vs H Q ds P) : ∃ M : Addr → Prop, Dm (Md.pure M) H ∧ Reps (Md.pure M).M K H ds vs ∧ ∀ v H', G (Md.pure M) H H' → P M v H' → Q v H' := by
  obtain ⟨M, dm, rs, q⟩ := h
  exact ⟨M, dm, rs, fun v H' g r => q v H' g.ex r⟩
theorem Pp.len {K : PySem.W.Frag} {vs : List V} {H : Hp} {Q : VK} {ds : List D} {P : (Addr → Prop) → V → Hp → Prop} (h : Pp K vs H Q ds P) : vs.length = ds.length := by
  obtain ⟨M, dm, rs, _⟩ := h
  exact Reps.len (m := Md.pure M) rs
/-! lists -/
theorem map_get {α β : Type} {l : List α} {f : α → β} {i : Nat} {d : β} (h : (l.map f)[i]? = some d) : ∃ a, l[i]? = some a ∧ d = f a := by
  rw [List.getElem?_map] at h
  cases e : l[i]? with
  | none => rw [e] at h; cases h
  | some a => rw [e] at h; exact ⟨a, rfl, (Option.some.inj h).symm⟩
theorem get_map {α β : Type} {l : List α} {f : α → β} {i : Nat} {a : α} (h : l[i]? = some a) : (l.map f)[i]? = some (f a) := by rw [List.getElem?_map, h]; rfl
theorem atI_nat {α : Type} {l : List α} {j : Nat} {a : α} {i : Int} (e : i = (j : Int)) (h : l[j]? = some a) : atI l i = some a := by
  subst e
  have hj := (List.getElem?_eq_some_iff.mp h).1
  unfold atI ixN
  rw [if_pos (by omega), if_pos (by omega)]
  simpa using h
theorem atI_neg {α : Type} {l : List α} {j : Nat} {a : α} {i : Int} (e : i = (j : Int) - (l.length : Int)) (h : l[j]? = some a) : atI l i = some a := by
  have hj := (List.getElem?_eq_some_iff.mp h).1
  unfold atI ixN
  rw [if_neg (by omega), if_pos (by omega)]
  have e2 : (i + (l.length : Int)).toNat = j := by omega
  simp only [e2, Option.bind_some]
  exact h
theorem atI_last {α : Type} {l : List α} {a : α} : atI (l ++ [a]) (-1) = some a := by
  refine atI_neg (j := l.length) ?_ ?_
  · simp; omega
  · simp
theorem st_cons1 (c : Nat) : (⟨#[c]⟩ : Str) = st [c] := rfl
theorem dec_sign {a b : Nat} : decide (V.str (⟨#[a]⟩ : Str) = V.str (⟨#[b]⟩ : Str)) = decide (a = b) := by
  have e : decide (V.str (st [a]) = V.str (st [b])) = decide ([a] = [b]) := st_eq
  have e2 : decide ([a] = [b]) = decide (a = b) := by
    by_cases q : a = b
    · subst q; simp
    · rw [decide_eq_false q]; exact decide_eq_false fun z => q (List.head_eq_of_cons_eq z)
  rw [← e2, ← e]
  rfl
theorem all_false_of {α : Type} {p : α → Bool} {l : List α} {i : Nat} {a : α} (h : l[i]? = some a) (hp : p a = false) : l.all p = false := by
  rw [List.all_eq_false]
  exact ⟨a, List.mem_of_getElem? h, by rw [hp]; decide⟩
theorem all_true_of {α : Type} {p : α → Bool} {l : List α} (h : ∀ i < l.length, ∀ a, l[i]? = some a → p a = true) : l.all p = true := by
  rw [List.all_eq_true]
  intro a ha
  obtain ⟨i, hi, e⟩ := List.getElem_of_mem ha
  exact h i hi a (by rw [List.getElem?_eq_getElem hi, e])
theorem map_all {α : Type} {l : List α} {p : α → Bool} : (l.map p).all id = l.all p := by rw [List.all_map]; rfl
/-! the rule -/
namespace Rl
theorem keyOf_inj {a b : Nat} (h : keyOf a = keyOf b) : a = b := by
  unfold keyOf at h
  injection h with h
  have e := st_inj h
  injection e
end Rl
theorem Rl.Ok.keyNd {R : Rl} (h : R.Ok) : (R.kinds.map Rl.keyOf).Nodup := by
  unfold List.Nodup
  rw [List.pairwise_map]
  exact h.up.imp fun lt e => by
    have := Rl.keyOf_inj e
    omega
theorem Rl.at_mem {R : Rl} {k : Nat} {b : Nat × Nat} (h : b ∈ R.at_ k) : (b.1, k, b.2) ∈ R.bars := by
  unfold Rl.at_ at h
  rw [List.mem_map] at h
  obtain ⟨c, hc, rfl⟩ := h
  rw [List.mem_filter] at hc
  have e : c.2.1 = k := by simpa using hc.2
  subst e
  exact hc.1
/-! what the rule tells of rows -/
namespace Rl
def badAt (row : List Nat) (b : Nat × Nat × Nat) (p : Nat) : Bool := decide (b.2.2 ≤ p) && (decide (row[p]? = some b.2.1) && decide (row[p - b.2.2]? = some b.1))
def kept (R : Rl) (row : List Nat) : Bool := R.bars.all fun b => (List.range row.length).all fun p => !badAt row b p
def worthOf (R : Rl) (k : Nat) : Nat := R.worths.getD (R.kinds.idxOf k) 0
def worthIn (R : Rl) (row : List Nat) : Int := (row.map fun k => (R.worthOf k : Int)).sum
end Rl
theorem Rl.Ok.kindAt {R : Rl} (ok : R.Ok) {k : Nat} (hk : k ∈ R.kinds) : R.kinds[R.kinds.idxOf k]? = some k := by
  have h := List.idxOf_lt_length_of_mem hk
  rw [List.getElem?_eq_getElem h, List.getElem_idxOf h]
theorem Rl.Ok.worthAt {R : Rl} (ok : R.Ok) {k : Nat} (hk : k ∈ R.kinds) : R.worths[R.kinds.idxOf k]? = some (R.worthOf k) := by
  have h := List.idxOf_lt_length_of_mem hk
  have h2 : R.kinds.idxOf k < R.worths.length := by rw [ok.lw]; exact h
  unfold Rl.worthOf
  rw [List.getElem?_eq_getElem h2, List.getD_eq_getElem?_getD, List.getElem?_eq_getElem h2]
  rfl
theorem inK_map {R : Rl} {k : Nat} : inK (Rl.keyOf k) (R.kinds.map Rl.keyOf) = decide (k ∈ R.kinds) := by
  unfold inK
  rw [List.any_map]
  by_cases h : k ∈ R.kinds
  · rw [decide_eq_true h, List.any_eq_true]
    exact ⟨k, h, by simp⟩
  · rw [decide_eq_false h, List.any_eq_false]
    intro x hx e
    have : Rl.keyOf x = Rl.keyOf k := by simpa using e
    rw [Rl.keyOf_inj this] at hx
    exact h hx
/-- a datum of one sign -/
def sgn : D → Nat
  | .s (.str z) => z.cps.toList.headD 0
  | _ => 0
theorem sgn_st (c : Nat) : sgn (dS (st [c])) = c := rfl
theorem sgn_mk (c : Nat) : sgn (dS ⟨#[c]⟩) = c := rfl
theorem signs_fm (l : List Nat) (f : D → Bool) (w : D → D) : ((signs (st l)).filter f).map w = (l.filter fun c => f (dS (st [c]))).map fun c => w (dS (st [c])) := by
  rw [signs_st, List.filter_map, List.map_map]
  rfl
theorem signs_all (l : List Nat) (w : D → D) : ((signs (st l)).filter fun _ => true).map w = l.map fun c => w (dS (st [c])) := by
  rw [signs_fm]
  rw [List.filter_eq_self.mpr (fun _ _ => rfl)]
theorem filter_true {α : Type} (l : List α) : l.filter (fun _ => true) = l := List.filter_eq_self.mpr fun _ _ => rfl
theorem signs_get {l : List Nat} {i : Nat} {d : D} (h : (signs (st l))[i]? = some d) : ∃ c, l[i]? = some c ∧ d = dS (st [c]) := by
  rw [signs_st] at h
  exact map_get h
theorem signs_mem {l : List Nat} {d : D} (h : d ∈ signs (st l)) : ∃ c ∈ l, d = dS (st [c]) := by
  rw [signs_st, List.mem_map] at h
  obtain ⟨c, h1, h2⟩ := h
  exact ⟨c, h1, h2.symm⟩
theorem signs_len (l : List Nat) : (signs (st l)).length = l.length := by rw [signs_st, List.length_map]
theorem nats_all (n : Nat) (w : D → D) : ((nats n).filter fun _ => true).map w = (List.range n).map fun (i : Nat) => w (dI (i : Int)) := by
  rw [filter_true]
  unfold nats
  rw [List.map_map]
  rfl
def int_ : D → Int
  | .s (.int i) => i
  | _ => 0
theorem OpD.is {m : Md} {K : PySem.W.Frag} {r : R2} {a b d d' : D} {H : Hp} (h : OpD m K r a b H d) (e : d = d') : OpD m K r a b H d' := e ▸ h
theorem CallD.is {m : Md} {K : PySem.W.Frag} {r : List V → Hp → VK → Prop} {ds : List D} {d d' : D} {H : Hp} (h : CallD m K r ds H d) (e : d = d') : CallD m K r ds H d' := e ▸ h
theorem EvL.is {m : Md} {K : PySem.W.Frag} {te : TE} {σ : L2.St} {ds ds' : List D} {H : Hp} (h : EvL m K te σ H ds) (e : ds = ds') : EvL m K te σ H ds' := e ▸ h
/-- all(..) of what is given as true -/
theorem cd_allT {m : Md} {K : PySem.W.Frag} {α : Type} {l : List α} {H : Hp} : CallD m K (rAll K) [.l (l.map fun _ => dB true)] H (dB true) := by
  have e : (l.map fun _ => dB true) = (l.map fun _ => true).map dB := by rw [List.map_map]; rfl
  rw [e]
  refine CallD.is cd_all ?_
  simp
/-! texts of words -/
theorem st_split {c : Nat} {ps : List (List Nat)} (hc : c < 256) (hne : ps ≠ []) (h : ∀ p ∈ ps, c ∉ p) : Txt.split (st (TL.joinL [c] ps)) (st [c]) = ps.map st := by
  have e := SX.split_S (a := TL.joinL [c] ps) (b := [c]) (by simp) (by simp [hc])
  rw [TL.spl_join hne h] at e
  exact e
theorem st_join (a : List Nat) (ys : List (List Nat)) : Txt.join (st a) (ys.map st) = st (TL.joinL a ys) := SX.join_S a ys
theorem st_lens (l : List (List Nat)) : (l.map st).map (·.length) = l.map List.length := by
  rw [List.map_map]
  exact List.map_congr_left fun x _ => st_len x
theorem dS_map (l : List (List Nat)) : (l.map fun w => dS (st w)) = (l.map st).map dS := by rw [List.map_map]; rfl
theorem joinL_len (a : List Nat) : ∀ ys : List (List Nat), (TL.joinL a ys).length ≤ (ys.map List.length).sum + ys.length * a.length
  | [] => by simp [TL.joinL]
  | [p] => by simp [TL.joinL]
  | p :: q :: r => by
    have ih := joinL_len a (q :: r)
    show (p ++ (a ++ TL.joinL a (q :: r))).length ≤ _
    simp only [List.length_append, List.map_cons, List.sum_cons, List.length_cons] at ih ⊢
    have e : (r.length + 1 + 1) * a.length = (r.length + 1) * a.length + a.length := Nat.succ_mul _ _
    omega
theorem digit_int {w : Nat} (h : w ≤ 9) : PySem.intText? (st [48 + w]) = some (w : Int) := by
  have e := SX.int_S (a := [48 + w]) (by simp; omega) (by simp) (by simp)
  have e2 : NumText.digitsVal [48 + w] = w := by
    have : w = 0 ∨ w = 1 ∨ w = 2 ∨ w = 3 ∨ w = 4 ∨ w = 5 ∨ w = 6 ∨ w = 7 ∨ w = 8 ∨ w = 9 := by omega
    rcases this with rfl | rfl | rfl | rfl | rfl | rfl | rfl | rfl | rfl | rfl <;> decide
  rw [e2] at e
  exact e
/-- what an instance is -/
structure IsT (A : Ad) : Prop where
  ty : ∀ (H : Hp) (a dx : Addr) (fs : List (Str × V)), H a = some (.ins A.Rule dx fs) → TyX A.K H (.ref a) (.ref A.Rule)
  kt : PySem.W.kitOne A.K (.ref A.Rule) (.ref A.Rule) = some true
theorem cd_isiRule {A : Ad} {m : Md} {R : Rl} {H : Hp} (I : IsT A) : CallD m A.K (rIsi A.K) [ruleD A R, .s (.ref A.Rule)] H (dB true) := .of fun vs H1 g rs Q q => by
  obtain ⟨x, y, rfl, r1, r2⟩ := reps2 rs
  rw [rep_s.mp r2]
  unfold ruleD at r1
  obtain ⟨p, dx, kvs, xs, rfl, st, _⟩ := rep_i.mp r1
  exact ⟨_, _, _, _, true, rfl, .own _, I.ty H1 p dx kvs st.2, I.kt, q _ (rep_s.mpr rfl)⟩
/-! statements on an instance's fields -/
section
variable {m : Md} {K : PySem.W.Frag} {σ : L2.St} {H : Hp} {D0 : Ends} {P : V → Hp → Prop} {te to : TE} {p C dx : Addr} {kvs : List (Str × V)} {f : Str} {d : D}
theorem s_fld (dm : Dm m H) (ha : H p = some (.ins C dx kvs)) (nl : ¬ m.N p) (h : EvP m te σ H P) (ho : ∀ H1, G m H H1 → EvD m K to σ H1 (.s (.ref p))) (c : Cls K C) (n : NoAttr K C f) (hl : kvs.length < 1000)
    (k : ∀ v H1, G m H H1 → (∃ H0, G m H0 H1 ∧ P v H0) → D0.nx σ (upd H1 p (.ins C dx (putF f v kvs)))) : sFld K to te f D0 σ H :=
  EvP.run dm h fun v H1 g hp => EvD.run g.dm (ho H1 g) fun w H2 g2 rw' => by
    rw [rep_s.mp rw']
    exact ⟨p, C, dx, kvs, rfl, (g.trans g2).st p _ nl ha, c, n, hl, k v H2 (g.trans g2) ⟨H1, g2, hp⟩⟩
theorem s_fldD (dm : Dm m H) (ha : H p = some (.ins C dx kvs)) (nl : ¬ m.N p) (h : EvD m K te σ H d) (ho : ∀ H1, G m H H1 → EvD m K to σ H1 (.s (.ref p))) (c : Cls K C) (n : NoAttr K C f) (hl : kvs.length < 1000)
    (k : ∀ v H1, G m H H1 → Rep m.M K H1 d v → D0.nx σ (upd H1 p (.ins C dx (putF f v kvs)))) : sFld K to te f D0 σ H :=
  s_fld dm ha nl h ho c n hl fun v H1 g ⟨H0, g0, r⟩ => k v H1 g (r.mono g0)
/-- a field of an instance known as it is -/
theorem ev_fldR {v : V} (ha : H p = some (.ins C dx kvs)) (nl : ¬ m.N p) (ho : EvD m K to σ H (.s (.ref p))) (c : Cls K C) (n : NoAttr K C f) (hf : kvs.lookup f = some v) (r : Rep m.M K H d v) : EvD m K (tFld K to f) σ H d := fun H1 g Q q =>
  ho H1 g _ fun w H2 g2 rw' => by
    rw [rep_s.mp rw']
    exact ⟨p, C, dx, kvs, v, rfl, (g.trans g2).st p _ nl ha, c, n, hf, q v H2 g2 (r.mono (g.trans g2))⟩
theorem Rep.put1 {M : Addr → Prop} {H : Hp} {v : V} {o : HO} (dm : Dm (Md.pure M) H) (hp : M p) (r : Rep M K H d v) : Rep M K (upd H p o) d v :=
  Rep.mono (m := Md.one M p hp) ((G.rf (m := Md.one M p hp) dm).put rfl) r
end
end GK

/-! lists, dicts and instances as they stand -/
namespace GK
open PySem PySem.Spec PyProof.Rows L2
section
variable {M N : Addr → Prop} {K : PySem.W.Frag} {H : Hp} {p q : Addr} {u : HO}
/-- facts of data without lists lean on no list -/
def addN (M N : Addr → Prop) : Addr → Prop := fun a => M a ∨ N a
theorem RdM.addN (n : ∀ xs, u ≠ .lst xs) (e : ∀ a, N a → ∃ ys, H a = some (.lst ys)) (h : RdM M H p u) : RdM (addN M N) H p u := ⟨fun z => by
  rcases z with z | z
  · exact h.1 z
  · obtain ⟨ys, e1⟩ := e p z
    rcases h.2 with f | ⟨o, f⟩
    · rw [e1] at f
      exact n ys (Option.some.inj f).symm
    · rw [e1] at f
      exact absurd f (by intro k; cases k), h.2⟩
mutual
theorem Rep.addN (e : ∀ a, N a → ∃ ys, H a = some (.lst ys)) : ∀ {d : D} {v : V}, noL d = true → Rep M K H d v → Rep (addN M N) K H d v
  | .s _, _, _, h => by
    unfold Rep at h ⊢
    exact h
  | .t ds, _, w, h => by
    unfold Rep at h ⊢
    unfold noL at w
    obtain ⟨p, xs, e1, st, r⟩ := h
    exact ⟨p, xs, e1, st.imp (RdM.addN (fun _ k => by cases k) e) id, Reps.addN e w r⟩
  | .l ds, _, w, h => by
    unfold noL at w
    cases w
  | .d ks ds, _, w, h => by
    unfold Rep at h ⊢
    unfold noL at w
    obtain ⟨p, xs, e1, st, l, r⟩ := h
    exact ⟨p, xs, e1, RdM.addN (fun _ k => by cases k) e st, l, Reps.addN e w r⟩
  | .i C fs ds, _, w, h => by
    unfold Rep at h ⊢
    unfold noL at w
    obtain ⟨p, dx, kvs, xs, e1, st, l, r⟩ := h
    refine ⟨p, dx, kvs, xs, e1, ⟨fun z => ?_, st.2⟩, l, Reps.addN e w r⟩
    rcases z with z | z
    · exact st.1 z
    · obtain ⟨ys, e2⟩ := e p z
      have f := st.2
      rw [e2] at f
      cases f
theorem Reps.addN (e : ∀ a, N a → ∃ ys, H a = some (.lst ys)) : ∀ {ds : List D} {xs : List V}, noLs ds = true → Reps M K H ds xs → Reps (addN M N) K H ds xs
  | [], _, _, h => by
    unfold Reps at h ⊢
    exact h
  | d :: ds, _, w, h => by
    unfold Reps at h ⊢
    unfold noLs at w
    obtain ⟨x, r, e1, h1, h2⟩ := h
    have w' := w
    rw [Bool.and_eq_true] at w'
    exact ⟨x, r, e1, Rep.addN e w'.1 h1, Reps.addN e w'.2 h2⟩
end
end
/-- lists of N may change -/
def Md.lists (M N : Addr → Prop) : Md := ⟨N, addN M N, fun _ h => .inr h, fun _ => False⟩
section
variable {m : Md} {K : PySem.W.Frag} {σ : L2.St} {H H' : Hp} {ta tb te to : TE} {d : D} {ds es : List D} {v : V} {q p : Addr}
/-! *e among arguments -/
theorem ea_star {t : TA} (h : EvD m K te σ H (.l ds)) (hr : EvA m K t σ H es) : EvA m K (StX.tStar K te t) σ H (ds ++ es) := fun H1 g Q k =>
  h H1 g _ fun v H2 g2 rv => by
    obtain ⟨p, xs, rfl, st, rs⟩ := rep_l.mp rv
    exact ⟨p, xs, rfl, .inr st.here, hr H2 (g.trans g2) _ fun vs H3 g3 r3 => k _ H3 (g2.trans g3) ((rs.mono g3).app r3)⟩
/-! what stands in a list or a dict as it is -/
theorem ev_ixDR {kvs : List (Key × V)} {k : Key} (h : EvD m K ta σ H (.s (.ref q))) (hb : EvD m K tb σ H (.s (kV k))) (hq : H q = some (.dK kvs)) (nq : ¬ m.N q) (hv : valV kvs k = some v) : EvD m K (tOp (rIxU K) ta tb) σ H (.s v) := fun H1 g Q k' =>
  h H1 g _ fun w H2 g2 rw' => hb H2 (g.trans g2) _ fun z H3 g3 rz => by
    rw [rep_s.mp rw', rep_s.mp rz]
    have e := DGet.k (k := k) (((g.trans g2).trans g3).st q _ nq hq)
    rw [hv] at e
    exact .inr ⟨q, v, rfl, e, k' v H3 (g2.trans g3) (rep_s.mpr rfl)⟩
theorem ev_ixLR {xs : List V} {i : Int} (h : EvD m K ta σ H (.s (.ref q))) (hb : EvD m K tb σ H (dI i)) (hq : H q = some (.lst xs)) (nq : ¬ m.N q) (hv : atI xs i = some v) : EvD m K (tOp (rIxU K) ta tb) σ H (.s v) := fun H1 g Q k' =>
  h H1 g _ fun w H2 g2 rw' => hb H2 (g.trans g2) _ fun z H3 g3 rz => by
    rw [rep_s.mp rw', rep_s.mp rz]
    have e := ((g.trans g2).trans g3).st q _ nq hq
    exact .inl (.inl ⟨q, xs, i, v, rfl, rfl, SqL.of e, hv, k' v H3 (g2.trans g3) (rep_s.mpr rfl)⟩)
theorem ev_inDR {kvs : List (Key × V)} {k : Key} (h : EvD m K ta σ H (.s (kV k))) (hb : EvD m K tb σ H (.s (.ref q))) (hq : H q = some (.dK kvs)) (nq : ¬ m.N q) : EvD m K (tOp (rInU K) ta tb) σ H (dB (valV kvs k).isSome) := fun H1 g Q k' =>
  h H1 g _ fun w H2 g2 rw' => hb H2 (g.trans g2) _ fun z H3 g3 rz => by
    rw [rep_s.mp rw', rep_s.mp rz]
    have e := DGet.k (k := k) (((g.trans g2).trans g3).st q _ nq hq)
    exact .inr (.inr ⟨q, _, rfl, e, k' _ H3 (g2.trans g3) (rep_s.mpr rfl)⟩)
theorem ev_ninDR {kvs : List (Key × V)} {k : Key} (h : EvD m K ta σ H (.s (kV k))) (hb : EvD m K tb σ H (.s (.ref q))) (hq : H q = some (.dK kvs)) (nq : ¬ m.N q) : EvD m K (tOp (rNinU K) ta tb) σ H (dB (!(valV kvs k).isSome)) := fun H1 g Q k' =>
  h H1 g _ fun w H2 g2 rw' => hb H2 (g.trans g2) _ fun z H3 g3 rz => by
    rw [rep_s.mp rw', rep_s.mp rz]
    have e := DGet.k (k := k) (((g.trans g2).trans g3).st q _ nq hq)
    exact .inr (.inr ⟨q, _, rfl, e, k' _ H3 (g2.trans g3) (rep_s.mpr rfl)⟩)
theorem ev_lenR {xs : List V} (h : EvD m K ta σ H (.s (.ref q))) (hq : H q = some (.lst xs)) (nq : ¬ m.N q) : EvD m K (tCB (rLenU K) (tCons ta tNil)) σ H (dI (xs.length : Int)) := fun H1 g Q k =>
  h H1 g _ fun w H2 g2 rw' => by
    rw [rep_s.mp rw']
    have e := (g.trans g2).st q _ nq hq
    exact ⟨.ref q, xs.length, rfl, .inl ⟨xs, SqL.of e, rfl⟩, k _ H2 g2 (rep_s.mpr rfl)⟩
end
/-! dicts -/
theorem valV_none_of {kvs : List (Key × V)} {k : Key} (h : k ∉ kvs.map (·.1)) : valV kvs k = none := by
  induction kvs with
  | nil => rfl
  | cons a r ih =>
    rw [List.map_cons, List.mem_cons, not_or] at h
    rw [valV_neg (fun e => h.1 e.symm), ih h.2]
theorem mergeK_nodup : ∀ {more kvs : List (Key × V)}, ((kvs ++ more).map (·.1)).Nodup → mergeK kvs more = kvs ++ more
  | [], kvs, _ => by
    show kvs = kvs ++ []
    rw [List.append_nil]
  | a :: more, kvs, h => by
    show mergeK (putK kvs a.1 a.2) more = _
    have hn : a.1 ∉ kvs.map (·.1) := by
      rw [List.map_append, List.map_cons, List.nodup_append] at h
      exact fun hm => h.2.2 _ hm _ List.mem_cons_self rfl
    rw [putK_new a.2 (valV_none_of hn)]
    have e : kvs ++ [(a.1, a.2)] ++ more = kvs ++ a :: more := by rw [List.append_assoc]; rfl
    rw [mergeK_nodup (by rw [e]; exact h), e]
theorem ev_dictzip {m : Md} {K : PySem.W.Frag} {σ : L2.St} {H : Hp} {ta : TA} {z : List Nat} {ds : List D} (h : EvA m K ta σ H [dS (st z), .t ds]) (ha : z.all (· < 128) = true) (nd : (z.map Rl.keyOf).Nodup) (hl : ds.length = z.length) : EvD m K (tDictZip K ta) σ H (.d (z.map Rl.keyOf) ds) := fun H1 g Q k =>
  h H1 g _ fun vs H2 g2 rs => by
    obtain ⟨x, y, rfl, r1, r2⟩ := reps2 rs
    rw [rep_s.mp r1]
    obtain ⟨t, xs, rfl, st', rs'⟩ := rep_t.mp r2
    have hx := rs'.len
    refine ⟨st z, t, xs, rfl, ?_, st'.here, ?_, fun p hp => ?_⟩
    · rw [← Array.all_toList, st_cps]
      exact ha
    · rw [hx, hl, ← Array.length_toList, st_cps]
    · have e : ((st z).cps.toList.map fun c => (Sum.inr ⟨#[c]⟩ : Key)) = z.map Rl.keyOf := by
        rw [st_cps]
        rfl
      rw [e, mergeK_nodup (by rw [List.nil_append, List.map_fst_zip (by rw [List.length_map]; omega)]; exact nd), List.nil_append]
      have g3 : G m H2 (upd H2 p (.dK ((z.map Rl.keyOf).zip xs))) := g2.new hp
      exact k _ _ (g2.trans g3) (rep_d.mpr ⟨p, xs, rfl, StD.of upd_same (g2.out hp), by rw [List.length_map]; omega, rs'.mono g3⟩)
/-! greatest of some numbers -/
theorem foldl_max (l : List Nat) : ∀ a : Nat, a ≤ l.foldl max a ∧ (∀ x ∈ l, x ≤ l.foldl max a) ∧ (l.foldl max a = a ∨ l.foldl max a ∈ l) := by
  induction l with
  | nil => intro a; exact ⟨Nat.le_refl _, fun x h => (by cases h), .inl rfl⟩
  | cons b l ih =>
    intro a
    obtain ⟨h1, h2, h3⟩ := ih (max a b)
    rw [List.foldl_cons]
    refine ⟨Nat.le_trans (Nat.le_max_left _ _) h1, fun x hx => ?_, ?_⟩
    · rw [List.mem_cons] at hx
      rcases hx with rfl | hx
      · exact Nat.le_trans (Nat.le_max_right _ _) h1
      · exact h2 x hx
    · rcases h3 with h3 | h3
      · rw [h3]
        rcases Nat.le_total a b with h | h
        · exact .inr (by rw [Nat.max_eq_right h]; exact List.mem_cons_self)
        · exact .inl (Nat.max_eq_left h)
      · exact .inr (List.mem_cons_of_mem _ h3)
theorem Rl.reach_eq (R : Rl) : R.reach = (R.bars.map fun b => b.2.2).foldl max 1 := by
  unfold Rl.reach
  rw [List.foldl_map]
theorem Rl.reach_pos (R : Rl) : 1 ≤ R.reach := by rw [R.reach_eq]; exact (foldl_max _ 1).1
theorem Rl.reach_le {R : Rl} {b : Nat × Nat × Nat} (h : b ∈ R.bars) : b.2.2 ≤ R.reach := by rw [R.reach_eq]; exact (foldl_max _ 1).2.1 _ (List.mem_map.mpr ⟨b, h, rfl⟩)
theorem Rl.reach_mem (R : Rl) : R.reach = 1 ∨ R.reach ∈ R.bars.map fun b => b.2.2 := by rw [R.reach_eq]; exact (foldl_max _ 1).2.2
theorem Rl.Ok.reach5 {R : Rl} (ok : R.Ok) : R.reach ≤ 5 := by
  rcases R.reach_mem with h | h
  · omega
  · rw [List.mem_map] at h
    obtain ⟨b, hb, e⟩ := h
    rw [← e]
    exact (ok.bk b hb).2.2.2
/-! a dict made by a comprehension over a text: each sign a new list -/
theorem ev_dcLists {m : Md} {K : PySem.W.Frag} {σ : L2.St} {H : Hp} {tl : TE} {z : List Nat} {i : Nat} (hi : i < σ.length) (hm : ∀ p, ¬ m.M p → ¬ m.N p) (h : EvD m K tl σ H (dS (st z))) (nd : (z.map Rl.keyOf).Nodup) (hz : z.length ≤ 1000) :
    EvP m (tDc (iAny K tl) (gName i) tYes (tVar i) (tLst tNil) [i]) σ H fun v H2 => ∃ (q : Addr) (ls : List Addr), v = .ref q ∧ H q = none ∧ ls.Nodup ∧ ls.length = z.length ∧ (∀ l ∈ ls, H l = none ∧ H2 l = some (.lst [])) ∧ H2 q = some (.dK ((z.map Rl.keyOf).zip (ls.map V.ref))) := fun H0 g0 Q k =>
  h H0 g0 _ fun v H1 g1 rv => by
    rw [rep_s.mp rv]
    refine .inr (.inr ⟨st z, rfl, fun q hq => ⟨fun n mm H' => mm = z.length - n ∧ n ≤ z.length ∧ G m H1 H' ∧ ∃ ls : List Addr, ls.Nodup ∧ ls.length = n ∧ (∀ l ∈ ls, H1 l = none ∧ H' l = some (.lst [])) ∧ H' q = some (.dK (((z.take n).map Rl.keyOf).zip (ls.map V.ref))), ⟨z.length, rfl, Nat.zero_le _, g1.r1.mut hq, [], List.nodup_nil, rfl, fun l hl => (by cases hl), upd_same⟩, ?_⟩⟩)
    rintro n mm H' ⟨rfl, hn, gg, ls, h1, h2, h3, h4⟩
    have hsz : (st z).cps.size = z.length := by rw [← Array.length_toList, st_cps]
    have nq : ¬ m.N q := hm q (g1.out hq)
    by_cases hlt : n < z.length
    · refine .inr ⟨by show n < (st z).cps.size; rw [hsz]; exact hlt, fun H' => n + 1 ≤ z.length ∧ G m H1 H' ∧ ∃ ls : List Addr, ls.Nodup ∧ ls.length = n + 1 ∧ (∀ l ∈ ls, H1 l = none ∧ H' l = some (.lst [])) ∧ H' q = some (.dK (((z.take (n + 1)).map Rl.keyOf).zip (ls.map V.ref))), fun H2 p2 => ⟨z.length - (n + 1), by omega, rfl, p2.1, p2.2⟩, fun x H2 y => ?_⟩
      obtain ⟨e1, c, hc, e2⟩ := y
      subst e1
      subst e2
      have hc' : z[n]? = some c := by
        rw [← Array.getElem?_toList, st_cps] at hc
        exact hc
      have ew : wipe ((wipe σ [i]).set i (some (.str ⟨#[c]⟩))) [i] = wipe σ [i] := by
        show (((σ.set i none).set i (some (V.str ⟨#[c]⟩))).set i none) = σ.set i none
        rw [List.set_set, List.set_set]
      refine ⟨ew, ?_⟩
      show ∃ v, _ ∧ _
      refine ⟨.str ⟨#[c]⟩, ?_, by decide, fun l hl => ⟨((z.take n).map Rl.keyOf).zip (ls.map V.ref), Rl.keyOf c, rfl, ?_, ?_, ?_⟩⟩
      · show ((σ.set i none).set i (some (V.str ⟨#[c]⟩)))[i]? = _
        rw [List.set_set]
        simp [hi]
      · rw [upd_ne (fun e => by rw [← e, h4] at hl; cases hl)]
        exact h4
      · rw [List.length_zip, List.length_map, List.length_take, List.length_map, h2]
        exact Nat.lt_of_le_of_lt (Nat.min_le_right _ _) (Nat.lt_of_le_of_lt hn (Nat.lt_of_le_of_lt hz (by decide)))
      · have lq : l ≠ q := fun e => by rw [e, h4] at hl; cases hl
        have lnew : ∀ l' ∈ ls, l' ≠ l := fun l' hl' e => by
          have := (h3 l' hl').2
          rw [e, hl] at this
          cases this
        refine ⟨hlt, (gg.mut (gg.free hl)).mut hq, ls ++ [l], ?_, by rw [List.length_append, h2]; rfl, fun l' hl' => ?_, ?_⟩
        · rw [List.nodup_append]
          exact ⟨h1, by simp, fun a ha b hb => by rw [List.mem_singleton.mp hb]; exact lnew a ha⟩
        · rw [List.mem_append, List.mem_singleton] at hl'
          rcases hl' with hl' | rfl
          · have ne : l' ≠ q := fun e => by
              have := (h3 l' hl').1
              have h5 := (h3 l' hl').2
              rw [e, h4] at h5
              cases h5
            rw [upd_ne ne, upd_ne (lnew l' hl')]
            exact h3 l' hl'
          · rw [upd_ne lq, upd_same]
            exact ⟨gg.free hl, rfl⟩
        · rw [upd_same]
          congr 2
          have ek : (z.take (n + 1)) = z.take n ++ [c] := by rw [List.take_add_one, hc']; rfl
          have hlen : ((z.take n).map Rl.keyOf).length = (ls.map V.ref).length := by rw [List.length_map, List.length_take, List.length_map, h2]; omega
          have nn : Rl.keyOf c ∉ (z.take n).map Rl.keyOf := by
            have nd2 : ((z.take (n + 1)).map Rl.keyOf).Nodup := nd.sublist ((List.take_sublist _ _).map _)
            rw [ek, List.map_append, List.nodup_append] at nd2
            exact fun hm => nd2.2.2 _ hm _ List.mem_cons_self rfl
          rw [putK_new _ (valV_none_of (by rw [List.map_fst_zip (Nat.le_of_eq hlen)]; exact nn)), ek, List.map_append, List.map_append, List.zip_append hlen]
          rfl
    · have e : n = z.length := by omega
      subst e
      rw [List.take_length] at h4
      exact .inl ⟨by show (st z).cps.size ≤ _; rw [hsz]; exact Nat.le_refl _, k _ _ (g1.trans gg) ⟨q, ls, rfl, (g0.trans g1).free hq, h1, h2, fun l hl => ⟨(g0.trans g1).free (h3 l hl).1, (h3 l hl).2⟩, h4⟩⟩
section
variable {m : Md} {K : PySem.W.Frag} {σ : L2.St} {H H' : Hp} {ta tb te to : TE} {d : D} {ds es : List D} {v : V} {q p : Addr}
theorem reps_of : ∀ {ds : List D} {xs : List V}, xs.length = ds.length → (∀ (j : Nat) d x, ds[j]? = some d → xs[j]? = some x → Rep m.M K H d x) → Reps m.M K H ds xs
  | [], xs, hl, _ => by
    rw [List.length_eq_zero_iff.mp hl]
    exact Reps.nil
  | d :: ds, [], hl, _ => by simp at hl
  | d :: ds, x :: xs, hl, h => Reps.cons (h 0 d x rfl rfl) (reps_of (by simpa using hl) fun j d' x' h1 h2 => h (j + 1) d' x' h1 h2)
theorem g_fld {C dx : Addr} {kvs : List (Str × V)} {f : Str} {i : Nat} {Q : L2.St → Hp → Prop} (hs : σ[i]? = some (some (.ref p))) (ha : H p = some (.ins C dx kvs)) (c : Cls K C) (n : NoAttr K C f) (hl : kvs.length < 1000)
    (k : Q σ (upd H p (.ins C dx (putF f v kvs)))) : gFld K (tVar i) f v σ H Q := ⟨.ref p, hs, p, C, dx, kvs, rfl, ha, c, n, hl, k⟩
end
theorem lookup_out {kvs : List (Str × V)} {ks : List Str} (e : kvs.map (·.1) = ks) {f : Str} (hf : f ∉ ks) : kvs.lookup f = none := by
  subst e
  induction kvs with
  | nil => rfl
  | cons a r ih =>
    rw [List.map_cons, List.mem_cons, not_or] at hf
    obtain ⟨a1, a2⟩ := a
    rw [List.lookup_cons]
    have e2 : (f == a1) = false := beq_eq_false_iff_ne.mpr hf.1
    rw [e2]
    exact ih hf.2
end GK

/-! methods, properties, new instances; the double comprehension; locking -/
namespace GK
open PySem PySem.Spec PyProof.Rows L2
section
variable {m : Md} {K : PySem.W.Frag} {σ : L2.St} {H H' : Hp} {ta tb te to : TE} {t : TA} {d : D} {ds es : List D} {v : V} {q p C : Addr} {P : V → Hp → Prop} {sp : Sp} {E : XK} {fs : List Str}
theorem ev_meth {f : Str} (h : EvD m K ta σ H (.i C fs ds)) (hf : f ∉ fs) (ha : EvA m K t σ H es) (hs : SpP m K sp (.i C fs ds :: es) H P) : EvP m (tMeth C f sp [] E ta t) σ H P := fun H1 g Q k =>
  h H1 g _ fun x H2 g2 rx => by
    have rx' := rx
    obtain ⟨a, dx, kvs, xs, rfl, st, fo, rs⟩ := rep_i.mp rx'
    refine ⟨a, dx, kvs, rfl, st.2, fo.2 f hf, ha H2 (g.trans g2) _ fun vs H3 g3 r3 => ?_⟩
    rw [List.append_nil]
    exact hs _ H3 ((g.trans g2).trans g3) (Reps.cons (rx.mono g3) r3) Q E fun z H4 g4 pz => k z H4 ((g2.trans g3).trans g4) pz
theorem ev_methK {f : Str} {n : Nat} (h : EvD m K ta σ H (.i C fs ds)) (hf : f ∉ fs) (ha : EvA m K t σ H es) (hn : es.length = n) (hs : SpP m K sp (.i C fs ds :: es) H P) : EvP m (tMethK C f n sp E ta t) σ H P := fun H1 g Q k =>
  h H1 g _ fun x H2 g2 rx => by
    have rx' := rx
    obtain ⟨a, dx, kvs, xs, rfl, st, fo, rs⟩ := rep_i.mp rx'
    refine ⟨a, dx, kvs, rfl, st.2, fo.2 f hf, ha H2 (g.trans g2) _ fun vs H3 g3 r3 => ⟨by rw [r3.len]; exact hn, ?_⟩⟩
    exact hs _ H3 ((g.trans g2).trans g3) (Reps.cons (rx.mono g3) r3) Q E fun z H4 g4 pz => k z H4 ((g2.trans g3).trans g4) pz
theorem ev_prop (h : EvD m K ta σ H (.i C fs ds)) (hs : SpP m K sp [.i C fs ds] H P) : EvP m (tProp C sp [] E ta) σ H P := fun H1 g Q k =>
  h H1 g _ fun x H2 g2 rx => by
    have rx' := rx
    obtain ⟨a, dx, kvs, xs, rfl, st, fo, rs⟩ := rep_i.mp rx'
    exact ⟨a, dx, kvs, rfl, st.2, hs _ H2 (g.trans g2) (Reps.cons rx Reps.nil) Q E fun z H4 g4 pz => k z H4 (g2.trans g4) pz⟩
/-! the double comprehension over a list of texts and a text -/
theorem strs_len {l : List (List Nat)} : (l.map fun w => V.str (st w)).length = l.length := List.length_map ..
theorem ev_lc2S {tl tl1 te : TE} {tt1 : TT} {i j : Nat} {ws : List (List Nat)} {z : List Nat} (f : List Nat → Nat → Bool) (g : List Nat → Nat → List Nat) (hm : ∀ p, ¬ m.M p → ¬ m.N p) (h : EvD m K tl σ H (.l (ws.map fun w => dS (st w))))
    (h1 : ∀ w ∈ ws, ∀ H', G m H H' → EvD m K tl1 ((wipe σ [i, j]).set i (some (.str (st w)))) H' (dS (st z)))
    (ht : ∀ w ∈ ws, ∀ k ∈ z, ∀ H', G m H H' → EvT m tt1 ((wipe ((wipe σ [i, j]).set i (some (.str (st w)))) [j]).set j (some (.str (st [k])))) H' (f w k))
    (he : ∀ w ∈ ws, ∀ k ∈ z, ∀ H', G m H H' → EvD m K te ((wipe ((wipe σ [i, j]).set i (some (.str (st w)))) [j]).set j (some (.str (st [k])))) H' (dS (st (g w k)))) (hij : i ≠ j) (hz : ws.length * z.length ≤ 100000) :
    EvL m K (tLc2 (iAny K tl) (gName i) tYes (iAny K tl1) (gName j) tt1 te [i, j] [j]) σ H ((ws.flatMap fun w => (z.filter (f w)).map (g w)).map fun w => dS (st w)) := fun H0 g0 Q k => h H0 g0 _ fun v H1 g1 r => by
  obtain ⟨p, xs, rfl, stp, rs⟩ := rep_l.mp r
  rw [dS_map, reps_str] at rs
  have e0 : xs = ws.map fun w => V.str (st w) := by rw [rs, List.map_map]; rfl
  subst e0
  have hsz : (st z).cps.size = z.length := by rw [← Array.length_toList, st_cps]
  refine .inl ⟨p, _, rfl, stp.here, fun D hD => ⟨fun n mm H' => mm = ws.length - n ∧ n ≤ ws.length ∧ G m H1 H' ∧ H' D = some (.lst (((ws.take n).flatMap fun w => (z.filter (f w)).map (g w)).map fun w => V.str (st w))), ⟨ws.length, rfl, Nat.zero_le _, g1.r1.mut hD, upd_same⟩, ?_⟩⟩
  have nD : ¬ m.N D := hm D (g1.out hD)
  rintro n mm H' ⟨rfl, hn, gg, hD'⟩
  by_cases hlt : n < ws.length
  · have hw : (ws.map fun w => V.str (st w))[n]? = some (V.str (st ws[n])) := get_map (List.getElem?_eq_getElem hlt)
    have hws : ws[n] ∈ ws := List.getElem_mem hlt
    generalize ws[n] = w0 at hw hws
    refine .inr ⟨⟨_, _, (stp.mono gg).here, hw⟩, fun H' => G m H1 H' ∧ H' D = some (.lst (((ws.take (n + 1)).flatMap fun w => (z.filter (f w)).map (g w)).map fun w => V.str (st w))), fun H2 p2 => ⟨ws.length - (n + 1), by omega, rfl, hlt, p2⟩, fun x H2 y => ?_⟩
    obtain ⟨e1, y⟩ := y
    subst e1
    have hx : x = V.str (st w0) := by
      have e := y _ (stp.mono gg).here
      rw [hw] at e
      exact (Option.some.inj e).symm
    subst hx
    have ew : wipe ((wipe σ [i, j]).set i (some (V.str (st w0)))) [i, j] = wipe σ [i, j] := by
      apply List.ext_getElem?
      intro a
      show (((((σ.set j none).set i none).set i (some (V.str (st w0)))).set j none).set i none)[a]? = ((σ.set j none).set i none)[a]?
      simp only [List.getElem?_set, List.length_set]
      by_cases h1 : i = a
      · simp [h1]
      · by_cases h2 : j = a
        · simp [h1, h2]
        · simp [h1, h2]
    refine ⟨ew, ?_⟩
    unfold tYes
    simp only []
    rw [if_pos trivial]
    refine h1 w0 hws H2 ((g0.trans g1).trans gg) H2 gg.r1 _ fun v H3 g3 rv => ?_
    rw [rep_s.mp rv]
    have hD3 := g3.st D _ nD hD'
    have etk : ws.take (n + 1) = ws.take n ++ [w0] := by
      have e : ws[n]? = some w0 := by
        rw [List.getElem?_map] at hw
        cases e : ws[n]? with
        | none => rw [e] at hw; cases hw
        | some a =>
          rw [e] at hw
          have := Option.some.inj hw
          injection this with this
          rw [st_inj this]
      rw [List.take_add_one, e]
      rfl
    have bnd : ∀ t, ((ws.take t).flatMap fun w => (z.filter (f w)).map (g w)).length ≤ t * z.length := by
      intro t
      induction t with
      | zero => simp
      | succ t ih =>
        rw [List.take_add_one, List.flatMap_append, List.length_append, Nat.succ_mul]
        have : ((ws[t]?.toList).flatMap fun w => (z.filter (f w)).map (g w)).length ≤ z.length := by
          cases ws[t]? with
          | none => simp
          | some a => simp [List.length_filter_le]
        omega
    refine .inr (.inr ⟨st z, rfl, fun a b H' => b = z.length - a ∧ a ≤ z.length ∧ G m H1 H' ∧ H' D = some (.lst ((((ws.take n).flatMap fun w => (z.filter (f w)).map (g w)) ++ ((z.take a).filter (f w0)).map (g w0)).map fun w => V.str (st w))), ⟨z.length, rfl, Nat.zero_le _, gg.trans g3, ?_⟩, ?_⟩)
    · simpa using hD3
    · rintro a b H4 ⟨rfl, ha, g4, hD4⟩
      by_cases hla : a < z.length
      · refine .inr ⟨by show a < (st z).cps.size; rw [hsz]; exact hla, fun H' => G m H1 H' ∧ H' D = some (.lst ((((ws.take n).flatMap fun w => (z.filter (f w)).map (g w)) ++ ((z.take (a + 1)).filter (f w0)).map (g w0)).map fun w => V.str (st w))), fun H5 p5 => ⟨z.length - (a + 1), by omega, rfl, hla, p5⟩, fun x H5 y => ?_⟩
        obtain ⟨e1, c, hc, e2⟩ := y
        subst e1
        subst e2
        have hc' : z[a]? = some c := by
          rw [← Array.getElem?_toList, st_cps] at hc
          exact hc
        have hcz : c ∈ z := List.mem_of_getElem? hc'
        refine ⟨?_, ?_⟩
        · show (((wipe ((wipe σ [i, j]).set i (some (V.str (st w0)))) [j]).set j (some (V.str (st [c])))).set j none) = ((wipe σ [i, j]).set i (some (V.str (st w0)))).set j none
          rw [List.set_set]
          show (((wipe σ [i, j]).set i (some (V.str (st w0)))).set j none).set j none = _
          rw [List.set_set]
        · refine ht w0 hws c hcz H5 ((g0.trans g1).trans g4) H5 g4.r1 _ fun H6 g6 => ?_
          have etz : z.take (a + 1) = z.take a ++ [c] := by rw [List.take_add_one, hc']; rfl
          have hD6 := g6.st D _ nD hD4
          cases cf : f w0 c with
          | true =>
            show te _ H6 _
            refine he w0 hws c hcz H6 (((g0.trans g1).trans g4).trans g6) H6 g6.r1 _ fun y H7 g7 ry => ?_
            rw [rep_s.mp ry]
            refine ⟨_, g7.st D _ nD hD6, ?_, ((g4.trans g6).trans g7).mut hD, ?_⟩
            · rw [List.length_map, List.length_append, List.length_map]
              have b1 := bnd n
              have b2 : ((z.take a).filter (f w0)).length ≤ z.length := Nat.le_trans (List.length_filter_le _ _) (by rw [List.length_take]; exact Nat.min_le_right _ _)
              have b3 : n * z.length + z.length ≤ ws.length * z.length := by
                rw [← Nat.succ_mul]
                exact Nat.mul_le_mul_right _ hlt
              exact Nat.lt_of_le_of_lt (by omega : _ ≤ 100000) (by decide)
            · have e1 : [c].filter (f w0) = [c] := by simp [cf]
              rw [upd_same, etz, List.filter_append, e1]
              simp
          | false =>
            show G m H1 H6 ∧ _
            refine ⟨g4.trans g6, ?_⟩
            have e1 : [c].filter (f w0) = [] := by simp [cf]
            rw [hD6, etz, List.filter_append, e1, List.append_nil]
      · have e : a = z.length := by omega
        subst e
        rw [List.take_length] at hD4
        refine .inl ⟨by show (st z).cps.size ≤ _; rw [hsz]; exact Nat.le_refl _, g4, ?_⟩
        rw [hD4, etk, List.flatMap_append]
        simp
  · have e : n = ws.length := by omega
    subst e
    rw [List.take_length] at hD'
    refine .inl ⟨⟨_, (stp.mono gg).here, by rw [strs_len]; exact Nat.le_refl _⟩, k _ _ (g1.trans gg) ⟨D, _, rfl, (g0.trans g1).free hD, g1.out hD, hD', ?_⟩⟩
    rw [dS_map, reps_str, List.map_map]
    rfl
end
/-! a class whose __init__ has defaults -/
section
variable {P : Program} {w : World} {K : PySem.W.Frag} {mg : Str → Option Value} {base : Heap} {x qual : Str} {params : Arguments} {body : List Stmt} {scope : Scope} {dvs : List V} {kws : List (Str × V)} {f : Addr} {fd : FuncData}
theorem okD {N ps : List Str} {k : Nat} {sp : Sp} (F : FunD K x qual params body scope dvs kws f fd) (S : FnScope N ps scope) (len : ∀ vs H Q E, sp vs H Q E → vs.length = ps.length)
    (hbody : ∀ (cdv : Value) (A : Around) (outer : List Env) (s : Shared) (H : Hp) (vs : List V) (Q : VK) (E : XK), Room k (A.deeper (envOfC qual scope s.heap.objs.size f cdv)) → sp vs H Q E →
      ∃ t, PSs (cxOf CX0 P w K mg base N qual scope f cdv A outer s H E).nox body t ∧ t { nx := fun _ H' => Q .non H', rt := Q } (start N vs) H) : FnOk P w K mg base CX0 (k + 1) f fd ps sp :=
  F.ok S len fun cdv A outer s H vs Q E hr hsp => by
    obtain ⟨t, h, q⟩ := hbody cdv A outer s H vs Q E hr hsp
    exact ⟨t, h.nox, q⟩
end
def InitAtD (K : PySem.W.Frag) (mg : Str → Option Value) (x : Str) (C : Addr) (qual : Str) (st : Stmt) (ps : List Str) (dvs : List V) : Prop :=
  ∃ f fd ds, FunD K "__init__" qual (defArgs st) (defBody st) (defScope st) dvs [] f fd ∧ Mk K C f ∧ mg x = some (.ref C) ∧ Vals dvs ds ∧ Binds K fd ps [] ∧ Binds K fd ps ds
/-! the last signs of a row -/
def lastN {α : Type} (n : Nat) (l : List α) : List α := l.drop (l.length - n)
theorem cutS_last {l : List Nat} {n : Nat} (hn : 1 ≤ n) : cutS (st l) (some (-(n : Int))) none = st (lastN n l) := by
  unfold cutS
  rw [st_cps, st_len]
  have e1 : HT.sIx l.length 0 (some (-(n : Int))) = l.length - n := by
    show (if (-(n : Int)) < 0 then ((-(n : Int)) + (l.length : Int)).toNat else _) = _
    rw [if_pos (by omega)]
    omega
  rw [e1]
  show st (List.take (l.length - (l.length - n)) (l.drop (l.length - n))) = _
  rw [List.take_of_length_le (by rw [List.length_drop]; exact Nat.le_refl _)]
  rfl
namespace Rl
def step (R : Rl) (t : List Nat) (k : Nat) : List Nat := lastN R.reach (t ++ [k])
def next (R : Rl) (t : List Nat) : List (Nat × List Nat) := (R.kinds.filter (R.fits t)).map fun k => (k, R.step t k)
def nextD (p : Nat × List Nat) : D := .t [bsign p.1, dS (st p.2)]
end Rl
/-- a laying: its rule, its rows -/
def lanD (A : Ad) (R : Rl) (past : List (List Nat)) : D := .i A.Laying ["rule", "past"] [ruleD A R, .l (past.map fun w => dS (st w))]
structure LanT (A : Ad) : Prop where
  cl_Laying : Cls A.K A.Laying
  rule : NoAttr A.K A.Laying "rule"
  past : NoAttr A.K A.Laying "past"
theorem ev_rule {A : Ad} {R : Rl} {past : List (List Nat)} {m : Md} {σ : L2.St} {H : Hp} {ta : TE} (T : LanT A) (h : EvD m A.K ta σ H (lanD A R past)) : EvD m A.K (tFld A.K ta "rule") σ H (ruleD A R) := ev_fld (j := 0) h rfl rfl T.cl_Laying T.rule
theorem ev_past {A : Ad} {R : Rl} {past : List (List Nat)} {m : Md} {σ : L2.St} {H : Hp} {ta : TE} (T : LanT A) (h : EvD m A.K ta σ H (lanD A R past)) : EvD m A.K (tFld A.K ta "past") σ H (.l (past.map fun w => dS (st w))) := ev_fld (j := 1) h rfl rfl T.cl_Laying T.past
end GK

/-! tails and layers, in plain lists -/
namespace GK
open PySem PySem.Spec PyProof.Rows L2
structure TS where
  T : List (List Nat)
  E : List (Nat × Nat × Nat)
def addE (i : Nat) (s : TS) (p : Nat × List Nat) : TS :=
  ⟨if p.2 ∈ s.T then s.T else s.T ++ [p.2], s.E ++ [(i, (if p.2 ∈ s.T then s.T else s.T ++ [p.2]).idxOf p.2, p.1)]⟩
namespace Rl
def turn (R : Rl) (i : Nat) (s : TS) : TS := (R.next (s.T.getD i [])).foldl (addE i) s
def run (R : Rl) : Nat → Nat → TS → TS
  | 0, _, s => s
  | n + 1, i, s => if i < s.T.length then R.run n (i + 1) (R.turn i s) else s
def tailsF (R : Rl) (row : List Nat) : TS := R.run 3000 0 ⟨[lastN R.reach row], []⟩
/-- a row of the rule's kinds, no longer than its reach -/
def Short (R : Rl) (t : List Nat) : Prop := t.length ≤ R.reach ∧ ∀ c ∈ t, c ∈ R.kinds
structure TInv (R : Rl) (s : TS) : Prop where
  nd : s.T.Nodup
  sh : ∀ t ∈ s.T, R.Short t
  ed : ∀ e ∈ s.E, ∃ t, s.T[e.1]? = some t ∧ e.2.2 ∈ R.kinds ∧ R.fits t e.2.2 = true ∧ s.T[e.2.1]? = some (R.step t e.2.2)
end Rl
theorem lastN_len {α : Type} {n : Nat} {l : List α} : (lastN n l).length ≤ n := by
  unfold lastN
  rw [List.length_drop]
  omega
theorem lastN_mem {α : Type} {n : Nat} {l : List α} {a : α} (h : a ∈ lastN n l) : a ∈ l := List.mem_of_mem_drop h
theorem Rl.step_short {R : Rl} {t : List Nat} {k : Nat} (h : R.Short t) (hk : k ∈ R.kinds) : R.Short (R.step t k) := ⟨lastN_len, fun c hc => by
  have := lastN_mem hc
  rw [List.mem_append, List.mem_singleton] at this
  rcases this with h1 | rfl
  · exact h.2 c h1
  · exact hk⟩
theorem Rl.next_mem {R : Rl} {t : List Nat} {p : Nat × List Nat} (h : p ∈ R.next t) : p.1 ∈ R.kinds ∧ R.fits t p.1 = true ∧ p.2 = R.step t p.1 := by
  unfold Rl.next at h
  rw [List.mem_map] at h
  obtain ⟨k, hk, rfl⟩ := h
  rw [List.mem_filter] at hk
  exact ⟨hk.1, hk.2, rfl⟩
/-- one edge more -/
theorem Rl.TInv.add {R : Rl} {s : TS} {i : Nat} {t : List Nat} {p : Nat × List Nat} (h : R.TInv s) (hi : s.T[i]? = some t) (hp : p ∈ R.next t) : R.TInv (addE i s p) ∧ (addE i s p).T[i]? = some t ∧ (∃ r, (addE i s p).T = s.T ++ r) := by
  obtain ⟨h1, h2, h3⟩ := Rl.next_mem hp
  have ht := h.sh t (List.mem_of_getElem? hi)
  have keep : ∀ (j : Nat) u, s.T[j]? = some u → (addE i s p).T[j]? = some u := by
    intro j u hj
    show (if p.2 ∈ s.T then s.T else s.T ++ [p.2])[j]? = some u
    by_cases c : p.2 ∈ s.T
    · rw [if_pos c]; exact hj
    · rw [if_neg c, List.getElem?_append_left (List.getElem?_eq_some_iff.mp hj).1]; exact hj
  have hmem : p.2 ∈ (addE i s p).T := by
    show p.2 ∈ (if p.2 ∈ s.T then s.T else s.T ++ [p.2])
    by_cases c : p.2 ∈ s.T
    · rw [if_pos c]; exact c
    · rw [if_neg c]; simp
  refine ⟨⟨?_, ?_, ?_⟩, keep i t hi, ?_⟩
  · show (if p.2 ∈ s.T then s.T else s.T ++ [p.2]).Nodup
    by_cases c : p.2 ∈ s.T
    · rw [if_pos c]; exact h.nd
    · rw [if_neg c, List.nodup_append]
      exact ⟨h.nd, by simp, fun a ha b hb => by rw [List.mem_singleton.mp hb]; exact fun e => c (e ▸ ha)⟩
  · intro u hu
    have hu' : u ∈ (if p.2 ∈ s.T then s.T else s.T ++ [p.2]) := hu
    by_cases c : p.2 ∈ s.T
    · rw [if_pos c] at hu'; exact h.sh u hu'
    · rw [if_neg c, List.mem_append, List.mem_singleton] at hu'
      rcases hu' with hu' | rfl
      · exact h.sh u hu'
      · rw [h3]; exact Rl.step_short ht h1
  · intro e he
    have he' : e ∈ s.E ++ [(i, (addE i s p).T.idxOf p.2, p.1)] := he
    rw [List.mem_append, List.mem_singleton] at he'
    rcases he' with he' | rfl
    · obtain ⟨u, e1, e2, e3, e4⟩ := h.ed e he'
      exact ⟨u, keep _ _ e1, e2, e3, keep _ _ e4⟩
    · refine ⟨t, keep i t hi, h1, h2, ?_⟩
      show (addE i s p).T[(addE i s p).T.idxOf p.2]? = some (R.step t p.1)
      have hlt := List.idxOf_lt_length_of_mem hmem
      rw [List.getElem?_eq_getElem hlt, List.getElem_idxOf hlt, h3]
  · show ∃ r, (if p.2 ∈ s.T then s.T else s.T ++ [p.2]) = s.T ++ r
    by_cases c : p.2 ∈ s.T
    · exact ⟨[], by rw [if_pos c, List.append_nil]⟩
    · exact ⟨[p.2], by rw [if_neg c]⟩
theorem Rl.TInv.adds {R : Rl} {i : Nat} {t : List Nat} : ∀ {ps : List (Nat × List Nat)} {s : TS}, R.TInv s → s.T[i]? = some t → (∀ p ∈ ps, p ∈ R.next t) → R.TInv (ps.foldl (addE i) s) ∧ (ps.foldl (addE i) s).T[i]? = some t ∧ ∃ r, (ps.foldl (addE i) s).T = s.T ++ r
  | [], s, h, hi, _ => ⟨h, hi, [], by rw [List.append_nil]; rfl⟩
  | p :: ps, s, h, hi, hp => by
    obtain ⟨a1, a2, r, a3⟩ := h.add hi (hp p List.mem_cons_self)
    obtain ⟨b1, b2, r', b3⟩ := Rl.TInv.adds (ps := ps) a1 a2 fun q hq => hp q (List.mem_cons_of_mem _ hq)
    exact ⟨b1, b2, r ++ r', by rw [List.foldl_cons, b3, a3, List.append_assoc]⟩
theorem Rl.TInv.turned {R : Rl} {s : TS} {i : Nat} (h : R.TInv s) (hi : i < s.T.length) : R.TInv (R.turn i s) ∧ ∃ r, (R.turn i s).T = s.T ++ r := by
  have e : s.T[i]? = some (s.T.getD i []) := by rw [List.getD_eq_getElem?_getD, List.getElem?_eq_getElem hi]; rfl
  obtain ⟨a, b, c⟩ := h.adds (ps := R.next (s.T.getD i [])) e fun p hp => hp
  exact ⟨a, c⟩
/-! how many there are -/
def wordsN (ks : List Nat) : Nat → List (List Nat)
  | 0 => [[]]
  | n + 1 => (wordsN ks n).flatMap fun w => ks.map fun k => k :: w
theorem wordsN_mem {ks : List Nat} : ∀ {n : Nat} {w : List Nat}, w.length = n → (∀ c ∈ w, c ∈ ks) → w ∈ wordsN ks n
  | 0, w, h, _ => by rw [List.length_eq_zero_iff.mp h]; exact List.mem_singleton.mpr rfl
  | n + 1, [], h, _ => by simp at h
  | n + 1, c :: w, h, hc => List.mem_flatMap.mpr ⟨w, wordsN_mem (by simpa using h) fun x hx => hc x (List.mem_cons_of_mem _ hx), List.mem_map.mpr ⟨c, hc c List.mem_cons_self, rfl⟩⟩
theorem wordsN_len {ks : List Nat} : ∀ n : Nat, (wordsN ks n).length = ks.length ^ n
  | 0 => rfl
  | n + 1 => by
    show ((wordsN ks n).flatMap _).length = _
    rw [List.length_flatMap]
    have e : (wordsN ks n).map (fun w => (ks.map fun k => k :: w).length) = (wordsN ks n).map fun _ => ks.length := List.map_congr_left fun w _ => List.length_map ..
    rw [e, List.map_const', List.sum_replicate_nat, wordsN_len n, Nat.pow_succ]
theorem Rl.TInv.len {R : Rl} {s : TS} (ok : R.Ok) (h : R.TInv s) : s.T.length ≤ 1400 := by
  have hs : s.T ⊆ (List.range 6).flatMap (wordsN R.kinds) := fun t ht => by
    obtain ⟨h1, h2⟩ := h.sh t ht
    have := ok.reach5
    exact List.mem_flatMap.mpr ⟨t.length, List.mem_range.mpr (by omega), wordsN_mem rfl h2⟩
  refine Nat.le_trans (List.Nodup.length_le_of_subset h.nd hs) ?_
  rw [List.length_flatMap]
  have e : (List.range 6).map (fun n => (wordsN R.kinds n).length) = (List.range 6).map fun n => R.kinds.length ^ n := List.map_congr_left fun n _ => wordsN_len n
  rw [e]
  have l4 := ok.l4
  have p : ∀ n, R.kinds.length ^ n ≤ 4 ^ n := fun n => Nat.pow_le_pow_left l4 n
  have p0 := p 0; have p1 := p 1; have p2 := p 2; have p3 := p 3; have p4 := p 4; have p5 := p 5
  show ([R.kinds.length ^ 0, R.kinds.length ^ 1, R.kinds.length ^ 2, R.kinds.length ^ 3, R.kinds.length ^ 4, R.kinds.length ^ 5] : List Nat).sum ≤ 1400
  simp only [List.sum_cons, List.sum_nil]
  omega
theorem addE_len {i : Nat} : ∀ (ps : List (Nat × List Nat)) (s : TS), (ps.foldl (addE i) s).E.length = s.E.length + ps.length
  | [], s => rfl
  | p :: ps, s => by
    rw [List.foldl_cons, addE_len ps]
    show (s.E ++ [_]).length + ps.length = _
    simp only [List.length_append, List.length_cons, List.length_nil]
    omega
theorem Rl.next_len {R : Rl} {t : List Nat} : (R.next t).length ≤ R.kinds.length := by
  unfold Rl.next
  rw [List.length_map]
  exact List.length_filter_le _ _
theorem Rl.Ok.start {R : Rl} (ok : R.Ok) {row : List Nat} (h : ∀ c ∈ row, c ∈ R.kinds) : R.TInv ⟨[lastN R.reach row], []⟩ := ⟨by simp, fun t ht => by
  rw [List.mem_singleton.mp ht]
  exact ⟨lastN_len, fun c hc => h c (lastN_mem hc)⟩, fun e he => by cases he⟩
theorem Rl.TInv.ran {R : Rl} : ∀ (n i : Nat) {s : TS}, R.TInv s → R.TInv (R.run n i s) ∧ ∃ r, (R.run n i s).T = s.T ++ r
  | 0, i, s, h => ⟨h, [], by rw [List.append_nil]; rfl⟩
  | n + 1, i, s, h => by
    show R.TInv (if i < s.T.length then R.run n (i + 1) (R.turn i s) else s) ∧ ∃ r, (if i < s.T.length then R.run n (i + 1) (R.turn i s) else s).T = s.T ++ r
    by_cases c : i < s.T.length
    · rw [if_pos c]
      obtain ⟨a, r, b⟩ := h.turned c
      obtain ⟨a', r', b'⟩ := Rl.TInv.ran n (i + 1) a
      exact ⟨a', r ++ r', by rw [b', b, List.append_assoc]⟩
    · rw [if_neg c]
      exact ⟨h, [], by rw [List.append_nil]⟩
theorem Rl.Ok.tails {R : Rl} (ok : R.Ok) {row : List Nat} (h : ∀ c ∈ row, c ∈ R.kinds) : R.TInv (R.tailsF row) ∧ (R.tailsF row).T[0]? = some (lastN R.reach row) := by
  obtain ⟨a, r, b⟩ := (ok.start h).ran 3000 0
  refine ⟨a, ?_⟩
  unfold Rl.tailsF
  rw [b]
  rfl
/-! layers -/
abbrev Ent := Int × Option (Nat × Nat)
abbrev Layer := List (Nat × Ent)
def getE : Layer → Nat → Option Ent
  | [], _ => none
  | x :: r, n => if x.1 = n then some x.2 else getE r n
def putE (L : Layer) (n : Nat) (e : Ent) : Layer := if (getE L n).isSome then L.map (fun x => if x.1 = n then (x.1, e) else x) else L ++ [(n, e)]
def outOf (E : List (Nat × Nat × Nat)) (i : Nat) : List (Nat × Nat) := (E.filter fun e => decide (e.1 = i)).map fun e => e.2
def better (L : Layer) (far : Nat) (v : Int) : Bool := match getE L far with
  | none => true
  | some e => decide (e.1 < v)
namespace Rl
def relax (R : Rl) (near : Nat) (w : Int) (L : Layer) (fk : Nat × Nat) : Layer := if better L fk.1 (w + R.worthOf fk.2) then putE L fk.1 (w + R.worthOf fk.2, some (near, fk.2)) else L
def nextLayer (R : Rl) (E : List (Nat × Nat × Nat)) (L : Layer) : Layer := L.foldl (fun acc x => (outOf E x.1).foldl (R.relax x.1 x.2.1) acc) []
def layerAt (R : Rl) (E : List (Nat × Nat × Nat)) : Nat → Layer
  | 0 => [(0, (0, none))]
  | n + 1 => R.nextLayer E (R.layerAt E n)
def layersF (R : Rl) (E : List (Nat × Nat × Nat)) (n : Nat) : List Layer := (List.range (n + 1)).map (R.layerAt E)
/-- what a walk back through layers, the last one first, writes down -/
def back : List Layer → Nat → List Nat
  | [], _ => []
  | L :: r, x => match getE L x with
    | some (_, some (near, k)) => k :: back r near
    | _ => []
def good (R : Rl) : List Nat → List Nat → Prop
  | _, [] => True
  | t, k :: ks => k ∈ R.kinds ∧ R.fits t k = true ∧ R.good (R.step t k) ks
end Rl
theorem getE_mem {L : Layer} {n : Nat} {e : Ent} (h : getE L n = some e) : (n, e) ∈ L := by
  induction L with
  | nil => cases h
  | cons x r ih =>
    unfold getE at h
    by_cases c : x.1 = n
    · rw [if_pos c] at h
      have e1 := Option.some.inj h
      subst c
      subst e1
      exact List.mem_cons_self
    · rw [if_neg c] at h
      exact List.mem_cons_of_mem _ (ih h)
theorem getE_of {L : Layer} {n : Nat} {e : Ent} (nd : (L.map (·.1)).Nodup) (h : (n, e) ∈ L) : getE L n = some e := by
  induction L with
  | nil => cases h
  | cons x r ih =>
    rw [List.map_cons, List.nodup_cons] at nd
    unfold getE
    rw [List.mem_cons] at h
    rcases h with rfl | h
    · rw [if_pos rfl]
    · have ne : ¬ x.1 = n := fun q => nd.1 (q ▸ List.mem_map.mpr ⟨_, h, rfl⟩)
      rw [if_neg ne]
      exact ih nd.2 h
theorem getE_none {L : Layer} {n : Nat} (h : getE L n = none) : n ∉ L.map (·.1) := by
  induction L with
  | nil => simp
  | cons x r ih =>
    unfold getE at h
    by_cases c : x.1 = n
    · rw [if_pos c] at h; cases h
    · rw [if_neg c] at h
      rw [List.map_cons, List.mem_cons, not_or]
      exact ⟨fun q => c q.symm, ih h⟩
theorem putE_keys (L : Layer) (n : Nat) (e : Ent) : (putE L n e).map (·.1) = if (getE L n).isSome then L.map (·.1) else L.map (·.1) ++ [n] := by
  unfold putE
  cases c : (getE L n).isSome with
  | true =>
    simp only [if_true]
    rw [List.map_map]
    exact List.map_congr_left fun x _ => by
      show (if x.1 = n then (x.1, e) else x).1 = x.1
      by_cases q : x.1 = n
      · rw [if_pos q]
      · rw [if_neg q]
  | false => simp
theorem putE_mem {L : Layer} {n : Nat} {e : Ent} {y : Nat × Ent} (h : y ∈ putE L n e) : y = (n, e) ∨ y ∈ L := by
  unfold putE at h
  cases c : (getE L n).isSome with
  | true =>
    rw [c, if_pos rfl, List.mem_map] at h
    obtain ⟨x, hx, rfl⟩ := h
    by_cases q : x.1 = n
    · rw [if_pos q, q]; exact .inl rfl
    · rw [if_neg q]; exact .inr hx
  | false =>
    rw [c, if_neg (by decide), List.mem_append, List.mem_singleton] at h
    exact h.symm
theorem putE_nd {L : Layer} {n : Nat} {e : Ent} (nd : (L.map (·.1)).Nodup) : ((putE L n e).map (·.1)).Nodup := by
  rw [putE_keys]
  cases c : getE L n with
  | some _ => exact nd
  | none =>
    show (L.map (·.1) ++ [n]).Nodup
    rw [List.nodup_append]
    exact ⟨nd, by simp, fun a ha b hb => by rw [List.mem_singleton.mp hb]; exact fun q => getE_none c (q ▸ ha)⟩
/-- each entry of acc comes from an entry of L by an edge -/
def From (R : Rl) (E : List (Nat × Nat × Nat)) (L acc : Layer) : Prop := (acc.map (·.1)).Nodup ∧ ∀ x e, (x, e) ∈ acc → ∃ near k e', (near, e') ∈ L ∧ (near, x, k) ∈ E ∧ e = (e'.1 + (R.worthOf k : Int), some (near, k))
theorem from_relax {R : Rl} {E : List (Nat × Nat × Nat)} {L acc : Layer} {near : Nat} {e' : Ent} {fk : Nat × Nat} (h : From R E L acc) (h1 : (near, e') ∈ L) (h2 : fk ∈ outOf E near) : From R E L (R.relax near e'.1 acc fk) := by
  have he : (near, fk.1, fk.2) ∈ E := by
    unfold outOf at h2
    rw [List.mem_map] at h2
    obtain ⟨y, hy, rfl⟩ := h2
    rw [List.mem_filter] at hy
    have : y.1 = near := by simpa using hy.2
    rw [← this]
    exact hy.1
  unfold Rl.relax
  cases c : better acc fk.1 (e'.1 + R.worthOf fk.2) with
  | false => exact h
  | true =>
    rw [if_pos rfl]
    refine ⟨putE_nd h.1, fun x e hx => ?_⟩
    rcases putE_mem hx with q | q
    · injection q with q1 q2
      subst q1
      subst q2
      exact ⟨near, fk.2, e', h1, he, rfl⟩
    · exact h.2 x e q
theorem from_fold {R : Rl} {E : List (Nat × Nat × Nat)} {L : Layer} {near : Nat} {e' : Ent} (h1 : (near, e') ∈ L) : ∀ {fs : List (Nat × Nat)} {acc : Layer}, (∀ f ∈ fs, f ∈ outOf E near) → From R E L acc → From R E L (fs.foldl (R.relax near e'.1) acc)
  | [], _, _, h => h
  | f :: fs, acc, hf, h => from_fold (fs := fs) h1 (fun g hg => hf g (List.mem_cons_of_mem _ hg)) (from_relax h h1 (hf f List.mem_cons_self))
theorem from_fold2 {R : Rl} {E : List (Nat × Nat × Nat)} {L : Layer} : ∀ {xs : Layer} {acc : Layer}, (∀ x ∈ xs, x ∈ L) → From R E L acc → From R E L (xs.foldl (fun acc x => (outOf E x.1).foldl (R.relax x.1 x.2.1) acc) acc)
  | [], _, _, h => h
  | x :: xs, acc, hx, h => from_fold2 (xs := xs) (fun y hy => hx y (List.mem_cons_of_mem _ hy)) (from_fold (near := x.1) (e' := x.2) (hx x List.mem_cons_self) (fun f hf => hf) h)
theorem next_from (R : Rl) (E : List (Nat × Nat × Nat)) (L : Layer) : From R E L (R.nextLayer E L) := from_fold2 (fun x hx => hx) ⟨List.nodup_nil, fun x e h => by cases h⟩
theorem layer_nd (R : Rl) (E : List (Nat × Nat × Nat)) : ∀ n, ((R.layerAt E n).map (·.1)).Nodup
  | 0 => by show [0].Nodup; simp
  | n + 1 => (next_from R E _).1
/-- layers n .. 1, the last one first -/
def Rl.layersB (R : Rl) (E : List (Nat × Nat × Nat)) : Nat → List Layer
  | 0 => []
  | n + 1 => R.layerAt E (n + 1) :: R.layersB E n
theorem good_snoc {R : Rl} {k : Nat} : ∀ {ks : List Nat} {t : List Nat}, R.good t ks → k ∈ R.kinds → R.fits (ks.foldl R.step t) k = true → R.good t (ks ++ [k])
  | [], t, _, hk, hf => ⟨hk, hf, trivial⟩
  | a :: ks, t, h, hk, hf => ⟨h.1, h.2.1, good_snoc h.2.2 hk hf⟩
theorem walk_ok {R : Rl} {s : TS} {t0 : List Nat} (inv : R.TInv s) (h0 : s.T[0]? = some t0) : ∀ (n x : Nat) (e : Ent), getE (R.layerAt s.E n) x = some e →
    (Rl.back (R.layersB s.E n) x).length = n ∧ R.good t0 (Rl.back (R.layersB s.E n) x).reverse ∧ s.T[x]? = some ((Rl.back (R.layersB s.E n) x).reverse.foldl R.step t0) ∧ R.worthIn (Rl.back (R.layersB s.E n) x).reverse = e.1
  | 0, x, e, h => by
    have h' : (if (0 : Nat) = x then some ((0 : Int), (none : Option (Nat × Nat))) else none) = some e := h
    by_cases c : (0 : Nat) = x
    · rw [if_pos c] at h'
      subst c
      have e1 := Option.some.inj h'
      subst e1
      exact ⟨rfl, trivial, h0, rfl⟩
    · rw [if_neg c] at h'
      cases h'
  | n + 1, x, e, h => by
    obtain ⟨near, k, e', h1, h2, h3⟩ := (next_from R s.E (R.layerAt s.E n)).2 x e (getE_mem h)
    subst h3
    obtain ⟨i1, i2, i3, i4⟩ := walk_ok inv h0 n near e' (getE_of (layer_nd R s.E n) h1)
    have eb : Rl.back (R.layersB s.E (n + 1)) x = k :: Rl.back (R.layersB s.E n) near := by
      show (match getE (R.layerAt s.E (n + 1)) x with
        | some (_, some (near, k)) => k :: Rl.back (R.layersB s.E n) near
        | _ => []) = _
      rw [h]
    rw [eb]
    obtain ⟨t, d1, d2, d3, d4⟩ := inv.ed _ h2
    rw [i3] at d1
    have et := Option.some.inj d1
    subst et
    refine ⟨by rw [List.length_cons, i1], ?_, ?_, ?_⟩
    · rw [List.reverse_cons]
      exact good_snoc i2 d2 d3
    · rw [List.reverse_cons, List.foldl_append]
      exact d4
    · rw [List.reverse_cons]
      unfold Rl.worthIn at i4 ⊢
      rw [List.map_append, List.sum_append, i4]
      simp
def Rl.topOf (L : Layer) : Int := L.foldl (fun m x => max m x.2.1) ((L.map fun x => x.2.1).headD 0)
/-- the greatest worth, and the first node that has it -/
def Rl.hereOf (L : Layer) (top : Int) : Nat := (((L.filter fun x => decide (x.2.1 = top)).map fun x => x.1).headD 0)
def Rl.bestF (R : Rl) (row : List Nat) (n : Nat) : Option Int := if R.layerAt (R.tailsF row).E n = [] then none else some (Rl.topOf (R.layerAt (R.tailsF row).E n))
def Rl.endF (R : Rl) (row : List Nat) (n : Nat) : Option (List Nat) := if R.layerAt (R.tailsF row).E n = [] then none else some (Rl.back (R.layersB (R.tailsF row).E n) (Rl.hereOf (R.layerAt (R.tailsF row).E n) (Rl.topOf (R.layerAt (R.tailsF row).E n)))).reverse
theorem foldl_maxI (L : Layer) : ∀ a : Int, a ≤ L.foldl (fun m x => max m x.2.1) a ∧ (∀ x ∈ L, x.2.1 ≤ L.foldl (fun m x => max m x.2.1) a) ∧ (L.foldl (fun m x => max m x.2.1) a = a ∨ ∃ x ∈ L, x.2.1 = L.foldl (fun m x => max m x.2.1) a) := by
  induction L with
  | nil => intro a; exact ⟨Int.le_refl _, fun x h => (by cases h), .inl rfl⟩
  | cons b l ih =>
    intro a
    obtain ⟨h1, h2, h3⟩ := ih (max a b.2.1)
    rw [List.foldl_cons]
    refine ⟨Int.le_trans (Int.le_max_left _ _) h1, fun x hx => ?_, ?_⟩
    · rw [List.mem_cons] at hx
      rcases hx with rfl | hx
      · exact Int.le_trans (Int.le_max_right _ _) h1
      · exact h2 x hx
    · rcases h3 with h3 | ⟨x, hx, e⟩
      · rw [h3]
        rcases Int.le_total a b.2.1 with h | h
        · exact .inr ⟨b, List.mem_cons_self, (Int.max_eq_right h).symm⟩
        · exact .inl (Int.max_eq_left h)
      · exact .inr ⟨x, List.mem_cons_of_mem _ hx, e⟩
theorem top_ok {L : Layer} (h : L ≠ []) : (∀ x ∈ L, x.2.1 ≤ Rl.topOf L) ∧ ∃ x ∈ L, x.2.1 = Rl.topOf L := by
  obtain ⟨h1, h2, h3⟩ := foldl_maxI L ((L.map fun x => x.2.1).headD 0)
  refine ⟨h2, ?_⟩
  rcases h3 with h3 | h3
  · cases L with
    | nil => exact absurd rfl h
    | cons a r => exact ⟨a, List.mem_cons_self, h3.symm⟩
  · exact h3
theorem here_ok {L : Layer} (nd : (L.map (·.1)).Nodup) (h : L ≠ []) : ∃ e, getE L (Rl.hereOf L (Rl.topOf L)) = some e ∧ e.1 = Rl.topOf L := by
  obtain ⟨x, hx, e⟩ := (top_ok h).2
  have hm : x ∈ L.filter fun x => decide (x.2.1 = Rl.topOf L) := List.mem_filter.mpr ⟨hx, by simp [e]⟩
  unfold Rl.hereOf
  cases c : L.filter fun x => decide (x.2.1 = Rl.topOf L) with
  | nil => rw [c] at hm; cases hm
  | cons y r =>
    have hy : y ∈ L.filter fun x => decide (x.2.1 = Rl.topOf L) := by rw [c]; exact List.mem_cons_self
    rw [List.mem_filter] at hy
    exact ⟨y.2, getE_of nd hy.1, by simpa using hy.2⟩
/-- what best and best_end answer -/
theorem Rl.Ok.best {R : Rl} (ok : R.Ok) {row : List Nat} (h : ∀ c ∈ row, c ∈ R.kinds) (n : Nat) :
    (R.bestF row n = none ∧ R.endF row n = none) ∨ ∃ b ks, R.bestF row n = some b ∧ R.endF row n = some ks ∧ ks.length = n ∧ R.good (lastN R.reach row) ks ∧ R.worthIn ks = b := by
  obtain ⟨inv, h0⟩ := ok.tails h
  unfold Rl.bestF Rl.endF
  by_cases c : R.layerAt (R.tailsF row).E n = []
  · rw [if_pos c, if_pos c]
    exact .inl ⟨rfl, rfl⟩
  · rw [if_neg c, if_neg c]
    obtain ⟨e, h1, h2⟩ := here_ok (layer_nd R (R.tailsF row).E n) c
    obtain ⟨a1, a2, a3, a4⟩ := walk_ok inv h0 n _ e h1
    exact .inr ⟨_, _, rfl, rfl, by rw [List.length_reverse]; exact a1, a2, by rw [a4, h2]⟩
end GK

/-! tails and layers in the heap -/
namespace GK
open PySem PySem.Spec PyProof.Rows L2
section
variable {M : Addr → Prop} {K : PySem.W.Frag} {H H' : Hp} {q : Addr} {o : HO}
mutual
theorem Rep.ext (g : ∀ a o, ¬ M a → H a = some o → H' a = some o) : ∀ {d : D} {v : V}, Rep M K H d v → Rep M K H' d v
  | .s _, _, h => by
    unfold Rep at h ⊢
    exact h
  | .t ds, _, h => by
    unfold Rep at h ⊢
    obtain ⟨p, xs, e, st, r⟩ := h
    exact ⟨p, xs, e, st.imp (fun h => ⟨h.1, h.2.imp (g p _ h.1) fun ⟨o, e⟩ => ⟨o, g p _ h.1 e⟩⟩) id, Reps.ext g r⟩
  | .l ds, _, h => by
    unfold Rep at h ⊢
    obtain ⟨p, xs, e, st, r⟩ := h
    exact ⟨p, xs, e, st.imp (fun h => ⟨h.1, h.2.imp (g p _ h.1) fun ⟨o, e⟩ => ⟨o, g p _ h.1 e⟩⟩) id, Reps.ext g r⟩
  | .d ks ds, _, h => by
    unfold Rep at h ⊢
    obtain ⟨p, xs, e, h, l, r⟩ := h
    exact ⟨p, xs, e, ⟨h.1, h.2.imp (g p _ h.1) fun ⟨o, e⟩ => ⟨o, g p _ h.1 e⟩⟩, l, Reps.ext g r⟩
  | .i C fs ds, _, h => by
    unfold Rep at h ⊢
    obtain ⟨p, dx, kvs, xs, e, st, l, r⟩ := h
    exact ⟨p, dx, kvs, xs, e, ⟨st.1, g p _ st.1 st.2⟩, l, Reps.ext g r⟩
theorem Reps.ext (g : ∀ a o, ¬ M a → H a = some o → H' a = some o) : ∀ {ds : List D} {xs : List V}, Reps M K H ds xs → Reps M K H' ds xs
  | [], _, h => by
    unfold Reps at h ⊢
    exact h
  | d :: ds, _, h => by
    unfold Reps at h ⊢
    obtain ⟨x, r, e, h1, h2⟩ := h
    exact ⟨x, r, e, Rep.ext g h1, Reps.ext g h2⟩
end
/-- an object laid anew: no fact of before leans on it -/
theorem Rep.laid {d : D} {v : V} (n : H q = none) (h : Rep M K H d v) : Rep (addA M q) K (upd H q o) d v := Rep.ext (M := addA M q) (fun a u _ e => by rw [upd_ne (ne_of_none e n)]; exact e) (Rep.add n h)
theorem Reps.laid {ds : List D} {xs : List V} (n : H q = none) (h : Reps M K H ds xs) : Reps (addA M q) K (upd H q o) ds xs := Reps.ext (M := addA M q) (fun a u _ e => by rw [upd_ne (ne_of_none e n)]; exact e) (Reps.add n h)
end
def keyW (t : List Nat) : Key := .inr (st t)
theorem keyW_inj {a b : List Nat} (h : keyW a = keyW b) : a = b := by
  unfold keyW at h
  injection h with h
  exact st_inj h
def numV (n : Nat) : List V := (List.range n).map fun (i : Nat) => V.int (i : Int)
theorem numV_len (n : Nat) : (numV n).length = n := by unfold numV; rw [List.length_map, List.length_range]
theorem numV_get {n i : Nat} (h : i < n) : (numV n)[i]? = some (.int (i : Int)) := by
  unfold numV
  exact get_map (List.getElem?_range h)
theorem numV_succ (n : Nat) : numV (n + 1) = numV n ++ [.int (n : Int)] := by
  unfold numV
  rw [List.range_succ, List.map_append]
  rfl
theorem tails_nd {T : List (List Nat)} (nd : T.Nodup) : (T.map keyW).Nodup := by
  unfold List.Nodup
  rw [List.pairwise_map]
  exact List.Pairwise.imp (fun ne e => ne (keyW_inj e)) nd
theorem val_in {T : List (List Nat)} {t : List Nat} (nd : T.Nodup) (h : t ∈ T) : valV ((T.map keyW).zip (numV T.length)) (keyW t) = some (.int (T.idxOf t : Int)) := by
  have hlt := List.idxOf_lt_length_of_mem h
  refine zip_get (tails_nd nd) (get_map ?_) (numV_get hlt)
  rw [List.getElem?_eq_getElem hlt, List.getElem_idxOf hlt]
theorem val_out {T : List (List Nat)} {t : List Nat} (h : t ∉ T) : valV ((T.map keyW).zip (numV T.length)) (keyW t) = none := by
  refine valV_none_of ?_
  rw [List.map_fst_zip (by rw [List.length_map, numV_len]; exact Nat.le_refl _), List.mem_map]
  rintro ⟨u, hu, e⟩
  exact h (keyW_inj e ▸ hu)
def edgeD (e : Nat × Nat × Nat) : D := .t [dI (e.1 : Int), dI (e.2.1 : Int), Rl.bsign e.2.2]
theorem edge_noL (E : List (Nat × Nat × Nat)) : noLs (E.map edgeD) = true := noLs_all fun d hd => by
  rw [List.mem_map] at hd
  obtain ⟨e, _, rfl⟩ := hd
  rfl
def tailsD (A : Ad) (s : TS) : D := .i A.Tails ["tails", "edges", "many"] [.l (s.T.map fun w => dS (st w)), .l (s.E.map edgeD), dI (s.T.length : Int)]
structure TailsT (A : Ad) : Prop where
  cl_Tails : Cls A.K A.Tails
  tails : NoAttr A.K A.Tails "tails"
  edges : NoAttr A.K A.Tails "edges"
  many : NoAttr A.K A.Tails "many"
theorem ev_edges {A : Ad} {s : TS} {m : Md} {σ : L2.St} {H : Hp} {ta : TE} (T : TailsT A) (h : EvD m A.K ta σ H (tailsD A s)) : EvD m A.K (tFld A.K ta "edges") σ H (.l (s.E.map edgeD)) := ev_fld (j := 1) h rfl rfl T.cl_Tails T.edges
theorem ev_many {A : Ad} {s : TS} {m : Md} {σ : L2.St} {H : Hp} {ta : TE} (T : TailsT A) (h : EvD m A.K ta σ H (tailsD A s)) : EvD m A.K (tFld A.K ta "many") σ H (dI (s.T.length : Int)) := ev_fld (j := 2) h rfl rfl T.cl_Tails T.many
/-- the three that change while the tails are found -/
def Md.three (M : Addr → Prop) (a b c : Addr) : Md := ⟨fun x => x = a ∨ x = b ∨ x = c, addA (addA (addA M a) b) c, fun x h => by
  rcases h with h | h | h
  · exact .inl (.inl (.inr h))
  · exact .inl (.inr h)
  · exact .inr h, fun _ => False⟩
structure TState (M : Addr → Prop) (K : PySem.W.Frag) (H : Hp) (a b c : Addr) (s : TS) : Prop where
  lt : H a = some (.lst (s.T.map fun w => V.str (st w)))
  le : ∃ xs, H b = some (.lst xs) ∧ Reps (Md.three M a b c).M K H (s.E.map edgeD) xs
  nd : H c = some (.dK ((s.T.map keyW).zip (numV s.T.length)))
theorem TState.mono {M : Addr → Prop} {K : PySem.W.Frag} {H H' : Hp} {a b c : Addr} {s : TS} (g : ∀ a o, H a = some o → H' a = some o) (h : TState M K H a b c s) : TState M K H' a b c s := by
  obtain ⟨xs, h1, h2⟩ := h.le
  exact ⟨g _ _ h.lt, ⟨xs, g _ _ h1, Reps.ext (fun a o _ e => g a o e) h2⟩, g _ _ h.nd⟩
end GK

/-! layers in the heap -/
namespace GK
open PySem PySem.Spec PyProof.Rows L2
section
variable {M N : Addr → Prop} {K : PySem.W.Frag} {H H' : Hp} {q : Addr} {o : HO}
mutual
/-- facts stand where everything reads the same -/
theorem Rep.extR (g : ∀ a u, ¬ M a → Rd H a u → Rd H' a u) (gi : ∀ a C dx fs, ¬ M a → H a = some (.ins C dx fs) → H' a = some (.ins C dx fs)) : ∀ {d : D} {v : V}, Rep M K H d v → Rep M K H' d v
  | .s _, _, h => by
    unfold Rep at h ⊢
    exact h
  | .t ds, _, h => by
    unfold Rep at h ⊢
    obtain ⟨p, xs, e, st, r⟩ := h
    exact ⟨p, xs, e, st.imp (fun h => ⟨h.1, g p _ h.1 h.2⟩) id, Reps.extR g gi r⟩
  | .l ds, _, h => by
    unfold Rep at h ⊢
    obtain ⟨p, xs, e, st, r⟩ := h
    exact ⟨p, xs, e, st.imp (fun h => ⟨h.1, g p _ h.1 h.2⟩) id, Reps.extR g gi r⟩
  | .d ks ds, _, h => by
    unfold Rep at h ⊢
    obtain ⟨p, xs, e, h, l, r⟩ := h
    exact ⟨p, xs, e, ⟨h.1, g p _ h.1 h.2⟩, l, Reps.extR g gi r⟩
  | .i C fs ds, _, h => by
    unfold Rep at h ⊢
    obtain ⟨p, dx, kvs, xs, e, st, l, r⟩ := h
    exact ⟨p, dx, kvs, xs, e, ⟨st.1, gi p _ _ _ st.1 st.2⟩, l, Reps.extR g gi r⟩
theorem Reps.extR (g : ∀ a u, ¬ M a → Rd H a u → Rd H' a u) (gi : ∀ a C dx fs, ¬ M a → H a = some (.ins C dx fs) → H' a = some (.ins C dx fs)) : ∀ {ds : List D} {xs : List V}, Reps M K H ds xs → Reps M K H' ds xs
  | [], _, h => by
    unfold Reps at h ⊢
    exact h
  | d :: ds, _, h => by
    unfold Reps at h ⊢
    obtain ⟨x, r, e, h1, h2⟩ := h
    exact ⟨x, r, e, Rep.extR g gi h1, Reps.extR g gi h2⟩
end
theorem rd_lock {p a : Addr} {od : Obj} {kvs : List (Key × V)} {u : HO} (hp : H p = some (.dK kvs)) (h : Rd H a u) : Rd (upd H p (.frz od (.dK kvs))) a u := by
  by_cases e : a = p
  · subst e
    rcases h with h | ⟨o', h⟩
    · rw [hp] at h
      cases h
      exact .inr ⟨od, upd_same⟩
    · rw [hp] at h
      cases h
  · rcases h with h | ⟨o', h⟩
    · exact .inl (by rw [upd_ne e]; exact h)
    · exact .inr ⟨o', by rw [upd_ne e]; exact h⟩
theorem rd_unlock {p a : Addr} {od : Obj} {kvs : List (Key × V)} {u : HO} (hp : H p = some (.frz od (.dK kvs))) (h : Rd H a u) (hu : ∀ o u', u ≠ .frz o u') : Rd (upd H p (.dK kvs)) a u := by
  by_cases e : a = p
  · subst e
    rcases h with h | ⟨o', h⟩
    · rw [hp] at h
      cases h
      exact absurd rfl (hu _ _)
    · rw [hp] at h
      cases h
      exact .inl upd_same
  · rcases h with h | ⟨o', h⟩
    · exact .inl (by rw [upd_ne e]; exact h)
    · exact .inr ⟨o', by rw [upd_ne e]; exact h⟩
mutual
theorem Rep.unlock {p : Addr} {od : Obj} {kvs : List (Key × V)} (hp : H p = some (.frz od (.dK kvs))) : ∀ {d : D} {v : V}, Rep M K H d v → Rep M K (upd H p (.dK kvs)) d v
  | .s _, _, h => by
    unfold Rep at h ⊢
    exact h
  | .t ds, _, h => by
    unfold Rep at h ⊢
    obtain ⟨p, xs, e, st, r⟩ := h
    exact ⟨p, xs, e, st.imp (fun h => ⟨h.1, rd_unlock hp h.2 (fun _ _ k => by cases k)⟩) id, Reps.unlock hp r⟩
  | .l ds, _, h => by
    unfold Rep at h ⊢
    obtain ⟨p, xs, e, st, r⟩ := h
    exact ⟨p, xs, e, st.imp (fun h => ⟨h.1, rd_unlock hp h.2 (fun _ _ k => by cases k)⟩) id, Reps.unlock hp r⟩
  | .d ks ds, _, h => by
    unfold Rep at h ⊢
    obtain ⟨p, xs, e, h, l, r⟩ := h
    exact ⟨p, xs, e, ⟨h.1, rd_unlock hp h.2 (fun _ _ k => by cases k)⟩, l, Reps.unlock hp r⟩
  | .i C fs ds, _, h => by
    unfold Rep at h ⊢
    obtain ⟨p', dx, kvs', xs, e, st, l, r⟩ := h
    refine ⟨p', dx, kvs', xs, e, ⟨st.1, ?_⟩, l, Reps.unlock hp r⟩
    rw [upd_ne (fun k => by subst k; have := st.2; rw [hp] at this; cases this)]
    exact st.2
theorem Reps.unlock {p : Addr} {od : Obj} {kvs : List (Key × V)} (hp : H p = some (.frz od (.dK kvs))) : ∀ {ds : List D} {xs : List V}, Reps M K H ds xs → Reps M K (upd H p (.dK kvs)) ds xs
  | [], _, h => by
    unfold Reps at h ⊢
    exact h
  | d :: ds, _, h => by
    unfold Reps at h ⊢
    obtain ⟨x, r, e, h1, h2⟩ := h
    exact ⟨x, r, e, Rep.unlock hp h1, Reps.unlock hp h2⟩
end
theorem Rep.lock {p : Addr} {od : Obj} {kvs : List (Key × V)} {d : D} {v : V} (hp : H p = some (.dK kvs)) (r : Rep M K H d v) : Rep M K (upd H p (.frz od (.dK kvs))) d v :=
  Rep.extR (fun a u _ h => rd_lock hp h) (fun a C dx fs _ h => by rw [upd_ne (fun k => by subst k; rw [hp] at h; cases h)]; exact h) r
theorem Reps.lock {p : Addr} {od : Obj} {kvs : List (Key × V)} {ds : List D} {xs : List V} (hp : H p = some (.dK kvs)) (r : Reps M K H ds xs) : Reps M K (upd H p (.frz od (.dK kvs))) ds xs :=
  Reps.extR (fun a u _ h => rd_lock hp h) (fun a C dx fs _ h => by rw [upd_ne (fun k => by subst k; rw [hp] at h; cases h)]; exact h) r
mutual
/-- objects of N were not there -/
theorem Rep.addF (n : ∀ a, N a → H a = none) : ∀ {d : D} {v : V}, Rep M K H d v → Rep (addN M N) K H d v
  | .s _, _, h => by
    unfold Rep at h ⊢
    exact h
  | .t ds, _, h => by
    unfold Rep at h ⊢
    obtain ⟨p, xs, e, st, r⟩ := h
    exact ⟨p, xs, e, st.imp (fun h => ⟨fun z => z.elim h.1 fun z => by rcases h.2 with k | ⟨o, k⟩ <;> (rw [n _ z] at k; cases k), h.2⟩) id, Reps.addF n r⟩
  | .l ds, _, h => by
    unfold Rep at h ⊢
    obtain ⟨p, xs, e, st, r⟩ := h
    exact ⟨p, xs, e, st.imp (fun h => ⟨fun z => z.elim h.1 fun z => by rcases h.2 with k | ⟨o, k⟩ <;> (rw [n _ z] at k; cases k), h.2⟩) id, Reps.addF n r⟩
  | .d ks ds, _, h => by
    unfold Rep at h ⊢
    obtain ⟨p, xs, e, h, l, r⟩ := h
    exact ⟨p, xs, e, ⟨fun z => z.elim h.1 fun z => by rcases h.2 with k | ⟨o, k⟩ <;> (rw [n _ z] at k; cases k), h.2⟩, l, Reps.addF n r⟩
  | .i C fs ds, _, h => by
    unfold Rep at h ⊢
    obtain ⟨p, dx, kvs, xs, e, st, l, r⟩ := h
    exact ⟨p, dx, kvs, xs, e, ⟨fun z => z.elim st.1 fun z => absurd (show (none : Option HO) = _ from (n _ z).symm.trans st.2) (by intro k; cases k), st.2⟩, l, Reps.addF n r⟩
theorem Reps.addF (n : ∀ a, N a → H a = none) : ∀ {ds : List D} {xs : List V}, Reps M K H ds xs → Reps (addN M N) K H ds xs
  | [], _, h => by
    unfold Reps at h ⊢
    exact h
  | d :: ds, _, h => by
    unfold Reps at h ⊢
    obtain ⟨x, r, e, h1, h2⟩ := h
    exact ⟨x, r, e, Rep.addF n h1, Reps.addF n h2⟩
end
end
/-! a layer as a dict -/
def keyN (n : Nat) : Key := .inl (n : Int)
theorem keyN_inj {a b : Nat} (h : keyN a = keyN b) : a = b := by
  unfold keyN at h
  injection h with h
  omega
def entD : Ent → D
  | (w, none) => .t [dI w, dN, dN]
  | (w, some (near, k)) => .t [dI w, dI (near : Int), Rl.bsign k]
theorem ent_noL (e : Ent) : noL (entD e) = true := by
  obtain ⟨w, o⟩ := e
  cases o with
  | none => rfl
  | some p => rfl
def entT : Ent → List D
  | (w, none) => [dI w, dN, dN]
  | (w, some (near, k)) => [dI w, dI (near : Int), Rl.bsign k]
theorem entD_t (e : Ent) : entD e = .t (entT e) := by
  obtain ⟨w, o⟩ := e
  cases o with
  | none => rfl
  | some p => rfl
theorem entT_0 (e : Ent) : (entT e)[0]? = some (dI e.1) := by
  obtain ⟨w, o⟩ := e
  cases o with
  | none => rfl
  | some p => rfl
def layD (L : Layer) : D := .d (L.map fun x => keyN x.1) (L.map fun x => entD x.2)
theorem layer_keys {L : Layer} (nd : (L.map (·.1)).Nodup) : (L.map fun x => keyN x.1).Nodup := by
  have e : (L.map fun x => keyN x.1) = (L.map (·.1)).map keyN := by rw [List.map_map]; rfl
  rw [e]
  unfold List.Nodup
  rw [List.pairwise_map]
  exact List.Pairwise.imp (fun ne e => ne (keyN_inj e)) nd
section
variable {m : Md} {K : PySem.W.Frag} {H H' : Hp}
def LR (m : Md) (K : PySem.W.Frag) (H : Hp) (L : Layer) (kvs : List (Key × V)) : Prop := kvs.map (·.1) = (L.map fun x => keyN x.1) ∧ Reps m.M K H (L.map fun x => entD x.2) (kvs.map (·.2))
theorem LR.nil : LR m K H [] [] := ⟨rfl, Reps.nil⟩
theorem LR.len {L : Layer} {kvs : List (Key × V)} (h : LR m K H L kvs) : kvs.length = L.length := by
  have := congrArg List.length h.1
  rw [List.length_map, List.length_map] at this
  exact this
theorem LR.uncons {x : Nat × Ent} {L : Layer} {kvs : List (Key × V)} (h : LR m K H (x :: L) kvs) : ∃ v r, kvs = (keyN x.1, v) :: r ∧ Rep m.M K H (entD x.2) v ∧ LR m K H L r := by
  obtain ⟨h1, h2⟩ := h
  cases kvs with
  | nil => simp at h1
  | cons kv r =>
    obtain ⟨k, v⟩ := kv
    rw [List.map_cons, List.map_cons] at h1
    injection h1 with e1 e2
    have e1' : k = keyN x.1 := e1
    subst e1'
    rw [List.map_cons, List.map_cons] at h2
    obtain ⟨y, r', e3, r1, r2⟩ := reps_cons.mp h2
    injection e3 with e3 e4
    have e3' : v = y := e3
    subst e3'
    subst e4
    exact ⟨v, r, rfl, r1, e2, r2⟩
theorem LR.get_none {n : Nat} : ∀ {L : Layer} {kvs : List (Key × V)}, LR m K H L kvs → getE L n = none → valV kvs (keyN n) = none
  | [], kvs, h, _ => by
    have := h.len
    rw [List.length_eq_zero_iff.mp this]
    rfl
  | x :: L, kvs, h, e => by
    obtain ⟨v, r, rfl, _, h2⟩ := h.uncons
    unfold getE at e
    by_cases c : x.1 = n
    · rw [if_pos c] at e; cases e
    · rw [if_neg c] at e
      rw [valV_neg (fun k => c (keyN_inj k))]
      exact h2.get_none e
theorem LR.get_some {n : Nat} {en : Ent} : ∀ {L : Layer} {kvs : List (Key × V)}, LR m K H L kvs → getE L n = some en → ∃ v, valV kvs (keyN n) = some v ∧ Rep m.M K H (entD en) v
  | [], kvs, h, e => by cases e
  | x :: L, kvs, h, e => by
    obtain ⟨v, r, rfl, r1, h2⟩ := h.uncons
    unfold getE at e
    by_cases c : x.1 = n
    · rw [if_pos c] at e
      have e1 := Option.some.inj e
      subst e1
      exact ⟨v, valV_pos (by rw [c]), r1⟩
    · rw [if_neg c] at e
      obtain ⟨w, h3, h4⟩ := h2.get_some e
      exact ⟨w, by rw [valV_neg (fun k => c (keyN_inj k))]; exact h3, h4⟩
theorem LR.snoc {n : Nat} {en : Ent} {v : V} {L : Layer} {kvs : List (Key × V)} (h : LR m K H L kvs) (r : Rep m.M K H (entD en) v) : LR m K H (L ++ [(n, en)]) (kvs ++ [(keyN n, v)]) := ⟨by rw [List.map_append, List.map_append, h.1]; rfl, by rw [List.map_append, List.map_append]; exact Reps.snoc h.2 r⟩
theorem LR.cons {n : Nat} {en : Ent} {v : V} {L : Layer} {kvs : List (Key × V)} (h : LR m K H L kvs) (r : Rep m.M K H (entD en) v) : LR m K H ((n, en) :: L) ((keyN n, v) :: kvs) := ⟨by rw [List.map_cons, List.map_cons, h.1], by rw [List.map_cons, List.map_cons]; exact Reps.cons r h.2⟩
theorem LR.repl {n : Nat} {en : Ent} {v : V} (r : Rep m.M K H (entD en) v) : ∀ {L : Layer} {kvs : List (Key × V)}, LR m K H L kvs → LR m K H (L.map fun x => if x.1 = n then (x.1, en) else x) (kvs.map fun kv => if kv.1 = keyN n then (kv.1, v) else kv)
  | [], kvs, h => by
    have := h.len
    rw [List.length_eq_zero_iff.mp this]
    exact LR.nil
  | x :: L, kvs, h => by
    obtain ⟨v0, r0, rfl, r1, h2⟩ := h.uncons
    rw [List.map_cons, List.map_cons]
    by_cases c : x.1 = n
    · rw [if_pos c, if_pos (by show keyN x.1 = keyN n; rw [c])]
      exact (LR.repl r h2).cons r
    · rw [if_neg c, if_neg (fun k => c (keyN_inj k))]
      exact (LR.repl r h2).cons r1
theorem LR.put {n : Nat} {en : Ent} {v : V} {L : Layer} {kvs : List (Key × V)} (h : LR m K H L kvs) (r : Rep m.M K H (entD en) v) : LR m K H (putE L n en) (putK kvs (keyN n) v) := by
  unfold putE
  cases c : getE L n with
  | none =>
    rw [putK_new _ (h.get_none c)]
    exact h.snoc r
  | some e =>
    obtain ⟨w, h3, _⟩ := h.get_some c
    unfold putK
    rw [valV_any, h3]
    exact LR.repl r h
theorem LR.mono {L : Layer} {kvs : List (Key × V)} (g : G m H H') (h : LR m K H L kvs) : LR m K H' L kvs := ⟨h.1, Reps.mono g h.2⟩
end
end GK

namespace GK
open PySem PySem.Spec PyProof.Rows L2
section
variable {m : Md} {K : PySem.W.Frag} {σ : L2.St} {H H' : Hp} {ta tb te to : TE} {d : D} {v : V} {q : Addr} {D0 : Ends} {tu : L2.TS} {P : V → Hp → Prop}
theorem ev_ixDD {kvs : List (Key × V)} {k : Key} (h : EvD m K ta σ H (.s (.ref q))) (hb : EvD m K tb σ H (.s (kV k))) (hq : H q = some (.dK kvs)) (nq : ¬ m.N q) (hv : valV kvs k = some v) (r : Rep m.M K H d v) : EvD m K (tOp (rIxU K) ta tb) σ H d := fun H1 g Q k' =>
  ev_ixDR h hb hq nq hv H1 g Q fun w H2 g2 rw' => k' w H2 g2 (by rw [rep_s.mp rw']; exact r.mono (g.trans g2))
/-- for a, b in d.items(), d locked -/
theorem s_forItems {i j : Nat} {kvs : List (Key × V)} {o : Obj} (dm : Dm m H) (h : EvD m K te σ H (.s (.ref q))) (hd : H q = some (.frz o (.dK kvs))) (nq : ¬ m.N q)
    (k : ∀ H1, G m H H1 → ∃ Pv : Nat → L2.St → Hp → Prop, Pv 0 σ H1 ∧ (∀ n σ' H', Pv n σ' H' → H' q = some (.frz o (.dK kvs))) ∧
      (∀ n key val σ' H' t, kvs[n]? = some (key, val) → Pv n σ' H' → H' t = none → tu { D0 with nx := Pv (n + 1), ct := Pv (n + 1), bk := D0.nx } ((σ'.set i (some (kV key))).set j (some val)) (upd H' t (.tup [kV key, val]))) ∧ (∀ σ' H', Pv kvs.length σ' H' → D0.nx σ' H')) :
    tFor (iItems te) (gTup K 2 (gCons (gName i) (gCons (gName j) gNil))) tu D0 σ H := h.run dm fun v H1 g1 r => by
  rw [rep_s.mp r]
  obtain ⟨Pv, h0, hf, hs, hn⟩ := k H1 g1
  refine ⟨q, o, kvs, rfl, g1.st q _ nq hd, fun n mm σ' H' => mm = kvs.length - n ∧ n ≤ kvs.length ∧ Pv n σ' H', ⟨kvs.length, rfl, Nat.zero_le _, h0⟩, ?_⟩
  rintro n mm σ' H' ⟨rfl, hle, pv⟩
  by_cases hlt : n < kvs.length
  · refine .inr ⟨⟨hf n σ' H' pv, hlt⟩, Pv (n + 1), fun σ2 H2 p2 => ⟨kvs.length - (n + 1), by omega, rfl, hlt, p2⟩, fun x H2 y => ?_⟩
    obtain ⟨t, key, val, e1, rfl, e2, rfl⟩ := y
    exact ⟨t, [kV key, val], rfl, SqT.of upd_same, rfl, kV key, _, rfl, val, _, rfl, rfl, hs n key val σ' H' t e1 pv e2⟩
  · have e : n = kvs.length := by omega
    subst e
    exact .inl ⟨⟨hf _ σ' H' pv, Nat.le_refl _⟩, hn σ' H' pv⟩
/-- [[] for x in range(n)]: new lists -/
theorem ev_lcLists {ta : TA} {i n : Nat} (hi : i < σ.length) (hm : ∀ p, ¬ m.M p → ¬ m.N p) (h : EvA m K ta σ H [dI (n : Int)]) (hz : n ≤ 100000) :
    EvP m (tLc (iRng1 ta) (gName i) tYes (tLst tNil) [i]) σ H fun v H2 => ∃ (lo : Addr) (ls : List Addr), v = .ref lo ∧ H lo = none ∧ ls.Nodup ∧ ls.length = n ∧ (∀ l ∈ ls, l ≠ lo ∧ H l = none ∧ H2 l = some (.lst [])) ∧ H2 lo = some (.lst (ls.map V.ref)) := fun H0 g0 Q k =>
  h H0 g0 _ fun us H1 g1 rs => by
    obtain ⟨x, rfl, r1⟩ := reps1 rs
    rw [rep_s.mp r1]
    refine ⟨(n : Int), rfl, by omega, by omega, fun D hD => ?_⟩
    have nD : ¬ m.N D := hm D (g1.out hD)
    refine lc_range (lo := 0) (n := n) (fun a H' => G m H1 H' ∧ ∃ ls : List Addr, ls.Nodup ∧ ls.length = a ∧ (∀ l ∈ ls, l ≠ D ∧ H1 l = none ∧ H' l = some (.lst [])) ∧ H' D = some (.lst (ls.map V.ref))) ⟨g1.r1.mut hD, [], List.nodup_nil, rfl, fun l hl => (by cases hl), upd_same⟩ (fun a H' ha pv => ?_) (fun H' pv => ?_)
    · obtain ⟨gg, ls, h1, h2, h3, h4⟩ := pv
      have ew : wipe ((wipe σ [i]).set i (some (.int ((0 : Int) + (a : Int))))) [i] = wipe σ [i] := by
        show (((σ.set i none).set i _).set i none) = σ.set i none
        rw [List.set_set, List.set_set]
      refine ⟨ew, ?_⟩
      unfold tYes
      simp only []
      rw [if_pos trivial]
      refine ⟨by decide, fun l hl => ?_⟩
      have lD : l ≠ D := fun e => by rw [e, h4] at hl; cases hl
      have lnew : ∀ l' ∈ ls, l' ≠ l := fun l' hl' e => by
        have := (h3 l' hl').2.2
        rw [e, hl] at this
        cases this
      refine ⟨ls.map V.ref, by rw [upd_ne (Ne.symm lD)]; exact h4, by rw [List.length_map, h2]; exact Nat.lt_of_le_of_lt (by omega : a ≤ 100000) (by decide), (gg.mut (gg.free hl)).mut hD, ls ++ [l], ?_, by rw [List.length_append, h2]; rfl, fun l' hl' => ?_, ?_⟩
      · rw [List.nodup_append]
        exact ⟨h1, by simp, fun a ha b hb => by rw [List.mem_singleton.mp hb]; exact lnew a ha⟩
      · rw [List.mem_append, List.mem_singleton] at hl'
        rcases hl' with hl' | rfl
        · refine ⟨(h3 l' hl').1, (h3 l' hl').2.1, ?_⟩
          rw [upd_ne (h3 l' hl').1, upd_ne (lnew l' hl')]
          exact (h3 l' hl').2.2
        · exact ⟨lD, gg.free hl, by rw [upd_ne lD, upd_same]⟩
      · rw [upd_same, List.map_append]
        rfl
    · obtain ⟨gg, ls, h1, h2, h3, h4⟩ := pv
      exact k _ _ (g1.trans gg) ⟨D, ls, rfl, (g0.trans g1).free hD, h1, h2, fun l hl => ⟨(h3 l hl).1, (g0.trans g1).free (h3 l hl).2.1, (h3 l hl).2.2⟩, h4⟩
end
/-- the list of what an edge leads to -/
def outD (fk : Nat × Nat) : D := .t [dI (fk.1 : Int), Rl.bsign fk.2]
theorem out_noL (l : List (Nat × Nat)) : noLs (l.map outD) = true := noLs_all fun d hd => by
  rw [List.mem_map] at hd
  obtain ⟨e, _, rfl⟩ := hd
  rfl
def outsD (E : List (Nat × Nat × Nat)) (n : Nat) : D := .l ((List.range n).map fun j => .l ((outOf E j).map outD))
theorem outOf_take (E : List (Nat × Nat × Nat)) (n j : Nat) (e : Nat × Nat × Nat) (h : E[n]? = some e) : outOf (E.take (n + 1)) j = outOf (E.take n) j ++ (if e.1 = j then [e.2] else []) := by
  unfold outOf
  rw [List.take_add_one, h, List.filter_append, List.map_append]
  congr 1
  by_cases c : e.1 = j
  · simp [c]
  · simp [c]
theorem outOf_len (E : List (Nat × Nat × Nat)) (j : Nat) : (outOf E j).length ≤ E.length := by
  unfold outOf
  rw [List.length_map]
  exact List.length_filter_le _ _
section
variable {m : Md} {K : PySem.W.Frag} {H H' : Hp}
theorem LR.of_rep {L : Layer} {d : Addr} {kvs : List (Key × V)} (r : Rep m.M K H (layD L) (.ref d)) (h : H d = some (.dK kvs)) : LR m K H L kvs := by
  unfold layD at r
  obtain ⟨p, xs, e, st, hl, rs⟩ := rep_d.mp r
  injection e with e
  subst e
  rw [List.length_map, List.length_map] at hl
  have hx := rs.len
  rw [List.length_map] at hx
  rcases st.2 with k | ⟨o, k⟩
  · rw [h] at k
    cases k
    refine ⟨List.map_fst_zip (by rw [List.length_map]; omega), ?_⟩
    rw [List.map_snd_zip (by rw [List.length_map]; omega)]
    exact rs
  · rw [h] at k
    cases k
theorem zip_fs (kvs : List (Key × V)) : (kvs.map (·.1)).zip (kvs.map (·.2)) = kvs := by
  induction kvs with
  | nil => rfl
  | cons a r ih => rw [List.map_cons, List.map_cons, List.zip_cons_cons, ih]
theorem LR.to_rep {L : Layer} {d : Addr} {kvs : List (Key × V)} (h : LR m K H L kvs) (hd : H d = some (.dK kvs)) (nM : ¬ m.M d) : Rep m.M K H (layD L) (.ref d) := by
  unfold layD
  refine rep_d.mpr ⟨d, kvs.map (·.2), rfl, StD.of ?_ nM, by rw [List.length_map, List.length_map], h.2⟩
  rw [hd, ← h.1, zip_fs]
theorem LR.get {L : Layer} {kvs : List (Key × V)} {n : Nat} {key : Key} {val : V} (h : LR m K H L kvs) (e : kvs[n]? = some (key, val)) : ∃ x, L[n]? = some x ∧ key = keyN x.1 ∧ Rep m.M K H (entD x.2) val := by
  have e1 : (kvs.map (·.1))[n]? = some key := get_map (f := (·.1)) e
  have e2 : (kvs.map (·.2))[n]? = some val := get_map (f := (·.2)) e
  rw [h.1] at e1
  obtain ⟨x, hx, ek⟩ := map_get e1
  obtain ⟨d, hd, r⟩ := h.2.get' e2
  obtain ⟨x', hx', ed⟩ := map_get hd
  rw [hx] at hx'
  cases hx'
  subst ed
  exact ⟨x, hx, ek, r⟩
end
theorem Rl.run_E {R : Rl} (ok : R.Ok) : ∀ (n i : Nat) (s : TS), (R.run n i s).E.length ≤ s.E.length + 4 * n
  | 0, i, s => Nat.le_refl _
  | n + 1, i, s => by
    show (if i < s.T.length then R.run n (i + 1) (R.turn i s) else s).E.length ≤ _
    by_cases c : i < s.T.length
    · rw [if_pos c]
      have h1 := Rl.run_E ok n (i + 1) (R.turn i s)
      have h2 : (R.turn i s).E.length ≤ s.E.length + 4 := by
        unfold Rl.turn
        rw [addE_len]
        have := Rl.next_len (R := R) (t := s.T.getD i [])
        have := ok.l4
        omega
      omega
    · rw [if_neg c]
      omega
theorem Rl.Ok.lenE {R : Rl} (ok : R.Ok) (row : List Nat) : (R.tailsF row).E.length ≤ 12000 := by
  have := Rl.run_E ok 3000 0 ⟨[lastN R.reach row], []⟩
  simpa [Rl.tailsF] using this
theorem From.small {R : Rl} {s : TS} {L acc : Layer} (inv : R.TInv s) (h : From R s.E L acc) : acc.length ≤ s.T.length := by
  have hs : acc.map (·.1) ⊆ List.range s.T.length := fun x hx => by
    rw [List.mem_map] at hx
    obtain ⟨y, hy, rfl⟩ := hx
    obtain ⟨near, k, e', _, he, _⟩ := h.2 y.1 y.2 hy
    obtain ⟨t, _, _, _, h4⟩ := inv.ed _ he
    exact List.mem_range.mpr (List.getElem?_eq_some_iff.mp h4).1
  have := List.Nodup.length_le_of_subset h.1 hs
  rw [List.length_map, List.length_range] at this
  exact this
theorem outOf_mem {E : List (Nat × Nat × Nat)} {j : Nat} {fk : Nat × Nat} (h : fk ∈ outOf E j) : (j, fk.1, fk.2) ∈ E := by
  unfold outOf at h
  rw [List.mem_map] at h
  obtain ⟨y, hy, rfl⟩ := h
  rw [List.mem_filter] at hy
  have : y.1 = j := by simpa using hy.2
  rw [← this]
  exact hy.1
theorem s_parR {i j : Nat} {t1 t2 : TE} {D0 : Ends} {σ : L2.St} {H : Hp} (h : t1 σ H fun v H1 => t2 σ H1 fun w H2 => ∃ v' w', [v, w] = [v', w'] ∧ D0.nx ((σ.set i (some v')).set j (some w')) H2) : tPar i j (tCons t1 (tCons t2 tNil)) D0 σ H := h
end GK

/-! over a locked dict; backwards; truth -/
namespace GK
open PySem PySem.Spec PyProof.Rows L2
section
variable {m : Md} {K : PySem.W.Frag} {σ : L2.St} {H H' : Hp} {ta tb te to : TE} {d : D} {ds : List D} {v : V} {q : Addr} {P P' : V → Hp → Prop} {tt : TT}
/-- [told[0] for told in d.values()], d locked: i the name -/
theorem ev_lcTops {i : Nat} {L : Layer} {kvs : List (Key × V)} {o : Obj} (hi : i < σ.length) (hm : ∀ p, ¬ m.M p → ¬ m.N p) (h : EvD m K te σ H (.s (.ref q))) (hd : H q = some (.frz o (.dK kvs))) (nq : ¬ m.N q) (lr : LR m K H L kvs) (hz : L.length ≤ 100000) :
    EvL m K (tLc (iVals te) (gName i) tYes (tOp (rIxU K) (tVar i) (tC (.int 0))) [i]) σ H (L.map fun x => dI x.2.1) := fun H0 g0 Q k => h H0 g0 _ fun v H1 g1 r => by
  rw [rep_s.mp r]
  refine ⟨q, o, kvs, rfl, (g0.trans g1).st q _ nq hd, fun D hD => ⟨fun n mm H' => mm = kvs.length - n ∧ n ≤ kvs.length ∧ G m H1 H' ∧ H' D = some (.lst ((L.take n).map fun x => V.int x.2.1)), ⟨kvs.length, rfl, Nat.zero_le _, g1.r1.mut hD, upd_same⟩, ?_⟩⟩
  have nD : ¬ m.N D := hm D (g1.out hD)
  have hlen := lr.len
  rintro n mm H2 ⟨rfl, hn, gg, hD2⟩
  have hq2 : H2 q = some (.frz o (.dK kvs)) := ((g0.trans g1).trans gg).st q _ nq hd
  by_cases hlt : n < kvs.length
  · refine .inr ⟨⟨hq2, hlt⟩, fun H' => n + 1 ≤ kvs.length ∧ G m H1 H' ∧ H' D = some (.lst ((L.take (n + 1)).map fun x => V.int x.2.1)), fun H3 p3 => ⟨kvs.length - (n + 1), by omega, rfl, p3.1, p3.2⟩, fun x H3 y => ?_⟩
    obtain ⟨e1, key, hk⟩ := y
    subst e1
    obtain ⟨xx, hx, ek, rv⟩ := lr.get hk
    have rv3 := rv.mono ((g0.trans g1).trans gg)
    rw [entD_t] at rv3
    have ew : wipe ((wipe σ [i]).set i (some x)) [i] = wipe σ [i] := by
      show (((σ.set i none).set i _).set i none) = σ.set i none
      rw [List.set_set, List.set_set]
    refine ⟨ew, ?_⟩
    unfold tYes
    simp only []
    rw [if_pos trivial]
    have e5 : EvD m K (tOp (rIxU K) (tVar i) (tC (.int 0))) ((wipe σ [i]).set i (some x)) H3 (dI xx.2.1) := ev_op (ev_var (by show ((σ.set i none).set i (some x))[i]? = _; rw [List.set_set]; simp [hi]) rv3) ev_c (opd_ixT (atI_nat (j := 0) rfl (entT_0 _)))
    refine e5.run gg.dm fun z H4 g4 rz => ?_
    rw [rep_s.mp rz]
    have hD4 := g4.st D _ nD hD2
    refine ⟨_, hD4, ?_, hlt, (gg.trans g4).mut hD, ?_⟩
    · rw [List.length_map, List.length_take]
      exact Nat.lt_of_le_of_lt (by omega : _ ≤ 100000) (by decide)
    · rw [upd_same, List.take_add_one, hx, List.map_append]
      rfl
  · have e : n = kvs.length := by omega
    subst e
    rw [hlen, List.take_length] at hD2
    refine .inl ⟨⟨hq2, Nat.le_refl _⟩, k _ _ (g1.trans gg) ⟨D, _, rfl, (g0.trans g1).free hD, g1.out hD, hD2, ?_⟩⟩
    have e2 : (L.map fun x => dI x.2.1) = (L.map fun x => x.2.1).map dI := by rw [List.map_map]; rfl
    rw [e2, reps_int, List.map_map]
    rfl
/-- [node for node, told in d.items() if told[0] == top], d locked -/
theorem ev_lcNodes {i j c : Nat} {L : Layer} {top : Int} {kvs : List (Key × V)} {o : Obj} (hi : i < σ.length) (hj : j < σ.length) (hij : i ≠ j) (hci : c ≠ i) (hcj : c ≠ j) (hc : σ[c]? = some (some (.int top))) (hm : ∀ p, ¬ m.M p → ¬ m.N p) (h : EvD m K te σ H (.s (.ref q))) (hd : H q = some (.frz o (.dK kvs))) (nq : ¬ m.N q) (lr : LR m K H L kvs) (hz : L.length ≤ 100000) :
    EvL m K (tLc (iItems te) (gTup K 2 (gCons (gName i) (gCons (gName j) gNil))) (tTest (tOp (rEqU K) (tOp (rIxU K) (tVar j) (tC (.int 0))) (tVar c))) (tVar i) [i, j]) σ H ((L.filter fun x => decide (x.2.1 = top)).map fun x => dI (x.1 : Int)) := fun H0 g0 Q k => h H0 g0 _ fun v H1 g1 r => by
  rw [rep_s.mp r]
  refine ⟨q, o, kvs, rfl, (g0.trans g1).st q _ nq hd, fun D hD => ⟨fun n mm H' => mm = kvs.length - n ∧ n ≤ kvs.length ∧ G m H1 H' ∧ H' D = some (.lst (((L.take n).filter fun x => decide (x.2.1 = top)).map fun x => V.int (x.1 : Int))), ⟨kvs.length, rfl, Nat.zero_le _, g1.r1.mut hD, upd_same⟩, ?_⟩⟩
  have nD : ¬ m.N D := hm D (g1.out hD)
  have hlen := lr.len
  rintro n mm H2 ⟨rfl, hn, gg, hD2⟩
  have hq2 : H2 q = some (.frz o (.dK kvs)) := ((g0.trans g1).trans gg).st q _ nq hd
  by_cases hlt : n < kvs.length
  · refine .inr ⟨⟨hq2, hlt⟩, fun H' => n + 1 ≤ kvs.length ∧ G m H1 H' ∧ H' D = some (.lst (((L.take (n + 1)).filter fun x => decide (x.2.1 = top)).map fun x => V.int (x.1 : Int))), fun H3 p3 => ⟨kvs.length - (n + 1), by omega, rfl, p3.1, p3.2⟩, fun x H3 y => ?_⟩
    obtain ⟨t, key, val, hk, rfl, ht, rfl⟩ := y
    obtain ⟨xx, hx, rfl, rv⟩ := lr.get hk
    have gn : G m H2 (upd H2 t (.tup [kV (keyN xx.1), val])) := gg.new ht
    have rv3 := rv.mono (((g0.trans g1).trans gg).trans gn)
    rw [entD_t] at rv3
    refine ⟨t, [kV (keyN xx.1), val], rfl, SqT.of upd_same, rfl, kV (keyN xx.1), _, rfl, val, _, rfl, rfl, ?_⟩
    have ei : (((wipe σ [i, j]).set i (some (kV (keyN xx.1)))).set j (some val))[i]? = some (some (.int (xx.1 : Int))) := by
      show (((((σ.set j none).set i none).set i (some (kV (keyN xx.1)))).set j (some val)))[i]? = _
      rw [List.getElem?_set_ne (Ne.symm hij), List.getElem?_set_self (by simp [hi])]
      rfl
    have ej : (((wipe σ [i, j]).set i (some (kV (keyN xx.1)))).set j (some val))[j]? = some (some val) := by
      show (((((σ.set j none).set i none).set i (some (kV (keyN xx.1)))).set j (some val)))[j]? = _
      rw [List.getElem?_set_self (by simp [hj])]
    have ec : (((wipe σ [i, j]).set i (some (kV (keyN xx.1)))).set j (some val))[c]? = some (some (.int top)) := by
      show (((((σ.set j none).set i none).set i (some (kV (keyN xx.1)))).set j (some val)))[c]? = _
      rw [List.getElem?_set_ne (Ne.symm hcj), List.getElem?_set_ne (Ne.symm hci), List.getElem?_set_ne (Ne.symm hci), List.getElem?_set_ne (Ne.symm hcj)]
      exact hc
    have ew : wipe (((wipe σ [i, j]).set i (some (kV (keyN xx.1)))).set j (some val)) [i, j] = wipe σ [i, j] := by
      apply List.ext_getElem?
      intro a
      show ((((((σ.set j none).set i none).set i (some (kV (keyN xx.1)))).set j (some val)).set j none).set i none)[a]? = ((σ.set j none).set i none)[a]?
      simp only [List.getElem?_set, List.length_set]
      by_cases h1 : i = a
      · simp [h1]
      · by_cases h2 : j = a
        · simp [h1, h2]
        · simp [h1, h2]
    refine ⟨ew, ?_⟩
    have e5 : EvT m (tTest (tOp (rEqU K) (tOp (rIxU K) (tVar j) (tC (.int 0))) (tVar c))) (((wipe σ [i, j]).set i (some (kV (keyN xx.1)))).set j (some val)) (upd H2 t (.tup [kV (keyN xx.1), val])) (decide (xx.2.1 = top)) := (et_test (ev_op (ev_op (ev_var ej rv3) ev_c (opd_ixT (atI_nat (j := 0) rfl (entT_0 _)))) (ev_vs ec) (opd_eq rfl))).is (by
      by_cases e : xx.2.1 = top
      · rw [e]; simp
      · rw [decide_eq_false e]
        exact decide_eq_false fun z => e (by injection z))
    refine e5 _ gn.r1 _ fun H4 g4 => ?_
    have hD3 := gn.st D _ nD hD2
    have hD4 := g4.st D _ nD hD3
    have etk : L.take (n + 1) = L.take n ++ [xx] := by rw [List.take_add_one, hx]; rfl
    cases hb : decide (xx.2.1 = top) with
    | true =>
      refine iteT ?_
      refine ⟨.int (xx.1 : Int), ei, _, hD4, ?_, hlt, ((gg.trans gn).trans g4).mut hD, ?_⟩
      · rw [List.length_map]
        refine Nat.lt_of_le_of_lt (Nat.le_trans (List.length_filter_le _ _) (by rw [List.length_take]; exact Nat.min_le_right _ _)) (Nat.lt_of_le_of_lt hz (by decide))
      · have e1 : [xx].filter (fun x => decide (x.2.1 = top)) = [xx] := by simp [of_decide_eq_true hb]
        rw [upd_same, etk, List.filter_append, e1, List.map_append]
        rfl
    | false =>
      refine iteF ?_
      refine ⟨hlt, (gg.trans gn).trans g4, ?_⟩
      have e1 : [xx].filter (fun x => decide (x.2.1 = top)) = [] := by simp [of_decide_eq_false hb]
      rw [hD4, etk, List.filter_append, e1, List.append_nil]
  · have e : n = kvs.length := by omega
    subst e
    rw [hlen, List.take_length] at hD2
    refine .inl ⟨⟨hq2, Nat.le_refl _⟩, k _ _ (g1.trans gg) ⟨D, _, rfl, (g0.trans g1).free hD, g1.out hD, hD2, ?_⟩⟩
    have e2 : ((L.filter fun x => decide (x.2.1 = top)).map fun x => dI (x.1 : Int)) = ((L.filter fun x => decide (x.2.1 = top)).map fun x => (x.1 : Int)).map dI := by rw [List.map_map]; rfl
    rw [e2, reps_int, List.map_map]
    rfl
/-- while the dict at q is locked -/
theorem ev_lockE {kvs : List (Key × V)} (hq : H q = some (.dK kvs)) (nq : ¬ m.N q) (h : ∀ H1, G m H H1 → ∀ od, EvP m te σ (upd H1 q (.frz od (.dK kvs))) P') (hP : ∀ v H2 od, H2 q = some (.frz od (.dK kvs)) → P' v H2 → P v (upd H2 q (.dK kvs))) : EvP m (tLockE te) σ H P := fun H1 g Q k => by
  have hq1 := g.st q _ nq hq
  refine ⟨q, .dK kvs, hq1, trivial, fun od => ?_⟩
  have dmL : Dm m (upd H1 q (.frz od (.dK kvs))) := g.dm.upd
  refine EvP.run dmL (h H1 g od) fun v H2 g2 p => ?_
  have hq2 := g2.st q _ nq upd_same
  refine ⟨hq2, k v _ ⟨g2.dm.upd, fun a o na e => ?_, fun a o e => ?_⟩ (hP v H2 od hq2 p)⟩
  · by_cases ea : a = q
    · subst ea
      rw [hq1] at e
      cases e
      exact upd_same
    · rw [upd_ne ea]
      exact g2.st a o na (by rw [upd_ne ea]; exact e)
  · by_cases ea : a = q
    · subst ea
      rw [hq1] at e
      cases e
      exact ⟨_, upd_same, fun _ z => z⟩
    · rw [upd_ne ea]
      exact g2.th a o (by rw [upd_ne ea]; exact e)
/-! truth -/
theorem et_truL (h : EvD m K te σ H (.l ds)) : EvT m (tTru K te) σ H (!ds.isEmpty) := fun H1 g Q k => h H1 g _ fun v H2 g2 r => by
  obtain ⟨p, xs, rfl, stp, rs⟩ := rep_l.mp r
  refine ⟨!ds.isEmpty, .inl ⟨xs, stp.here, ?_⟩, k H2 g2⟩
  have := rs.len
  cases ds with
  | nil => rw [List.length_eq_zero_iff.mp this]; rfl
  | cons a b =>
    cases xs with
    | nil => simp at this
    | cons c e => rfl
theorem et_truDR {kvs : List (Key × V)} (h : EvD m K te σ H (.s (.ref q))) (hq : H q = some (.dK kvs)) (nq : ¬ m.N q) : EvT m (tTru K te) σ H (!kvs.isEmpty) := fun H1 g Q k => h H1 g _ fun v H2 g2 r => by
  rw [rep_s.mp r]
  exact ⟨_, .inr (.inr ⟨kvs, (g.trans g2).st q _ nq hq, rfl⟩), k H2 g2⟩
/-! backwards -/
theorem reps_rev : ∀ {ds : List D} {xs : List V}, Reps m.M K H ds xs → Reps m.M K H ds.reverse xs.reverse
  | [], xs, h => by rw [reps_nil.mp h]; exact Reps.nil
  | d :: ds, xs, h => by
    obtain ⟨x, r, rfl, h1, h2⟩ := reps_cons.mp h
    rw [List.reverse_cons, List.reverse_cons]
    exact (reps_rev h2).snoc h1
theorem reps_back {xs : List V} (h : Reps m.M K H ds xs) (u : Option Int) : Reps m.M K H (backV ds u) (backV xs u) := by
  cases u with
  | none => exact reps_rev h
  | some i => exact reps_rev (h.drop 1)
theorem ev_slb {th ts : TO} {u : Option Int} (h : EvD m K te σ H (.l ds)) (h1 : EvO m th σ H u) (h2 : EvO m ts σ H (some (-1))) (hu : u = none ∨ u = some 0) : EvD m K (tSlB K te th ts) σ H (.l (backV ds u)) := fun H1 g Q k =>
  h H1 g _ fun x H2 g2 rx => h1 H2 (g.trans g2) _ fun H3 g3 => h2 H3 ((g.trans g2).trans g3) _ fun H4 g4 => by
    obtain ⟨p, xs, rfl, stp, rs⟩ := rep_l.mp rx
    have g24 := g3.trans g4
    refine ⟨p, xs, rfl, (stp.mono g24).here, hu, rfl, fun l hl => ?_⟩
    have gn : G m H4 (upd H4 l (.lst (backV xs u))) := g4.new hl
    exact k _ _ ((g2.trans g24).trans gn) (rep_l.mpr ⟨l, _, rfl, StL.of upd_same (g4.out hl), reps_back (rs.mono (g24.trans gn)) u⟩)
theorem ev_slbR {th ts : TO} {u : Option Int} {xs : List V} (h : EvD m K te σ H (.s (.ref q))) (hq : H q = some (.lst xs)) (nq : ¬ m.N q) (rs : Reps m.M K H ds xs) (h1 : EvO m th σ H u) (h2 : EvO m ts σ H (some (-1))) (hu : u = none ∨ u = some 0) : EvD m K (tSlB K te th ts) σ H (.l (backV ds u)) := fun H1 g Q k =>
  h H1 g _ fun x H2 g2 rx => h1 H2 (g.trans g2) _ fun H3 g3 => h2 H3 ((g.trans g2).trans g3) _ fun H4 g4 => by
    rw [rep_s.mp rx]
    have g04 := ((g.trans g2).trans g3).trans g4
    refine ⟨q, xs, rfl, SqL.of (g04.st q _ nq hq), hu, rfl, fun l hl => ?_⟩
    have gn : G m H4 (upd H4 l (.lst (backV xs u))) := g4.new hl
    exact k _ _ (((g2.trans g3).trans g4).trans gn) (rep_l.mpr ⟨l, _, rfl, StL.of upd_same (g4.out hl), reps_back (rs.mono (g04.trans gn)) u⟩)
theorem opd_ixLay {L : Layer} {n : Nat} {e : Ent} (he : getE L n = some e) : OpD m K (rIxU K) (layD L) (dI (n : Int)) H (.t (entT e)) := .of2 fun v1 v2 H1 g r1 r2 Q k => by
  have r1' := r1
  unfold layD at r1'
  obtain ⟨p, xs, rfl, stp, l, rs⟩ := rep_d.mp r1'
  rw [rep_s.mp r2]
  have lr : LR m K H1 L ((L.map fun x => keyN x.1).zip xs) := by
    have hx := rs.len
    rw [List.length_map] at hx
    refine ⟨List.map_fst_zip (by rw [List.length_map]; omega), ?_⟩
    rw [List.map_snd_zip (by rw [List.length_map]; omega)]
    exact rs
  obtain ⟨v, hv, rv⟩ := lr.get_some he
  have dg := dget_of (k := keyN n) stp.2
  rw [hv] at dg
  rw [entD_t] at rv
  exact .inr ⟨p, v, rfl, dg, k v rv⟩
end
theorem layersB_eq (R : Rl) (E : List (Nat × Nat × Nat)) (n : Nat) : ((R.layersF E n).drop 1).reverse = R.layersB E n := by
  unfold Rl.layersF
  rw [List.range_succ_eq_map, List.map_cons, List.drop_one, List.tail_cons, List.map_map]
  induction n with
  | zero => rfl
  | succ n ih =>
    rw [List.range_succ, List.map_append, List.reverse_append, ih]
    rfl
theorem LR.mk' {m : Md} {K : PySem.W.Frag} {H : Hp} {L : Layer} {kvs : List (Key × V)} {p : Addr} {od : Obj} (h : LR m K H L kvs) (hp : H p = some (.dK kvs)) : LR m K (upd H p (.frz od (.dK kvs))) L kvs := ⟨h.1, Reps.lock hp h.2⟩
end GK

/-! some datum of a kind: what a law draws -/
namespace GK
open PySem PySem.Spec PyProof.Rows L2
section
variable (m : Md) (K : PySem.W.Frag)
def EvX (te : TE) (σ : L2.St) (H : Hp) (S : D → Prop) : Prop := EvP m te σ H fun v H2 => ∃ d, S d ∧ Rep m.M K H2 d v
def EaX (ta : TA) (σ : L2.St) (H : Hp) (S : List D → Prop) : Prop := ∀ H1, G m H H1 → ∀ Q : List V → Hp → Prop, (∀ vs H2, G m H1 H2 → (∃ ds, S ds ∧ Reps m.M K H2 ds vs) → Q vs H2) → ta σ H1 Q
def EtX (tt : TT) (σ : L2.St) (H : Hp) : Prop := ∀ H1, G m H H1 → ∀ Q : Bool → Hp → Prop, (∀ b H2, G m H1 H2 → Q b H2) → tt σ H1 Q
end
section
variable {m : Md} {K : PySem.W.Frag} {σ : L2.St} {H H' : Hp} {ta tb te to : TE} {t tr : TA} {d d1 d2 : D} {ds : List D} {v : V} {q : Addr} {S S1 S2 S' : D → Prop} {L1 L2' : List D → Prop} {r : R2} {D0 : Ends} {tu tw : L2.TS} {tt : TT}
theorem EvX.mono' (g : G m H H') (h : EvX m K te σ H S) : EvX m K te σ H' S := EvP.mono g h
theorem evx_of (h : EvD m K te σ H d) (s : S d) : EvX m K te σ H S := fun H1 g Q k => h H1 g Q fun v H2 g2 r => k v H2 g2 ⟨d, s, r⟩
theorem EvX.sub (h : EvX m K te σ H S) (s : ∀ d, S d → S' d) : EvX m K te σ H S' := fun H1 g Q k => h H1 g Q fun v H2 g2 ⟨d, sd, r⟩ => k v H2 g2 ⟨d, s d sd, r⟩
theorem eax_nil : EaX m K tNil σ H fun ds => ds = [] := fun H1 g _ q => q [] H1 g.r1 ⟨[], rfl, Reps.nil⟩
theorem eax_cons (h : EvX m K ta σ H S) (hr : EaX m K tr σ H L1) : EaX m K (tCons ta tr) σ H fun ds => ∃ d es, ds = d :: es ∧ S d ∧ L1 es := fun H1 g _ q =>
  h H1 g _ fun v H2 g2 ⟨d, sd, rv⟩ => hr H2 (g.trans g2) _ fun vs H3 g3 ⟨es, se, rs⟩ => q _ H3 (g2.trans g3) ⟨d :: es, ⟨d, es, rfl, sd, se⟩, Reps.cons (rv.mono g3) rs⟩
theorem eax1 (h : EvX m K ta σ H S) : EaX m K (tCons ta tNil) σ H fun ds => ∃ d, ds = [d] ∧ S d := fun H1 g Q q => eax_cons h eax_nil H1 g Q fun vs H2 g2 ⟨ds, ⟨d, es, e, sd, ee⟩, rs⟩ => q vs H2 g2 ⟨ds, ⟨d, by rw [e, ee], sd⟩, rs⟩
theorem eax2 (h : EvX m K ta σ H S) (h2 : EvX m K tb σ H S2) : EaX m K (tCons ta (tCons tb tNil)) σ H fun ds => ∃ d e, ds = [d, e] ∧ S d ∧ S2 e := fun H1 g Q q => eax_cons h (eax1 h2) H1 g Q fun vs H2 g2 ⟨ds, ⟨d, es, e, sd, ⟨d', e', s'⟩⟩, rs⟩ => q vs H2 g2 ⟨ds, ⟨d, d', by rw [e, e'], sd, s'⟩, rs⟩
theorem evx_op (ha : EvX m K ta σ H S1) (hb : EvX m K tb σ H S2) (ho : ∀ d1 d2, S1 d1 → S2 d2 → ∃ d, S d ∧ OpD m K r d1 d2 H d) : EvX m K (tOp r ta tb) σ H S := fun H1 g Q q =>
  ha H1 g _ fun x H2 g2 ⟨d1, s1, rx⟩ => hb H2 (g.trans g2) _ fun y H3 g3 ⟨d2, s2, ry⟩ => by
    obtain ⟨d, sd, o⟩ := ho d1 d2 s1 s2
    exact o x y H3 ((g.trans g2).trans g3) (rx.mono g3) ry Q fun z H4 g4 rz => q z H4 ((g2.trans g3).trans g4) ⟨d, sd, rz⟩
theorem evx_cb {rr : List V → Hp → VK → Prop} (h : EaX m K t σ H L1) (hr : ∀ ds, L1 ds → ∃ d, S d ∧ CallD m K rr ds H d) : EvX m K (tCB rr t) σ H S := fun H1 g Q q =>
  h H1 g _ fun vs H2 g2 ⟨ds, s, rs⟩ => by
    obtain ⟨d, sd, c⟩ := hr ds s
    exact c vs H2 (g.trans g2) rs Q fun z H3 g3 rz => q z H3 (g2.trans g3) ⟨d, sd, rz⟩
theorem evx_call {sp : Sp} {E : XK} (h : EaX m K t σ H L1) (hs : ∀ ds, L1 ds → SpP m K sp ds H fun v H2 => ∃ d, S d ∧ Rep m.M K H2 d v) : EvX m K (tCall sp [] E t) σ H S := fun H1 g Q q =>
  h H1 g _ fun vs H2 g2 ⟨ds, s, rs⟩ => by
    show sp (vs ++ []) H2 Q E
    rw [List.append_nil]
    exact hs ds s vs H2 (g.trans g2) rs Q E fun v H3 g3 p => q v H3 (g2.trans g3) p
theorem evx_un {ru : V → Hp → VK → Prop} (ha : EvX m K ta σ H S1) (ho : ∀ d1, S1 d1 → ∃ d, S d ∧ UnD m K ru d1 H d) : EvX m K (tUn ru ta) σ H S := fun H1 g Q q =>
  ha H1 g _ fun x H2 g2 ⟨d1, s1, rx⟩ => by
    obtain ⟨d, sd, o⟩ := ho d1 s1
    exact o x H2 (g.trans g2) rx Q fun z H4 g4 rz => q z H4 (g2.trans g4) ⟨d, sd, rz⟩
theorem evx_sl {rs : V → Option Int → Option Int → Hp → VK → Prop} {tl th : TO} {lo hi : Option Int} (h : EvX m K te σ H S1) (h1 : EvO m tl σ H lo) (h2 : EvO m th σ H hi) (hs : ∀ d1, S1 d1 → ∃ d, S d ∧ SlD m K rs d1 lo hi H d) : EvX m K (tSl rs te tl th) σ H S := fun H1 g Q q =>
  h H1 g _ fun x H2 g2 ⟨d1, s1, rx⟩ => h1 H2 (g.trans g2) _ fun H3 g3 => h2 H3 ((g.trans g2).trans g3) _ fun H4 g4 => by
    obtain ⟨d, sd, o⟩ := hs d1 s1
    exact o x H4 (((g.trans g2).trans g3).trans g4) ((rx.mono g3).mono g4) Q fun z H5 g5 rz => q z H5 (((g2.trans g3).trans g4).trans g5) ⟨d, sd, rz⟩
theorem evx_if {b : Bool} (h : EvT m tt σ H b) (h1 : b = true → EvX m K ta σ H S) (h2 : b = false → EvX m K tb σ H S) : EvX m K (tIf tt ta tb) σ H S := ev_if h h1 h2
theorem evx_ifX (h : EtX m tt σ H) (h1 : EvX m K ta σ H S) (h2 : EvX m K tb σ H S) : EvX m K (tIf tt ta tb) σ H S := fun H1 g Q k => h H1 g _ fun b H2 g2 => by
  cases b with
  | true =>
    show ta σ H2 Q
    exact h1 H2 (g.trans g2) Q fun w H3 g3 rw' => k w H3 (g2.trans g3) rw'
  | false =>
    show tb σ H2 Q
    exact h2 H2 (g.trans g2) Q fun w H3 g3 rw' => k w H3 (g2.trans g3) rw'
theorem evx_tup (h : EaX m K t σ H L1) (hl : ∀ ds, L1 ds → ds.length ≤ 100000) : EvX m K (tTup t) σ H fun d => ∃ ds, d = .t ds ∧ L1 ds := fun H1 g _ q =>
  h H1 g _ fun vs H2 g2 ⟨ds, s, rs⟩ => ⟨by rw [rs.len]; exact Evl.sz_of (hl ds s), fun p hp => by
    have g3 : G m H2 (upd H2 p (.tup vs)) := g2.new hp
    exact q _ _ (g2.trans g3) ⟨_, ⟨ds, rfl, s⟩, rep_t.mpr ⟨p, vs, rfl, StT.of upd_same (g2.out hp), rs.mono g3⟩⟩⟩
theorem evx_lst (h : EaX m K t σ H L1) (hl : ∀ ds, L1 ds → ds.length ≤ 100000) : EvX m K (tLst t) σ H fun d => ∃ ds, d = .l ds ∧ L1 ds := fun H1 g _ q =>
  h H1 g _ fun vs H2 g2 ⟨ds, s, rs⟩ => ⟨by rw [rs.len]; exact Evl.sz_of (hl ds s), fun p hp => by
    have g3 : G m H2 (upd H2 p (.lst vs)) := g2.new hp
    exact q _ _ (g2.trans g3) ⟨_, ⟨ds, rfl, s⟩, rep_l.mpr ⟨p, vs, rfl, StL.of upd_same (g2.out hp), rs.mono g3⟩⟩⟩
theorem etx_test (h : EvX m K te σ H S) (hS : ∀ d, S d → ∃ b, d = dB b) : EtX m (tTest te) σ H := fun H1 g _ q => h H1 g _ fun v H2 g2 ⟨d, s, r⟩ => by
  obtain ⟨b, rfl⟩ := hS d s
  exact ⟨b, rep_s.mp r, q b H2 g2⟩
theorem s_ifX (dm : Dm m H) (h : EtX m tt σ H) (h1 : ∀ H1, G m H H1 → tu D0 σ H1) (h2 : ∀ H1, G m H H1 → tw D0 σ H1) : tIfS tt tu tw D0 σ H := h H (G.rf dm) _ fun b H1 g => by
  cases b with
  | true =>
    show tu D0 σ H1
    exact h1 H1 g
  | false =>
    show tw D0 σ H1
    exact h2 H1 g
/-- for x in range(n), n a small number that is drawn -/
theorem s_forX {j : Nat} {N : Nat} (hN : N ≤ 100000) (dm : Dm m H) (h : EvX m K ta σ H fun d => ∃ n : Nat, n ≤ N ∧ d = dI (n : Int))
    (k : ∀ (n : Nat) H1, n ≤ N → G m H H1 → ∃ Pv : Nat → L2.St → Hp → Prop, Pv 0 σ H1 ∧
      (∀ (i : Nat) σ' H', i < n → Pv i σ' H' → tu { D0 with nx := Pv (i + 1), ct := Pv (i + 1), bk := D0.nx } (σ'.set j (some (.int (i : Int)))) H') ∧ (∀ σ' H', Pv n σ' H' → D0.nx σ' H')) : tFor (iRng1 (tCons ta tNil)) (gName j) tu D0 σ H :=
  h H (G.rf dm) _ fun v H1 g ⟨d, ⟨n, hn, e⟩, r⟩ => by
    subst e
    obtain ⟨Pv, h0, hs, hd⟩ := k n H1 hn g
    rw [rep_s.mp r]
    refine ⟨(n : Int), rfl, by omega, by omega, for_range (lo := 0) (n := n) Pv h0 (fun i σ' H' hi p => ?_) hd⟩
    have e0 : (0 : Int) + (i : Int) = (i : Int) := Int.zero_add _
    show tu { D0 with nx := Pv (i + 1), ct := Pv (i + 1), bk := D0.nx } (σ'.set j (some (.int ((0 : Int) + (i : Int))))) H'
    rw [e0]
    exact hs i σ' H' hi p
/-- [te for c in text], each a number of a kind -/
theorem ev_lcXs {tl : TE} {i : Nat} {z : List Nat} {T : Int → Prop} (hm : ∀ p, ¬ m.M p → ¬ m.N p) (h : EvD m K tl σ H (dS (st z))) (hz : z.length ≤ 100000)
    (he : ∀ c H', c ∈ z → G m H H' → EvX m K te ((wipe σ [i]).set i (some (.str (st [c])))) H' fun d => ∃ k, T k ∧ d = dI k) :
    EvX m K (tLc (iAny K tl) (gName i) tYes te [i]) σ H fun d => ∃ ks : List Int, d = .l (ks.map dI) ∧ ks.length = z.length ∧ ∀ k ∈ ks, T k := fun H0 g0 Q k => h H0 g0 _ fun v H1 g1 r => by
  rw [rep_s.mp r]
  have hsz : (st z).cps.size = z.length := by rw [← Array.length_toList, st_cps]
  refine .inr (.inr ⟨st z, rfl, fun D hD => ⟨fun n mm H' => mm = z.length - n ∧ n ≤ z.length ∧ G m H1 H' ∧ ∃ ks : List Int, H' D = some (.lst (ks.map V.int)) ∧ ks.length = n ∧ ∀ k ∈ ks, T k, ⟨z.length, rfl, Nat.zero_le _, g1.r1.mut hD, [], upd_same, rfl, fun k hk => by cases hk⟩, ?_⟩⟩)
  have nD : ¬ m.N D := hm D (g1.out hD)
  rintro n mm H2 ⟨rfl, hn, gg, ks, hD2, hkl, hkT⟩
  by_cases hlt : n < z.length
  · refine .inr ⟨by show n < (st z).cps.size; rw [hsz]; exact hlt, fun H' => n + 1 ≤ z.length ∧ G m H1 H' ∧ ∃ ks : List Int, H' D = some (.lst (ks.map V.int)) ∧ ks.length = n + 1 ∧ ∀ k ∈ ks, T k, fun H3 p3 => ⟨z.length - (n + 1), by omega, rfl, p3.1, p3.2⟩, fun x H3 y => ?_⟩
    obtain ⟨e1, c, hc, e2⟩ := y
    subst e1
    subst e2
    have hc' : z[n]? = some c := by
      rw [← Array.getElem?_toList, st_cps] at hc
      exact hc
    have ew : wipe ((wipe σ [i]).set i (some (.str ⟨#[c]⟩))) [i] = wipe σ [i] := by
      show (((σ.set i none).set i _).set i none) = σ.set i none
      rw [List.set_set, List.set_set]
    refine ⟨ew, ?_⟩
    unfold tYes
    simp only []
    rw [if_pos trivial]
    refine he c H3 (List.mem_of_getElem? hc') ((g0.trans g1).trans gg) H3 gg.r1 _ fun y H4 g4 ⟨d, ⟨kk, hT, e⟩, ry⟩ => ?_
    subst e
    rw [rep_s.mp ry]
    have hD4 := g4.st D _ nD hD2
    refine ⟨_, hD4, by rw [List.length_map, hkl]; exact Nat.lt_of_le_of_lt (by omega : n ≤ 100000) (by decide), hlt, (gg.trans g4).mut hD, ks ++ [kk], by rw [upd_same, List.map_append]; rfl, by rw [List.length_append, hkl]; rfl, fun q hq => ?_⟩
    rw [List.mem_append, List.mem_singleton] at hq
    rcases hq with hq | rfl
    · exact hkT q hq
    · exact hT
  · have e : n = z.length := by omega
    subst e
    refine .inl ⟨by show (st z).cps.size ≤ _; rw [hsz]; exact Nat.le_refl _, k _ _ (g1.trans gg) ⟨_, ⟨ks, rfl, hkl, hkT⟩, rep_l.mpr ⟨D, _, rfl, StL.of hD2 (g1.out hD), reps_int.mpr rfl⟩⟩⟩
end
/-! == of lists of texts -/
def small (l : List (List Nat)) : Prop := ∀ w ∈ l, ∀ c ∈ w, c < 256
theorem ok_st {w : List Nat} (h : ∀ c ∈ w, c < 256) : PyData.strOk (st w) = true := by
  unfold PyData.strOk
  rw [← Array.all_toList, st_cps, List.all_eq_true]
  exact fun c hc => decide_eq_true (Nat.lt_trans (h c hc) (by decide))
theorem canAll_str {ws : List (List Nat)} (h : small ws) : PyData.canLayAll0 (ws.map fun w => PyData.str (st w)) = true := by
  induction ws with
  | nil => rfl
  | cons a r ih => simp [PyData.canLayAll0, PyData.canLay0, ih (fun w hw => h w (List.mem_cons_of_mem _ hw)), ok_st (h a List.mem_cons_self)]
theorem depthAll_str (ws : List (List Nat)) : PyData.depthAll (ws.map fun w => PyData.str (st w)) = 0 := by
  induction ws with
  | nil => rfl
  | cons a r ih => simp [PyData.depthAll, PyData.depth, ih]
theorem shaped_str {ws : List (List Nat)} (h : small ws) : SeqAt.shaped (.list (ws.map fun w => PyData.str (st w))) = true := by
  simp [SeqAt.shaped, PyData.canLay0, PyData.depth, canAll_str h, depthAll_str]
theorem dpAll_str {K : PySem.W.Frag} {H : Hp} (ws : List (List Nat)) : DpAll K H (ws.map fun w => V.str (st w)) (ws.map fun w => PyData.str (st w)) := by
  induction ws with
  | nil => exact .nil
  | cons a r ih => exact .cons (.str _) ih
theorem reps_strs {m : Md} {K : PySem.W.Frag} {H : Hp} {ws : List (List Nat)} {xs : List V} : Reps m.M K H (ws.map fun w => dS (st w)) xs ↔ xs = ws.map fun w => V.str (st w) := by
  rw [dS_map, reps_str, List.map_map]
  exact Iff.rfl
theorem opd_eqNil {m : Md} {K : PySem.W.Frag} {H : Hp} {ws : List (List Nat)} (h : small ws) : OpD m K (rEqU K) (.l (ws.map fun w => dS (st w))) (.l []) H (dB ws.isEmpty) := .of2 fun v1 v2 H1 g r1 r2 Q q => by
  obtain ⟨p, xs, rfl, s1, rs1⟩ := rep_l.mp r1
  obtain ⟨p2, xs2, rfl, s2, rs2⟩ := rep_l.mp r2
  rw [reps_strs.mp rs1] at s1
  rw [reps_nil.mp rs2] at s2
  refine .inr ⟨.list (ws.map fun w => PyData.str (st w)), .list (([] : List (List Nat)).map fun w => PyData.str (st w)), .lst s1.here (dpAll_str ws), .lst s2.here (dpAll_str []), shaped_str h, shaped_str (fun w hw => by cases hw), ?_⟩
  have e : PyData.eqv (.list (ws.map fun w => PyData.str (st w))) (.list (([] : List (List Nat)).map fun w => PyData.str (st w))) = ws.isEmpty := by cases ws <;> rfl
  rw [e]
  exact q _ (rep_s.mpr rfl)
theorem opd_neNil {m : Md} {K : PySem.W.Frag} {H : Hp} {ws : List (List Nat)} (h : small ws) : OpD m K (rNeU K) (.l (ws.map fun w => dS (st w))) (.l []) H (dB (!ws.isEmpty)) := .of2 fun v1 v2 H1 g r1 r2 Q q => by
  obtain ⟨p, xs, rfl, s1, rs1⟩ := rep_l.mp r1
  obtain ⟨p2, xs2, rfl, s2, rs2⟩ := rep_l.mp r2
  rw [reps_strs.mp rs1] at s1
  rw [reps_nil.mp rs2] at s2
  refine .inr ⟨.list (ws.map fun w => PyData.str (st w)), .list (([] : List (List Nat)).map fun w => PyData.str (st w)), .lst s1.here (dpAll_str ws), .lst s2.here (dpAll_str []), shaped_str h, shaped_str (fun w hw => by cases hw), ?_⟩
  have e : PyData.eqv (.list (ws.map fun w => PyData.str (st w))) (.list (([] : List (List Nat)).map fun w => PyData.str (st w))) = ws.isEmpty := by cases ws <;> rfl
  rw [e]
  exact q _ (rep_s.mpr rfl)
/-! not in a list as it stands -/
theorem inV_str (w : List Nat) (ws : List (List Nat)) : inV (.str (st w)) (ws.map fun w => V.str (st w)) = decide (w ∈ ws) := by
  unfold inV
  induction ws with
  | nil => rfl
  | cons a r ih =>
    rw [List.map_cons, List.any_cons, ih]
    have e : eqV (.str (st a)) (.str (st w)) = decide (a = w) := by
      show (st a == st w) = _
      by_cases c : a = w
      · rw [c]; simp
      · rw [decide_eq_false c]
        exact beq_eq_false_iff_ne.mpr fun z => c (st_inj z)
    rw [e]
    by_cases c : a = w
    · subst c; simp
    · simp [c, Ne.symm c]
theorem flat_strs (ws : List (List Nat)) : (ws.map fun w => V.str (st w)).all flatV = true := by
  rw [List.all_map, List.all_eq_true]
  exact fun _ _ => rfl
theorem ev_ninLR {m : Md} {K : PySem.W.Frag} {σ : L2.St} {H : Hp} {ta tb : TE} {q : Addr} {w : List Nat} {ws : List (List Nat)} (h : EvD m K ta σ H (dS (st w))) (hb : EvD m K tb σ H (.s (.ref q))) (hq : H q = some (.lst (ws.map fun w => V.str (st w)))) (nq : ¬ m.N q) : EvD m K (tOp (rNinU K) ta tb) σ H (dB (!decide (w ∈ ws))) := fun H1 g Q k' =>
  h H1 g _ fun x H2 g2 rx => hb H2 (g.trans g2) _ fun z H3 g3 rz => by
    rw [rep_s.mp rx, rep_s.mp rz]
    have e := ((g.trans g2).trans g3).st q _ nq hq
    refine .inr (.inl ⟨q, _, rfl, .inl (SqL.of e), rfl, flat_strs ws, ?_⟩)
    rw [inV_str]
    exact k' _ H3 (g2.trans g3) (rep_s.mpr rfl)
/-! sorted texts -/
theorem sorted_lt : ∀ {zs : List Str}, sortedS zs = true → zs.Nodup → zs.Pairwise fun a b => a.cps.toList < b.cps.toList
  | [], _, _ => List.Pairwise.nil
  | [a], _, _ => List.pairwise_singleton _ _
  | a :: b :: r, h, nd => by
    have h' : (!ltCps b.cps.toList a.cps.toList && risingS b r) = true := h
    rw [Bool.and_eq_true] at h'
    have ih := sorted_lt (zs := b :: r) h'.2 (List.nodup_cons.mp nd).2
    have hab : a.cps.toList < b.cps.toList := by
      have h1 : ¬ b.cps.toList < a.cps.toList := by
        have := h'.1
        rw [ltCps_eq] at this
        simpa using this
      rcases List.le_iff_lt_or_eq.mp (List.not_lt.mp h1) with q | q
      · exact q
      · exfalso
        have e : a = b := PySem.Str.ext' (Array.toList_inj.mp q)
        exact (List.nodup_cons.mp nd).1 (by rw [e]; exact List.mem_cons_self)
    refine List.pairwise_cons.mpr ⟨fun y hy => ?_, ih⟩
    rw [List.mem_cons] at hy
    rcases hy with rfl | hy
    · exact hab
    · exact List.lt_trans hab ((List.pairwise_cons.mp ih).1 y hy)
theorem G.well_of {M : Addr → Prop} {w : Addr} {H H1 : Hp} (g : G (Md.pure (Md.well M w).M) H H1) : G (Md.well M w) H H1 := ⟨g.dm, fun a o _ e => g.ex a o e, fun a o e => ⟨o, g.ex a o e, fun _ z => z⟩⟩
theorem toNat_mod {a : Int} {n : Nat} (h : 0 < n) : ((a % (n : Int)).toNat : Int) = a % (n : Int) ∧ (a % (n : Int)).toNat < n := by
  have h1 := Int.emod_nonneg a (by omega : (n : Int) ≠ 0)
  have h2 := Int.emod_lt_of_pos a (by omega : (0 : Int) < n)
  exact ⟨Int.toNat_of_nonneg h1, by omega⟩
theorem s_retX2 {m : Md} {K : PySem.W.Frag} {σ : L2.St} {H : Hp} {ta tb : TE} {S1 S2 : D → Prop} {D0 : Ends} (dm : Dm m H) (h1 : EvX m K ta σ H S1) (h2 : EvX m K tb σ H S2)
    (k : ∀ p vs d1 d2 H1, G m H H1 → H1 p = none → S1 d1 → S2 d2 → Reps m.M K H1 [d1, d2] vs → D0.rt (.ref p) (upd H1 p (.lst vs))) : tRet (tLst (tCons ta (tCons tb tNil))) D0 σ H := by
  have h3 : tCons ta (tCons tb tNil) σ H fun vs H1 => vs.length ≤ sizeLine ∧ ∀ p, H1 p = none → D0.rt (.ref p) (upd H1 p (.lst vs)) := ?_
  · exact h3
  refine eax2 h1 h2 H (G.rf dm) _ fun vs H5 g5 ⟨ds, ⟨d, e, eds, i, j⟩, rs5⟩ => ?_
  subst eds
  refine ⟨?_, fun p hp => k p vs d e H5 g5 hp i j rs5⟩
  rw [rs5.len]
  show 2 ≤ sizeLine
  decide
end GK

/-! rows kept, in plain lists -/
namespace GK
open PySem PySem.Spec PyProof.Rows L2
theorem getElem?_snoc_lt {row : List Nat} {k p : Nat} (h : p < row.length) : (row ++ [k])[p]? = row[p]? := List.getElem?_append_left h
theorem kept_snoc' {R : Rl} (ok : R.Ok) (row : List Nat) (k : Nat) : R.kept (row ++ [k]) = (R.kept row && R.fits row k) := by
  have hlast : ∀ b ∈ R.bars, Rl.badAt (row ++ [k]) b row.length = (decide (b.2.1 = k) && Rl.hit row (b.1, b.2.2)) := fun b hb => by
    obtain ⟨_, _, h3, _⟩ := ok.bk b hb
    unfold Rl.badAt Rl.hit
    rw [List.getElem?_append_right (Nat.le_refl _), Nat.sub_self]
    have e0 : ([k] : List Nat)[0]? = some k := rfl
    rw [e0]
    by_cases c : b.2.2 ≤ row.length
    · rw [getElem?_snoc_lt (by omega), decide_eq_true c]
      by_cases d : b.2.1 = k
      · simp [d]
      · have d' : ¬ k = b.2.1 := fun e => d e.symm
        simp [d, d']
    · simp [c]
  have hold : ∀ b ∈ R.bars, ∀ p, p < row.length → Rl.badAt (row ++ [k]) b p = Rl.badAt row b p := fun b hb p hp => by
    unfold Rl.badAt
    rw [getElem?_snoc_lt hp, getElem?_snoc_lt (by omega)]
  have efit : R.fits row k = R.bars.all fun b => !(decide (b.2.1 = k) && Rl.hit row (b.1, b.2.2)) := by
    unfold Rl.fits Rl.at_
    rw [List.all_map, List.all_filter]
    congr 1
    funext b
    show (!decide (b.2.1 = k) || !Rl.hit row (b.1, b.2.2)) = _
    rw [Bool.not_and]
  rw [efit]
  unfold Rl.kept
  rw [Bool.eq_iff_iff, Bool.and_eq_true, List.all_eq_true, List.all_eq_true, List.all_eq_true]
  constructor
  · intro h
    refine ⟨fun b hb => ?_, fun b hb => ?_⟩
    · rw [List.all_eq_true]
      intro p hp
      have h1 := List.all_eq_true.mp (h b hb) p (by rw [List.mem_range] at hp ⊢; rw [List.length_append]; omega)
      rw [List.mem_range] at hp
      rw [hold b hb p hp] at h1
      exact h1
    · have h1 := List.all_eq_true.mp (h b hb) row.length (by rw [List.mem_range, List.length_append]; simp)
      rw [hlast b hb] at h1
      exact h1
  · rintro ⟨h1, h2⟩ b hb
    rw [List.all_eq_true]
    intro p hp
    rw [List.mem_range, List.length_append, List.length_singleton] at hp
    by_cases c : p < row.length
    · rw [hold b hb p c]
      exact List.all_eq_true.mp (h1 b hb) p (List.mem_range.mpr c)
    · have e : p = row.length := by omega
      subst e
      rw [hlast b hb]
      exact h2 b hb
theorem hit_last {n : Nat} {row : List Nat} {b : Nat × Nat} (h1 : 1 ≤ b.2) (hn : b.2 ≤ n) : Rl.hit (lastN n row) b = Rl.hit row b := by
  unfold Rl.hit lastN
  rw [List.length_drop, List.getElem?_drop]
  by_cases c : b.2 ≤ row.length
  · have e1 : b.2 ≤ row.length - (row.length - n) := by omega
    rw [decide_eq_true c, decide_eq_true e1]
    have e2 : row.length - n + (row.length - (row.length - n) - b.2) = row.length - b.2 := by omega
    rw [e2]
  · have e1 : ¬ b.2 ≤ row.length - (row.length - n) := by omega
    rw [decide_eq_false c, decide_eq_false e1]
    rfl
theorem fits_last {R : Rl} (ok : R.Ok) (row : List Nat) (k : Nat) : R.fits (lastN R.reach row) k = R.fits row k := by
  unfold Rl.fits
  rw [Bool.eq_iff_iff, List.all_eq_true, List.all_eq_true]
  have e : ∀ b ∈ R.at_ k, Rl.hit (lastN R.reach row) b = Rl.hit row b := fun b hb => by
    have hm := Rl.at_mem hb
    exact hit_last (ok.bk _ hm).2.2.1 (Rl.reach_le hm)
  constructor
  · intro h b hb
    rw [← e b hb]
    exact h b hb
  · intro h b hb
    rw [e b hb]
    exact h b hb
theorem lastN_snoc {n : Nat} {row : List Nat} {k : Nat} (hn : 1 ≤ n) : lastN n (lastN n row ++ [k]) = lastN n (row ++ [k]) := by
  unfold lastN
  simp only [List.length_append, List.length_drop, List.length_cons, List.length_nil]
  by_cases c : row.length ≤ n
  · have e : row.length - n = 0 := by omega
    rw [e, List.drop_zero, Nat.sub_zero]
  · have e1 : row.length + (0 + 1) - n ≤ row.length := by omega
    have e2 : row.length - (row.length - n) + (0 + 1) - n ≤ (row.drop (row.length - n)).length := by rw [List.length_drop]; omega
    rw [List.drop_append_of_le_length e1, List.drop_append_of_le_length e2, List.drop_drop]
    congr 2
    omega
theorem kept_good {R : Rl} (ok : R.Ok) : ∀ {ks row : List Nat}, R.kept row = true → R.good (lastN R.reach row) ks → R.kept (row ++ ks) = true
  | [], row, h, _ => by rw [List.append_nil]; exact h
  | k :: ks, row, h, hg => by
    obtain ⟨h1, h2, h3⟩ := hg
    have e : row ++ k :: ks = (row ++ [k]) ++ ks := by rw [List.append_assoc]; rfl
    rw [e]
    refine kept_good ok ?_ ?_
    · rw [kept_snoc' ok, h, ← fits_last ok, h2]
      rfl
    · unfold Rl.step at h3
      rw [lastN_snoc R.reach_pos] at h3
      exact h3
theorem good_mem {R : Rl} : ∀ {ks t : List Nat}, R.good t ks → ∀ c ∈ ks, c ∈ R.kinds
  | [], _, _, c, hc => by cases hc
  | k :: ks, t, h, c, hc => by
    rw [List.mem_cons] at hc
    rcases hc with rfl | hc
    · exact h.1
    · exact good_mem h.2.2 c hc
theorem worth_app (R : Rl) (a b : List Nat) : R.worthIn (a ++ b) = R.worthIn a + R.worthIn b := by
  unfold Rl.worthIn
  rw [List.map_append, List.sum_append]
end GK

namespace GK
open PySem PySem.Spec PyProof.Rows L2
def top (i : Nat) : Stmt := PySem.Challenge.pw_gapkinds_k74_best_rows_judged.main.body.getD i (.Pass ⟨0, 0, 0, 0⟩)
abbrev s_is_integer : Stmt := top 18
theorem sc_is_integer : FnScope ["value"] ["value"] (defScope s_is_integer) := ⟨rfl, rfl, rfl, by decide +kernel, rfl, by decide +kernel, by decide +kernel⟩
abbrev s_is_between : Stmt := top 19
theorem sc_is_between : FnScope ["value", "least", "most"] ["value", "least", "most"] (defScope s_is_between) := ⟨rfl, rfl, rfl, by decide +kernel, rfl, by decide +kernel, by decide +kernel⟩
abbrev s_check_number : Stmt := top 20
theorem sc_check_number : FnScope ["value", "least", "most"] ["value", "least", "most"] (defScope s_check_number) := ⟨rfl, rfl, rfl, by decide +kernel, rfl, by decide +kernel, by decide +kernel⟩
abbrev s_is_rising : Stmt := top 24
theorem sc_is_rising : FnScope ["words", "place"] ["words"] (defScope s_is_rising) := ⟨rfl, rfl, rfl, by decide +kernel, rfl, by decide +kernel, by decide +kernel⟩
abbrev s_is_kind_word : Stmt := top 25
theorem sc_is_kind_word : FnScope ["word"] ["word"] (defScope s_is_kind_word) := ⟨rfl, rfl, rfl, by decide +kernel, rfl, by decide +kernel, by decide +kernel⟩
abbrev s_is_bar : Stmt := top 26
theorem sc_is_bar : FnScope ["kinds", "value"] ["kinds", "value"] (defScope s_is_bar) := ⟨rfl, rfl, rfl, by decide +kernel, rfl, by decide +kernel, by decide +kernel⟩
abbrev s_words_behind : Stmt := top 27
theorem sc_words_behind : FnScope ["line", "head", "words"] ["line", "head"] (defScope s_words_behind) := ⟨rfl, rfl, rfl, by decide +kernel, rfl, by decide +kernel, by decide +kernel⟩
abbrev s_read_kinds : Stmt := top 28
theorem sc_read_kinds : FnScope ["line", "words", "kinds", "word"] ["line"] (defScope s_read_kinds) := ⟨rfl, rfl, rfl, by decide +kernel, rfl, by decide +kernel, by decide +kernel⟩
abbrev s_read_bars : Stmt := top 29
theorem sc_read_bars : FnScope ["kinds", "line", "words", "word"] ["kinds", "line"] (defScope s_read_bars) := ⟨rfl, rfl, rfl, by decide +kernel, rfl, by decide +kernel, by decide +kernel⟩
abbrev s_read_text : Stmt := top 30
theorem sc_read_text : FnScope ["text", "lines", "told", "bars"] ["text"] (defScope s_read_text) := ⟨rfl, rfl, rfl, by decide +kernel, rfl, by decide +kernel, by decide +kernel⟩
abbrev s_Rule_init : Stmt := inClass (top 32) 0
theorem sc_Rule_init : FnScope ["self", "text", "told", "first", "second", "distance", "kind", "bar"] ["self", "text"] (defScope s_Rule_init) := ⟨rfl, rfl, rfl, by decide +kernel, rfl, by decide +kernel, by decide +kernel⟩
abbrev s_check_rule : Stmt := top 33
theorem sc_check_rule : FnScope ["value"] ["value"] (defScope s_check_rule) := ⟨rfl, rfl, rfl, by decide +kernel, rfl, by decide +kernel, by decide +kernel⟩
abbrev s_is_row : Stmt := top 35
theorem sc_is_row : FnScope ["rule", "value", "kind"] ["rule", "value"] (defScope s_is_row) := ⟨rfl, rfl, rfl, by decide +kernel, rfl, by decide +kernel, by decide +kernel⟩
abbrev s_check_row : Stmt := top 36
theorem sc_check_row : FnScope ["rule", "value"] ["rule", "value"] (defScope s_check_row) := ⟨rfl, rfl, rfl, by decide +kernel, rfl, by decide +kernel, by decide +kernel⟩
abbrev s_fits : Stmt := top 37
theorem sc_fits : FnScope ["rule", "row", "kind", "first", "distance"] ["rule", "row", "kind"] (defScope s_fits) := ⟨rfl, rfl, rfl, by decide +kernel, rfl, by decide +kernel, by decide +kernel⟩
abbrev s_is_kept : Stmt := top 38
theorem sc_is_kept : FnScope ["rule", "row", "first", "second", "distance", "place"] ["rule", "row"] (defScope s_is_kept) := ⟨rfl, rfl, rfl, by decide +kernel, rfl, by decide +kernel, by decide +kernel⟩
abbrev s_worth_in : Stmt := top 39
theorem sc_worth_in : FnScope ["rule", "row", "kind"] ["rule", "row"] (defScope s_worth_in) := ⟨rfl, rfl, rfl, by decide +kernel, rfl, by decide +kernel, by decide +kernel⟩
abbrev s_next_rows : Stmt := top 41
theorem sc_next_rows : FnScope ["rule", "row", "limit", "kind"] ["rule", "row", "limit"] (defScope s_next_rows) := ⟨rfl, rfl, rfl, by decide +kernel, rfl, by decide +kernel, by decide +kernel⟩
abbrev s_rows_with : Stmt := top 42
theorem sc_rows_with : FnScope ["rule", "places", "limit", "found", "place", "row", "kind"] ["rule", "places", "limit"] (defScope s_rows_with) := ⟨rfl, rfl, rfl, by decide +kernel, rfl, by decide +kernel, by decide +kernel⟩
abbrev s_Tails_init : Stmt := inClass (top 43) 0
theorem sc_Tails_init : FnScope ["self", "rule", "row", "numbers", "at", "kind", "tail"] ["self", "rule", "row"] (defScope s_Tails_init) := ⟨rfl, rfl, rfl, by decide +kernel, rfl, by decide +kernel, by decide +kernel⟩
abbrev s_Laying_init : Stmt := inClass (top 46) 0
theorem sc_Laying_init : FnScope ["self", "rule", "row"] ["self", "rule", "row"] (defScope s_Laying_init) := ⟨rfl, rfl, rfl, by decide +kernel, rfl, by decide +kernel, by decide +kernel⟩
abbrev s_Laying_row : Stmt := inClass (top 46) 1
theorem sc_Laying_row : FnScope ["self"] ["self"] (defScope s_Laying_row) := ⟨rfl, rfl, rfl, by decide +kernel, rfl, by decide +kernel, by decide +kernel⟩
abbrev s_Laying_worth : Stmt := inClass (top 46) 2
theorem sc_Laying_worth : FnScope ["self"] ["self"] (defScope s_Laying_worth) := ⟨rfl, rfl, rfl, by decide +kernel, rfl, by decide +kernel, by decide +kernel⟩
abbrev s_Laying_lay : Stmt := inClass (top 46) 8
theorem sc_Laying_lay : FnScope ["self", "row"] ["self", "row"] (defScope s_Laying_lay) := ⟨rfl, rfl, rfl, by decide +kernel, rfl, by decide +kernel, by decide +kernel⟩
abbrev s_Laying_undo : Stmt := inClass (top 46) 10
theorem sc_Laying_undo : FnScope ["self"] ["self"] (defScope s_Laying_undo) := ⟨rfl, rfl, rfl, by decide +kernel, rfl, by decide +kernel, by decide +kernel⟩
abbrev s_Laying_layers : Stmt := inClass (top 46) 11
theorem sc_Laying_layers : FnScope ["self", "places", "rows", "out", "found", "near", "far", "kind", "place", "later", "told", "worth", "node"] ["self", "places"] (defScope s_Laying_layers) := ⟨rfl, rfl, rfl, by decide +kernel, rfl, by decide +kernel, by decide +kernel⟩
abbrev s_Laying_best : Stmt := inClass (top 46) 12
theorem sc_Laying_best : FnScope ["self", "places", "tops", "told"] ["self", "places"] (defScope s_Laying_best) := ⟨rfl, rfl, rfl, by decide +kernel, rfl, by decide +kernel, by decide +kernel⟩
abbrev s_Laying_best_end : Stmt := inClass (top 46) 13
theorem sc_Laying_best_end : FnScope ["self", "places", "found", "layers", "top", "here", "layer", "worth", "near", "kind", "told", "node"] ["self", "places"] (defScope s_Laying_best_end) := ⟨rfl, rfl, rfl, by decide +kernel, rfl, by decide +kernel, by decide +kernel⟩
abbrev s_Lwell : Stmt := top 48
theorem sc_Lwell : FnScope ["_law_cells", "_law_turn", "_law_mixed", "_law_cell", "_law_own"] ["_law_cells", "_law_turn"] (defScope s_Lwell) := ⟨rfl, rfl, rfl, by decide +kernel, rfl, by decide +kernel, by decide +kernel⟩
abbrev s_Lcup : Stmt := top 49
theorem sc_Lcup : FnScope ["_law_well_here", "_law_amount", "_law_figure"] ["_law_well_here", "_law_amount"] (defScope s_Lcup) := ⟨rfl, rfl, rfl, by decide +kernel, rfl, by decide +kernel, by decide +kernel⟩
abbrev s_Lspec : Stmt := top 50
theorem sc_Lspec : FnScope ["_law_well_here", "_law_most_kinds", "_law_far", "_law_lots", "_law_letters_here", "_law_prices", "_law_barred", "_law_reach_here", "_law_turn", "_law_near", "_law_each", "_law_letter"] ["_law_well_here", "_law_most_kinds", "_law_far", "_law_lots"] (defScope s_Lspec) := ⟨rfl, rfl, rfl, by decide +kernel, rfl, by decide +kernel, by decide +kernel⟩
abbrev s_Ltext : Stmt := top 51
theorem sc_Ltext : FnScope ["_law_spec_here", "_law_words", "_law_k"] ["_law_spec_here"] (defScope s_Ltext) := ⟨rfl, rfl, rfl, by decide +kernel, rfl, by decide +kernel, by decide +kernel⟩
abbrev s_Lmade : Stmt := top 52
theorem sc_Lmade : FnScope ["_law_spec_here"] ["_law_spec_here"] (defScope s_Lmade) := ⟨rfl, rfl, rfl, by decide +kernel, rfl, by decide +kernel, by decide +kernel⟩
abbrev s_Lfits : Stmt := top 53
theorem sc_Lfits : FnScope ["_law_spec_here", "_law_begun", "_law_letter", "_law_each", "_law_span"] ["_law_spec_here", "_law_begun", "_law_letter"] (defScope s_Lfits) := ⟨rfl, rfl, rfl, by decide +kernel, rfl, by decide +kernel, by decide +kernel⟩
abbrev s_Lkept : Stmt := top 54
theorem sc_Lkept : FnScope ["_law_spec_here", "_law_begun", "_law_k"] ["_law_spec_here", "_law_begun"] (defScope s_Lkept) := ⟨rfl, rfl, rfl, by decide +kernel, rfl, by decide +kernel, by decide +kernel⟩
abbrev s_Lworth : Stmt := top 55
theorem sc_Lworth : FnScope ["_law_spec_here", "_law_begun", "_law_letter"] ["_law_spec_here", "_law_begun"] (defScope s_Lworth) := ⟨rfl, rfl, rfl, by decide +kernel, rfl, by decide +kernel, by decide +kernel⟩
abbrev s_Ldrawn_row : Stmt := top 56
theorem sc_Ldrawn_row : FnScope ["_law_well_here", "_law_spec_here", "_law_most_here", "_law_found", "_law_turn", "_law_some", "_law_letter"] ["_law_well_here", "_law_spec_here", "_law_most_here"] (defScope s_Ldrawn_row) := ⟨rfl, rfl, rfl, by decide +kernel, rfl, by decide +kernel, by decide +kernel⟩
abbrev s_Lone_right : Stmt := top 57
theorem sc_Lone_right : FnScope ["_law_spec_here", "_law_lane", "_law_span", "_law_begun", "_law_price", "_law_told", "_law_before", "_law_letter"] ["_law_spec_here", "_law_lane", "_law_span"] (defScope s_Lone_right) := ⟨rfl, rfl, rfl, by decide +kernel, rfl, by decide +kernel, by decide +kernel⟩
abbrev s_Lright : Stmt := top 58
theorem sc_Lright : FnScope ["_law_well_here", "_law_spec_here", "_law_mine", "_law_turn", "_law_lane", "_law_span"] ["_law_well_here"] (defScope s_Lright) := ⟨rfl, rfl, rfl, by decide +kernel, rfl, by decide +kernel, by decide +kernel⟩
abbrev s_Llaw : Stmt := top 59
theorem sc_Llaw : FnScope ["_law_cells", "_law_turn"] ["_law_cells"] (defScope s_Llaw) := ⟨rfl, rfl, rfl, by decide +kernel, rfl, by decide +kernel, by decide +kernel⟩
def sp_is_integer (A : Ad) : Sp := fun vs H Q _ => ∃ n : Int, Pd A.K vs H Q [dI n] (dB true)
def sp_is_between (A : Ad) : Sp := fun vs H Q _ => ∃ n lo hi : Int, Pd A.K vs H Q [dI n, dI lo, dI hi] (dB (decide (lo ≤ n) && decide (n ≤ hi)))
def sp_check_number (A : Ad) : Sp := fun vs H Q _ => ∃ n lo hi : Int, lo ≤ n ∧ n ≤ hi ∧ Pd A.K vs H Q [dI n, dI lo, dI hi] dN
def sp_fits (A : Ad) : Sp := fun vs H Q _ => ∃ (R : Rl) (row : List Nat) (k : Nat), R.Ok ∧ k ∈ R.kinds ∧ row.length ≤ 100000 ∧ Pd A.K vs H Q [ruleD A R, dS (st row), Rl.bsign k] (dB (R.fits row k))
def sp_is_kept (A : Ad) : Sp := fun vs H Q _ => ∃ (R : Rl) (row : List Nat), R.Ok ∧ row.length ≤ 100000 ∧ Pd A.K vs H Q [ruleD A R, dS (st row)] (dB (R.kept row))
def sp_worth_in (A : Ad) : Sp := fun vs H Q _ => ∃ (R : Rl) (row : List Nat), R.Ok ∧ row.length ≤ 100000 ∧ (∀ c ∈ row, c ∈ R.kinds) ∧ Pd A.K vs H Q [ruleD A R, dS (st row)] (dI (R.worthIn row))
def sp_is_row (A : Ad) : Sp := fun vs H Q _ => ∃ (R : Rl) (row : List Nat), R.Ok ∧ row.length ≤ 100000 ∧ (∀ c ∈ row, c ∈ R.kinds) ∧ Pd A.K vs H Q [ruleD A R, dS (st row)] (dB true)
def sp_check_row (A : Ad) : Sp := fun vs H Q _ => ∃ (R : Rl) (row : List Nat), R.Ok ∧ row.length ≤ 1000 ∧ (∀ c ∈ row, c ∈ R.kinds) ∧ Pd A.K vs H Q [ruleD A R, dS (st row)] dN
def sp_check_rule (A : Ad) : Sp := fun vs H Q _ => ∃ (R : Rl), Pd A.K vs H Q [ruleD A R] dN
section
variable {prog : Program} {w : World} {mg : Str → Option Value} {base : Heap} {A : Ad}
theorem k_is_integer (B : BI mg) (F : DefAt A.K mg "is_integer" s_is_integer ["value"]) : Callee prog w A.K mg base "is_integer" ["value"] 1 (sp_is_integer A) := by
  obtain ⟨f, fd, F, hm, b⟩ := F
  refine ⟨f, fd, F.ok sc_is_integer (fun vs H Q E h => ?_) (fun cdv Ar outer s H vs Q E hr h => ?_), hm, F.kp, b⟩
  · obtain ⟨n, h⟩ := h
    exact h.len
  · obtain ⟨n, h⟩ := h
    obtain ⟨M, dm, rs, q⟩ := h.use
    obtain ⟨x, rfl, r⟩ := reps1 rs
    refine ⟨_, (pss_one (ps_ret (pe_and (pe_callB call_isi (by rfl) B.b_isinstance (by decide +kernel) (pa_cons (pv 0) (pa_cons (pe_bltn (v := .ty "int") rfl B.b_int (by decide +kernel) rfl) pa_nil))) (pe_one (pe_not (pe_callB call_isi (by rfl) B.b_isinstance (by decide +kernel) (pa_cons (pv 0) (pa_cons (pe_bltn (v := .ty "bool") rfl B.b_bool (by decide +kernel) rfl) pa_nil)))))))), ?_⟩
    exact s_retD dm (ev_andV (ev_cb (ea_cons (ev_var rfl r) (ea_cons ev_c ea_nil)) (cd_isiI (b := true) rfl)) fun _ => ev_notV (a := false) (ev_cb (ea_cons (ev_var rfl r) (ea_cons ev_c ea_nil)) (cd_isiI (b := false) rfl))) fun v H1 g r => q v H1 g r
theorem k_is_between (F : DefAt A.K mg "is_between" s_is_between ["value", "least", "most"]) (c_is_integer : Callee prog w A.K mg base "is_integer" ["value"] 1 (sp_is_integer A)) : Callee prog w A.K mg base "is_between" ["value", "least", "most"] 2 (sp_is_between A) := by
  obtain ⟨f, fd, F, hm, b⟩ := F
  refine ⟨f, fd, F.ok sc_is_between (fun vs H Q E h => ?_) (fun cdv Ar outer s H vs Q E hr h => ?_), hm, F.kp, b⟩
  · obtain ⟨n, lo, hi, h⟩ := h
    exact h.len
  · obtain ⟨n, lo, hi, h⟩ := h
    obtain ⟨M, dm, rs, q⟩ := h.use
    obtain ⟨x, y, z, rfl, r, r1, r2⟩ := reps3 rs
    refine ⟨_, (pss_one (ps_ret (pe_and (pe_fn c_is_integer hr (by decide) (pa_cons (pv 0) pa_nil)) (pe_one (pe_chain u_le u_le (pv 1) (pv 0) (pv 2)))))), ?_⟩
    exact s_retD dm (ev_andV (a := true) (ev_callD (ea_cons (ev_var rfl r) ea_nil) (spd fun vs H1 Q E p => ⟨n, p⟩)) fun _ => ev_chain (ev_var rfl r1) (ev_var rfl r) (fun _ => ev_var rfl r2) opd_le (fun _ => opd_le)) fun v H1 g r => q v H1 g r
theorem k_check_number (F : DefAt A.K mg "check_number" s_check_number ["value", "least", "most"]) (c_is_between : Callee prog w A.K mg base "is_between" ["value", "least", "most"] 2 (sp_is_between A)) : Callee prog w A.K mg base "check_number" ["value", "least", "most"] 3 (sp_check_number A) := by
  obtain ⟨f, fd, F, hm, b⟩ := F
  refine ⟨f, fd, F.ok sc_check_number (fun vs H Q E h => ?_) (fun cdv Ar outer s H vs Q E hr h => ?_), hm, F.kp, b⟩
  · obtain ⟨n, lo, hi, _, _, h⟩ := h
    exact h.len
  · obtain ⟨n, lo, hi, e1, e2, h⟩ := h
    obtain ⟨M, dm, rs, q⟩ := h.use
    obtain ⟨x, y, z, rfl, r, r1, r2⟩ := reps3 rs
    refine ⟨_, (pss_one (ps_if (pt_not (pt_val (pe_fn c_is_between hr (by decide) (pa_cons (pv 0) (pa_cons (pv 1) (pa_cons (pv 2) pa_nil)))))) (pss_one ps_never) pss_nil)), ?_⟩
    refine s_if (b := false) dm ((et_not (et_B (ev_callD (ea_cons (ev_var rfl r) (ea_cons (ev_var rfl r1) (ea_cons (ev_var rfl r2) ea_nil))) (spd fun vs H1 Q E p => ⟨n, lo, hi, p⟩)))).is (by simp [e1, e2])) (fun e => by cases e) (fun _ H1 g => q _ H1 g (rep_s.mpr rfl))
theorem k_fits (T : RuleT A) (B : BI mg) (F : DefAt A.K mg "fits" s_fits ["rule", "row", "kind"]) : Callee prog w A.K mg base "fits" ["rule", "row", "kind"] 1 (sp_fits A) := by
  obtain ⟨f, fd, F, hm, b⟩ := F
  refine ⟨f, fd, F.ok sc_fits (fun vs H Q E h => ?_) (fun cdv Ar outer s H vs Q E hr h => ?_), hm, F.kp, b⟩
  · obtain ⟨R, row, k, _, _, _, h⟩ := h
    exact h.len
  · obtain ⟨R, row, k, ok, hk, hl, h⟩ := h
    obtain ⟨M, dm, rs, q⟩ := h.use
    obtain ⟨x, y, z, rfl, r, r1, r2⟩ := reps3 rs
    refine ⟨_, (pss_cons (ps_for PassesOwn.never rfl (pi_any (pe_ix (ix_uni (hu_of hr)) (pe_fld (pv 0) rfl) (pv 2) (fun _ _ => rfl))) (pg_tup rfl (pgs_cons (pg_name (i := 3) sc_fits.nd rfl (Or.inl rfl)) (pgs_cons (pg_name (i := 4) sc_fits.nd rfl (Or.inl rfl)) pgs_nil))) (pss_one (ps_if (PW.pt (pw_and (pt_cmpR u_le (pv 4) (pe_callB u_len (by rfl) B.b_len (by decide +kernel) (pa_cons (pv 1) pa_nil)) (nomark _)) (pw_and1 (pt_cmpR (u_eq hr.units) (pe_ix (ix_uni (hu_of hr)) (pv 1) (pe_op u_sub (pe_callB u_len (by rfl) B.b_len (by decide +kernel) (pa_cons (pv 1) pa_nil)) (pv 4)) (fun _ _ => rfl)) (pv 3) (nomark _))))) (pss_one (ps_ret pe_bl)) pss_nil))) (pss_one (ps_ret pe_bl))), ?_⟩
    have hk1 : (R.kinds.map Rl.keyOf)[R.kinds.idxOf k]? = some (Rl.keyOf k) := get_map (ok.kindAt hk)
    have hd1 : (R.kinds.map fun k => D.l ((R.at_ k).map Rl.pairD))[R.kinds.idxOf k]? = some (.l ((R.at_ k).map Rl.pairD)) := get_map (ok.kindAt hk)
    refine sq ?_
    refine s_for dm (ev_op (ev_behind T (ev_var rfl r)) (ev_var rfl r2) (opd_ixD ok.keyNd hk1 hd1)) rfl fun H1 g => ⟨Md.pure M, rfl, fun i σ' H' => G (Md.pure M) H1 H' ∧ (∀ j < i, ∀ b, (R.at_ k)[j]? = some b → Rl.hit row b = false) ∧ ∃ a b, σ' = [some x, some y, some z, a, b], ⟨g.r1, fun j hj => absurd hj (by omega), none, none, rfl⟩, fun i σ' H' p => p.1, ?_, ?_⟩
    · rintro i d v σ' H' hd rv ⟨g1, hn, a, b, rfl⟩
      obtain ⟨bb, hb, rfl⟩ := map_get hd
      refine g_tup rv rfl fun xs rxs => ?_
      obtain ⟨v1, v2, rfl, q1, q2⟩ := reps2 rxs
      have dm' := g1.dm
      have g' := g.trans g1
      have hdist := (ok.bk _ (Rl.at_mem (List.mem_of_getElem? hb))).2.2
      have elen : ∀ (s : L2.St) , s = [some x, some y, some z, some v1, some v2] → EvD (Md.pure M) A.K (tCB (rLenU A.K) (tCons (tVar 1) tNil)) s H' (dI (row.length : Int)) := fun s e => by
        subst e
        exact ev_cb (ea_cons (ev_var rfl (r1.mono g')) ea_nil) (cd_len (by show some (st row).length = _; rw [st_len]) (by omega))
      refine ⟨v1, _, rfl, ⟨v2, _, rfl, ⟨rfl, ?_⟩⟩⟩
      refine s_if (b := Rl.hit row bb) dm' ((et_and (b := decide (row[row.length - bb.2]? = some bb.1)) (et_test (ev_op (ev_var rfl q2) (elen _ rfl) opd_le)) fun e => ?_).is ?_) (fun e H2 g2 => ?_) (fun e H2 g2 => ?_)
      · have hle : bb.2 ≤ row.length := by simpa using e
        have h1 : 1 ≤ bb.2 := hdist.1
        have hlt : row.length - bb.2 < row.length := by omega
        refine (et_test (ev_op (ev_op (ev_var rfl (r1.mono g')) (ev_op (elen _ rfl) (ev_var rfl q2) opd_sub) (opd_ixS (by rw [st_len]; exact Evl.sz_of hl) (by rw [st_cps]; exact atI_nat (j := row.length - bb.2) (by omega) (List.getElem?_eq_getElem hlt)))) (ev_var rfl q1) (opd_eq rfl))).is ?_
        have e3 : (V.str ⟨#[row[row.length - bb.2]]⟩ = V.str (st [bb.1])) = (V.str (⟨#[row[row.length - bb.2]]⟩ : Str) = V.str (⟨#[bb.1]⟩ : Str)) := rfl
        simp only [e3]
        rw [dec_sign, List.getElem?_eq_getElem hlt]
        simp
      · unfold Rl.hit
        simp
      · have : R.fits row k = false := all_false_of hb (by rw [e]; rfl)
        exact q _ H2 (g'.trans g2) (rep_s.mpr (congrArg V.bl this.symm))
      · refine ⟨g1.trans g2, fun j hj b' hb' => ?_, some v1, some v2, rfl⟩
        by_cases ej : j = i
        · subst ej
          rw [hb] at hb'
          cases hb'
          exact e
        · exact hn j (by omega) b' hb'
    · rintro σ' H' ⟨g1, hn, a, b, rfl⟩
      have : R.fits row k = true := all_true_of fun i hi b hb => by
        rw [hn i (by rw [List.length_map]; exact hi) b hb]
        rfl
      exact q _ H' (g.trans g1) (rep_s.mpr (congrArg V.bl this.symm))
theorem k_is_kept (T : RuleT A) (B : BI mg) (F : DefAt A.K mg "is_kept" s_is_kept ["rule", "row"]) : Callee prog w A.K mg base "is_kept" ["rule", "row"] 1 (sp_is_kept A) := by
  obtain ⟨f, fd, F, hm, b⟩ := F
  refine ⟨f, fd, F.ok sc_is_kept (fun vs H Q E h => ?_) (fun cdv Ar outer s H vs Q E hr h => ?_), hm, F.kp, b⟩
  · obtain ⟨R, row, _, _, h⟩ := h
    exact h.len
  · obtain ⟨R, row, ok, hl, h⟩ := h
    obtain ⟨M, dm, rs, q⟩ := h.use
    obtain ⟨x, y, rfl, r, r1⟩ := reps2 rs
    refine ⟨_, (pss_cons (ps_for PassesOwn.never rfl (pi_any (pe_fld (pv 0) rfl)) (pg_tup rfl (pgs_cons (pg_name (i := 2) sc_is_kept.nd rfl (Or.inl rfl)) (pgs_cons (pg_name (i := 3) sc_is_kept.nd rfl (Or.inl rfl)) (pgs_cons (pg_name (i := 4) sc_is_kept.nd rfl (Or.inl rfl)) pgs_nil)))) (pss_one (ps_for PassesOwn.never rfl (pi_range2 rfl B.b_range (pa_cons (pv 4) (pa_cons (pe_callB u_len (by rfl) B.b_len (by decide +kernel) (pa_cons (pv 1) pa_nil)) pa_nil))) (pg_name (i := 5) sc_is_kept.nd rfl (Or.inl rfl)) (pss_one (ps_if (PW.pt (pw_and (pt_cmpR (u_eq hr.units) (pe_ix (ix_uni (hu_of hr)) (pv 1) (pv 5) (fun _ _ => rfl)) (pv 3) (nomark _)) (pw_and1 (pt_cmpR (u_eq hr.units) (pe_ix (ix_uni (hu_of hr)) (pv 1) (pe_op u_sub (pv 5) (pv 4)) (fun _ _ => rfl)) (pv 2) (nomark _))))) (pss_one (ps_ret pe_bl)) pss_nil))))) (pss_one (ps_ret pe_bl))), ?_⟩
    refine sq ?_
    refine s_for dm (ev_triples T (ev_var rfl r)) rfl fun H1 g => ⟨Md.pure M, rfl, fun i σ' H' => G (Md.pure M) H1 H' ∧ (∀ j < i, ∀ b, R.bars[j]? = some b → ((List.range row.length).all fun p => !Rl.badAt row b p) = true) ∧ ∃ a b c e, σ' = [some x, some y, a, b, c, e], ⟨g.r1, fun j hj => absurd hj (by omega), none, none, none, none, rfl⟩, fun i σ' H' p => p.1, ?_, ?_⟩
    · rintro i d v σ' H' hd rv ⟨g1, hn, a, b, c, e, rfl⟩
      obtain ⟨bb, hb, rfl⟩ := map_get hd
      refine g_tup rv rfl fun xs rxs => ?_
      obtain ⟨v1, v2, v3, rfl, q1, q2, q3⟩ := reps3 rxs
      have g' := g.trans g1
      have hdist := (ok.bk _ (List.mem_of_getElem? hb)).2.2
      refine ⟨v1, _, rfl, ⟨v2, _, rfl, ⟨v3, _, rfl, ⟨rfl, ?_⟩⟩⟩⟩
      refine s_forR2 g1.dm (ea_cons (ev_var rfl q3) (ea_cons (ev_cb (ea_cons (ev_var rfl (r1.mono g')) ea_nil) (cd_len (n := row.length) (by show some (st row).length = _; rw [st_len]) (by omega))) ea_nil)) ⟨by omega, by omega, by omega, by omega⟩ fun H2 g2 => ⟨fun n σ' H' => G (Md.pure M) H2 H' ∧ (∀ p < bb.2.2 + n, Rl.badAt row bb p = false) ∧ ∃ e, σ' = [some x, some y, some v1, some v2, some v3, e], ⟨g2.r1, fun p hp => ?_, e, rfl⟩, ?_, ?_⟩
      · unfold Rl.badAt
        rw [decide_eq_false (by omega)]
        rfl
      · rintro n σ' H' hlt ⟨g3, hp, e, rfl⟩
        have hpl : bb.2.2 + n < row.length := by omega
        have g23 := g2.trans g3
        refine s_if (b := Rl.badAt row bb (bb.2.2 + n)) g3.dm ((et_and (a := decide (row[bb.2.2 + n]? = some bb.2.1)) (b := decide (row[n]? = some bb.1)) ?_ fun e => ?_).is ?_) (fun e H4 g4 => ?_) (fun e H4 g4 => ?_)
        · refine (et_test (ev_op (ev_op (ev_var rfl (r1.mono (g'.trans g23))) (ev_vs rfl) (opd_ixS (by rw [st_len]; exact Evl.sz_of hl) (by rw [st_cps]; exact atI_nat (j := bb.2.2 + n) (by omega) (List.getElem?_eq_getElem hpl)))) (ev_var rfl (q2.mono g23)) (opd_eq rfl))).is ?_
          rw [List.getElem?_eq_getElem hpl]
          exact dec_sign.trans (by simp)
        · refine (et_test (ev_op (ev_op (ev_var rfl (r1.mono (g'.trans g23))) (ev_op (ev_vs rfl) (ev_var rfl (q3.mono g23)) opd_sub) (opd_ixS (by rw [st_len]; exact Evl.sz_of hl) (by rw [st_cps]; exact atI_nat (j := n) (by omega) (List.getElem?_eq_getElem (by omega : n < row.length))))) (ev_var rfl (q1.mono g23)) (opd_eq rfl))).is ?_
          rw [List.getElem?_eq_getElem (by omega : n < row.length)]
          exact dec_sign.trans (by simp)
        · unfold Rl.badAt
          rw [decide_eq_true (by omega : bb.2.2 ≤ bb.2.2 + n), Bool.true_and, Nat.add_sub_cancel_left]
        · have : R.kept row = false := all_false_of hb (all_false_of (i := bb.2.2 + n) (a := bb.2.2 + n) (List.getElem?_range hpl) (by rw [e]; rfl))
          exact q _ H4 ((g'.trans g23).trans g4) (rep_s.mpr (congrArg V.bl this.symm))
        · refine ⟨g3.trans g4, fun p hp' => ?_, _, rfl⟩
          by_cases ep : p = bb.2.2 + n
          · subst ep; exact e
          · exact hp p (by omega)
      · rintro σ' H' ⟨g3, hp, e, rfl⟩
        refine ⟨(g1.trans g2).trans g3, fun j hj b' hb' => ?_, _, _, _, _, rfl⟩
        by_cases ej : j = i
        · subst ej
          rw [hb] at hb'
          cases hb'
          rw [List.all_eq_true]
          intro p hpm
          rw [List.mem_range] at hpm
          rw [hp p (by omega)]
          rfl
        · exact hn j (by omega) b' hb'
    · rintro σ' H' ⟨g1, hn, a, b, c, e, rfl⟩
      have : R.kept row = true := all_true_of fun i hi b hb => hn i (by rw [List.length_map]; exact hi) b hb
      exact q _ H' (g.trans g1) (rep_s.mpr (congrArg V.bl this.symm))
theorem k_worth_in (T : RuleT A) (B : BI mg) (F : DefAt A.K mg "worth_in" s_worth_in ["rule", "row"]) : Callee prog w A.K mg base "worth_in" ["rule", "row"] 1 (sp_worth_in A) := by
  obtain ⟨f, fd, F, hm, b⟩ := F
  refine ⟨f, fd, F.ok sc_worth_in (fun vs H Q E h => ?_) (fun cdv Ar outer s H vs Q E hr h => ?_), hm, F.kp, b⟩
  · obtain ⟨R, row, _, _, _, h⟩ := h
    exact h.len
  · obtain ⟨R, row, ok, hl, hk, h⟩ := h
    obtain ⟨M, dm, rs, q⟩ := h.use
    obtain ⟨x, y, rfl, r, r1⟩ := reps2 rs
    refine ⟨_, (pss_one (ps_ret (pe_callB (cr_sum rfl) (by rfl) B.b_sum (by decide +kernel) (pa_cons (pe_lc (own := [("kind", 2)]) (g := (gName 2)) (tt := tYes) (te := (tOp (rIxU A.K) (tFld A.K (tVar 0) "worth_of") (tVar 2))) rfl sc_worth_in.nd (pi_any (pv 1)) (blkOk_by (own := [("kind", 2)]) (N := ["rule", "row", "kind"]) (sc := defScope s_worth_in) (by decide +kernel))  (fun _ _ _ _ _ => (pg_name (i := 2) sc_worth_in.nd rfl (Or.inl rfl))) (fun _ _ _ _ _ => pts_nil) (fun _ _ _ _ _ => (pe_ix (ix_uni (hu_of hr)) (pe_fld (pv 0) rfl) (pv 2) (fun _ _ => rfl)))) pa_nil)))), ?_⟩
    have el : EvL (Md.pure M) A.K _ [some x, some y, none] H (((signs (st row)).filter fun _ => true).map fun d => dI (R.worthOf (sgn d) : Int)) :=
      ev_lc (m := Md.pure M) (K := A.K) (g := gName 2) (vs := [2]) (t := tYes) (te := tOp (rIxU A.K) (tFld A.K (tVar 0) "worth_of") (tVar 2)) (fun _ => true) (fun d => dI (R.worthOf (sgn d) : Int)) (fun _ _ z => z) gm_name (ev_var (i := 1) (σ := [some x, some y, none]) rfl r1) rfl (by rw [signs_len]; omega) (fun d _ _ => rfl) fun i d v H' g hd rv => by
        obtain ⟨c, hc, rfl⟩ := signs_get hd
        have hck := hk c (List.mem_of_getElem? hc)
        exact ⟨rfl, rfl, et_yes, fun _ => ev_op (ev_worth_of T (ev_var rfl (r.mono g))) (ev_var rfl rv) (opd_ixD ok.keyNd (get_map (ok.kindAt hck)) (get_map (ok.worthAt hck)))⟩
    rw [signs_all] at el
    have e2 : (row.map fun c => dI (R.worthOf (sgn (dS (st [c]))) : Int)) = (row.map fun c => (R.worthOf c : Int)).map dI := by rw [List.map_map]; rfl
    rw [e2] at el
    exact s_retD dm (ev_cb (ea_cons el.frz ea_nil) cd_sum) fun v H1 g r => q v H1 g r
theorem k_is_row (T : RuleT A) (B : BI mg) (F : DefAt A.K mg "is_row" s_is_row ["rule", "value"]) : Callee prog w A.K mg base "is_row" ["rule", "value"] 1 (sp_is_row A) := by
  obtain ⟨f, fd, F, hm, b⟩ := F
  refine ⟨f, fd, F.ok sc_is_row (fun vs H Q E h => ?_) (fun cdv Ar outer s H vs Q E hr h => ?_), hm, F.kp, b⟩
  · obtain ⟨R, row, _, _, _, h⟩ := h
    exact h.len
  · obtain ⟨R, row, ok, hl, hk, h⟩ := h
    obtain ⟨M, dm, rs, q⟩ := h.use
    obtain ⟨x, y, rfl, r, r1⟩ := reps2 rs
    refine ⟨_, (pss_one (ps_ret (pe_and (pe_callB call_isi (by rfl) B.b_isinstance (by decide +kernel) (pa_cons (pv 1) (pa_cons (pe_bltn (v := .ty "str") rfl B.b_str (by decide +kernel) rfl) pa_nil))) (pe_one (pe_callB (cr_all rfl) (by rfl) B.b_all (by decide +kernel) (pa_cons (pe_lc (own := [("kind", 2)]) (g := (gName 2)) (tt := tYes) (te := (tOp (rInU A.K) (tVar 2) (tFld A.K (tVar 0) "worth_of"))) rfl sc_is_row.nd (pi_any (pv 1)) (blkOk_by (own := [("kind", 2)]) (N := ["rule", "value", "kind"]) (sc := defScope s_is_row) (by decide +kernel))  (fun _ _ _ _ _ => (pg_name (i := 2) sc_is_row.nd rfl (Or.inl rfl))) (fun _ _ _ _ _ => pts_nil) (fun _ _ _ _ _ => (pe_cmpR (u_in (hu_of hr)) (pv 2) (pe_fld (pv 0) rfl) (by rfl)))) pa_nil)))))), ?_⟩
    have el : EvL (Md.pure M) A.K _ [some x, some y, none] H (((signs (st row)).filter fun _ => true).map fun d => dB true) :=
      ev_lc (m := Md.pure M) (K := A.K) (g := gName 2) (vs := [2]) (t := tYes) (te := tOp (rInU A.K) (tVar 2) (tFld A.K (tVar 0) "worth_of")) (fun _ => true) (fun d => dB true) (fun _ _ z => z) gm_name (ev_var (i := 1) (σ := [some x, some y, none]) rfl r1) rfl (by rw [signs_len]; omega) (fun d _ _ => rfl) fun i d v H' g hd rv => by
        obtain ⟨c, hc, rfl⟩ := signs_get hd
        have hck := hk c (List.mem_of_getElem? hc)
        refine ⟨rfl, rfl, et_yes, fun _ => (ev_op (ev_var rfl rv) (ev_worth_of T (ev_var rfl (r.mono g))) (opd_inD (k := Rl.keyOf c))).is ?_⟩
        rw [inK_map, decide_eq_true hck]
    rw [signs_all] at el
    have e2 : (row.map fun c => dB true) = (row.map fun c => true).map dB := by rw [List.map_map]; rfl
    rw [e2] at el
    refine s_retD dm (ev_andV (a := true) (b := true) (ev_cb (ea_cons (ev_var rfl r1) (ea_cons ev_c ea_nil)) (cd_isiS rfl)) fun _ => EvD.is (ev_cb (ea_cons el.frz ea_nil) cd_all) ?_) fun v H1 g r => q v H1 g r
    simp
theorem k_check_row (T : RuleT A) (B : BI mg) (k_MOST_PLACES : Kst mg "MOST_PLACES" v_MOST_PLACES) (F : DefAt A.K mg "check_row" s_check_row ["rule", "value"]) (c_is_row : Callee prog w A.K mg base "is_row" ["rule", "value"] 1 (sp_is_row A)) : Callee prog w A.K mg base "check_row" ["rule", "value"] 2 (sp_check_row A) := by
  obtain ⟨f, fd, F, hm, b⟩ := F
  refine ⟨f, fd, F.ok sc_check_row (fun vs H Q E h => ?_) (fun cdv Ar outer s H vs Q E hr h => ?_), hm, F.kp, b⟩
  · obtain ⟨R, row, _, _, _, h⟩ := h
    exact h.len
  · obtain ⟨R, row, ok, hl, hk, h⟩ := h
    obtain ⟨M, dm, rs, q⟩ := h.use
    obtain ⟨x, y, rfl, r, r1⟩ := reps2 rs
    refine ⟨_, (pss_one (ps_if (PW.pt (pw_or (pt_not (pt_val (pe_callB call_isi (by rfl) B.b_isinstance (by decide +kernel) (pa_cons (pv 1) (pa_cons (pe_bltn (v := .ty "str") rfl B.b_str (by decide +kernel) rfl) pa_nil))))) (pw_or (pt_cmpR u_gt (pe_callB u_len (by rfl) B.b_len (by decide +kernel) (pa_cons (pv 1) pa_nil)) (pe_kst k_MOST_PLACES) (nomark _)) (pw_or1 (pt_not (pt_val (pe_fn c_is_row hr (by decide) (pa_cons (pv 0) (pa_cons (pv 1) pa_nil))))))))) (pss_one ps_never) pss_nil)), ?_⟩
    refine s_if (b := false) dm ((et_or (a := false) ((et_not (et_B (ev_cb (ea_cons (ev_var rfl r1) (ea_cons ev_c ea_nil)) (cd_isiS (b := true) rfl)))).is rfl) fun _ => et_or (a := false) ((et_test (ev_op (ev_cb (ea_cons (ev_var rfl r1) ea_nil) (cd_len (n := row.length) (by show some (st row).length = _; rw [st_len]) (by omega))) ev_c opd_gt)).is (decide_eq_false (by omega))) fun _ => et_not (et_B (ev_callD (ea_cons (ev_var rfl r) (ea_cons (ev_var rfl r1) ea_nil)) (spd fun vs H1 Q E p => ⟨R, row, ok, by omega, hk, p⟩)))).is rfl) (fun e => by cases e) (fun _ H1 g => q _ H1 g (rep_s.mpr rfl))
theorem k_check_rule (B : BI mg) (I : IsT A) (g_Rule : mg "Rule" = some (.ref A.Rule)) (F : DefAt A.K mg "check_rule" s_check_rule ["value"]) : Callee prog w A.K mg base "check_rule" ["value"] 1 (sp_check_rule A) := by
  obtain ⟨f, fd, F, hm, b⟩ := F
  refine ⟨f, fd, F.ok sc_check_rule (fun vs H Q E h => ?_) (fun cdv Ar outer s H vs Q E hr h => ?_), hm, F.kp, b⟩
  · obtain ⟨R, h⟩ := h
    exact h.len
  · obtain ⟨R, h⟩ := h
    obtain ⟨M, dm, rs, q⟩ := h.use
    obtain ⟨x, rfl, r⟩ := reps1 rs
    refine ⟨_, (pss_one (ps_if (pt_not (pt_val (pe_callB call_isi (by rfl) B.b_isinstance (by decide +kernel) (pa_cons (pv 0) (pa_cons (pe_glob (v := .ref A.Rule) rfl g_Rule rfl) pa_nil))))) (pss_one ps_never) pss_nil)), ?_⟩
    exact s_if (b := false) dm ((et_not (et_B (ev_cb (ea_cons (ev_var rfl r) (ea_cons ev_c ea_nil)) (cd_isiRule I)))).is rfl) (fun e => by cases e) (fun _ H1 g => q _ H1 g (rep_s.mpr rfl))
end
end GK

namespace GK
open PySem PySem.Spec PyProof.Rows L2
/-! the rule's text -/
theorem letters_mem {c : Nat} (h : 97 ≤ c ∧ c ≤ 122) : c ∈ (("abcdefghijklmnopqrstuvwxyz" : Str)).cps.toList := by
  have e : (("abcdefghijklmnopqrstuvwxyz" : Str)).cps.toList = (List.range 26).map fun i => i + 97 := by decide +kernel
  rw [e, List.mem_map]
  exact ⟨c - 97, List.mem_range.mpr (by omega), by omega⟩
theorem digits_mem {c : Nat} (h : c ≤ 9) : 48 + c ∈ (("0123456789" : Str)).cps.toList := by
  have e : (("0123456789" : Str)).cps.toList = (List.range 10).map fun i => i + 48 := by decide +kernel
  rw [e, List.mem_map]
  exact ⟨c, List.mem_range.mpr (by omega), by omega⟩
theorem dists_mem {c : Nat} (h : 1 ≤ c ∧ c ≤ 5) : 48 + c ∈ (("12345" : Str)).cps.toList := by
  have e : (("12345" : Str)).cps.toList = (List.range 5).map fun i => i + 49 := by decide +kernel
  rw [e, List.mem_map]
  exact ⟨c - 1, List.mem_range.mpr (by omega), by omega⟩
def sg (j : Nat) : D → Nat
  | .s (.str z) => z.cps.toList.getD j 0
  | _ => 0
theorem sg_st (j : Nat) (l : List Nat) : sg j (dS (st l)) = l.getD j 0 := by
  show (st l).cps.toList.getD j 0 = _
  rw [st_cps]
theorem kw_first : ∀ {ks ws : List Nat}, ws.length = ks.length → (List.zipWith Rl.kword ks ws).map (fun l => l.getD 0 0) = ks
  | [], _, _ => by simp
  | k :: ks, [], h => by simp at h
  | k :: ks, w :: ws, h => by
    rw [List.zipWith_cons_cons, List.map_cons, kw_first (by simpa using h)]
    rfl
theorem kw_second : ∀ {ks ws : List Nat}, ws.length = ks.length → (List.zipWith Rl.kword ks ws).map (fun l => l.getD 1 0 - 48) = ws
  | [], [], _ => by simp
  | [], w :: ws, h => by simp at h
  | k :: ks, [], h => by simp at h
  | k :: ks, w :: ws, h => by
    rw [List.zipWith_cons_cons, List.map_cons, kw_second (by simpa using h)]
    show (48 + w - 48) :: ws = w :: ws
    rw [Nat.add_sub_cancel_left]
theorem kw_mem {ks ws : List Nat} {x : List Nat} (h : x ∈ List.zipWith Rl.kword ks ws) : ∃ k ∈ ks, ∃ w ∈ ws, x = [k, 48 + w] := by
  induction ks generalizing ws with
  | nil => simp at h
  | cons k ks ih =>
    cases ws with
    | nil => simp at h
    | cons w ws =>
      rw [List.zipWith_cons_cons, List.mem_cons] at h
      rcases h with rfl | h
      · exact ⟨k, List.mem_cons_self, w, List.mem_cons_self, rfl⟩
      · obtain ⟨k', h1, w', h2, e⟩ := ih h
        exact ⟨k', List.mem_cons_of_mem _ h1, w', List.mem_cons_of_mem _ h2, e⟩
theorem kw_len {ks ws : List Nat} (h : ws.length = ks.length) : (List.zipWith Rl.kword ks ws).length = ks.length := by rw [List.length_zipWith, h, Nat.min_self]
theorem joinL_one (l : List Nat) : TL.joinL [] (l.map fun c => [c]) = l := by
  induction l with
  | nil => rfl
  | cons a l ih =>
    cases l with
    | nil => rfl
    | cons b l =>
      show [a] ++ ([] ++ TL.joinL [] ((b :: l).map fun c => [c])) = _
      rw [ih]
      rfl
theorem sum_le {ps : List (List Nat)} {k : Nat} (h : ∀ p ∈ ps, p.length ≤ k) : (ps.map List.length).sum ≤ ps.length * k := by
  induction ps with
  | nil => simp
  | cons p ps ih =>
    have h1 := h p List.mem_cons_self
    have h2 := ih fun q hq => h q (List.mem_cons_of_mem _ hq)
    rw [List.map_cons, List.sum_cons, List.length_cons, Nat.succ_mul]
    omega
theorem Rl.Ok.kwordMem {R : Rl} (ok : R.Ok) {x : List Nat} (h : x ∈ R.kwords) : ∃ k w, 97 ≤ k ∧ k ≤ 122 ∧ w ≤ 9 ∧ x = [k, 48 + w] := by
  obtain ⟨k, hk, w, hw, e⟩ := kw_mem h
  exact ⟨k, w, (ok.az k hk).1, (ok.az k hk).2, ok.w9 w hw, e⟩
theorem Rl.Ok.len1 {R : Rl} (ok : R.Ok) : R.line1.length ≤ 1000 := by
  have h := joinL_len [32] (Rl.wKinds :: R.kwords)
  have h2 : ((Rl.wKinds :: R.kwords).map List.length).sum ≤ (Rl.wKinds :: R.kwords).length * 5 := sum_le fun p hp => by
    rw [List.mem_cons] at hp
    rcases hp with rfl | hp
    · decide
    · obtain ⟨k, w, _, _, _, rfl⟩ := ok.kwordMem hp
      simp
  have h3 : R.kwords.length = R.kinds.length := kw_len ok.lw
  have h4 := ok.l4
  unfold Rl.line1
  simp only [List.length_cons, List.length_nil] at h h2 ⊢
  omega
theorem Rl.Ok.len2 {R : Rl} (ok : R.Ok) : R.line2.length ≤ 1000 := by
  have h := joinL_len [32] (Rl.wBars :: R.bwords)
  have h2 : ((Rl.wBars :: R.bwords).map List.length).sum ≤ (Rl.wBars :: R.bwords).length * 4 := sum_le fun p hp => by
    rw [List.mem_cons] at hp
    rcases hp with rfl | hp
    · decide
    · unfold Rl.bwords at hp
      rw [List.mem_map] at hp
      obtain ⟨b, _, rfl⟩ := hp
      simp [Rl.bword]
  have h3 : R.bwords.length = R.bars.length := by unfold Rl.bwords; rw [List.length_map]
  have h4 := ok.b40
  unfold Rl.line2
  simp only [List.length_cons, List.length_nil] at h h2 ⊢
  omega
def sp_is_rising (A : Ad) : Sp := fun vs H Q _ => ∃ (d : D) (es : List Str), lenD d = some es.length ∧ es.length ≤ 100000 ∧ (∀ (m : Md) (H : Hp) (i : Nat) (e : Str), es[i]? = some e → OpD m A.K (rIxU A.K) d (dI (i : Int)) H (dS e)) ∧
  es.Pairwise (fun a b => a.cps.toList < b.cps.toList) ∧ Pd A.K vs H Q [d] (dB true)
def sp_is_kind_word (A : Ad) : Sp := fun vs H Q _ => ∃ c w : Nat, 97 ≤ c ∧ c ≤ 122 ∧ w ≤ 9 ∧ Pd A.K vs H Q [dS (st [c, 48 + w])] (dB true)
def sp_is_bar (A : Ad) : Sp := fun vs H Q _ => ∃ (ks : List Nat) (b : Nat × Nat × Nat), b.1 ∈ ks ∧ b.2.1 ∈ ks ∧ 1 ≤ b.2.2 ∧ b.2.2 ≤ 5 ∧ Pd A.K vs H Q [dS (st ks), dS (st (Rl.bword b))] (dB true)
def sp_words_behind (A : Ad) : Sp := fun vs H Q _ => ∃ (h : List Nat) (ws : List (List Nat)), (∀ p ∈ h :: ws, 32 ∉ p) ∧ (TL.joinL [32] (h :: ws)).length ≤ 1000 ∧ Pd A.K vs H Q [dS (st (TL.joinL [32] (h :: ws))), dS (st h)] (.l (ws.map fun w => dS (st w)))
def sp_read_kinds (A : Ad) : Sp := fun vs H Q _ => ∃ R : Rl, R.Ok ∧ Pd A.K vs H Q [dS (st R.line1)] (.t [dS (st R.kinds), .t (R.worths.map fun (w : Nat) => dI (w : Int))])
def sp_read_bars (A : Ad) : Sp := fun vs H Q _ => ∃ R : Rl, R.Ok ∧ Pd A.K vs H Q [dS (st R.kinds), dS (st R.line2)] (.t (R.bars.map fun b => dS (st (Rl.bword b))))
def sp_read_text (A : Ad) : Sp := fun vs H Q _ => ∃ R : Rl, R.Ok ∧ Pd A.K vs H Q [dS (st R.text)] (.t [dS (st R.kinds), .t (R.worths.map fun (w : Nat) => dI (w : Int)), .t (R.bars.map fun b => dS (st (Rl.bword b)))])
section
variable {prog : Program} {w : World} {mg : Str → Option Value} {base : Heap} {A : Ad}
theorem k_is_rising (B : BI mg) (F : DefAt A.K mg "is_rising" s_is_rising ["words"]) : Callee prog w A.K mg base "is_rising" ["words"] 1 (sp_is_rising A) := by
  obtain ⟨f, fd, F, hm, b⟩ := F
  refine ⟨f, fd, F.ok sc_is_rising (fun vs H Q E h => ?_) (fun cdv Ar outer s H vs Q E hr h => ?_), hm, F.kp, b⟩
  · obtain ⟨d, es, _, _, _, _, h⟩ := h
    exact h.len
  · obtain ⟨d, es, hl, hz, hix, hp, h⟩ := h
    obtain ⟨M, dm, rs, q⟩ := h.use
    obtain ⟨x, rfl, r⟩ := reps1 rs
    refine ⟨_, (pss_one (ps_ret (pe_callB (cr_all rfl) (by rfl) B.b_all (by decide +kernel) (pa_cons (pe_lc (own := [("place", 1)]) (g := (gName 1)) (tt := tYes) (te := (tOp rLtU (tOp (rIxU A.K) (tVar 0) (tVar 1)) (tOp (rIxU A.K) (tVar 0) (tOp rAddU (tVar 1) (tC (.int 1)))))) rfl sc_is_rising.nd (pi_range1 rfl B.b_range (pa_cons (pe_op u_sub (pe_callB u_len (by rfl) B.b_len (by decide +kernel) (pa_cons (pv 0) pa_nil)) pe_int) pa_nil)) (blkOk_by (own := [("place", 1)]) (N := ["words", "place"]) (sc := defScope s_is_rising) (by decide +kernel))  (fun _ _ _ _ _ => (pg_name (i := 1) sc_is_rising.nd rfl (Or.inl rfl))) (fun _ _ _ _ _ => pts_nil) (fun _ _ _ _ _ => (pe_cmpR u_lt (pe_ix (ix_uni (hu_of hr)) (pv 0) (pv 1) (fun _ _ => rfl)) (pe_ix (ix_uni (hu_of hr)) (pv 0) (pe_op u_add (pv 1) pe_int) (fun _ _ => rfl)) (nomark _)))) pa_nil)))), ?_⟩
    have el : EvL (Md.pure M) A.K _ [some x, none] H (((nats ((es.length : Int) - 1).toNat).filter fun _ => true).map fun d => dB true) :=
      ev_lcR (m := Md.pure M) (K := A.K) (g := gName 1) (vs := [1]) (t := tYes) (te := tOp rLtU (tOp (rIxU A.K) (tVar 0) (tVar 1)) (tOp (rIxU A.K) (tVar 0) (tOp rAddU (tVar 1) (tC (.int 1))))) (fun _ => true) (fun d => dB true) (fun _ _ z => z) gm_name
        (ea_cons (ev_op (ev_cb (ea_cons (ev_var (i := 0) (σ := [some x, none]) rfl r) ea_nil) (cd_len hl (by omega))) ev_c opd_sub) ea_nil) (by omega) (by omega) (fun d _ _ => rfl) fun i H' g hi => by
        have h1 : i < es.length := by omega
        have h2 : i + 1 < es.length := by omega
        refine ⟨rfl, rfl, et_yes, fun _ => (ev_op (ev_op (ev_var rfl (r.mono g)) (ev_vs rfl) (hix _ _ i _ (List.getElem?_eq_getElem h1))) (ev_op (ev_var rfl (r.mono g)) ((ev_op (ev_vs rfl) ev_c opd_addI).is (d' := dI ((i + 1 : Nat) : Int)) rfl) (hix _ _ (i + 1) _ (List.getElem?_eq_getElem h2))) opd_ltS).is ?_⟩
        rw [decide_eq_true (List.pairwise_iff_getElem.mp hp i (i + 1) h1 h2 (by omega))]
    rw [nats_all] at el
    have e2 : ((List.range ((es.length : Int) - 1).toNat).map fun (i : Nat) => dB true) = ((List.range ((es.length : Int) - 1).toNat).map fun _ => true).map dB := by rw [List.map_map]; rfl
    rw [e2] at el
    refine s_retD dm (EvD.is (ev_cb (ea_cons el.frz ea_nil) cd_all) (d' := dB true) ?_) fun v H1 g r => q v H1 g r
    simp
theorem k_is_kind_word (B : BI mg) (k_LETTERS : Kst mg "LETTERS" v_LETTERS) (k_DIGITS : Kst mg "DIGITS" v_DIGITS) (F : DefAt A.K mg "is_kind_word" s_is_kind_word ["word"]) : Callee prog w A.K mg base "is_kind_word" ["word"] 1 (sp_is_kind_word A) := by
  obtain ⟨f, fd, F, hm, b⟩ := F
  refine ⟨f, fd, F.ok sc_is_kind_word (fun vs H Q E h => ?_) (fun cdv Ar outer s H vs Q E hr h => ?_), hm, F.kp, b⟩
  · obtain ⟨c, w, _, _, _, h⟩ := h
    exact h.len
  · obtain ⟨c, w, h1, h2, h3, h⟩ := h
    obtain ⟨M, dm, rs, q⟩ := h.use
    obtain ⟨x, rfl, r⟩ := reps1 rs
    refine ⟨_, (pss_one (ps_ret (pe_and (pe_cmpR (u_eq hr.units) (pe_callB u_len (by rfl) B.b_len (by decide +kernel) (pa_cons (pv 0) pa_nil)) pe_int (nomark _)) (pe_and (pe_cmpR (u_in (hu_of hr)) (pe_ix (ix_uni (hu_of hr)) (pv 0) pe_int (fun _ _ => rfl)) (pe_kst k_LETTERS) (by rfl)) (pe_one (pe_cmpR (u_in (hu_of hr)) (pe_ix (ix_uni (hu_of hr)) (pv 0) pe_int (fun _ _ => rfl)) (pe_kst k_DIGITS) (by rfl))))))), ?_⟩
    refine s_retD dm (ev_andV (a := true) (b := true) ((ev_op (ev_cb (ea_cons (ev_var rfl r) ea_nil) (cd_len (n := 2) rfl (by omega))) ev_c (opd_eq rfl)).is rfl) fun _ => ev_andV (a := true) (b := true) ((ev_op (ev_op (ev_var rfl r) ev_c (opd_ixS (c := c) (Evl.sz_of (by simp [st_len, Rl.bword])) rfl)) ev_c opd_inC).is ?_) fun _ => (ev_op (ev_op (ev_var rfl r) ev_c (opd_ixS (c := 48 + w) (Evl.sz_of (by simp [st_len, Rl.bword])) rfl)) ev_c opd_inC).is ?_) fun v H1 g r => q v H1 g r
    · rw [decide_eq_true (letters_mem ⟨h1, h2⟩)]
    · rw [decide_eq_true (digits_mem h3)]
theorem k_is_bar (B : BI mg) (k_DISTANCES : Kst mg "DISTANCES" v_DISTANCES) (F : DefAt A.K mg "is_bar" s_is_bar ["kinds", "value"]) : Callee prog w A.K mg base "is_bar" ["kinds", "value"] 1 (sp_is_bar A) := by
  obtain ⟨f, fd, F, hm, b⟩ := F
  refine ⟨f, fd, F.ok sc_is_bar (fun vs H Q E h => ?_) (fun cdv Ar outer s H vs Q E hr h => ?_), hm, F.kp, b⟩
  · obtain ⟨ks, b, _, _, _, _, h⟩ := h
    exact h.len
  · obtain ⟨ks, bb, h1, h2, h3, h4, h⟩ := h
    obtain ⟨M, dm, rs, q⟩ := h.use
    obtain ⟨x, y, rfl, r, r1⟩ := reps2 rs
    refine ⟨_, (pss_cons (ps_if (PW.pt (pw_or (pt_not (pt_val (pe_callB call_isi (by rfl) B.b_isinstance (by decide +kernel) (pa_cons (pv 1) (pa_cons (pe_bltn (v := .ty "str") rfl B.b_str (by decide +kernel) rfl) pa_nil))))) (pw_or1 (pt_cmpR (u_ne hr.units) (pe_callB u_len (by rfl) B.b_len (by decide +kernel) (pa_cons (pv 1) pa_nil)) pe_int (nomark _))))) (pss_one (ps_ret pe_bl)) pss_nil) (pss_one (ps_ret (pe_and (pe_cmpR (u_in (hu_of hr)) (pe_ix (ix_uni (hu_of hr)) (pv 1) pe_int (fun _ _ => rfl)) (pv 0) (by rfl)) (pe_and (pe_cmpR (u_in (hu_of hr)) (pe_ix (ix_uni (hu_of hr)) (pv 1) pe_int (fun _ _ => rfl)) (pv 0) (by rfl)) (pe_one (pe_cmpR (u_in (hu_of hr)) (pe_ix (ix_uni (hu_of hr)) (pv 1) pe_int (fun _ _ => rfl)) (pe_kst k_DISTANCES) (by rfl)))))))), ?_⟩
    refine sq (s_if (b := false) dm ((et_or (a := false) (b := false) ((et_not (et_B (ev_cb (ea_cons (ev_var rfl r1) (ea_cons ev_c ea_nil)) (cd_isiS (b := true) rfl)))).is rfl) fun _ => (et_test (ev_op (ev_cb (ea_cons (ev_var rfl r1) ea_nil) (cd_len (n := 3) rfl (by omega))) ev_c (opd_ne rfl))).is rfl)) (fun e => by cases e) fun _ H1 g => ?_)
    refine s_retD g.dm (ev_andV (a := true) (b := true) ((ev_op (ev_op (ev_var rfl (r1.mono g)) ev_c (opd_ixS (c := bb.1) (Evl.sz_of (by simp [st_len, Rl.bword])) rfl)) (ev_var rfl (r.mono g)) opd_inC).is ?_) fun _ => ev_andV (a := true) (b := true) ((ev_op (ev_op (ev_var rfl (r1.mono g)) ev_c (opd_ixS (c := bb.2.1) (Evl.sz_of (by simp [st_len, Rl.bword])) rfl)) (ev_var rfl (r.mono g)) opd_inC).is ?_) fun _ => (ev_op (ev_op (ev_var rfl (r1.mono g)) ev_c (opd_ixS (c := 48 + bb.2.2) (Evl.sz_of (by simp [st_len, Rl.bword])) rfl)) ev_c opd_inC).is ?_) fun v H2 g2 r => q v H2 (g.trans g2) r
    · rw [st_cps, decide_eq_true h1]
    · rw [st_cps, decide_eq_true h2]
    · rw [decide_eq_true (dists_mem ⟨h3, h4⟩)]
theorem k_words_behind (F : DefAt A.K mg "words_behind" s_words_behind ["line", "head"]) : Callee prog w A.K mg base "words_behind" ["line", "head"] 1 (sp_words_behind A) := by
  obtain ⟨f, fd, F, hm, b⟩ := F
  refine ⟨f, fd, F.ok sc_words_behind (fun vs H Q E h => ?_) (fun cdv Ar outer s H vs Q E hr h => ?_), hm, F.kp, b⟩
  · obtain ⟨h0, ws, _, _, h⟩ := h
    exact h.len
  · obtain ⟨h0, ws, hn, hl, h⟩ := h
    obtain ⟨M, dm, rs, q⟩ := h.use
    obtain ⟨x, y, rfl, r, r1⟩ := reps2 rs
    refine ⟨_, (pss_cons (ps_set (i := 2) sc_words_behind.nd rfl (Or.inl rfl) (pe_split (pv 0) pe_str)) (pss_one (ps_ret (pe_ifExp (pt_cmpR (u_eq hr.units) (pe_ix (ix_uni (hu_of hr)) (pv 2) pe_int (fun _ _ => rfl)) (pv 1) (nomark _)) (pe_slice sl_uni (pv 2) (po_some pe_int) po_none) pe_non)))), ?_⟩
    have e : Txt.split (st (TL.joinL [32] (h0 :: ws))) (st [32]) = (h0 :: ws).map st := st_split (by decide) (by simp) hn
    refine sq (s_asg dm ((ev_split (b := st [32]) (ev_var rfl r) ev_c rfl (by rw [st_len]; exact Evl.sz_of (by omega))).frz) fun v H1 g rv => ?_)
    rw [e] at rv
    refine s_retD g.dm (ev_ifD (b := true) ((et_test (ev_op (ev_op (ev_var rfl rv) ev_c (opd_ixL (d := dS (st h0)) (atI_nat (j := 0) rfl rfl))) (ev_var rfl (r1.mono g)) (opd_eq rfl))).is (by simp)) (fun _ => ev_sl (ev_var rfl rv) (eo_some (K := A.K) ev_c) eo_none sld_list) (fun e => by cases e)) fun v H2 g2 r => q v H2 (g.trans g2) ?_
    have e3 : cutD (((h0 :: ws).map st).map dS) (some 1) none = ws.map fun w => dS (st w) := by
      unfold cutD
      simp [HT.sIx]
      rw [List.take_of_length_le (by simp)]
      rfl
    rw [e3] at r
    exact r
theorem k_read_kinds (B : BI mg) (k_MOST_KINDS : Kst mg "MOST_KINDS" v_MOST_KINDS) (F : DefAt A.K mg "read_kinds" s_read_kinds ["line"]) (c_is_rising : Callee prog w A.K mg base "is_rising" ["words"] 1 (sp_is_rising A)) (c_is_kind_word : Callee prog w A.K mg base "is_kind_word" ["word"] 1 (sp_is_kind_word A))
    (c_words_behind : Callee prog w A.K mg base "words_behind" ["line", "head"] 1 (sp_words_behind A)) : Callee prog w A.K mg base "read_kinds" ["line"] 2 (sp_read_kinds A) := by
  obtain ⟨f, fd, F, hm, b⟩ := F
  refine ⟨f, fd, F.ok sc_read_kinds (fun vs H Q E h => ?_) (fun cdv Ar outer s H vs Q E hr h => ?_), hm, F.kp, b⟩
  · obtain ⟨R, _, h⟩ := h
    exact h.len
  · obtain ⟨R, ok, h⟩ := h
    obtain ⟨M, dm, rs, q⟩ := h.use
    obtain ⟨x, rfl, r⟩ := reps1 rs
    refine ⟨_, (pss_cons (ps_set (i := 1) sc_read_kinds.nd rfl (Or.inl rfl) (pe_fn c_words_behind hr (by decide) (pa_cons (pv 0) (pa_cons pe_str pa_nil)))) (pss_cons (ps_if (PW.pt (pw_or (pt_cmpR u_is (pv 1) pe_non (nomark _)) (pw_or (pt_not (pt_chain u_le u_le pe_int (pe_callB u_len (by rfl) B.b_len (by decide +kernel) (pa_cons (pv 1) pa_nil)) (pe_kst k_MOST_KINDS))) (pw_or1 (pt_not (pt_val (pe_callB (cr_all rfl) (by rfl) B.b_all (by decide +kernel) (pa_cons (pe_lc (own := [("word", 3)]) (g := (gName 3)) (tt := tYes) (te := (tCall (sp_is_kind_word A) [] E0 (tCons (tVar 3) tNil))) rfl sc_read_kinds.nd (pi_any (pv 1)) (blkOk_by (own := [("word", 3)]) (N := ["line", "words", "kinds", "word"]) (sc := defScope s_read_kinds) (by decide +kernel))  (fun _ _ _ _ _ => (pg_name (i := 3) sc_read_kinds.nd rfl (Or.inl rfl))) (fun _ _ _ _ _ => pts_nil) (fun _ _ _ _ _ => (pe_fn c_is_kind_word hr (by decide) (pa_cons (pv 3) pa_nil)))) pa_nil)))))))) (pss_one (ps_ret pe_non)) pss_nil) (pss_cons (ps_set (i := 2) sc_read_kinds.nd rfl (Or.inl rfl) (pe_join pe_str (pe_lc (own := [("word", 3)]) (g := (gName 3)) (tt := tYes) (te := (tOp (rIxU A.K) (tVar 3) (tC (.int 0)))) rfl sc_read_kinds.nd (pi_any (pv 1)) (blkOk_by (own := [("word", 3)]) (N := ["line", "words", "kinds", "word"]) (sc := defScope s_read_kinds) (by decide +kernel))  (fun _ _ _ _ _ => (pg_name (i := 3) sc_read_kinds.nd rfl (Or.inl rfl))) (fun _ _ _ _ _ => pts_nil) (fun _ _ _ _ _ => (pe_ix (ix_uni (hu_of hr)) (pv 3) pe_int (fun _ _ => rfl)))))) (pss_one (ps_ret (pe_ifExp (pt_val (pe_fn c_is_rising hr (by decide) (pa_cons (pv 2) pa_nil))) (pe_tup (pa_cons (pv 2) (pa_cons (pe_callTy u_tuple (by rfl) B.b_tuple (by decide +kernel) (pa_cons (pe_lc (own := [("word", 3)]) (g := (gName 3)) (tt := tYes) (te := (tCB rIntU (tCons (tOp (rIxU A.K) (tVar 3) (tC (.int 1))) tNil))) rfl sc_read_kinds.nd (pi_any (pv 1)) (blkOk_by (own := [("word", 3)]) (N := ["line", "words", "kinds", "word"]) (sc := defScope s_read_kinds) (by decide +kernel))  (fun _ _ _ _ _ => (pg_name (i := 3) sc_read_kinds.nd rfl (Or.inl rfl))) (fun _ _ _ _ _ => pts_nil) (fun _ _ _ _ _ => (pe_callTy u_int (by rfl) B.b_int (by decide +kernel) (pa_cons (pe_ix (ix_uni (hu_of hr)) (pv 3) pe_int (fun _ _ => rfl)) pa_nil)))) pa_nil)) pa_nil))) pe_non)))))), ?_⟩
    have hkw : R.kwords.length = R.kinds.length := kw_len ok.lw
    have l1 := ok.l1
    have l4 := ok.l4
    refine sq (s_asg dm (ev_callD (ea_cons (ev_var rfl r) (ea_cons ev_c ea_nil)) (spd fun vs H1 Q E p => ⟨Rl.wKinds, R.kwords, fun p hp => ?_, ok.len1, p⟩)) fun v H1 g rv => ?_)
    · rw [List.mem_cons] at hp
      rcases hp with rfl | hp
      · decide
      · obtain ⟨k, w, h1, h2, h3, rfl⟩ := ok.kwordMem hp
        simp
        omega
    have rlen : ∀ s : L2.St, s = [some x, some v, none, none] → EvD (Md.pure M) A.K (tCB (rLenU A.K) (tCons (tVar 1) tNil)) s H1 (dI (R.kinds.length : Int)) := fun s e => by
      subst e
      exact ev_cb (ea_cons (ev_var rfl rv) ea_nil) (cd_len (by show some (R.kwords.map _).length = _; rw [List.length_map, hkw]) (by omega))
    have eall : ∀ s : L2.St, s = [some x, some v, none, none] → EvL (Md.pure M) A.K (tLc (iAny A.K (tVar 1)) (gName 3) tYes (tCall (sp_is_kind_word A) [] E0 (tCons (tVar 3) tNil)) [3]) s H1 ((R.kwords.map fun w => dS (st w)).map fun d => dB true) := fun s e => by
      subst e
      rw [← filter_true (R.kwords.map fun w => dS (st w))]
      refine ev_lc (fun _ => true) (fun d => dB true) (fun _ _ z => z) gm_name (ev_var rfl rv) rfl (by rw [List.length_map]; omega) (fun d _ _ => rfl) fun i d y H' g2 hd ry => ?_
      obtain ⟨wd, hw, rfl⟩ := map_get hd
      obtain ⟨k, w', h1, h2, h3, rfl⟩ := ok.kwordMem (List.mem_of_getElem? hw)
      exact ⟨rfl, rfl, et_yes, fun _ => ev_callD (ea_cons (ev_var rfl ry) ea_nil) (spd fun vs H1 Q E p => ⟨k, w', h1, h2, h3, p⟩)⟩
    refine sq (s_if (b := false) g.dm ((et_or (a := false) (b := false) ((et_test (ev_op (ev_var rfl rv) ev_c opd_is)).is rfl) fun _ => et_or (a := false) (b := false) ((et_not (et_test (ev_chain (a := true) (b := true) ev_c (rlen _ rfl) (fun _ => ev_c) (opd_le.is ?_) (fun _ => opd_le.is ?_)))).is rfl) fun _ => (et_not (et_B (ev_cb (ea_cons (eall _ rfl).frz ea_nil) cd_allT))).is (by rfl))) (fun e => by cases e) fun _ H2 g2 => ?_)
    · rw [decide_eq_true (by omega)]
    · rw [decide_eq_true (by show (R.kinds.length : Int) ≤ 4; omega)]
    refine sq (s_asg g2.dm (ev_join (a := st []) (ys := R.kinds.map fun c => st [c]) ev_c ?_ ?_) fun v3 H3 g3 r3 => ?_)
    · refine ((ev_lc (fun _ => true) (fun d => dS (st [sg 0 d])) (fun _ _ z => z) gm_name (ev_var rfl (rv.mono g2)) rfl (by rw [List.length_map]; omega) (fun d _ _ => rfl) fun i d y H' g2 hd ry => ?_).is ?_).frz
      · obtain ⟨wd, hw, rfl⟩ := map_get hd
        obtain ⟨k, w', h1, h2, h3, rfl⟩ := ok.kwordMem (List.mem_of_getElem? hw)
        exact ⟨rfl, rfl, et_yes, fun _ => (ev_op (ev_var rfl ry) ev_c (opd_ixS (c := k) (Evl.sz_of (by simp [st_len])) rfl))⟩
      · rw [filter_true, List.map_map, List.map_map]
        conv => rhs; rw [← kw_first ok.lw]
        rw [List.map_map]
        exact List.map_congr_left fun x _ => by
          show dS (st [sg 0 (dS (st x))]) = _
          rw [sg_st]
          rfl
    · rw [List.map_map, List.length_map]
      have e : R.kinds.map ((fun z : Str => z.length) ∘ fun c => st [c]) = R.kinds.map fun _ => 1 := List.map_congr_left fun x _ => st_len [x]
      rw [e]
      simp only [List.map_const', List.sum_replicate_nat, st_len, List.length_nil]
      omega
    have e3 : Txt.join (st []) (R.kinds.map fun c => st [c]) = st R.kinds := by
      have := st_join [] (R.kinds.map fun c => [c])
      rw [List.map_map, joinL_one] at this
      exact this
    rw [e3] at r3
    have g23 := g2.trans g3
    have etup : EvD (Md.pure M) A.K (tTup (tCons (tVar 2) (tCons (tCB (rTupleU A.K) (tCons (tLc (iAny A.K (tVar 1)) (gName 3) tYes (tCB rIntU (tCons (tOp (rIxU A.K) (tVar 3) (tC (.int 1))) tNil)) [3]) tNil)) tNil))) [some x, some v, some v3, none] H3 (.t [dS (st R.kinds), .t (R.worths.map fun (w : Nat) => dI (w : Int))]) := by
      refine ev_tup (ea_cons (ev_var rfl r3) (ea_cons (ev_cb (ea_cons ((ev_lc (fun _ => true) (fun d => dI ((sg 1 d - 48 : Nat) : Int)) (fun _ _ z => z) gm_name (ev_var rfl (rv.mono g23)) rfl (by rw [List.length_map]; omega) (fun d _ _ => rfl) fun i d y H' g4 hd ry => ?_).is ?_).frz ea_nil) cd_tupleL) ea_nil)) (by simp)
      · obtain ⟨wd, hw, rfl⟩ := map_get hd
        obtain ⟨k, w', h1, h2, h3, rfl⟩ := ok.kwordMem (List.mem_of_getElem? hw)
        refine ⟨rfl, rfl, et_yes, fun _ => (ev_cb (ea_cons (ev_op (ev_var rfl ry) ev_c (opd_ixS (c := 48 + w') (Evl.sz_of (by simp [st_len])) rfl)) ea_nil) (cd_intS (digit_int h3) (by show (st [48 + w']).length ≤ 640; rw [st_len]; simp))).is ?_⟩
        show dI (w' : Int) = dI ((sg 1 (dS (st [k, 48 + w'])) - 48 : Nat) : Int)
        rw [sg_st]
        show dI (w' : Int) = dI ((48 + w' - 48 : Nat) : Int)
        rw [Nat.add_sub_cancel_left]
      · rw [filter_true, List.map_map]
        conv => rhs; rw [← kw_second ok.lw]
        rw [List.map_map]
        exact List.map_congr_left fun x _ => by
          show dI ((sg 1 (dS (st x)) - 48 : Nat) : Int) = _
          rw [sg_st]
          rfl
    refine s_retD g3.dm (ev_ifD (b := true) (et_B (ev_callD (ea_cons (ev_var rfl r3) ea_nil) (spd fun vs H1 Q E p => ⟨dS (st R.kinds), R.kinds.map fun c => st [c], ?_, ?_, ?_, ?_, p⟩))) (fun _ => etup) (fun e => by cases e)) fun v H4 g4 r4 => q v H4 (((g.trans g2).trans g3).trans g4) r4
    · show some (st R.kinds).length = _
      rw [st_len, List.length_map]
    · rw [List.length_map]
      omega
    · intro m H i e he
      obtain ⟨c, hc, rfl⟩ := map_get he
      exact opd_ixS (c := c) (by rw [st_len]; exact Evl.sz_of (by omega)) (by rw [st_cps]; exact atI_nat rfl hc)
    · rw [List.pairwise_map]
      refine ok.up.imp fun {a b} hab => ?_
      rw [st_cps, st_cps]
      exact List.cons_lt_cons_iff.mpr (.inl hab)
theorem Rl.Ok.bwordMem {R : Rl} (ok : R.Ok) {x : List Nat} (h : x ∈ R.bwords) : ∃ b ∈ R.bars, x = Rl.bword b := by
  unfold Rl.bwords at h
  rw [List.mem_map] at h
  obtain ⟨b, hb, e⟩ := h
  exact ⟨b, hb, e.symm⟩
theorem k_read_bars (B : BI mg) (k_MOST_BARS : Kst mg "MOST_BARS" v_MOST_BARS) (F : DefAt A.K mg "read_bars" s_read_bars ["kinds", "line"]) (c_is_rising : Callee prog w A.K mg base "is_rising" ["words"] 1 (sp_is_rising A)) (c_is_bar : Callee prog w A.K mg base "is_bar" ["kinds", "value"] 1 (sp_is_bar A))
    (c_words_behind : Callee prog w A.K mg base "words_behind" ["line", "head"] 1 (sp_words_behind A)) : Callee prog w A.K mg base "read_bars" ["kinds", "line"] 2 (sp_read_bars A) := by
  obtain ⟨f, fd, F, hm, b⟩ := F
  refine ⟨f, fd, F.ok sc_read_bars (fun vs H Q E h => ?_) (fun cdv Ar outer s H vs Q E hr h => ?_), hm, F.kp, b⟩
  · obtain ⟨R, _, h⟩ := h
    exact h.len
  · obtain ⟨R, ok, h⟩ := h
    obtain ⟨M, dm, rs, q⟩ := h.use
    obtain ⟨x, y, rfl, r, r1⟩ := reps2 rs
    refine ⟨_, (pss_cons (ps_set (i := 2) sc_read_bars.nd rfl (Or.inl rfl) (pe_fn c_words_behind hr (by decide) (pa_cons (pv 1) (pa_cons pe_str pa_nil)))) (pss_cons (ps_if (PW.pt (pw_or (pt_cmpR u_is (pv 2) pe_non (nomark _)) (pw_or (pt_cmpR u_gt (pe_callB u_len (by rfl) B.b_len (by decide +kernel) (pa_cons (pv 2) pa_nil)) (pe_kst k_MOST_BARS) (nomark _)) (pw_or1 (pt_not (pt_val (pe_callB (cr_all rfl) (by rfl) B.b_all (by decide +kernel) (pa_cons (pe_lc (own := [("word", 3)]) (g := (gName 3)) (tt := tYes) (te := (tCall (sp_is_bar A) [] E0 (tCons (tVar 0) (tCons (tVar 3) tNil)))) rfl sc_read_bars.nd (pi_any (pv 2)) (blkOk_by (own := [("word", 3)]) (N := ["kinds", "line", "words", "word"]) (sc := defScope s_read_bars) (by decide +kernel))  (fun _ _ _ _ _ => (pg_name (i := 3) sc_read_bars.nd rfl (Or.inl rfl))) (fun _ _ _ _ _ => pts_nil) (fun _ _ _ _ _ => (pe_fn c_is_bar hr (by decide) (pa_cons (pv 0) (pa_cons (pv 3) pa_nil))))) pa_nil)))))))) (pss_one (ps_ret pe_non)) pss_nil) (pss_one (ps_ret (pe_ifExp (pt_val (pe_fn c_is_rising hr (by decide) (pa_cons (pv 2) pa_nil))) (pe_callTy u_tuple (by rfl) B.b_tuple (by decide +kernel) (pa_cons (pv 2) pa_nil)) pe_non))))), ?_⟩
    have hbw : R.bwords.length = R.bars.length := by unfold Rl.bwords; rw [List.length_map]
    have b40 := ok.b40
    refine sq (s_asg dm (ev_callD (ea_cons (ev_var rfl r1) (ea_cons ev_c ea_nil)) (spd fun vs H1 Q E p => ⟨Rl.wBars, R.bwords, fun p hp => ?_, ok.len2, p⟩)) fun v H1 g rv => ?_)
    · rw [List.mem_cons] at hp
      rcases hp with rfl | hp
      · decide
      · obtain ⟨b, hb, rfl⟩ := ok.bwordMem hp
        obtain ⟨h1, h2, h3, h4⟩ := ok.bk b hb
        have a1 := ok.az _ h1
        have a2 := ok.az _ h2
        unfold Rl.bword
        simp
        omega
    have rlen : ∀ s : L2.St, s = [some x, some y, some v, none] → EvD (Md.pure M) A.K (tCB (rLenU A.K) (tCons (tVar 2) tNil)) s H1 (dI (R.bars.length : Int)) := fun s e => by
      subst e
      exact ev_cb (ea_cons (ev_var rfl rv) ea_nil) (cd_len (by show some (R.bwords.map _).length = _; rw [List.length_map, hbw]) (by omega))
    have eall : ∀ s : L2.St, s = [some x, some y, some v, none] → EvL (Md.pure M) A.K (tLc (iAny A.K (tVar 2)) (gName 3) tYes (tCall (sp_is_bar A) [] E0 (tCons (tVar 0) (tCons (tVar 3) tNil))) [3]) s H1 ((R.bwords.map fun w => dS (st w)).map fun d => dB true) := fun s e => by
      subst e
      rw [← filter_true (R.bwords.map fun w => dS (st w))]
      refine ev_lc (fun _ => true) (fun d => dB true) (fun _ _ z => z) gm_name (ev_var rfl rv) rfl (by rw [List.length_map]; omega) (fun d _ _ => rfl) fun i d z H' g2 hd ry => ?_
      obtain ⟨wd, hw, rfl⟩ := map_get hd
      obtain ⟨b, hb, rfl⟩ := ok.bwordMem (List.mem_of_getElem? hw)
      obtain ⟨h1, h2, h3, h4⟩ := ok.bk b hb
      exact ⟨rfl, rfl, et_yes, fun _ => ev_callD (ea_cons (ev_var rfl ((r.mono g).mono g2)) (ea_cons (ev_var rfl ry) ea_nil)) (spd fun vs H1 Q E p => ⟨R.kinds, b, h1, h2, h3, h4, p⟩)⟩
    refine sq (s_if (b := false) g.dm ((et_or (a := false) (b := false) ((et_test (ev_op (ev_var rfl rv) ev_c opd_is)).is rfl) fun _ => et_or (a := false) (b := false) ((et_test (ev_op (rlen _ rfl) ev_c opd_gt)).is ?_) fun _ => (et_not (et_B (ev_cb (ea_cons (eall _ rfl).frz ea_nil) cd_allT))).is (by rfl))) (fun e => by cases e) fun _ H2 g2 => ?_)
    · rw [decide_eq_false (by show ¬ (40 : Int) < R.bars.length; omega)]
    refine s_retD g2.dm (ev_ifD (b := true) (et_B (ev_callD (ea_cons (ev_var rfl (rv.mono g2)) ea_nil) (spd fun vs H1 Q E p => ⟨.l (R.bwords.map fun w => dS (st w)), R.bwords.map st, ?_, ?_, ?_, ?_, p⟩))) (fun _ => ev_cb (ea_cons (ev_var rfl (rv.mono g2)) ea_nil) cd_tupleL) (fun e => by cases e)) fun v H4 g4 r4 => q v H4 ((g.trans g2).trans g4) ?_
    · unfold Rl.bwords at r4
      rw [List.map_map] at r4
      exact r4
    · show some (R.bwords.map _).length = _
      rw [List.length_map, List.length_map]
    · rw [List.length_map]
      omega
    · intro m H i e he
      obtain ⟨c, hc, rfl⟩ := map_get he
      exact opd_ixL (atI_nat rfl (get_map hc))
    · rw [List.pairwise_map]
      refine List.Pairwise.imp (fun {a b} hab => ?_) ok.bu
      rw [st_cps, st_cps]
      exact hab
theorem k_read_text (B : BI mg) (F : DefAt A.K mg "read_text" s_read_text ["text"]) (c_read_kinds : Callee prog w A.K mg base "read_kinds" ["line"] 2 (sp_read_kinds A)) (c_read_bars : Callee prog w A.K mg base "read_bars" ["kinds", "line"] 2 (sp_read_bars A)) :
    Callee prog w A.K mg base "read_text" ["text"] 3 (sp_read_text A) := by
  obtain ⟨f, fd, F, hm, b⟩ := F
  refine ⟨f, fd, F.ok sc_read_text (fun vs H Q E h => ?_) (fun cdv Ar outer s H vs Q E hr h => ?_), hm, F.kp, b⟩
  · obtain ⟨R, _, h⟩ := h
    exact h.len
  · obtain ⟨R, ok, h⟩ := h
    obtain ⟨M, dm, rs, q⟩ := h.use
    obtain ⟨x, rfl, r⟩ := reps1 rs
    refine ⟨_, (pss_cons (ps_if (pt_not (pt_val (pe_callB call_isi (by rfl) B.b_isinstance (by decide +kernel) (pa_cons (pv 0) (pa_cons (pe_bltn (v := .ty "str") rfl B.b_str (by decide +kernel) rfl) pa_nil))))) (pss_one (ps_ret pe_non)) pss_nil) (pss_cons (ps_set (i := 1) sc_read_text.nd rfl (Or.inl rfl) (pe_split (pv 0) pe_str)) (pss_cons (ps_if (pt_cmpR (u_ne hr.units) (pe_callB u_len (by rfl) B.b_len (by decide +kernel) (pa_cons (pv 1) pa_nil)) pe_int (nomark _)) (pss_one (ps_ret pe_non)) pss_nil) (pss_cons (ps_set (i := 2) sc_read_text.nd rfl (Or.inl rfl) (pe_fn c_read_kinds hr (by decide) (pa_cons (pe_ix (ix_uni (hu_of hr)) (pv 1) pe_int (fun _ _ => rfl)) pa_nil))) (pss_cons (ps_if (pt_cmpR u_is (pv 2) pe_non (nomark _)) (pss_one (ps_ret pe_non)) pss_nil) (pss_cons (ps_set (i := 3) sc_read_text.nd rfl (Or.inl rfl) (pe_fn c_read_bars hr (by decide) (pa_cons (pe_ix (ix_uni (hu_of hr)) (pv 2) pe_int (fun _ _ => rfl)) (pa_cons (pe_ix (ix_uni (hu_of hr)) (pv 1) pe_int (fun _ _ => rfl)) pa_nil)))) (pss_one (ps_ret (pe_ifExp (pt_cmpR u_is (pv 3) pe_non (nomark _)) pe_non (pe_tup (pa_cons (pe_ix (ix_uni (hu_of hr)) (pv 2) pe_int (fun _ _ => rfl)) (pa_cons (pe_ix (ix_uni (hu_of hr)) (pv 2) pe_int (fun _ _ => rfl)) (pa_cons (pv 3) pa_nil))))))))))))), ?_⟩
    have l1 := ok.len1
    have l2 := ok.len2
    have eT : R.text = TL.joinL [10] [R.line1, R.line2] := by
      show _ = R.line1 ++ ([10] ++ R.line2)
      rfl
    have n10 : ∀ p ∈ [R.line1, R.line2], 10 ∉ p := by
      have nj : ∀ ps : List (List Nat), (∀ p ∈ ps, 10 ∉ p) → 10 ∉ TL.joinL [32] ps := by
        intro ps
        induction ps with
        | nil => intro _; simp [TL.joinL]
        | cons p ps ih =>
          intro hp
          have hq := ih fun z hz => hp z (List.mem_cons_of_mem _ hz)
          cases ps with
          | nil => exact hp p List.mem_cons_self
          | cons q' ps =>
            show 10 ∉ p ++ ([32] ++ TL.joinL [32] (q' :: ps))
            simp only [List.mem_append, not_or]
            exact ⟨hp p List.mem_cons_self, by decide, hq⟩
      intro p hp
      rw [List.mem_cons, List.mem_singleton] at hp
      rcases hp with rfl | rfl
      · refine nj _ fun z hz => ?_
        rw [List.mem_cons] at hz
        rcases hz with rfl | hz
        · decide
        · obtain ⟨k, w, h1, h2, h3, rfl⟩ := ok.kwordMem hz
          simp
          omega
      · refine nj _ fun z hz => ?_
        rw [List.mem_cons] at hz
        rcases hz with rfl | hz
        · decide
        · obtain ⟨b, hb, rfl⟩ := ok.bwordMem hz
          obtain ⟨h1, h2, h3, h4⟩ := ok.bk b hb
          have a1 := ok.az _ h1
          have a2 := ok.az _ h2
          unfold Rl.bword
          simp
          omega
    have es : Txt.split (st R.text) (st [10]) = [st R.line1, st R.line2] := by
      rw [eT]
      exact st_split (by decide) (by simp) n10
    have lt : R.text.length ≤ 3000 := by
      unfold Rl.text
      rw [List.length_append, List.length_cons]
      omega
    refine sq (s_if (b := false) dm ((et_not (et_B (ev_cb (ea_cons (ev_var rfl r) (ea_cons ev_c ea_nil)) (cd_isiS (b := true) rfl)))).is rfl) (fun e => by cases e) fun _ H1 g1 => ?_)
    refine sq (s_asg g1.dm ((ev_split (b := st [10]) (ev_var rfl (r.mono g1)) ev_c rfl (by rw [st_len]; exact Evl.sz_of (by omega))).frz) fun v H2 g2 rv => ?_)
    rw [es] at rv
    refine sq (s_if (b := false) g2.dm ((et_test (ev_op (ev_cb (ea_cons (ev_var rfl rv) ea_nil) (cd_len (n := 2) rfl (by omega))) ev_c (opd_ne rfl))).is rfl) (fun e => by cases e) fun _ H3 g3 => ?_)
    refine sq (s_asg g3.dm (ev_callD (ea_cons (ev_op (ev_var rfl (rv.mono g3)) ev_c (opd_ixL (d := dS (st R.line1)) (atI_nat (j := 0) rfl rfl))) ea_nil) (spd fun vs H1 Q E p => ⟨R, ok, p⟩)) fun v4 H4 g4 r4 => ?_)
    refine sq (s_if (b := false) g4.dm ((et_test (ev_op (ev_var rfl r4) ev_c opd_is)).is rfl) (fun e => by cases e) fun _ H5 g5 => ?_)
    refine sq (s_asg g5.dm (ev_callD (ea_cons (ev_op (ev_var rfl (r4.mono g5)) ev_c (opd_ixT (d := dS (st R.kinds)) (atI_nat (j := 0) rfl rfl))) (ea_cons (ev_op (ev_var rfl (((rv.mono g3).mono g4).mono g5)) ev_c (opd_ixL (d := dS (st R.line2)) (atI_nat (j := 1) rfl rfl))) ea_nil)) (spd fun vs H1 Q E p => ⟨R, ok, p⟩)) fun v6 H6 g6 r6 => ?_)
    refine s_retD g6.dm (ev_ifD (b := false) ((et_test (ev_op (ev_var rfl r6) ev_c opd_is)).is rfl) (fun e => by cases e) fun _ => ev_tup (ea_cons (ev_op (ev_var rfl ((r4.mono g5).mono g6)) ev_c (opd_ixT (d := dS (st R.kinds)) (atI_nat (j := 0) rfl rfl))) (ea_cons (ev_op (ev_var rfl ((r4.mono g5).mono g6)) ev_c (opd_ixT (atI_nat (j := 1) rfl rfl))) (ea_cons (ev_var rfl r6) ea_nil))) (by simp)) fun v H7 g7 r7 => q v H7 (((((((g1.trans g2).trans g3).trans g4).trans g5).trans g6)).trans g7) r7
end
end GK

namespace GK
open PySem PySem.Spec PyProof.Rows L2
def sp_Rule_init (A : Ad) : Sp := fun vs H Q _ => ∃ (R : Rl) (M : Addr → Prop) (p dx : Addr), R.Ok ∧ (∀ a, M a → H a ≠ none) ∧ vs = [.ref p, .str (st R.text)] ∧ H p = some (.ins A.Rule dx []) ∧ ¬ M p ∧
  ∀ H', (∀ a o, a ≠ p → H a = some o → H' a = some o) → Rep M A.K H' (ruleD A R) (.ref p) → Q .non H'
section
variable {prog : Program} {w : World} {mg : Str → Option Value} {base : Heap} {A : Ad}
theorem k_Rule_init (T : RuleT A) (B : BI mg) (F : InitAt A.K mg "Rule" A.Rule "Rule.__init__" s_Rule_init ["self", "text"] []) (c_read_text : Callee prog w A.K mg base "read_text" ["text"] 3 (sp_read_text A)) :
    CalleeC prog w A.K mg base "Rule" A.Rule ["self", "text"] 4 (sp_Rule_init A) [] := by
  obtain ⟨f, fd, ds, F, hk, hm, hv, b, b2⟩ := F
  refine ⟨f, fd, ds, F.ok sc_Rule_init (fun vs H Q E h => ?_) (fun cdv Ar outer s H vs Q E hr h => ?_), hk, hm, hv, b, b2⟩
  · obtain ⟨R, M, p, dx, _, _, rfl, _⟩ := h
    rfl
  · obtain ⟨R, M0, p, dx, ok, dm0, rfl, hp, nM, q⟩ := h
    refine ⟨_, (pss_cons (ps_set (i := 2) sc_Rule_init.nd rfl (Or.inl rfl) (pe_fn c_read_text hr (by decide) (pa_cons (pv 1) pa_nil))) (pss_cons (ps_if (pt_cmpR u_is (pv 2) pe_non (nomark _)) (pss_one ps_never) pss_nil) (pss_cons (ps_fld (pv 0) (pv 1) rfl) (pss_cons (ps_asg (pv 2) (pg_tup rfl (pgs_cons (pg_fld (pv 0)) (pgs_cons (pg_fld (pv 0)) (pgs_cons (pg_fld (pv 0)) pgs_nil))))) (pss_cons (ps_fld (pv 0) (pe_callTy u_tuple (by rfl) B.b_tuple (by decide +kernel) (pa_cons (pe_lc (own := [("bar", 7)]) (g := (gName 7)) (tt := tYes) (te := (tTup (tCons (tOp (rIxU A.K) (tVar 7) (tC (.int 0))) (tCons (tOp (rIxU A.K) (tVar 7) (tC (.int 1))) (tCons (tCB rIntU (tCons (tOp (rIxU A.K) (tVar 7) (tC (.int 2))) tNil)) tNil))))) rfl sc_Rule_init.nd (pi_any (pe_fld (pv 0) rfl)) (blkOk_by (own := [("bar", 7)]) (N := ["self", "text", "told", "first", "second", "distance", "kind", "bar"]) (sc := defScope s_Rule_init) (by decide +kernel))  (fun _ _ _ _ _ => (pg_name (i := 7) sc_Rule_init.nd rfl (Or.inl rfl))) (fun _ _ _ _ _ => pts_nil) (fun _ _ _ _ _ => (pe_tup (pa_cons (pe_ix (ix_uni (hu_of hr)) (pv 7) pe_int (fun _ _ => rfl)) (pa_cons (pe_ix (ix_uni (hu_of hr)) (pv 7) pe_int (fun _ _ => rfl)) (pa_cons (pe_callTy u_int (by rfl) B.b_int (by decide +kernel) (pa_cons (pe_ix (ix_uni (hu_of hr)) (pv 7) pe_int (fun _ _ => rfl)) pa_nil)) pa_nil)))))) pa_nil)) rfl) (pss_cons (ps_fld (pv 0) (pe_callB (cr_max rfl) (by rfl) B.b_max (by decide +kernel) (pa_cons (pe_lst (pa_cons pe_int (StX.pa_star (pe_lc (own := [("first", 3), ("second", 4), ("distance", 5)]) (g := (gTup A.K 3 (gCons (gName 3) (gCons (gName 4) (gCons (gName 5) gNil))))) (tt := tYes) (te := (tVar 5)) rfl sc_Rule_init.nd (pi_any (pe_fld (pv 0) rfl)) (blkOk_by (own := [("first", 3), ("second", 4), ("distance", 5)]) (N := ["self", "text", "told", "first", "second", "distance", "kind", "bar"]) (sc := defScope s_Rule_init) (by decide +kernel))  (fun _ _ _ _ _ => (pg_tup rfl (pgs_cons (pg_name (i := 3) sc_Rule_init.nd rfl (Or.inl rfl)) (pgs_cons (pg_name (i := 4) sc_Rule_init.nd rfl (Or.inl rfl)) (pgs_cons (pg_name (i := 5) sc_Rule_init.nd rfl (Or.inl rfl)) pgs_nil))))) (fun _ _ _ _ _ => pts_nil) (fun _ _ _ _ _ => (pv 5))) pa_nil))) pa_nil)) rfl) (pss_cons (ps_fld (pv 0) (pe_dictzip rfl rfl B.b_dict rfl B.b_zip (pa_cons (pe_fld (pv 0) rfl) (pa_cons (pe_fld (pv 0) rfl) pa_nil))) rfl) (pss_cons (ps_fld (pv 0) (pe_dc (own := [("kind", 6)]) (g := (gName 6)) (tt := tYes) (tk := (tVar 6)) (tv := (tLst tNil)) rfl sc_Rule_init.nd (pi_any (pe_fld (pv 0) rfl)) (blkOk_by (own := [("kind", 6)]) (N := ["self", "text", "told", "first", "second", "distance", "kind", "bar"]) (sc := defScope s_Rule_init) (by decide +kernel)) (fun _ _ _ _ _ => (pg_name (i := 6) sc_Rule_init.nd rfl (Or.inl rfl))) (fun _ _ _ _ _ => pts_nil) (fun _ _ _ _ _ => (pv 6)) (fun _ _ _ _ _ => (pe_lst pa_nil))) rfl) (pss_one (ps_for PassesOwn.never rfl (pi_any (pe_fld (pv 0) rfl)) (pg_tup rfl (pgs_cons (pg_name (i := 3) sc_Rule_init.nd rfl (Or.inl rfl)) (pgs_cons (pg_name (i := 4) sc_Rule_init.nd rfl (Or.inl rfl)) (pgs_cons (pg_name (i := 5) sc_Rule_init.nd rfl (Or.inl rfl)) pgs_nil)))) (pss_one (ps_expr (pe_bm PySem.F.plainAttrs_list PySem.F.slot_list_append PySem.F.type_list_append mt_append (pe_ix (ix_uni (hu_of hr)) (pe_fld (pv 0) rfl) (pv 4) (fun _ _ => rfl)) (pa_cons (pe_tup (pa_cons (pv 3) (pa_cons (pv 5) pa_nil))) pa_nil)))))))))))))), ?_⟩
    have hpM : addA M0 p p := .inr rfl
    have dm : Dm (Md.pure (addA M0 p)) H := fun a ha => by
      rcases ha with ha | ha
      · exact dm0 a ha
      · rw [ha, hp]; intro z; cases z
    have l4 := ok.l4
    have b40 := ok.b40
    have one : ∀ {H H1 : Hp}, G (Md.pure (addA M0 p)) H H1 → G (Md.one (addA M0 p) p hpM) H H1 := fun g => G.one_of hpM g
    have pur : ∀ {H H1 : Hp}, G (Md.one (addA M0 p) p hpM) H H1 → Dm (Md.pure (addA M0 p)) H1 := fun g => g.dm
    -- told
    refine sq (s_asg dm (ev_callD (ea_cons (ev_vs (i := 1) rfl) ea_nil) (spd fun vs H1 Q E p => ⟨R, ok, p⟩)) fun v2 H1 g1 r2 => ?_)
    refine sq (s_if (b := false) g1.dm ((et_test (ev_op (ev_var rfl r2) ev_c opd_is)).is rfl) (fun e => by cases e) fun _ H2 g2 => ?_)
    have gA := one (g1.trans g2)
    have hp2 := (g1.trans g2).st p _ (fun z => z) hp
    -- text
    refine sq (s_fldD g2.dm hp2 (fun z => z) (ev_vs (i := 1) rfl) (fun H1 g => ev_vs (i := 0) rfl) T.cl_Rule T.text (by simp) fun vt H3 g3 rt => ?_)
    have gB := (gA.trans (one g3)).put (o := .ins A.Rule dx (putF "text" vt [])) rfl
    have hp3 : upd H3 p (.ins A.Rule dx (putF "text" vt [])) p = some (.ins A.Rule dx [("text", vt)]) := upd_same
    rw [rep_s.mp rt] at gB hp3
    have r2B := (r2.mono g2).mono g3
    rw [rep_s.mp rt]
    have r2C := Rep.put1 (o := .ins A.Rule dx (putF "text" (.str (st R.text)) [])) g3.dm hpM r2B
    generalize upd H3 p (.ins A.Rule dx (putF "text" (.str (st R.text)) [])) = H4 at gB hp3 r2C ⊢
    -- kinds, worths, bars
    refine sq (EvD.run (pur gB) (ev_var rfl r2C) fun v5 H5 g5 r5 => g_tup r5 rfl fun xs rxs => ?_)
    obtain ⟨x1, x2, x3, rfl, ra, rb, rc⟩ := reps3 rxs
    have hp5 := g5.st p _ (fun z => z) hp3
    refine ⟨x1, _, rfl, g_fld rfl hp5 T.cl_Rule T.kinds (by simp) ⟨x2, _, rfl, g_fld (kvs := [("text", .str (st R.text)), ("kinds", x1)]) rfl upd_same T.cl_Rule T.worths (by simp) ⟨x3, _, rfl, g_fld (kvs := [("text", .str (st R.text)), ("kinds", x1), ("worths", x2)]) rfl upd_same T.cl_Rule T.bars (by simp) ⟨rfl, ?_⟩⟩⟩⟩
    have gC := (((gB.trans (one g5)).put (o := .ins A.Rule dx (putF "kinds" x1 [("text", .str (st R.text))])) rfl).put (o := .ins A.Rule dx (putF "worths" x2 [("text", .str (st R.text)), ("kinds", x1)])) rfl).put (o := .ins A.Rule dx (putF "bars" x3 [("text", .str (st R.text)), ("kinds", x1), ("worths", x2)])) rfl
    have gp := (((G.rf (m := Md.one (addA M0 p) p hpM) g5.dm).put (o := .ins A.Rule dx (putF "kinds" x1 [("text", .str (st R.text))])) rfl).put (o := .ins A.Rule dx (putF "worths" x2 [("text", .str (st R.text)), ("kinds", x1)])) rfl).put (o := .ins A.Rule dx (putF "bars" x3 [("text", .str (st R.text)), ("kinds", x1), ("worths", x2)])) rfl
    have ra6 : Rep (Md.pure (addA M0 p)).M A.K _ _ _ := Rep.mono gp ra
    have rb6 : Rep (Md.pure (addA M0 p)).M A.K _ _ _ := Rep.mono gp rb
    have rc6 : Rep (Md.pure (addA M0 p)).M A.K _ _ _ := Rep.mono gp rc
    have hp6 : (upd (upd (upd H5 p (.ins A.Rule dx (putF "kinds" x1 [("text", .str (st R.text))]))) p (.ins A.Rule dx (putF "worths" x2 [("text", .str (st R.text)), ("kinds", x1)]))) p (.ins A.Rule dx (putF "bars" x3 [("text", .str (st R.text)), ("kinds", x1), ("worths", x2)]))) p = some (.ins A.Rule dx [("text", .str (st R.text)), ("kinds", x1), ("worths", x2), ("bars", x3)]) := upd_same
    clear hp5 hp3 gB r5 ra rb rc rxs r2C r2B rt
    generalize (upd (upd (upd H5 p (.ins A.Rule dx (putF "kinds" x1 [("text", .str (st R.text))]))) p (.ins A.Rule dx (putF "worths" x2 [("text", .str (st R.text)), ("kinds", x1)]))) p (.ins A.Rule dx (putF "bars" x3 [("text", .str (st R.text)), ("kinds", x1), ("worths", x2)]))) = H6 at gC gp ra6 rb6 rc6 hp6 ⊢
    clear gp
    -- triples
    refine sq (s_fldD (pur gC) hp6 (fun z => z) (d := .t (R.bars.map Rl.trip)) (ev_cb (ea_cons ((ev_lc (fun _ => true) (fun d => .t [dS (st [sg 0 d]), dS (st [sg 1 d]), dI ((sg 2 d - 48 : Nat) : Int)]) (fun _ _ z => z) gm_name (ev_fldR hp6 (fun z => z) (ev_vs (i := 0) rfl) T.cl_Rule T.bars rfl rc6) rfl (by rw [List.length_map]; omega) (fun d _ _ => rfl) fun i d y H' g7 hd ry => ?_).is ?_).frz ea_nil) cd_tupleL) (fun H1 g => ev_vs (i := 0) rfl) T.cl_Rule T.triples (by simp) fun x4 H7 g7 r7 => ?_)
    · obtain ⟨bb, hb, rfl⟩ := map_get hd
      obtain ⟨h1, h2, h3, h4⟩ := ok.bk bb (List.mem_of_getElem? hb)
      refine ⟨rfl, rfl, et_yes, fun _ => (ev_tup (ea_cons (ev_op (ev_var rfl ry) ev_c (opd_ixS (c := bb.1) (Evl.sz_of (by simp [st_len, Rl.bword])) rfl)) (ea_cons (ev_op (ev_var rfl ry) ev_c (opd_ixS (c := bb.2.1) (Evl.sz_of (by simp [st_len, Rl.bword])) rfl)) (ea_cons (ev_cb (ea_cons (ev_op (ev_var rfl ry) ev_c (opd_ixS (c := 48 + bb.2.2) (Evl.sz_of (by simp [st_len, Rl.bword])) rfl)) ea_nil) (cd_intS (digit_int (by omega)) (by show (st [48 + bb.2.2]).length ≤ 640; rw [st_len]; simp))) ea_nil))) (by simp)).is ?_⟩
      show D.t [dS (st [bb.1]), dS (st [bb.2.1]), dI (bb.2.2 : Int)] = .t [dS (st [sg 0 (dS (st (Rl.bword bb)))]), dS (st [sg 1 (dS (st (Rl.bword bb)))]), dI ((sg 2 (dS (st (Rl.bword bb))) - 48 : Nat) : Int)]
      rw [sg_st, sg_st, sg_st]
      show D.t [dS (st [bb.1]), dS (st [bb.2.1]), dI (bb.2.2 : Int)] = .t [dS (st [bb.1]), dS (st [bb.2.1]), dI ((48 + bb.2.2 - 48 : Nat) : Int)]
      rw [Nat.add_sub_cancel_left]
    · rw [filter_true, List.map_map]
      refine List.map_congr_left fun bb _ => ?_
      show D.t [dS (st [sg 0 (dS (st (Rl.bword bb)))]), dS (st [sg 1 (dS (st (Rl.bword bb)))]), dI ((sg 2 (dS (st (Rl.bword bb))) - 48 : Nat) : Int)] = Rl.trip bb
      rw [sg_st, sg_st, sg_st]
      show D.t [dS (st [bb.1]), dS (st [bb.2.1]), dI ((48 + bb.2.2 - 48 : Nat) : Int)] = Rl.trip bb
      rw [Nat.add_sub_cancel_left]
      rfl
    have gp := (one g7).trans ((G.rf (m := Md.one (addA M0 p) p hpM) g7.dm).put (o := .ins A.Rule dx (putF "triples" x4 [("text", .str (st R.text)), ("kinds", x1), ("worths", x2), ("bars", x3)])) rfl)
    have r78 : Rep (Md.pure (addA M0 p)).M A.K _ _ _ := Rep.put1 (o := .ins A.Rule dx (putF "triples" x4 [("text", .str (st R.text)), ("kinds", x1), ("worths", x2), ("bars", x3)])) g7.dm hpM r7
    have gD := gC.trans gp
    have ra8 : Rep (Md.pure (addA M0 p)).M A.K _ _ _ := Rep.mono gp ra6
    have rb8 : Rep (Md.pure (addA M0 p)).M A.K _ _ _ := Rep.mono gp rb6
    have rc8 : Rep (Md.pure (addA M0 p)).M A.K _ _ _ := Rep.mono gp rc6
    have hp8 : upd H7 p (.ins A.Rule dx (putF "triples" x4 [("text", .str (st R.text)), ("kinds", x1), ("worths", x2), ("bars", x3)])) p = some (.ins A.Rule dx [("text", .str (st R.text)), ("kinds", x1), ("worths", x2), ("bars", x3), ("triples", x4)]) := upd_same
    clear hp6 ra6 rb6 rc6 r7
    generalize upd H7 p (.ins A.Rule dx (putF "triples" x4 [("text", .str (st R.text)), ("kinds", x1), ("worths", x2), ("bars", x3)])) = H8 at gp r78 gD ra8 rb8 rc8 hp8 ⊢
    clear gp
    -- reach
    refine sq (s_fldD (pur gD) hp8 (fun z => z) (d := dI (R.reach : Int)) (ev_cb (ea_cons (EvD.is (d := .l ((1 :: R.bars.map fun b => (b.2.2 : Int)).map dI)) ((ev_lst (ea_cons ev_c (ea_star ((ev_lc (fun _ => true) (fun d => match d with | .t [_, _, e] => e | _ => dN) (fun _ _ z => z) (gm_tup (gms_cons gm_name (gms_cons gm_name (gms_cons gm_name gms_nil)))) (ev_fldR hp8 (fun z => z) (ev_vs (i := 0) rfl) T.cl_Rule T.triples rfl r78) rfl (by rw [List.length_map]; omega) (fun d hd _ => ?_) fun i d y H' g9 hd ry => ?_).is (ds' := R.bars.map fun b => dI (b.2.2 : Int)) ?_).frz ea_nil)) ?_).frz.is ?_) rfl) ea_nil) (cd_max ?_ ?_)) (fun H1 g => ev_vs (i := 0) rfl) T.cl_Rule T.reach (by simp) fun x5 H9 g9 r9 => ?_)
    · rw [List.mem_map] at hd
      obtain ⟨bb, _, rfl⟩ := hd
      rfl
    · obtain ⟨bb, hb, rfl⟩ := map_get hd
      refine g_tup ry rfl fun xs rxs => ?_
      obtain ⟨y1, y2, y3, rfl, q1, q2, q3⟩ := reps3 rxs
      exact ⟨y1, _, rfl, y2, _, rfl, y3, _, rfl, rfl, rfl, rfl, et_yes, fun _ => ev_var rfl q3⟩
    · rw [filter_true, List.map_map]
      rfl
    · simp
      omega
    · rw [List.append_nil]
      show D.l _ = D.l _
      rw [List.map_cons, List.map_map]
      rfl
    · rcases R.reach_mem with h | h
      · rw [h]
        exact List.mem_cons_self
      · rw [List.mem_map] at h
        obtain ⟨b, hb, e⟩ := h
        refine List.mem_cons_of_mem _ (List.mem_map.mpr ⟨b, hb, ?_⟩)
        rw [e]
    · intro y hy
      rw [List.mem_cons, List.mem_map] at hy
      rcases hy with rfl | ⟨b, hb, rfl⟩
      · have := R.reach_pos
        omega
      · have := R.reach_le hb
        omega
    have gp := (one g9).trans ((G.rf (m := Md.one (addA M0 p) p hpM) g9.dm).put (o := .ins A.Rule dx (putF "reach" x5 [("text", .str (st R.text)), ("kinds", x1), ("worths", x2), ("bars", x3), ("triples", x4)])) rfl)
    have rd9 : Rep (Md.pure (addA M0 p)).M A.K _ _ _ := Rep.put1 (o := .ins A.Rule dx (putF "reach" x5 [("text", .str (st R.text)), ("kinds", x1), ("worths", x2), ("bars", x3), ("triples", x4)])) g9.dm hpM r9
    have gE := gD.trans gp
    have ra10 : Rep (Md.pure (addA M0 p)).M A.K _ _ _ := Rep.mono gp ra8
    have rb10 : Rep (Md.pure (addA M0 p)).M A.K _ _ _ := Rep.mono gp rb8
    have rc10 : Rep (Md.pure (addA M0 p)).M A.K _ _ _ := Rep.mono gp rc8
    have re10 : Rep (Md.pure (addA M0 p)).M A.K _ _ _ := Rep.mono gp r78
    have hp10 : upd H9 p (.ins A.Rule dx (putF "reach" x5 [("text", .str (st R.text)), ("kinds", x1), ("worths", x2), ("bars", x3), ("triples", x4)])) p = some (.ins A.Rule dx [("text", .str (st R.text)), ("kinds", x1), ("worths", x2), ("bars", x3), ("triples", x4), ("reach", x5)]) := upd_same
    clear hp8 ra8 rb8 rc8 r78 r9
    generalize upd H9 p (.ins A.Rule dx (putF "reach" x5 [("text", .str (st R.text)), ("kinds", x1), ("worths", x2), ("bars", x3), ("triples", x4)])) = H10 at gp rd9 gE ra10 rb10 rc10 re10 hp10 ⊢
    clear gp
    -- worth_of
    refine sq (s_fldD (pur gE) hp10 (fun z => z) (d := .d (R.kinds.map Rl.keyOf) (R.worths.map fun (w : Nat) => dI (w : Int))) (ev_dictzip (ea_cons (ev_fldR hp10 (fun z => z) (ev_vs (i := 0) rfl) T.cl_Rule T.kinds rfl ra10) (ea_cons (ev_fldR hp10 (fun z => z) (ev_vs (i := 0) rfl) T.cl_Rule T.worths rfl rb10) ea_nil)) ?_ ok.keyNd (by rw [List.length_map, ok.lw])) (fun H1 g => ev_vs (i := 0) rfl) T.cl_Rule T.worth_of (by simp) fun x6 H11 g11 r11 => ?_)
    · rw [List.all_eq_true]
      intro c hc
      have := ok.az c hc
      exact decide_eq_true (by omega)
    have gp := (one g11).trans ((G.rf (m := Md.one (addA M0 p) p hpM) g11.dm).put (o := .ins A.Rule dx (putF "worth_of" x6 [("text", .str (st R.text)), ("kinds", x1), ("worths", x2), ("bars", x3), ("triples", x4), ("reach", x5)])) rfl)
    have rf12 : Rep (Md.pure (addA M0 p)).M A.K _ _ _ := Rep.put1 (o := .ins A.Rule dx (putF "worth_of" x6 [("text", .str (st R.text)), ("kinds", x1), ("worths", x2), ("bars", x3), ("triples", x4), ("reach", x5)])) g11.dm hpM r11
    have gF := gE.trans gp
    have ra12 : Rep (Md.pure (addA M0 p)).M A.K _ _ _ := Rep.mono gp ra10
    have rb12 : Rep (Md.pure (addA M0 p)).M A.K _ _ _ := Rep.mono gp rb10
    have rc12 : Rep (Md.pure (addA M0 p)).M A.K _ _ _ := Rep.mono gp rc10
    have rd12 : Rep (Md.pure (addA M0 p)).M A.K _ _ _ := Rep.mono gp rd9
    have re12 : Rep (Md.pure (addA M0 p)).M A.K _ _ _ := Rep.mono gp re10
    have hp12 : upd H11 p (.ins A.Rule dx (putF "worth_of" x6 [("text", .str (st R.text)), ("kinds", x1), ("worths", x2), ("bars", x3), ("triples", x4), ("reach", x5)])) p = some (.ins A.Rule dx [("text", .str (st R.text)), ("kinds", x1), ("worths", x2), ("bars", x3), ("triples", x4), ("reach", x5), ("worth_of", x6)]) := upd_same
    clear hp10 ra10 rb10 rc10 rd9 re10 r11
    generalize upd H11 p (.ins A.Rule dx (putF "worth_of" x6 [("text", .str (st R.text)), ("kinds", x1), ("worths", x2), ("bars", x3), ("triples", x4), ("reach", x5)])) = H12 at gp gF ra12 rb12 rc12 rd12 re12 rf12 hp12 ⊢
    clear gp
    -- behind
    refine sq (s_fld (pur gF) hp12 (fun z => z) (ev_dcLists (m := Md.pure (addA M0 p)) (z := R.kinds) (by show 6 < 8; decide) (fun _ _ z => z) (ev_fldR hp12 (fun z => z) (ev_vs (i := 0) rfl) T.cl_Rule T.kinds rfl ra12) ok.keyNd (by omega)) (fun H1 g => ev_vs (i := 0) rfl) T.cl_Rule T.behind (by simp) fun x7 H13 g13 ⟨H130, g130, qd, ls, e7, hqn, hnd, hll, hls, hqd⟩ => ?_)
    subst e7
    have hp13 := g13.st p _ (fun z => z) hp12
    have hqp : qd ≠ p := fun e => by rw [e, hp12] at hqn; cases hqn
    have hqd13 := g130.st qd _ (fun z => z) hqd
    have hls13 : ∀ l ∈ ls, H12 l = none ∧ H13 l = some (.lst []) := fun l hl => ⟨(hls l hl).1, g130.st l _ (fun z => z) (hls l hl).2⟩
    have lsp : ∀ l ∈ ls, l ≠ p := fun l hl e => by have := (hls l hl).1; rw [e, hp12] at this; cases this
    have gp := (one g13).trans ((G.rf (m := Md.one (addA M0 p) p hpM) g13.dm).put (o := .ins A.Rule dx (putF "behind" (.ref qd) [("text", .str (st R.text)), ("kinds", x1), ("worths", x2), ("bars", x3), ("triples", x4), ("reach", x5), ("worth_of", x6)])) rfl)
    have gG := gF.trans gp
    have ra14 : Rep (Md.pure (addA M0 p)).M A.K _ _ _ := Rep.mono gp ra12
    have rb14 : Rep (Md.pure (addA M0 p)).M A.K _ _ _ := Rep.mono gp rb12
    have rc14 : Rep (Md.pure (addA M0 p)).M A.K _ _ _ := Rep.mono gp rc12
    have rd14 : Rep (Md.pure (addA M0 p)).M A.K _ _ _ := Rep.mono gp rd12
    have re14 : Rep (Md.pure (addA M0 p)).M A.K _ _ _ := Rep.mono gp re12
    have rf14 : Rep (Md.pure (addA M0 p)).M A.K _ _ _ := Rep.mono gp rf12
    have hq14 : upd H13 p (.ins A.Rule dx (putF "behind" (.ref qd) [("text", .str (st R.text)), ("kinds", x1), ("worths", x2), ("bars", x3), ("triples", x4), ("reach", x5), ("worth_of", x6)])) qd = some (.dK ((R.kinds.map Rl.keyOf).zip (ls.map V.ref))) := by
      rw [upd_ne hqp]
      exact hqd13
    have hl14 : ∀ l ∈ ls, upd H13 p (.ins A.Rule dx (putF "behind" (.ref qd) [("text", .str (st R.text)), ("kinds", x1), ("worths", x2), ("bars", x3), ("triples", x4), ("reach", x5), ("worth_of", x6)])) l = some (.lst []) := fun l hl => by
      rw [upd_ne (lsp l hl)]
      exact (hls13 l hl).2
    have hp14 : upd H13 p (.ins A.Rule dx (putF "behind" (.ref qd) [("text", .str (st R.text)), ("kinds", x1), ("worths", x2), ("bars", x3), ("triples", x4), ("reach", x5), ("worth_of", x6)])) p = some (.ins A.Rule dx [("text", .str (st R.text)), ("kinds", x1), ("worths", x2), ("bars", x3), ("triples", x4), ("reach", x5), ("worth_of", x6), ("behind", .ref qd)]) := upd_same
    clear hp12 ra12 rb12 rc12 rd12 re12 rf12 hp13 hqd13 hls13
    generalize upd H13 p (.ins A.Rule dx (putF "behind" (.ref qd) [("text", .str (st R.text)), ("kinds", x1), ("worths", x2), ("bars", x3), ("triples", x4), ("reach", x5), ("worth_of", x6)])) = H14 at gp gG ra14 rb14 rc14 rd14 re14 rf14 hp14 hq14 hl14 ⊢
    clear gp
    -- what must not lean on the lists
    have eN : ∀ a, a ∈ ls → ∃ ys, H14 a = some (.lst ys) := fun a ha => ⟨_, hl14 a ha⟩
    have noI : ∀ l : List Int, noLs (l.map dI) = true := fun l => noLs_all fun d hd => by
      rw [List.mem_map] at hd
      obtain ⟨i, _, rfl⟩ := hd
      rfl
    have toN : ∀ {d : D} {v : V}, noL d = true → Rep (addA M0 p) A.K H14 d v → Rep (Md.lists (addA M0 p) (· ∈ ls)).M A.K H14 d v := fun w r => Rep.addN eN w r
    have ntrip : noL (.t (R.bars.map Rl.trip)) = true := by
      unfold noL
      refine noLs_all fun d hd => ?_
      rw [List.mem_map] at hd
      obtain ⟨b, _, rfl⟩ := hd
      rfl
    have dml : Dm (Md.lists (addA M0 p) (· ∈ ls)) H14 := fun a ha => by
      rcases ha with ha | ha
      · exact gG.dm a ha
      · rw [hl14 a ha]; intro z; cases z
    let mp : Md := Md.pure (addN (addA M0 p) (· ∈ ls))
    have hp14' := hp14
    refine s_for (m := mp) (dd := .t (R.bars.map Rl.trip)) dml (ev_fldR hp14 (fun z => z) (ev_vs (i := 0) rfl) T.cl_Rule T.triples rfl (toN ntrip re14)) rfl fun H15 g15 => ⟨Md.lists (addA M0 p) (· ∈ ls), rfl, fun n σ' H' => G (Md.lists (addA M0 p) (· ∈ ls)) H15 H' ∧ (∃ a b c, σ' = [some (.ref p), some (.str (st R.text)), some v2, a, b, c, none, none]) ∧
      ∀ (j : Nat) k l, R.kinds[j]? = some k → ls[j]? = some l → ∃ xs, H' l = some (.lst xs) ∧ Reps (Md.lists (addA M0 p) (· ∈ ls)).M A.K H' ((((R.bars.take n).filter fun b => decide (b.2.1 = k)).map fun b => (b.1, b.2.2)).map Rl.pairD) xs, ⟨G.rf g15.dm, ⟨none, none, none, rfl⟩, fun j k l h1 h2 => ⟨[], g15.st l _ (fun z => z) (hl14 l (List.mem_of_getElem? h2)), Reps.nil⟩⟩, fun n σ' H' pv => pv.1, ?_, ?_⟩
    · rintro n d v σ' H' hd rv ⟨gg, ⟨a, b, c, rfl⟩, hl⟩
      obtain ⟨bb, hb, rfl⟩ := map_get hd
      refine g_tup rv rfl fun xs rxs => ?_
      obtain ⟨y1, y2, y3, rfl, q1, q2, q3⟩ := reps3 rxs
      refine ⟨y1, _, rfl, y2, _, rfl, y3, _, rfl, rfl, ?_⟩
      have hbk := (ok.bk bb (List.mem_of_getElem? hb)).2.1
      have hk := ok.kindAt hbk
      have hj : R.kinds.idxOf bb.2.1 < ls.length := by rw [hll]; exact List.idxOf_lt_length_of_mem hbk
      have hlj : ls[R.kinds.idxOf bb.2.1]? = some ls[R.kinds.idxOf bb.2.1] := List.getElem?_eq_getElem hj
      generalize ls[R.kinds.idxOf bb.2.1] = l at hlj
      obtain ⟨ys, hy, rys⟩ := hl _ _ _ hk hlj
      have hlm : l ∈ ls := List.mem_of_getElem? hlj
      have dmp : Dm mp H' := gg.dm
      have hpH : H' p = _ := gg.st p _ (fun hm => lsp p hm rfl) (g15.st p _ (fun z => z) hp14)
      have qls : ¬ qd ∈ ls := fun hm => by
        have e := hl14 qd hm
        rw [hq14] at e
        cases e
      have hqH : H' qd = _ := gg.st qd _ qls (g15.st qd _ (fun z => z) hq14)
      have hpl : ∀ (t : List (Nat × Nat × Nat)) k, noLs ((((t.filter fun b => decide (b.2.1 = k)).map fun b => (b.1, b.2.2)).map Rl.pairD)) = true := fun t k => noLs_all fun d hd => by
        rw [List.mem_map] at hd
        obtain ⟨b, _, rfl⟩ := hd
        rfl
      have ylen : ys.length ≤ 40 := by
        rw [rys.len, List.length_map, List.length_map]
        refine Nat.le_trans (List.length_filter_le _ _) (Nat.le_trans (by rw [List.length_take]; exact Nat.min_le_right _ _) b40)
      refine s_app (m := mp) (d := Rl.pairD (bb.1, bb.2.2)) dmp hy (fun z => z) (ev_ixDR (q := qd) (k := Rl.keyOf bb.2.1) (ev_fldR hpH (fun z => z) (ev_vs (i := 0) rfl) T.cl_Rule T.behind rfl (rep_s.mpr rfl)) (ev_var rfl q2) hqH (fun z => z) (zip_get ok.keyNd (get_map hk) (get_map hlj))) (ev_tup (ea_cons (ev_var rfl q1) (ea_cons (ev_var rfl q3) ea_nil)) (by simp)) (by omega) fun v1 H16 g16 r16 => ?_
      have hy16 := g16.st l _ (fun z => z) hy
      refine ⟨(gg.trans ⟨g16.dm, fun a o _ e => g16.ex a o e, g16.th⟩).put hlm, ⟨_, _, _, rfl⟩, fun j k l' h1 h2 => ?_⟩
      obtain ⟨zs, hz, rzs⟩ := hl j k l' h1 h2
      have hz16 := g16.st l' _ (fun z => z) hz
      have rzs16 : Reps (Md.lists (addA M0 p) (· ∈ ls)).M A.K (upd H16 l (.lst (ys ++ [v1]))) _ _ := Reps.putL hy16 (hpl _ _) (Reps.mono (m := mp) g16 rzs)
      have r16' : Rep (Md.lists (addA M0 p) (· ∈ ls)).M A.K (upd H16 l (.lst (ys ++ [v1]))) (Rl.pairD (bb.1, bb.2.2)) v1 := Rep.putL hy16 rfl r16
      have etk : R.bars.take (n + 1) = R.bars.take n ++ [bb] := by rw [List.take_add_one, hb]; rfl
      by_cases ej : j = R.kinds.idxOf bb.2.1
      · subst ej
        rw [hk] at h1
        rw [hlj] at h2
        cases h1
        cases h2
        rw [hy] at hz
        cases hz
        refine ⟨_, upd_same, ?_⟩
        rw [etk, List.filter_append, List.map_append, List.map_append]
        have e1 : [bb].filter (fun b => decide (b.2.1 = bb.2.1)) = [bb] := by simp
        rw [e1]
        exact rzs16.snoc r16'
      · have nel : l' ≠ l := fun e => by
          subst e
          obtain ⟨hj1, e1⟩ := List.getElem?_eq_some_iff.mp h2
          obtain ⟨hj2, e2⟩ := List.getElem?_eq_some_iff.mp hlj
          exact ej ((List.getElem?_inj hj1 hnd).mp (h2.trans hlj.symm))
        refine ⟨zs, by rw [upd_ne nel]; exact hz16, ?_⟩
        have nek : ¬ bb.2.1 = k := fun e => by
          subst e
          obtain ⟨hj1, e1⟩ := List.getElem?_eq_some_iff.mp h1
          obtain ⟨hj2, e2⟩ := List.getElem?_eq_some_iff.mp hk
          have nd : R.kinds.Nodup := ok.up.imp fun lt => Nat.ne_of_lt lt
          exact ej ((List.getElem?_inj hj1 nd).mp (h1.trans hk.symm))
        rw [etk, List.filter_append, List.map_append, List.map_append]
        have e1 : [bb].filter (fun b => decide (b.2.1 = k)) = [] := by simp [nek]
        rw [e1]
        simpa using rzs16
    · rintro σ' H' ⟨gg, _, hl⟩
      have hpH : H' p = _ := gg.st p _ (fun hm => lsp p hm rfl) (g15.st p _ (fun z => z) hp14)
      have qls : ¬ qd ∈ ls := fun hm => by
        have e := hl14 qd hm
        rw [hq14] at e
        cases e
      have hqH : H' qd = _ := gg.st qd _ qls (g15.st qd _ (fun z => z) hq14)
      have fin : ∀ {d : D} {v : V}, noL d = true → Rep (addA M0 p) A.K H14 d v → Rep M0 A.K H' d v := fun w r => Rep.less (M' := (Md.lists (addA M0 p) (· ∈ ls)).M) (fun a ha => .inl (.inl ha)) (Rep.mono gg (Rep.mono (m := mp) g15 (toN w r)))
      have nq0 : ¬ M0 qd := fun hm => by
        have h0 := dm0 qd hm
        cases e : H qd with
        | none => exact h0 e
        | some o =>
          have := gF.st qd o (fun z => hqp z) e
          rw [hqn] at this
          cases this
      have nl0 : ∀ l ∈ ls, ¬ M0 l := fun l hl hm => by
        have h0 := dm0 l hm
        cases e : H l with
        | none => exact h0 e
        | some o =>
          have := gF.st l o (fun z => lsp l hl z) e
          rw [(hls l hl).1] at this
          cases this
      refine q H' (fun a o ne e => ?_) ?_
      · have h14 := gG.st a o ne e
        refine gg.st a o (fun hm => ?_) (g15.st a o (fun z => z) h14)
        have := gF.st a o ne e
        rw [(hls a hm).1] at this
        cases this
      · unfold ruleD
        refine (rep_i (m := Md.pure M0)).mpr ⟨p, dx, _, [.str (st R.text), x1, x2, x3, x4, x5, x6, .ref qd], rfl, StI.of hpH nM, ⟨?_, ?_⟩, ?_⟩
        · intro j f x h1 h2
          have hj : j < 8 := (List.getElem?_eq_some_iff.mp h1).1
          have : j = 0 ∨ j = 1 ∨ j = 2 ∨ j = 3 ∨ j = 4 ∨ j = 5 ∨ j = 6 ∨ j = 7 := by omega
          rcases this with rfl | rfl | rfl | rfl | rfl | rfl | rfl | rfl <;> (cases h1; cases h2; rfl)
        · exact fun f hf => lookup_out (ks := ruleF) rfl hf
        · have nI : noL (.t (R.worths.map fun (w : Nat) => dI (w : Int))) = true := by
            unfold noL
            refine noLs_all fun d hd => ?_
            rw [List.mem_map] at hd
            obtain ⟨b, _, rfl⟩ := hd
            rfl
          have nI2 : noL (.d (R.kinds.map Rl.keyOf) (R.worths.map fun (w : Nat) => dI (w : Int))) = true := by
            unfold noL
            refine noLs_all fun d hd => ?_
            rw [List.mem_map] at hd
            obtain ⟨b, _, rfl⟩ := hd
            rfl
          have nB : noL (.t (R.bars.map fun b => dS (st (Rl.bword b)))) = true := by
            unfold noL
            refine noLs_all fun d hd => ?_
            rw [List.mem_map] at hd
            obtain ⟨b, _, rfl⟩ := hd
            rfl
          unfold ruleDs
          refine Reps.cons (m := Md.pure M0) (rep_s.mpr rfl) (Reps.cons (fin rfl ra14) (Reps.cons (fin nI rb14) (Reps.cons (fin nB rc14) (Reps.cons (fin ntrip re14) (Reps.cons (fin rfl rd14) (Reps.cons (fin nI2 rf14) (Reps.cons ?_ Reps.nil)))))))
          refine rep_d.mpr ⟨qd, ls.map V.ref, rfl, StD.of hqH nq0, by rw [List.length_map, List.length_map], reps_of (by rw [List.length_map, List.length_map, hll]) fun j d x h1 h2 => ?_⟩
          obtain ⟨k, hk, rfl⟩ := map_get h1
          obtain ⟨l, hlj, rfl⟩ := map_get h2
          obtain ⟨xs, hx, rxs⟩ := hl j k l hk hlj
          have e0 : (D.t (R.bars.map Rl.trip)) = .t (R.bars.map Rl.trip) := rfl
          rw [show (R.bars.map Rl.trip).length = R.bars.length from List.length_map .., List.take_length] at rxs
          exact rep_l.mpr ⟨l, xs, rfl, StL.of hx (nl0 l (List.mem_of_getElem? hlj)), Reps.less (M' := (Md.lists (addA M0 p) (· ∈ ls)).M) (fun a ha => .inl (.inl ha)) rxs⟩
end
end GK

namespace GK
open PySem PySem.Spec PyProof.Rows L2
def sp_next_rows (A : Ad) : Sp := fun vs H Q _ => ∃ (R : Rl) (row : List Nat), R.Ok ∧ row.length ≤ 1000 ∧ Pd A.K vs H Q [ruleD A R, dS (st row), dI (R.reach : Int)] (.l ((R.next row).map Rl.nextD))
def sp_rows_with (A : Ad) : Sp := fun vs H Q _ => ∃ (R : Rl), R.Ok ∧ R.kinds.length ^ R.reach ≤ 400 ∧ Pp A.K vs H Q [ruleD A R, dI (R.reach : Int), dI 400] (fun _ _ _ => True)
def sp_Laying_row (A : Ad) : Sp := fun vs H Q _ => ∃ (R : Rl) (past : List (List Nat)) (row : List Nat), Pd A.K vs H Q [lanD A R (past ++ [row])] (dS (st row))
def sp_Laying_worth (A : Ad) : Sp := fun vs H Q _ => ∃ (R : Rl) (past : List (List Nat)) (row : List Nat), R.Ok ∧ row.length ≤ 100000 ∧ (∀ c ∈ row, c ∈ R.kinds) ∧ Pd A.K vs H Q [lanD A R (past ++ [row])] (dI (R.worthIn row))
def sp_Laying_init (A : Ad) : Sp := fun vs H Q _ => ∃ (R : Rl) (row : List Nat) (M : Addr → Prop) (p dx : Addr) (rv : V), R.Ok ∧ R.kinds.length ^ R.reach ≤ 400 ∧ row.length ≤ 1000 ∧ (∀ c ∈ row, c ∈ R.kinds) ∧ R.kept row = true ∧ (∀ a, M a → H a ≠ none) ∧ vs = [.ref p, rv, .str (st row)] ∧
  Rep (addA M p) A.K H (ruleD A R) rv ∧ H p = some (.ins A.Laying dx []) ∧ ¬ M p ∧ ∀ H' l, (∀ a o, a ≠ p → H a = some o → H' a = some o) → H l = none → H' l = some (.lst [.str (st row)]) → H' p = some (.ins A.Laying dx [("rule", rv), ("past", .ref l)]) → Q .non H'
/-- a laying as it stands: its rows' list at l -/
def LanAt (A : Ad) (M : Addr → Prop) (H : Hp) (R : Rl) (a dx l : Addr) (rv : V) (past : List (List Nat)) : Prop :=
  H a = some (.ins A.Laying dx [("rule", rv), ("past", .ref l)]) ∧ ¬ M a ∧ M l ∧ Rep M A.K H (ruleD A R) rv ∧ H l = some (.lst (past.map fun w => V.str (st w)))
def sp_Laying_lay (A : Ad) : Sp := fun vs H Q _ => ∃ (R : Rl) (M : Addr → Prop) (a dx l : Addr) (rv : V) (past : List (List Nat)) (row add : List Nat), R.Ok ∧ row.length + add.length ≤ 1000 ∧ (∀ c ∈ add, c ∈ R.kinds) ∧ R.kept (row ++ add) = true ∧ past.length ≤ 1000 ∧ (∀ a, M a → H a ≠ none) ∧
  vs = [.ref a, .str (st add)] ∧ LanAt A M H R a dx l rv (past ++ [row]) ∧ ∀ H', (∀ b o, b ≠ l → H b = some o → H' b = some o) → H' l = some (.lst ((past ++ [row] ++ [row ++ add]).map fun w => V.str (st w))) → Q .non H'
def sp_Laying_undo (A : Ad) : Sp := fun vs H Q _ => ∃ (R : Rl) (M : Addr → Prop) (a dx l : Addr) (rv : V) (past : List (List Nat)) (row : List Nat), 1 ≤ past.length ∧ past.length ≤ 1000 ∧ (∀ a, M a → H a ≠ none) ∧
  vs = [.ref a] ∧ LanAt A M H R a dx l rv (past ++ [row]) ∧ ∀ H', (∀ b o, b ≠ l → H b = some o → H' b = some o) → H' l = some (.lst (past.map fun w => V.str (st w))) → Q .non H'
section
variable {prog : Program} {w : World} {mg : Str → Option Value} {base : Heap} {A : Ad}
theorem k_next_rows (T : RuleT A) (B : BI mg) (F : DefAt A.K mg "next_rows" s_next_rows ["rule", "row", "limit"]) (c_fits : Callee prog w A.K mg base "fits" ["rule", "row", "kind"] 1 (sp_fits A)) : Callee prog w A.K mg base "next_rows" ["rule", "row", "limit"] 2 (sp_next_rows A) := by
  obtain ⟨f, fd, F, hm, b⟩ := F
  refine ⟨f, fd, F.ok sc_next_rows (fun vs H Q E h => ?_) (fun cdv Ar outer s H vs Q E hr h => ?_), hm, F.kp, b⟩
  · obtain ⟨R, row, _, _, h⟩ := h
    exact h.len
  · obtain ⟨R, row, ok, hl, h⟩ := h
    obtain ⟨M, dm, rs, q⟩ := h.use
    obtain ⟨x, y, z, rfl, r, r1, r2⟩ := reps3 rs
    refine ⟨_, (pss_one (ps_ret (pe_lc (own := [("kind", 3)]) (g := (gName 3)) (tt := (tB (tCall (sp_fits A) [] E0 (tCons (tVar 0) (tCons (tVar 1) (tCons (tVar 3) tNil)))))) (te := (tTup (tCons (tVar 3) (tCons (tSl (rSlU A.K) (tOp rAddU (tVar 1) (tVar 3)) (tPart (tUn rNegU (tVar 2))) tNoPart) tNil)))) rfl sc_next_rows.nd (pi_any (pe_fld (pv 0) rfl)) (blkOk_by (own := [("kind", 3)]) (N := ["rule", "row", "limit", "kind"]) (sc := defScope s_next_rows) (by decide +kernel))  (fun _ _ _ _ _ => (pg_name (i := 3) sc_next_rows.nd rfl (Or.inl rfl))) (fun _ _ _ _ _ => (pts_one (pt_val (pe_fn c_fits hr (by decide) (pa_cons (pv 0) (pa_cons (pv 1) (pa_cons (pv 3) pa_nil))))))) (fun _ _ _ _ _ => (pe_tup (pa_cons (pv 3) (pa_cons (pe_slice sl_uni (pe_op u_add (pv 1) (pv 3)) (po_some (pe_un u_neg (pv 2))) po_none) pa_nil))))))), ?_⟩
    have l4 := ok.l4
    have rp := R.reach_pos
    refine s_retD dm (((ev_lc (fun d => R.fits row (sgn d)) (fun d => Rl.nextD (sgn d, R.step row (sgn d))) (fun _ _ z => z) gm_name (ev_kinds T (ev_var rfl r)) rfl (by rw [signs_len]; omega) (fun d _ _ => rfl) fun i d v H' g hd rv => ?_).is (ds' := (R.next row).map Rl.nextD) ?_).frz) fun v H1 g r => q v H1 g r
    · obtain ⟨c, hc, rfl⟩ := signs_get hd
      have hck := List.mem_of_getElem? hc
      refine ⟨rfl, rfl, et_B (ev_callD (ea_cons (ev_var rfl (r.mono g)) (ea_cons (ev_var rfl (r1.mono g)) (ea_cons (ev_var rfl rv) ea_nil))) (spd fun vs H1 Q E p => ⟨R, row, c, ok, hck, by omega, p⟩)), fun _ => ev_tup (ea_cons (ev_var rfl rv) (ea_cons (EvD.is (ev_sl (ev_op (ev_var rfl (r1.mono g)) (ev_var rfl rv) (opd_addS (by rw [st_len, st_len]; exact Evl.sz_of (by simp; omega)))) (eo_some (K := A.K) (ev_un (ev_var rfl (r2.mono g)) und_neg)) eo_none (sld_str (by rw [st_app, st_len]; exact Evl.sz_of (by simp; omega)))) ?_) ea_nil)) (by simp)⟩
      rw [st_app, cutS_last rp]
      rfl
    · rw [signs_fm]
      unfold Rl.next
      rw [List.map_map]
      rfl
theorem k_rows_with (T : RuleT A) (B : BI mg) (F : DefAt A.K mg "rows_with" s_rows_with ["rule", "places", "limit"]) (c_fits : Callee prog w A.K mg base "fits" ["rule", "row", "kind"] 1 (sp_fits A)) : Callee prog w A.K mg base "rows_with" ["rule", "places", "limit"] 2 (sp_rows_with A) := by
  obtain ⟨f, fd, F, hm, b⟩ := F
  refine ⟨f, fd, F.ok sc_rows_with (fun vs H Q E h => ?_) (fun cdv Ar outer s H vs Q E hr h => ?_), hm, F.kp, b⟩
  · obtain ⟨R, _, _, h⟩ := h
    exact h.len
  · obtain ⟨R, ok, hp, h⟩ := h
    obtain ⟨M, dm, rs, q⟩ := h.use
    obtain ⟨x, y, z, rfl, r, r1, r2⟩ := reps3 rs
    refine ⟨_, (pss_cons (ps_set (i := 3) sc_rows_with.nd rfl (Or.inl rfl) (pe_lst (pa_cons pe_str pa_nil))) (pss_cons (ps_for PassesOwn.never rfl (pi_range1 rfl B.b_range (pa_cons (pv 1) pa_nil)) (pg_name (i := 4) sc_rows_with.nd rfl (Or.inl rfl)) (pss_one (ps_setLc2 (i := 3) (own := [("row", 5), ("kind", 6)]) (vs1 := [6]) (g := (gName 5)) (tt := tYes) (wi1 := (iAny A.K (tFld A.K (tVar 0) "kinds"))) (g1 := (gName 6)) (tt1 := (tB (tCall (sp_fits A) [] E0 (tCons (tVar 0) (tCons (tVar 5) (tCons (tVar 6) tNil)))))) (te := (tOp rAddU (tVar 5) (tVar 6))) rfl sc_rows_with.nd rfl rfl (sw_true rfl rfl rfl (by decide +kernel)) (pi_any (pv 3)) (blkOk_by (own := [("row", 5), ("kind", 6)]) (N := ["rule", "places", "limit", "found", "place", "row", "kind"]) (sc := defScope s_rows_with) (by decide +kernel)) (by decide) (fun _ _ _ _ _ => (pg_name (i := 5) sc_rows_with.nd rfl (Or.inl rfl))) (fun _ _ _ _ _ => pts_nil) (fun _ _ _ _ _ => (pi_any (pe_fld (pv 0) rfl))) (fun _ _ _ _ _ => (pg_name (i := 6) sc_rows_with.nd rfl (Or.inl rfl))) (fun _ _ _ _ _ => (pts_one (pt_val (pe_fn c_fits hr (by decide) (pa_cons (pv 0) (pa_cons (pv 5) (pa_cons (pv 6) pa_nil))))))) (fun _ _ _ _ _ => (pe_op u_add (pv 5) (pv 6)))))) (pss_cons (ps_if (PW.pt (pw_and (pt_cmpR u_isnot (pv 2) pe_non (nomark _)) (pw_and1 (pt_cmpR u_gt (pe_callB u_len (by rfl) B.b_len (by decide +kernel) (pa_cons (pv 3) pa_nil)) (pv 2) (nomark _))))) (pss_one ps_never) pss_nil) (pss_one (ps_ret (pe_callB cr_sortedSA (by rfl) B.b_sorted (by decide +kernel) (pa_cons (pv 3) pa_nil))))))), ?_⟩
    have l4 := ok.l4
    have l1 := ok.l1
    have r5 := ok.reach5
    refine sq (s_asg (K := A.K) dm ((ev_lst (ea_cons ev_c ea_nil) (by simp)).frz) fun v0 H1 g1 rv0 => ?_)
    refine sq (s_forR1 (n := (R.reach : Int)) g1.dm (ea_cons (ev_var rfl (r1.mono g1)) ea_nil) (by omega) (by omega) fun H2 g2 => ⟨fun i σ' H' => G (Md.pure M) H2 H' ∧ ∃ (ws : List (List Nat)) (v : V) (a b c : Option V), σ' = [some x, some y, some z, some v, a, b, c] ∧ Rep M A.K H' (.l (ws.map fun w => dS (st w))) v ∧ ws.length ≤ R.kinds.length ^ i ∧ ∀ w ∈ ws, w.length = i, ⟨g2.r1, [[]], v0, none, none, none, rfl, rv0.mono g2, by simp, by simp⟩, ?_, ?_⟩)
    · rintro i σ' H' hi ⟨gg, ws, v, a, b, c, rfl, rv, hw, hwl⟩
      have g' := (g1.trans g2).trans gg
      have hpow : R.kinds.length ^ (i + 1) ≤ 400 := Nat.le_trans (Nat.pow_le_pow_right l1 (by omega)) hp
      have hsz : ws.length * R.kinds.length ≤ R.kinds.length ^ (i + 1) := by rw [Nat.pow_succ]; exact Nat.mul_le_mul_right _ hw
      refine s_asg (m := Md.pure M) (K := A.K) gg.dm (ev_lc2S (fun w k => R.fits w k) (fun w k => w ++ [k]) (fun _ _ z => z) (ev_var rfl rv) (fun w hw H3 g3 => ev_kinds T (ev_var rfl (r.mono (g'.trans g3)))) (fun w hw k hk H3 g3 => et_B (ev_callD (ea_cons (ev_var rfl (r.mono (g'.trans g3))) (ea_cons (ev_vs rfl) (ea_cons (ev_vs rfl) ea_nil))) (spd fun vs H1 Q E p => ⟨R, w, k, ok, hk, by rw [hwl w hw]; omega, p⟩))) (fun w hw k hk H3 g3 => (ev_op (ev_vs rfl) (ev_vs rfl) (opd_addS (by rw [st_len, st_len, hwl w hw]; exact Evl.sz_of (by simp; omega)))).is (by rw [st_app])) (by decide) (by omega)).frz fun v3 H3 g3 r3 => ⟨gg.trans g3, _, v3, _, _, _, rfl, r3, ?_, ?_⟩
      · refine Nat.le_trans ?_ hsz
        clear rv hw hwl hsz r3
        induction ws with
        | nil => simp
        | cons w ws ih =>
          rw [List.flatMap_cons, List.length_append, List.length_cons, Nat.succ_mul]
          have : ((R.kinds.filter (R.fits w)).map fun k => w ++ [k]).length ≤ R.kinds.length := by rw [List.length_map]; exact List.length_filter_le _ _
          refine Nat.le_trans (Nat.add_le_add this ih) ?_
          omega
      · intro w hw'
        rw [List.mem_flatMap] at hw'
        obtain ⟨w0, h0, h1⟩ := hw'
        rw [List.mem_map] at h1
        obtain ⟨k, _, rfl⟩ := h1
        rw [List.length_append, hwl w0 h0]
        rfl
    · rintro σ' H' ⟨gg, ws, v, a, b, c, rfl, rv, hw, hwl⟩
      have g' := (g1.trans g2).trans gg
      rw [Int.toNat_natCast] at hw
      refine sq (s_if (m := Md.pure M) (b := false) gg.dm ((et_and (a := true) (b := false) ((et_test (ev_op (ev_var rfl (r2.mono g')) ev_c opd_isnot)).is rfl) fun _ => (et_test (ev_op (ev_cb (ea_cons (ev_var rfl rv) ea_nil) (cd_len (n := ws.length) (by show some (ws.map _).length = _; rw [List.length_map]) (by omega))) (ev_var rfl (r2.mono g')) opd_gt)).is (decide_eq_false (by omega))).is rfl) (fun e => by cases e) fun _ H4 g4 => ?_)
      refine s_ret (m := Md.pure M) g4.dm (ev_cbP (ds := [.l ((ws.map st).map dS)]) (ea_cons (ev_var rfl (by rw [← dS_map]; exact rv.mono g4)) ea_nil) cp_sorted) fun v5 H5 g5 _ => q v5 H5 ((g'.trans g4).trans g5) trivial
theorem k_Laying_row (T : LanT A) (F : PropAt A.K A.Laying "row" "Laying.row" s_Laying_row) : CalleeP prog w A.K mg base A.Laying "row" 1 (sp_Laying_row A) := by
  obtain ⟨p, g, fd, F, hp, b⟩ := F
  refine ⟨p, g, fd, F.ok sc_Laying_row (fun vs H Q E h => ?_) (fun cdv Ar outer s H vs Q E hr h => ?_), hp, b⟩
  · obtain ⟨R, past, row, h⟩ := h
    exact h.len
  · obtain ⟨R, past, row, h⟩ := h
    obtain ⟨M, dm, rs, q⟩ := h.use
    obtain ⟨x, rfl, r⟩ := reps1 rs
    refine ⟨_, (pss_one (ps_ret (pe_ix (ix_uni (hu_of hr)) (pe_fld (pv 0) rfl) (pe_un u_neg pe_int) (fun _ _ => rfl)))), ?_⟩
    exact s_retD dm (ev_op (ev_past T (ev_var rfl r)) ((ev_un ev_c und_neg).is (d' := dI (-1)) rfl) (opd_ixL (by rw [List.map_append]; exact atI_last))) fun v H1 g r => q v H1 g r
theorem k_Laying_worth (T : LanT A) (F : PropAt A.K A.Laying "worth" "Laying.worth" s_Laying_worth) (c_worth_in : Callee prog w A.K mg base "worth_in" ["rule", "row"] 1 (sp_worth_in A)) : CalleeP prog w A.K mg base A.Laying "worth" 2 (sp_Laying_worth A) := by
  obtain ⟨p, g, fd, F, hp, b⟩ := F
  refine ⟨p, g, fd, F.ok sc_Laying_worth (fun vs H Q E h => ?_) (fun cdv Ar outer s H vs Q E hr h => ?_), hp, b⟩
  · obtain ⟨R, past, row, _, _, _, h⟩ := h
    exact h.len
  · obtain ⟨R, past, row, ok, hl, hk, h⟩ := h
    obtain ⟨M, dm, rs, q⟩ := h.use
    obtain ⟨x, rfl, r⟩ := reps1 rs
    refine ⟨_, (pss_one (ps_ret (pe_fn c_worth_in hr (by decide) (pa_cons (pe_fld (pv 0) rfl) (pa_cons (pe_ix (ix_uni (hu_of hr)) (pe_fld (pv 0) rfl) (pe_un u_neg pe_int) (fun _ _ => rfl)) pa_nil))))), ?_⟩
    exact s_retD dm (ev_callD (ea_cons (ev_rule T (ev_var rfl r)) (ea_cons (ev_op (ev_past T (ev_var rfl r)) ((ev_un ev_c und_neg).is (d' := dI (-1)) rfl) (opd_ixL (d := dS (st row)) (by rw [List.map_append]; exact atI_last))) ea_nil)) (spd fun vs H1 Q E p => ⟨R, row, ok, hl, hk, p⟩)) fun v H1 g r => q v H1 g r
theorem k_Laying_init (TL : LanT A) (T : RuleT A) (k_MOST_WINDOWS : Kst mg "MOST_WINDOWS" v_MOST_WINDOWS) (F : InitAtD A.K mg "Laying" A.Laying "Laying.__init__" s_Laying_init ["self", "rule", "row"] [.str ""]) (c_check_rule : Callee prog w A.K mg base "check_rule" ["value"] 1 (sp_check_rule A))
    (c_check_row : Callee prog w A.K mg base "check_row" ["rule", "value"] 2 (sp_check_row A)) (c_is_kept : Callee prog w A.K mg base "is_kept" ["rule", "row"] 1 (sp_is_kept A)) (c_rows_with : Callee prog w A.K mg base "rows_with" ["rule", "places", "limit"] 2 (sp_rows_with A)) :
    CalleeC prog w A.K mg base "Laying" A.Laying ["self", "rule", "row"] 3 (sp_Laying_init A) [.str ""] := by
  obtain ⟨f, fd, ds, F, hk, hm, hv, b, b2⟩ := F
  refine ⟨f, fd, ds, okD F sc_Laying_init (fun vs H Q E h => ?_) (fun cdv Ar outer s H vs Q E hr h => ?_), hk, hm, hv, b, b2⟩
  · obtain ⟨R, row, M, p, dx, rv, _, _, _, _, _, _, rfl, _⟩ := h
    rfl
  · obtain ⟨R, row, M0, p, dx, rv, ok, hpw, hl, hk, hkept, dm0, rfl, r, hp, nM, q⟩ := h
    refine ⟨_, (pss_cons (ps_expr (pe_fn c_check_rule hr (by decide) (pa_cons (pv 1) pa_nil))) (pss_cons (ps_expr (pe_fn c_check_row hr (by decide) (pa_cons (pv 1) (pa_cons (pv 2) pa_nil)))) (pss_cons (ps_if (pt_not (pt_val (pe_fn c_is_kept hr (by decide) (pa_cons (pv 1) (pa_cons (pv 2) pa_nil))))) (pss_one ps_never) pss_nil) (pss_cons (ps_expr (pe_fn c_rows_with hr (by decide) (pa_cons (pv 1) (pa_cons (pe_fld (pv 1) rfl) (pa_cons (pe_kst k_MOST_WINDOWS) pa_nil))))) (pss_one (ps_asg (pe_tup (pa_cons (pv 1) (pa_cons (pe_lst (pa_cons (pv 2) pa_nil)) pa_nil))) (pg_tup rfl (pgs_cons (pg_fld (pv 0)) (pgs_cons (pg_fld (pv 0)) pgs_nil))))))))), ?_⟩
    have dm : Dm (Md.pure (addA M0 p)) H := fun a ha => by
      rcases ha with ha | ha
      · exact dm0 a ha
      · rw [ha, hp]; intro z; cases z
    have rp : Rep (Md.pure (addA M0 p)).M A.K H (ruleD A R) rv := r
    refine sq (s_drop dm (ev_callD (ea_cons (ev_var (i := 1) rfl rp) ea_nil) (spd fun vs H1 Q E p => ⟨R, p⟩)) fun _ H1 g1 _ => ?_)
    refine sq (s_drop g1.dm (ev_callD (ea_cons (ev_var (i := 1) rfl (rp.mono g1)) (ea_cons (ev_vs (i := 2) rfl) ea_nil)) (spd fun vs H1 Q E p => ⟨R, row, ok, hl, hk, p⟩)) fun _ H2 g2 _ => ?_)
    have g12 := g1.trans g2
    refine sq (s_if (b := false) g2.dm ((et_not (et_B (ev_callD (ea_cons (ev_var (i := 1) rfl (rp.mono g12)) (ea_cons (ev_vs (i := 2) rfl) ea_nil)) (spd fun vs H1 Q E p => ⟨R, row, ok, by omega, p⟩)))).is (by rw [hkept]; rfl)) (fun e => by cases e) fun _ H3 g3 => ?_)
    have g13 := g12.trans g3
    refine sq (s_drop g3.dm (ev_call (ea_cons (ev_var (i := 1) rfl (rp.mono g13)) (ea_cons (ev_reach T (ev_var (i := 1) rfl (rp.mono g13))) (ea_cons ev_c ea_nil))) (spp fun vs H1 Q E p => ⟨R, ok, hpw, p⟩)) fun _ H4 g4 _ => ?_)
    have g14 := g13.trans g4
    have hp4 := g14.st p _ (fun z => z) hp
    show tAsg (tTup (tCons (tVar 1) (tCons (tLst (tCons (tVar 2) tNil)) tNil))) (gTup A.K 2 (gCons (gFld A.K (tVar 0) "rule") (gCons (gFld A.K (tVar 0) "past") gNil))) { nx := fun _ H' => Q .non H', rt := Q } [some (.ref p), some rv, some (.str (st row))] H4
    refine ⟨rv, rfl, ⟨.str (st row), rfl, by show 1 ≤ sizeLine; decide, fun l hl => ⟨by show 2 ≤ sizeLine; decide, fun t ht => ?_⟩⟩⟩
    have tl : t ≠ l := fun e => by rw [e, upd_same] at ht; cases ht
    have lp : l ≠ p := fun e => by rw [e, hp4] at hl; cases hl
    have ht4 : H4 t = none := by rw [upd_ne tl] at ht; exact ht
    have tp : t ≠ p := fun e => by rw [e, hp4] at ht4; cases ht4
    refine ⟨t, [rv, .ref l], rfl, SqT.of upd_same, rfl, rv, _, rfl, g_fld (kvs := []) rfl (by rw [upd_ne (Ne.symm tp), upd_ne (Ne.symm lp)]; exact hp4) TL.cl_Laying TL.rule (by simp) ⟨.ref l, _, rfl, g_fld (kvs := [("rule", rv)]) rfl upd_same TL.cl_Laying TL.past (by simp) ⟨rfl, ?_⟩⟩⟩
    refine q _ l (fun a o ne e => ?_) ?_ ?_ upd_same
    · have e4 := g14.st a o (fun z => z) e
      have al : a ≠ l := fun k => by rw [k, hl] at e4; cases e4
      have at_ : a ≠ t := fun k => by rw [k, ht4] at e4; cases e4
      rw [upd_ne ne, upd_ne ne, upd_ne at_, upd_ne al]
      exact e4
    · exact g14.free hl
    · rw [upd_ne lp, upd_ne lp, upd_ne (Ne.symm tl), upd_same]
theorem k_Laying_lay (TL : LanT A) (B : BI mg) (k_MOST_PLACES : Kst mg "MOST_PLACES" v_MOST_PLACES) (F : MethAt A.K A.Laying "lay" "Laying.lay" s_Laying_lay ["self", "row"] []) (c_check_row : Callee prog w A.K mg base "check_row" ["rule", "value"] 2 (sp_check_row A)) (c_is_kept : Callee prog w A.K mg base "is_kept" ["rule", "row"] 1 (sp_is_kept A)) :
    CalleeM prog w A.K mg base A.Laying "lay" ["self", "row"] 3 (sp_Laying_lay A) [] := by
  obtain ⟨f, fd, ds, F, hk, hv, b, b2⟩ := F
  refine ⟨f, fd, ds, F.ok sc_Laying_lay (fun vs H Q E h => ?_) (fun cdv Ar outer s H vs Q E hr h => ?_), hk, hv, b, b2⟩
  · obtain ⟨R, M, a, dx, l, rv, past, row, add, _, _, _, _, _, _, rfl, _⟩ := h
    rfl
  · obtain ⟨R, M, a, dx, l, rv, past, row, add, ok, hlen, hk, hkept, hpl, dm0, rfl, ⟨ha, na, ml, rr, hl⟩, q⟩ := h
    refine ⟨_, (pss_cons (ps_expr (pe_fn c_check_row hr (by decide) (pa_cons (pe_fld (pv 0) rfl) (pa_cons (pv 1) pa_nil)))) (pss_cons (ps_if (pt_cmpR u_gt (pe_op u_add (pe_callB u_len (by rfl) B.b_len (by decide +kernel) (pa_cons (pe_ix (ix_uni (hu_of hr)) (pe_fld (pv 0) rfl) (pe_un u_neg pe_int) (fun _ _ => rfl)) pa_nil)) (pe_callB u_len (by rfl) B.b_len (by decide +kernel) (pa_cons (pv 1) pa_nil))) (pe_kst k_MOST_PLACES) (nomark _)) (pss_one ps_never) pss_nil) (pss_cons (ps_if (pt_not (pt_val (pe_fn c_is_kept hr (by decide) (pa_cons (pe_fld (pv 0) rfl) (pa_cons (pe_op u_add (pe_ix (ix_uni (hu_of hr)) (pe_fld (pv 0) rfl) (pe_un u_neg pe_int) (fun _ _ => rfl)) (pv 1)) pa_nil))))) (pss_one ps_never) pss_nil) (pss_one (ps_expr (pe_bm PySem.F.plainAttrs_list PySem.F.slot_list_append PySem.F.type_list_append mt_append (pe_fld (pv 0) rfl) (pa_cons (pe_op u_add (pe_ix (ix_uni (hu_of hr)) (pe_fld (pv 0) rfl) (pe_un u_neg pe_int) (fun _ _ => rfl)) (pv 1)) pa_nil))))))), ?_⟩
    have dm : Dm (Md.pure M) H := dm0
    have erule : ∀ {H1 : Hp}, G (Md.pure M) H H1 → EvD (Md.pure M) A.K (tFld A.K (tVar 0) "rule") [some (.ref a), some (.str (st add))] H1 (ruleD A R) := fun g => ev_fldR (g.st a _ (fun z => z) ha) (fun z => z) (ev_vs (i := 0) rfl) TL.cl_Laying TL.rule rfl (rr.mono g)
    have epast : ∀ {H1 : Hp}, G (Md.pure M) H H1 → EvD (Md.pure M) A.K (tFld A.K (tVar 0) "past") [some (.ref a), some (.str (st add))] H1 (.s (.ref l)) := fun g => ev_fldR (g.st a _ (fun z => z) ha) (fun z => z) (ev_vs (i := 0) rfl) TL.cl_Laying TL.past rfl (rep_s.mpr rfl)
    have erow : ∀ {H1 : Hp}, G (Md.pure M) H H1 → EvD (Md.pure M) A.K (tOp (rIxU A.K) (tFld A.K (tVar 0) "past") (tUn rNegU (tC (.int 1)))) [some (.ref a), some (.str (st add))] H1 (dS (st row)) := fun g => ev_ixLR (epast g) ((ev_un ev_c und_neg).is (d' := dI (-1)) rfl) (g.st l _ (fun z => z) hl) (fun z => z) (by rw [List.map_append]; exact atI_last)
    have esum : ∀ {H1 : Hp}, G (Md.pure M) H H1 → EvD (Md.pure M) A.K (tOp rAddU (tOp (rIxU A.K) (tFld A.K (tVar 0) "past") (tUn rNegU (tC (.int 1)))) (tVar 1)) [some (.ref a), some (.str (st add))] H1 (dS (st (row ++ add))) := fun g => (ev_op (erow g) (ev_vs rfl) (opd_addS (by rw [st_len, st_len]; exact Evl.sz_of (by omega)))).is (by rw [st_app])
    refine sq (s_drop dm (ev_callD (ea_cons (erule (G.rf dm)) (ea_cons (ev_vs (i := 1) rfl) ea_nil)) (spd fun vs H1 Q E p => ⟨R, add, ok, by omega, hk, p⟩)) fun _ H1 g1 _ => ?_)
    refine sq (s_if (b := false) g1.dm ((et_test (ev_op (ev_op (ev_cb (ea_cons (erow g1) ea_nil) (cd_len (n := row.length) (by show some (st row).length = _; rw [st_len]) (by omega))) (ev_cb (ea_cons (ev_vs (i := 1) rfl) ea_nil) (cd_len (n := add.length) (by show some (st add).length = _; rw [st_len]) (by omega))) opd_addI) ev_c opd_gt)).is (decide_eq_false (by omega))) (fun e => by cases e) fun _ H2 g2 => ?_)
    have g12 := g1.trans g2
    refine sq (s_if (b := false) g2.dm ((et_not (et_B (ev_callD (ea_cons (erule g12) (ea_cons (esum g12) ea_nil)) (spd fun vs H1 Q E p => ⟨R, row ++ add, ok, by rw [List.length_append]; omega, p⟩)))).is (by rw [hkept]; rfl)) (fun e => by cases e) fun _ H3 g3 => ?_)
    have g13 := g12.trans g3
    refine s_app g3.dm (g13.st l _ (fun z => z) hl) (fun z => z) (epast g13) (esum g13) (by rw [List.length_map, List.length_append]; simp; omega) fun v H4 g4 rv4 => ?_
    rw [rep_s.mp rv4]
    refine q _ (fun b o ne e => ?_) ?_
    · rw [upd_ne ne]
      exact (g13.trans g4).st b o (fun z => z) e
    · rw [upd_same, List.map_append (l₂ := [row ++ add])]
      rfl
theorem k_Laying_undo (TL : LanT A) (B : BI mg) (F : MethAt A.K A.Laying "undo" "Laying.undo" s_Laying_undo ["self"] []) :
    CalleeM prog w A.K mg base A.Laying "undo" ["self"] 1 (sp_Laying_undo A) [] := by
  obtain ⟨f, fd, ds, F, hk, hv, b, b2⟩ := F
  refine ⟨f, fd, ds, F.ok sc_Laying_undo (fun vs H Q E h => ?_) (fun cdv Ar outer s H vs Q E hr h => ?_), hk, hv, b, b2⟩
  · obtain ⟨R, M, a, dx, l, rv, past, row, _, _, _, rfl, _⟩ := h
    rfl
  · obtain ⟨R, M, a, dx, l, rv, past, row, hp1, hpl, dm0, rfl, ⟨ha, na, ml, rr, hl⟩, q⟩ := h
    refine ⟨_, (pss_cons (ps_if (pt_cmpR (u_eq hr.units) (pe_callB u_len (by rfl) B.b_len (by decide +kernel) (pa_cons (pe_fld (pv 0) rfl) pa_nil)) pe_int (nomark _)) (pss_one ps_never) pss_nil) (pss_one (ps_expr (pe_bm0 PySem.F.plainAttrs_list PySem.F.slot_list_pop PySem.F.type_list_pop mt_pop (pe_fld (pv 0) rfl))))), ?_⟩
    have dm : Dm (Md.pure M) H := dm0
    have epast : ∀ {H1 : Hp}, G (Md.pure M) H H1 → EvD (Md.pure M) A.K (tFld A.K (tVar 0) "past") [some (.ref a)] H1 (.s (.ref l)) := fun g => ev_fldR (g.st a _ (fun z => z) ha) (fun z => z) (ev_vs (i := 0) rfl) TL.cl_Laying TL.past rfl (rep_s.mpr rfl)
    refine sq (s_if (b := false) dm ((et_test (ev_op (ev_lenR (epast (G.rf dm)) hl (fun z => z)) ev_c (opd_eq rfl))).is ?_) (fun e => by cases e) fun _ H1 g1 => ?_)
    · refine decide_eq_false fun e => ?_
      injection e with e
      rw [List.length_map, List.length_append, List.length_singleton] at e
      omega
    have hl1 := g1.st l _ (fun z => z) hl
    show tFld A.K (tVar 0) "past" [some (.ref a)] H1 (fun x H1 => tyV A.K "list" x H1 ∧ rPop x [] H1 fun _ H' => Q .non H')
    refine (epast g1).run g1.dm fun v H2 g2 rv2 => ?_
    rw [rep_s.mp rv2]
    have hl2 := g2.st l _ (fun z => z) hl1
    refine ⟨.inl ⟨rfl, _, SqL.of hl2⟩, l, _, .str (st row), rfl, rfl, hl2, ?_, ?_⟩
    · rw [List.length_map, List.length_append, List.map_append]
      simp
    · refine q _ (fun b o ne e => ?_) ?_
      · rw [upd_ne ne]
        exact (g1.trans g2).st b o (fun z => z) e
      · rw [upd_same, List.map_append]
        show some (HO.lst (List.dropLast (_ ++ [_]))) = _
        rw [List.dropLast_concat]
end
end GK

namespace GK
open PySem PySem.Spec PyProof.Rows L2
def sp_Tails_init (A : Ad) : Sp := fun vs H Q _ => ∃ (R : Rl) (row : List Nat) (M : Addr → Prop) (p dx : Addr) (rv : V), R.Ok ∧ row.length ≤ 1000 ∧ (∀ c ∈ row, c ∈ R.kinds) ∧ (∀ a, M a → H a ≠ none) ∧ vs = [.ref p, rv, .str (st row)] ∧
  Rep (addA M p) A.K H (ruleD A R) rv ∧ H p = some (.ins A.Tails dx []) ∧ ¬ M p ∧ ∀ H', (∀ a o, a ≠ p → H a = some o → H' a = some o) → Rep M A.K H' (tailsD A (R.tailsF row)) (.ref p) → Q .non H'
section
variable {prog : Program} {w : World} {mg : Str → Option Value} {base : Heap} {A : Ad}
theorem k_Tails_init (TT : TailsT A) (T : RuleT A) (B : BI mg) (F : InitAt A.K mg "Tails" A.Tails "Tails.__init__" s_Tails_init ["self", "rule", "row"] []) (c_next_rows : Callee prog w A.K mg base "next_rows" ["rule", "row", "limit"] 2 (sp_next_rows A)) :
    CalleeC prog w A.K mg base "Tails" A.Tails ["self", "rule", "row"] 3 (sp_Tails_init A) [] := by
  obtain ⟨f, fd, ds, F, hk, hm, hv, b, b2⟩ := F
  refine ⟨f, fd, ds, F.ok sc_Tails_init (fun vs H Q E h => ?_) (fun cdv Ar outer s H vs Q E hr h => ?_), hk, hm, hv, b, b2⟩
  · obtain ⟨R, row, M, p, dx, rv, _, _, _, _, rfl, _⟩ := h
    rfl
  · obtain ⟨R, row, M0, p, dx, rv, ok, hl, hk, dm0, rfl, r, hp, nM, q⟩ := h
    refine ⟨_, (pss_cons (ps_asg (pe_tup (pa_cons (pe_lst (pa_cons (pe_slice sl_uni (pv 2) (po_some (pe_un u_neg (pe_fld (pv 1) rfl))) po_none) pa_nil)) (pa_cons (pe_lst pa_nil) pa_nil))) (pg_tup rfl (pgs_cons (pg_fld (pv 0)) (pgs_cons (pg_fld (pv 0)) pgs_nil)))) (pss_cons (ps_par (i := 3) (j := 4) (by rfl) sc_Tails_init.nd rfl rfl (by decide) rfl rfl (pa_cons (pe_disp (pps_cons (pe_ix (ix_uni (hu_of hr)) (pe_fld (pv 0) rfl) pe_int (fun _ _ => rfl)) pe_int pps_nil) (by rfl) (by rfl) (fun z => by cases z) (by decide)) (pa_cons pe_int pa_nil)) (by rfl)) (pss_cons (ps_while PassesOwn.never (pt_cmpR u_lt (pv 4) (pe_callB u_len (by rfl) B.b_len (by decide +kernel) (pa_cons (pe_fld (pv 0) rfl) pa_nil)) (nomark _)) (pss_cons (ps_for PassesOwn.never rfl (pi_any (pe_fn c_next_rows hr (by decide) (pa_cons (pv 1) (pa_cons (pe_ix (ix_uni (hu_of hr)) (pe_fld (pv 0) rfl) (pv 4) (fun _ _ => rfl)) (pa_cons (pe_fld (pv 1) rfl) pa_nil))))) (pg_tup rfl (pgs_cons (pg_name (i := 5) sc_Tails_init.nd rfl (Or.inl rfl)) (pgs_cons (pg_name (i := 6) sc_Tails_init.nd rfl (Or.inl rfl)) pgs_nil))) (pss_cons (ps_if (pt_cmpR (u_nin (hu_of hr)) (pv 6) (pv 3) (by rfl)) (pss_cons (ps_asg (pe_callB u_len (by rfl) B.b_len (by decide +kernel) (pa_cons (pe_fld (pv 0) rfl) pa_nil)) (pg_sub (pv 3) (pv 6) (set_uni (hu_of hr)))) (pss_one (ps_expr (pe_bm PySem.F.plainAttrs_list PySem.F.slot_list_append PySem.F.type_list_append mt_append (pe_fld (pv 0) rfl) (pa_cons (pv 6) pa_nil))))) pss_nil) (pss_one (ps_expr (pe_bm PySem.F.plainAttrs_list PySem.F.slot_list_append PySem.F.type_list_append mt_append (pe_fld (pv 0) rfl) (pa_cons (pe_tup (pa_cons (pv 4) (pa_cons (pe_ix (ix_uni (hu_of hr)) (pv 3) (pv 6) (fun _ _ => rfl)) (pa_cons (pv 5) pa_nil)))) pa_nil)))))) (pss_one (ps_set (i := 4) sc_Tails_init.nd rfl (Or.inl rfl) (pe_op u_add (pv 4) pe_int))))) (pss_one (ps_fld (pv 0) (pe_callB u_len (by rfl) B.b_len (by decide +kernel) (pa_cons (pe_fld (pv 0) rfl) pa_nil)) rfl))))), ?_⟩
    have dm : Dm (Md.pure (addA M0 p)) H := fun a ha => by
      rcases ha with ha | ha
      · exact dm0 a ha
      · rw [ha, hp]; intro z; cases z
    have rp := R.reach_pos
    have l4 := ok.l4
    -- the first tail
    have e1 : EvD (Md.pure (addA M0 p)) A.K (tSl (rSlU A.K) (tVar 2) (tPart (tUn rNegU (tFld A.K (tVar 1) "reach"))) tNoPart) [some (.ref p), some rv, some (.str (st row)), none, none, none, none] H (dS (st (lastN R.reach row))) :=
      EvD.is (ev_sl (ev_vs rfl) (eo_some (K := A.K) (ev_un (ev_reach T (ev_var (i := 1) rfl r)) und_neg)) eo_none (sld_str (by rw [st_len]; exact Evl.sz_of (by omega)))) (by rw [cutS_last rp])
    refine sq ?_
    refine e1.run dm fun v1 H1 g1 r1 => ?_
    rw [rep_s.mp r1]
    have hp1 := g1.st p _ (fun z => z) hp
    have rr1 : Rep (addA M0 p) A.K H1 (ruleD A R) rv := Rep.mono g1 r
    refine ⟨by show 1 ≤ sizeLine; decide, fun lt hlt => ⟨by show 0 ≤ sizeLine; decide, fun le hle => ⟨by show 2 ≤ sizeLine; decide, fun t ht => ?_⟩⟩⟩
    have lep : le ≠ lt := fun e => by rw [e, upd_same] at hle; cases hle
    have hle1 : H1 le = none := by rw [upd_ne lep] at hle; exact hle
    have tle : t ≠ le := fun e => by rw [e, upd_same] at ht; cases ht
    have ht2 : upd H1 lt (.lst [.str (st (lastN R.reach row))]) t = none := by rw [upd_ne tle] at ht; exact ht
    have tlt : t ≠ lt := fun e => by rw [e, upd_same] at ht2; cases ht2
    have ht1 : H1 t = none := by rw [upd_ne tlt] at ht2; exact ht2
    have ltp : lt ≠ p := fun e => by rw [e, hp1] at hlt; cases hlt
    have lep' : le ≠ p := fun e => by rw [e, hp1] at hle1; cases hle1
    have tp : t ≠ p := fun e => by rw [e, hp1] at ht1; cases ht1
    refine ⟨t, [.ref lt, .ref le], rfl, SqT.of upd_same, rfl, .ref lt, _, rfl, g_fld (kvs := []) rfl (by rw [upd_ne (Ne.symm tp), upd_ne (Ne.symm lep'), upd_ne (Ne.symm ltp)]; exact hp1) TT.cl_Tails TT.tails (by simp) ⟨.ref le, _, rfl, g_fld (kvs := [("tails", .ref lt)]) rfl upd_same TT.cl_Tails TT.edges (by simp) ⟨rfl, ?_⟩⟩⟩
    have rr2 : Rep (addA (addA (addA M0 p) lt) le) A.K (upd (upd H1 lt (.lst [.str (st (lastN R.reach row))])) le (.lst [])) (ruleD A R) rv := Rep.laid hle (Rep.laid hlt rr1)
    have rr3 : Rep (addA (addA (addA M0 p) lt) le) A.K (upd (upd (upd (upd (upd H1 lt (.lst [.str (st (lastN R.reach row))])) le (.lst [])) t (.tup [.ref lt, .ref le])) p (.ins A.Tails dx (putF "tails" (.ref lt) []))) p (.ins A.Tails dx (putF "edges" (.ref le) [("tails", .ref lt)]))) (ruleD A R) rv := Rep.ext (fun a o na e => by
      have ap : a ≠ p := fun k => na (.inl (.inl (.inr k)))
      rw [upd_ne ap, upd_ne ap, upd_ne (ne_of_none e ht)]
      exact e) rr2
    have hp3 : (upd (upd (upd (upd (upd H1 lt (.lst [.str (st (lastN R.reach row))])) le (.lst [])) t (.tup [.ref lt, .ref le])) p (.ins A.Tails dx (putF "tails" (.ref lt) []))) p (.ins A.Tails dx (putF "edges" (.ref le) [("tails", .ref lt)]))) p = some (.ins A.Tails dx [("tails", .ref lt), ("edges", .ref le)]) := upd_same
    have hlt3 : (upd (upd (upd (upd (upd H1 lt (.lst [.str (st (lastN R.reach row))])) le (.lst [])) t (.tup [.ref lt, .ref le])) p (.ins A.Tails dx (putF "tails" (.ref lt) []))) p (.ins A.Tails dx (putF "edges" (.ref le) [("tails", .ref lt)]))) lt = some (.lst [.str (st (lastN R.reach row))]) := by
      rw [upd_ne ltp, upd_ne ltp, upd_ne (Ne.symm tlt), upd_ne (Ne.symm lep), upd_same]
    have hle3 : (upd (upd (upd (upd (upd H1 lt (.lst [.str (st (lastN R.reach row))])) le (.lst [])) t (.tup [.ref lt, .ref le])) p (.ins A.Tails dx (putF "tails" (.ref lt) []))) p (.ins A.Tails dx (putF "edges" (.ref le) [("tails", .ref lt)]))) le = some (.lst []) := by
      rw [upd_ne lep', upd_ne lep', upd_ne (Ne.symm tle), upd_same]
    have old3 : ∀ a o, a ≠ p → H a = some o → (upd (upd (upd (upd (upd H1 lt (.lst [.str (st (lastN R.reach row))])) le (.lst [])) t (.tup [.ref lt, .ref le])) p (.ins A.Tails dx (putF "tails" (.ref lt) []))) p (.ins A.Tails dx (putF "edges" (.ref le) [("tails", .ref lt)]))) a = some o := fun a o ne e => by
      have e4 := g1.st a o (fun z => z) e
      rw [upd_ne ne, upd_ne ne, upd_ne (ne_of_none e4 ht1), upd_ne (ne_of_none e4 hle1), upd_ne (ne_of_none e4 hlt)]
      exact e4
    have nlt : H lt = none := g1.free hlt
    have nle : H le = none := g1.free hle1
    clear rr2 hle ht ht2 tlt tle tp r1 rr1 ht1
    generalize (upd (upd (upd (upd (upd H1 lt (.lst [.str (st (lastN R.reach row))])) le (.lst [])) t (.tup [.ref lt, .ref le])) p (.ins A.Tails dx (putF "tails" (.ref lt) []))) p (.ins A.Tails dx (putF "edges" (.ref le) [("tails", .ref lt)]))) = H3 at rr3 hp3 hlt3 hle3 old3 ⊢
    have dm3 : Dm (Md.pure (addA (addA (addA M0 p) lt) le)) H3 := fun a ha => by
      rcases ha with ((ha | rfl) | rfl) | rfl
      · cases e : H a with
        | none => exact absurd e (dm0 a ha)
        | some o =>
          have ne : a ≠ p := fun k => nM (k ▸ ha)
          rw [old3 a o ne e]; intro z; cases z
      · rw [hp3]; intro z; cases z
      · rw [hlt3]; intro z; cases z
      · rw [hle3]; intro z; cases z
    -- numbers, at
    refine sq ?_
    refine fun nd hnd => ?_
    have ndp : nd ≠ p := fun e => by rw [e, hp3] at hnd; cases hnd
    have ndlt : nd ≠ lt := fun e => by rw [e, hlt3] at hnd; cases hnd
    have ndle : nd ≠ le := fun e => by rw [e, hle3] at hnd; cases hnd
    have rr4 : Rep (Md.three (addA M0 p) lt le nd).M A.K (upd H3 nd (.dK [])) (ruleD A R) rv := Rep.laid hnd rr3
    have dm4 : Dm (Md.pure (Md.three (addA M0 p) lt le nd).M) (upd H3 nd (.dK [])) := fun a ha => by
      by_cases e : a = nd
      · rw [e, upd_same]; intro z; cases z
      · rw [upd_ne e]
        rcases ha with ha | ha
        · exact dm3 a ha
        · exact absurd ha e
    have hp4 : upd H3 nd (.dK []) p = some (.ins A.Tails dx [("tails", .ref lt), ("edges", .ref le)]) := by rw [upd_ne (Ne.symm ndp)]; exact hp3
    have hlt4 : upd H3 nd (.dK []) lt = some (.lst [.str (st (lastN R.reach row))]) := by rw [upd_ne (Ne.symm ndlt)]; exact hlt3
    have hle4 : upd H3 nd (.dK []) le = some (.lst []) := by rw [upd_ne (Ne.symm ndle)]; exact hle3
    have e5 : EvD (Md.pure (Md.three (addA M0 p) lt le nd).M) A.K (tOp (rIxU A.K) (tFld A.K (tVar 0) "tails") (tC (.int 0))) [some (.ref p), some rv, some (.str (st row)), none, none, none, none] (upd H3 nd (.dK [])) (.s (.str (st (lastN R.reach row)))) :=
      ev_ixLR (ev_fldR hp4 (fun z => z) (ev_vs (i := 0) rfl) TT.cl_Tails TT.tails rfl (rep_s.mpr rfl)) ev_c hlt4 (fun z => z) (atI_nat (j := 0) rfl rfl)
    refine e5.run dm4 fun v5 H5 g5 r5 => ?_
    rw [rep_s.mp r5]
    refine ⟨g5.st nd _ (fun z => z) upd_same, [(keyW (lastN R.reach row), .int 0)], rfl, by show 1 ≤ 15; decide, ?_⟩
    refine ⟨.ref nd, .int 0, rfl, ?_⟩
    have hp5 := g5.st p _ (fun z => z) hp4
    have hlt5 := g5.st lt _ (fun z => z) hlt4
    have hle5 := g5.st le _ (fun z => z) hle4
    have rr5 : Rep (Md.three (addA M0 p) lt le nd).M A.K H5 (ruleD A R) rv := Rep.mono g5 rr4
    have gG : G (Md.three (addA M0 p) lt le nd) H5 (upd H5 nd (.dK (mergeK [] [(keyW (lastN R.reach row), .int 0)]))) := (G.rf (m := Md.three (addA M0 p) lt le nd) g5.dm).put (.inr (.inr rfl))
    have rr6 : Rep (Md.three (addA M0 p) lt le nd).M A.K (upd H5 nd (.dK (mergeK [] [(keyW (lastN R.reach row), .int 0)]))) (ruleD A R) rv := Rep.mono gG rr5
    have ts0 : TState (addA M0 p) A.K (upd H5 nd (.dK (mergeK [] [(keyW (lastN R.reach row), .int 0)]))) lt le nd ⟨[lastN R.reach row], []⟩ := ⟨by rw [upd_ne (Ne.symm ndlt)]; exact hlt5, ⟨[], by rw [upd_ne (Ne.symm ndle)]; exact hle5, Reps.nil⟩, by rw [upd_same]; rfl⟩
    have hp6 : upd H5 nd (.dK (mergeK [] [(keyW (lastN R.reach row), .int 0)])) p = some (.ins A.Tails dx [("tails", .ref lt), ("edges", .ref le)]) := by rw [upd_ne (Ne.symm ndp)]; exact hp5
    have old6 : ∀ a o, a ≠ p → H a = some o → upd H5 nd (.dK (mergeK [] [(keyW (lastN R.reach row), .int 0)])) a = some o := fun a o ne e => by
      have e3 := old3 a o ne e
      have ne2 : a ≠ nd := fun k => by rw [k, hnd] at e3; cases e3
      rw [upd_ne ne2]
      exact g5.st a o (fun z => z) (by rw [upd_ne ne2]; exact e3)
    have hnd0 : H nd = none := by
      cases e : H nd with
      | none => rfl
      | some o =>
        have := old3 nd o ndp e
        rw [hnd] at this
        cases this
    have dm6 := gG.dm
    clear rr5 rr4 rr3 hp5 hlt5 hle5 hp4 hlt4 hle4 old3 r5 e5 gG
    generalize upd H5 nd (.dK (mergeK [] [(keyW (lastN R.reach row), .int 0)])) = H6 at rr6 ts0 hp6 old6 dm6 ⊢
    have np : ¬ (Md.three (addA M0 p) lt le nd).N p := by
      rintro (e | e | e)
      · exact ltp e.symm
      · exact lep' e.symm
      · exact ndp e.symm
    have nlts : ∀ {H' : Hp} {s : TS}, TState (addA M0 p) A.K H' lt le nd s → ∀ xs, H' le = some (.lst xs) → Reps (Md.three (addA M0 p) lt le nd).M A.K H' (s.E.map edgeD) xs := fun ts xs e => by
      obtain ⟨ys, h1, h2⟩ := ts.le
      rw [h1] at e
      cases e
      exact h2
    -- the loop
    refine sq ?_
    refine s_while (fun n σ' H' => ∃ i s, n = 1400 - i ∧ i ≤ s.T.length ∧ R.TInv s ∧ R.run (3000 - i) i s = R.tailsF row ∧ s.E.length ≤ 4 * i ∧ i ≤ 1400 ∧ TState (addA M0 p) A.K H' lt le nd s ∧ G (Md.three (addA M0 p) lt le nd) H6 H' ∧
      ∃ a b, σ' = [some (.ref p), some rv, some (.str (st row)), some (.ref nd), some (.int (i : Int)), a, b]) 1400 ⟨0, _, rfl, Nat.zero_le _, ok.start hk, rfl, Nat.le_refl _, by decide, ts0, G.rf dm6, none, none, rfl⟩ ?_
    rintro n σ' H' ⟨i, s, rfl, hi, inv, hrun, hE, hib, ts, gg, a, b, rfl⟩
    have hpH := gg.st p _ np hp6
    have rrH : Rep (Md.three (addA M0 p) lt le nd).M A.K H' (ruleD A R) rv := Rep.mono gg rr6
    have hTl := inv.len ok
    refine ⟨Md.pure (Md.three (addA M0 p) lt le nd).M, decide (i < s.T.length), gg.dm, (et_test (ev_op (ev_vs rfl) (ev_lenR (ev_fldR hpH (fun z => z) (ev_vs (i := 0) rfl) TT.cl_Tails TT.tails rfl (rep_s.mpr rfl)) ts.lt (fun z => z)) opd_ltI)).is ?_, fun hlt' H7 g7 => ?_, fun hlt' H7 g7 => ?_⟩
    · rw [List.length_map]
      by_cases c : i < s.T.length
      · rw [decide_eq_true c, decide_eq_true (by omega)]
      · rw [decide_eq_false c, decide_eq_false (by omega)]
    · have hlt'' : i < s.T.length := of_decide_eq_true hlt'
      have hti : s.T[i]? = some (s.T.getD i []) := by rw [List.getD_eq_getElem?_getD, List.getElem?_eq_getElem hlt'']; rfl
      have hts : R.Short (s.T.getD i []) := inv.sh _ (List.mem_of_getElem? hti)
      have r5' := ok.reach5
      obtain ⟨inv2, rT, hrT⟩ := inv.turned hlt''
      refine ⟨fun σ2 H2 => ∃ a b, σ2 = [some (.ref p), some rv, some (.str (st row)), some (.ref nd), some (.int ((i + 1 : Nat) : Int)), a, b] ∧ TState (addA M0 p) A.K H2 lt le nd (R.turn i s) ∧ G (Md.three (addA M0 p) lt le nd) H6 H2, ?_, ?_⟩
      · rintro σ2 H2 ⟨a', b', rfl, ts2, gg2⟩
        have h2 := inv2.len ok
        refine ⟨1400 - (i + 1), by omega, i + 1, _, rfl, ?_, inv2, ?_, ?_, by omega, ts2, gg2, a', b', rfl⟩
        · rw [hrT, List.length_append]
          omega
        · rw [← hrun, show 3000 - i = (3000 - (i + 1)) + 1 by omega]
          show _ = if i < s.T.length then R.run (3000 - (i + 1)) (i + 1) (R.turn i s) else s
          rw [if_pos hlt'']
        · show (R.turn i s).E.length ≤ _
          unfold Rl.turn
          rw [addE_len]
          have := Rl.next_len (R := R) (t := s.T.getD i [])
          omega
      · have ts7 := ts.mono g7.ex
        have g67 : G (Md.three (addA M0 p) lt le nd) H6 H7 := gg.trans ⟨g7.dm, fun a o _ e => g7.ex a o e, g7.th⟩
        have hp7 := g67.st p _ np hp6
        have rr7 : Rep (Md.three (addA M0 p) lt le nd).M A.K H7 (ruleD A R) rv := Rep.mono g67 rr6
        refine sq ?_
        refine s_for (m := Md.pure (Md.three (addA M0 p) lt le nd).M) (dd := .l ((R.next (s.T.getD i [])).map Rl.nextD)) g7.dm (ev_callD (ea_cons (ev_var (i := 1) rfl rr7) (ea_cons (ev_ixLR (ev_fldR hp7 (fun z => z) (ev_vs (i := 0) rfl) TT.cl_Tails TT.tails rfl (rep_s.mpr rfl)) (ev_vs rfl) ts7.lt (fun z => z) (atI_nat (j := i) rfl (get_map hti))) (ea_cons (ev_reach T (ev_var (i := 1) rfl rr7)) ea_nil))) (spd fun vs H1 Q E p => ⟨R, s.T.getD i [], ok, by have := hts.1; omega, p⟩)) rfl fun H8 g8 => ⟨Md.three (addA M0 p) lt le nd, rfl, fun j σ2 H2 => G (Md.three (addA M0 p) lt le nd) H8 H2 ∧ TState (addA M0 p) A.K H2 lt le nd (((R.next (s.T.getD i [])).take j).foldl (addE i) s) ∧ ∃ a b, σ2 = [some (.ref p), some rv, some (.str (st row)), some (.ref nd), some (.int (i : Int)), a, b],
          ⟨G.rf g8.dm, ts7.mono g8.ex, a, b, rfl⟩, fun j σ2 H2 pv => pv.1, ?_, ?_⟩
        · rintro j d v σ2 H2 hd rv' ⟨g2, ts2, a', b', rfl⟩
          obtain ⟨pp, hpp, rfl⟩ := map_get hd
          refine g_tup rv' rfl fun xs rxs => ?_
          obtain ⟨x5, x6, rfl, q5, q6⟩ := reps2 rxs
          rw [rep_s.mp q6]
          refine ⟨x5, _, rfl, .str (st pp.2), _, rfl, rfl, ?_⟩
          have esucc : ((R.next (s.T.getD i [])).take (j + 1)).foldl (addE i) s = addE i (((R.next (s.T.getD i [])).take j).foldl (addE i) s) pp := by
            rw [List.take_add_one, hpp, List.foldl_append]
            rfl
          obtain ⟨invj, hij, _⟩ := inv.adds (ps := (R.next (s.T.getD i [])).take j) hti fun z hz => List.mem_of_mem_take hz
          have lTj := invj.len ok
          have lEj : (((R.next (s.T.getD i [])).take j).foldl (addE i) s).E.length ≤ 6000 := by
            rw [addE_len, List.length_take]
            have := Rl.next_len (R := R) (t := s.T.getD i [])
            omega
          obtain ⟨sj, esj⟩ : ∃ x, x = ((R.next (s.T.getD i [])).take j).foldl (addE i) s := ⟨_, rfl⟩
          rw [← esj] at ts2 invj lTj lEj hij esucc
          have gpre : G (Md.three (addA M0 p) lt le nd) H6 H8 := g67.trans ⟨g8.dm, fun a o _ e => g8.ex a o e, g8.th⟩
          have hpz : ∀ {Hz : Hp}, G (Md.three (addA M0 p) lt le nd) H8 Hz → Hz p = some (.ins A.Tails dx [("tails", .ref lt), ("edges", .ref le)]) := fun g => (gpre.trans g).st p _ np hp6
          -- the edge
          have hB : ∀ (D0 : Ends), (∀ σ2 H2, (G (Md.three (addA M0 p) lt le nd) H8 H2 ∧ TState (addA M0 p) A.K H2 lt le nd (((R.next (s.T.getD i [])).take (j + 1)).foldl (addE i) s) ∧ ∃ a b, σ2 = [some (.ref p), some rv, some (.str (st row)), some (.ref nd), some (.int (i : Int)), a, b]) → D0.nx σ2 H2) →
              ∀ Hz, G (Md.three (addA M0 p) lt le nd) H8 Hz → TState (addA M0 p) A.K Hz lt le nd ⟨if pp.2 ∈ sj.T then sj.T else sj.T ++ [pp.2], sj.E⟩ → Rep (Md.three (addA M0 p) lt le nd).M A.K Hz (Rl.bsign pp.1) x5 →
              tDrop (tBM A.K "list" rAppend (tFld A.K (tVar 0) "edges") (tCons (tTup (tCons (tVar 4) (tCons (tOp (rIxU A.K) (tVar 3) (tVar 6)) (tCons (tVar 5) tNil)))) tNil)) D0
                [some (.ref p), some rv, some (.str (st row)), some (.ref nd), some (.int (i : Int)), some x5, some (.str (st pp.2))] Hz := by
            intro D0 hD0 Hz gz tz q5z
            obtain ⟨ys, hy, rys⟩ := tz.le
            have hmem : pp.2 ∈ (if pp.2 ∈ sj.T then sj.T else sj.T ++ [pp.2]) := by
              by_cases c : pp.2 ∈ sj.T
              · rw [if_pos c]; exact c
              · rw [if_neg c]; simp
            have hnd' : (if pp.2 ∈ sj.T then sj.T else sj.T ++ [pp.2]).Nodup := by
              by_cases c : pp.2 ∈ sj.T
              · rw [if_pos c]; exact invj.nd
              · rw [if_neg c, List.nodup_append]
                exact ⟨invj.nd, by simp, fun a ha b hb => by rw [List.mem_singleton.mp hb]; exact fun e => c (e ▸ ha)⟩
            refine s_app (m := Md.pure (Md.three (addA M0 p) lt le nd).M) (d := edgeD (i, (if pp.2 ∈ sj.T then sj.T else sj.T ++ [pp.2]).idxOf pp.2, pp.1)) gz.dm hy (fun z => z) (ev_fldR (hpz gz) (fun z => z) (ev_vs (i := 0) rfl) TT.cl_Tails TT.edges rfl (rep_s.mpr rfl)) (ev_tup (ea_cons (ev_vs rfl) (ea_cons (ev_ixDR (k := keyW pp.2) (ev_vs rfl) (ev_vs rfl) tz.nd (fun z => z) (val_in hnd' hmem)) (ea_cons (ev_var rfl q5z) ea_nil))) (by simp)) (by rw [rys.len, List.length_map]; show sj.E.length < _; omega) fun v1 H9 g9 r9 => ?_
            have tz9 := tz.mono g9.ex
            have hy9 := g9.ex _ _ hy
            have gl : G (Md.three (addA M0 p) lt le nd) H9 (upd H9 le (.lst (ys ++ [v1]))) := (G.rf (m := Md.three (addA M0 p) lt le nd) g9.dm).put (.inr (.inl rfl))
            have tend : TState (addA M0 p) A.K (upd H9 le (.lst (ys ++ [v1]))) lt le nd (addE i sj pp) := ?_
            refine hD0 _ _ ⟨(gz.trans ⟨g9.dm, fun a o _ e => g9.ex a o e, g9.th⟩).trans gl, by rw [esucc]; exact tend, some x5, some (.str (st pp.2)), rfl⟩
            refine ⟨?_, ⟨ys ++ [v1], upd_same, ?_⟩, ?_⟩
            · rw [upd_ne (Ne.symm lep)]
              exact tz9.lt
            · have ry9 : Reps (Md.three (addA M0 p) lt le nd).M A.K H9 (sj.E.map edgeD) ys := nlts tz9 ys hy9
              show Reps _ _ _ ((sj.E ++ [_]).map edgeD) _
              rw [List.map_append]
              exact Reps.snoc (m := Md.three (addA M0 p) lt le nd) (Reps.mono gl ry9) (Rep.mono gl r9)
            · rw [upd_ne ndle]
              exact tz9.nd
          have q5' := q5
          refine sq ?_
          refine s_if (m := Md.pure (Md.three (addA M0 p) lt le nd).M) (b := decide (pp.2 ∉ sj.T)) g2.dm ((et_test (ev_ninDR (k := keyW pp.2) (ev_vs rfl) (ev_vs rfl) ts2.nd (fun z => z))).is ?_) (fun hb H9 g9 => ?_) (fun hb H9 g9 => ?_)
          · by_cases c : pp.2 ∈ sj.T
            · rw [val_in invj.nd c, decide_eq_false (by simpa using c)]
              rfl
            · rw [val_out c, decide_eq_true c]
              rfl
          · have hnin : pp.2 ∉ sj.T := of_decide_eq_true hb
            have ts9 := ts2.mono g9.ex
            have g89 : G (Md.three (addA M0 p) lt le nd) H8 H9 := g2.trans ⟨g9.dm, fun a o _ e => g9.ex a o e, g9.th⟩
            refine sq ?_
            have elen : EvD (Md.pure (Md.three (addA M0 p) lt le nd).M) A.K (tCB (rLenU A.K) (tCons (tFld A.K (tVar 0) "tails") tNil)) [some (.ref p), some rv, some (.str (st row)), some (.ref nd), some (.int (i : Int)), some x5, some (.str (st pp.2))] H9 (dI (sj.T.length : Int)) :=
              (ev_lenR (ev_fldR (hpz g89) (fun z => z) (ev_vs (i := 0) rfl) TT.cl_Tails TT.tails rfl (rep_s.mpr rfl)) ts9.lt (fun z => z)).is (by rw [List.length_map])
            refine elen.run g9.dm fun v10 H10 g10 r10 => ?_
            rw [rep_s.mp r10]
            have ts10 := ts9.mono g10.ex
            have g810 : G (Md.three (addA M0 p) lt le nd) H8 H10 := g89.trans ⟨g10.dm, fun a o _ e => g10.ex a o e, g10.th⟩
            refine ⟨.ref nd, rfl, .str (st pp.2), rfl, .inr ⟨nd, _, rfl, DPut.k (k := keyW pp.2) ts10.nd (by rw [List.length_zip, numV_len]; exact Nat.lt_of_le_of_lt (Nat.min_le_right _ _) (Nat.lt_of_le_of_lt lTj (by decide))), ?_⟩⟩
            have gl : G (Md.three (addA M0 p) lt le nd) H10 (upd H10 nd (.dK (putK ((sj.T.map keyW).zip (numV sj.T.length)) (keyW pp.2) (.int (sj.T.length : Int))))) := (G.rf (m := Md.three (addA M0 p) lt le nd) g10.dm).put (.inr (.inr rfl))
            have g11 := g810.trans gl
            refine s_app (m := Md.pure (Md.three (addA M0 p) lt le nd).M) (d := dS (st pp.2)) g11.dm (by rw [upd_ne (Ne.symm ndlt)]; exact ts10.lt) (fun z => z) (ev_fldR (hpz g11) (fun z => z) (ev_vs (i := 0) rfl) TT.cl_Tails TT.tails rfl (rep_s.mpr rfl)) (ev_vs rfl) (by rw [List.length_map]; omega) fun v12 H12 g12 r12 => ?_
            rw [rep_s.mp r12]
            have gl2 : G (Md.three (addA M0 p) lt le nd) H12 (upd H12 lt (.lst ((sj.T.map fun w => V.str (st w)) ++ [.str (st pp.2)]))) := (G.rf (m := Md.three (addA M0 p) lt le nd) g12.dm).put (.inl rfl)
            have gtail := (gl.trans ⟨g12.dm, fun a o _ e => g12.ex a o e, g12.th⟩).trans gl2
            refine hB _ (fun _ _ z => z) _ (g810.trans gtail) ⟨?_, ?_, ?_⟩ (Rep.mono (m := Md.three (addA M0 p) lt le nd) gtail (Rep.mono (m := Md.pure (Md.three (addA M0 p) lt le nd).M) (g9.trans g10) q5'))
            · rw [upd_same, if_neg hnin, List.map_append]
              rfl
            · obtain ⟨ys, hy, rys⟩ := ts10.le
              refine ⟨ys, ?_, Reps.mono gtail rys⟩
              rw [upd_ne lep]
              exact g12.ex _ _ (by rw [upd_ne (Ne.symm ndle)]; exact hy)
            · rw [upd_ne ndlt]
              refine (g12.ex _ _ upd_same).trans ?_
              rw [putK_new _ (val_out hnin), if_neg hnin, List.map_append, List.length_append, List.length_singleton, numV_succ, List.zip_append (by rw [List.length_map, numV_len])]
              rfl
          · have hin : pp.2 ∈ sj.T := by
              have := of_decide_eq_false hb
              exact Decidable.not_not.mp this
            have ts9 := ts2.mono g9.ex
            have g89 : G (Md.three (addA M0 p) lt le nd) H8 H9 := g2.trans ⟨g9.dm, fun a o _ e => g9.ex a o e, g9.th⟩
            refine hB _ (fun _ _ z => z) _ g89 ⟨by rw [if_pos hin]; exact ts9.lt, ts9.le, by rw [if_pos hin]; exact ts9.nd⟩ (Rep.mono (m := Md.pure (Md.three (addA M0 p) lt le nd).M) g9 q5')
        · rintro σ2 H2 ⟨g2, ts2, a', b', rfl⟩
          rw [show ((R.next (s.T.getD i [])).map Rl.nextD).length = (R.next (s.T.getD i [])).length from List.length_map .., List.take_length] at ts2
          have gT := (g67.trans ⟨g8.dm, fun a o _ e => g8.ex a o e, g8.th⟩).trans g2
          refine s_asgS (m := Md.pure (Md.three (addA M0 p) lt le nd).M) (K := A.K) g2.dm ((ev_op (ev_vs rfl) ev_c opd_addI).is (d' := dI ((i + 1 : Nat) : Int)) rfl) fun H9 g9 => ⟨a', b', rfl, ts2.mono g9.ex, gT.trans ⟨g9.dm, fun a o _ e => g9.ex a o e, g9.th⟩⟩
    · have hge : i = s.T.length := by
        have : ¬ i < s.T.length := of_decide_eq_false hlt'
        omega
      have es : s = R.tailsF row := by
        rw [← hrun, show 3000 - i = (3000 - (i + 1)) + 1 by omega]
        show _ = if i < s.T.length then _ else s
        rw [if_neg (by omega)]
      have ts7 := ts.mono g7.ex
      have g67 : G (Md.three (addA M0 p) lt le nd) H6 H7 := gg.trans ⟨g7.dm, fun a o _ e => g7.ex a o e, g7.th⟩
      have hp7 := g67.st p _ np hp6
      refine s_fldD (m := Md.pure (Md.three (addA M0 p) lt le nd).M) g7.dm hp7 (fun z => z) (ev_lenR (ev_fldR hp7 (fun z => z) (ev_vs (i := 0) rfl) TT.cl_Tails TT.tails rfl (rep_s.mpr rfl)) ts7.lt (fun z => z)) (fun H1 g => ev_vs (i := 0) rfl) TT.cl_Tails TT.many (by simp) fun v8 H8 g8 r8 => ?_
      rw [rep_s.mp r8]
      have ts8 := ts7.mono g8.ex
      have g68 : G (Md.three (addA M0 p) lt le nd) H6 H8 := g67.trans ⟨g8.dm, fun a o _ e => g8.ex a o e, g8.th⟩
      refine q _ (fun a o ne e => ?_) ?_
      · have e6 := old6 a o ne e
        rw [upd_ne ne]
        refine g68.st a o ?_ e6
        rintro (k | k | k)
        · rw [k, nlt] at e; cases e
        · rw [k, nle] at e; cases e
        · rw [k, hnd0] at e; cases e
      · have n1 : ¬ M0 lt := fun h => dm0 lt h nlt
        have n2 : ¬ M0 le := fun h => dm0 le h nle
        obtain ⟨ys, hy, rys⟩ := ts8.le
        have ex8 : ∀ a o, ¬ (Md.three (addA M0 p) lt le nd).M a → H8 a = some o → upd H8 p (.ins A.Tails dx (putF "many" (.int ((s.T.map fun w => V.str (st w)).length : Int)) [("tails", .ref lt), ("edges", .ref le)])) a = some o := fun a o na e => by
          have ap : a ≠ p := fun k => na (.inl (.inl (.inl (.inr k))))
          rw [upd_ne ap]
          exact e
        rw [← es]
        unfold tailsD
        refine (rep_i (m := Md.pure M0)).mpr ⟨p, dx, [("tails", .ref lt), ("edges", .ref le), ("many", .int ((s.T.map fun w => V.str (st w)).length : Int))], [.ref lt, .ref le, .int ((s.T.map fun w => V.str (st w)).length : Int)], rfl, StI.of upd_same nM, ⟨?_, fun f hf => lookup_out (ks := ["tails", "edges", "many"]) rfl hf⟩, ?_⟩
        · intro j f x h1 h2
          have hj : j < 3 := (List.getElem?_eq_some_iff.mp h1).1
          have : j = 0 ∨ j = 1 ∨ j = 2 := by omega
          rcases this with rfl | rfl | rfl <;> (cases h1; cases h2; rfl)
        · refine Reps.cons (m := Md.pure M0) (rep_l.mpr ⟨lt, _, rfl, StL.of (by rw [upd_ne ltp]; exact ts8.lt) n1, ?_⟩) (Reps.cons (rep_l.mpr ⟨le, ys, rfl, StL.of (by rw [upd_ne lep']; exact hy) n2, Reps.less (M' := (Md.three (addA M0 p) lt le nd).M) (fun a ha => .inl (.inl (.inl (.inl ha)))) (Reps.ext ex8 rys)⟩) (Reps.cons (rep_s.mpr (by rw [List.length_map])) Reps.nil))
          rw [dS_map]
          exact reps_str.mpr (by rw [List.map_map]; rfl)
end
end GK

namespace GK
open PySem PySem.Spec PyProof.Rows L2
/-- what layers hands back: the layers; each dict is new -/
def LayP (A : Ad) (H : Hp) (Ls : List Layer) (M : Addr → Prop) (v : V) (H' : Hp) : Prop := ∃ p xs, v = .ref p ∧ H p = none ∧ H' p = some (.lst xs) ∧ ¬ M p ∧ Reps M A.K H' (Ls.map layD) xs ∧ ∀ x ∈ xs, ∃ d kvs, x = .ref d ∧ H d = none ∧ H' d = some (.dK kvs)
def sp_Laying_layers (A : Ad) : Sp := fun vs H Q _ => ∃ (R : Rl) (past : List (List Nat)) (row : List Nat) (n : Nat), R.Ok ∧ row.length ≤ 1000 ∧ (∀ c ∈ row, c ∈ R.kinds) ∧ n ≤ 200 ∧ Pp A.K vs H Q [lanD A R (past ++ [row]), dI (n : Int)] (LayP A H (R.layersF (R.tailsF row).E n))
theorem ev_mkTails {A : Ad} {m : Md} {σ : L2.St} {H : Hp} {ta : TA} {R : Rl} {row : List Nat} {E : XK} (ok : R.Ok) (hl : row.length ≤ 1000) (hk : ∀ c ∈ row, c ∈ R.kinds) (h : EvA m A.K ta σ H [ruleD A R, dS (st row)]) : EvD m A.K (tMake A.Tails (sp_Tails_init A) [] E ta) σ H (tailsD A (R.tailsF row)) := fun H1 g Q k =>
  h H1 g _ fun vs H2 g2 rs x dx hx hdx ne => by
    obtain ⟨rv, y, rfl, r1, r2⟩ := reps2 rs
    rw [rep_s.mp r2]
    have dxx : dx ≠ x := ne
    refine ⟨R, row, m.M, x, dx, rv, ok, hl, hk, fun a ha => ?_, rfl, ?_, upd_same, fun hM => g2.dm x hM hx, fun H' old r => ⟨rfl, k _ H' ?_ r⟩⟩
    · by_cases e : a = x
      · rw [e, upd_same]; intro z; cases z
      · rw [upd_ne e]
        by_cases e2 : a = dx
        · rw [e2, upd_same]; intro z; cases z
        · rw [upd_ne e2]; exact g2.dm a ha
    · refine Rep.ext (fun a o na e => ?_) (Rep.add hx r1)
      rw [upd_ne (fun q => na (.inr q)), upd_ne (ne_of_none e hdx)]
      exact e
    · refine g2.trans (G.all g2.dm fun a o e => old a o (ne_of_none e hx) ?_)
      rw [upd_ne (ne_of_none e hx), upd_ne (ne_of_none e hdx)]
      exact e
section
variable {prog : Program} {w : World} {mg : Str → Option Value} {base : Heap} {A : Ad}
theorem k_Laying_layers (TL : LanT A) (TT : TailsT A) (T : RuleT A) (B : BI mg) (F : MethAt A.K A.Laying "layers" "Laying.layers" s_Laying_layers ["self", "places"] []) (c_Tails_init : CalleeC prog w A.K mg base "Tails" A.Tails ["self", "rule", "row"] 3 (sp_Tails_init A) []) :
    CalleeM prog w A.K mg base A.Laying "layers" ["self", "places"] 5 (sp_Laying_layers A) [] := by
  obtain ⟨f, fd, ds, F, hk, hv, b, b2⟩ := F
  refine ⟨f, fd, ds, F.ok sc_Laying_layers (fun vs H Q E h => ?_) (fun cdv Ar outer s H vs Q E hr h => ?_), hk, hv, b, b2⟩
  · obtain ⟨R, past, row, n, _, _, _, _, h⟩ := h
    exact h.len
  · obtain ⟨R, past, row, n, ok, hl, hk, hn, h⟩ := h
    obtain ⟨M, dm, rs, q⟩ := h.use
    obtain ⟨x, y, rfl, r, r1⟩ := reps2 rs
    rw [rep_s.mp r1]
    refine ⟨_, (pss_cons (ps_set (i := 2) sc_Laying_layers.nd rfl (Or.inl rfl) (pe_mk c_Tails_init hr (by decide) (pa_cons (pe_fld (pv 0) rfl) (pa_cons (pe_ix (ix_uni (hu_of hr)) (pe_fld (pv 0) rfl) (pe_un u_neg pe_int) (fun _ _ => rfl)) pa_nil)))) (pss_cons (ps_par (i := 3) (j := 4) (by rfl) sc_Laying_layers.nd rfl rfl (by decide) rfl rfl (pa_cons (pe_lc (own := [("node", 12)]) (g := (gName 12)) (tt := tYes) (te := (tLst tNil)) rfl sc_Laying_layers.nd (pi_range1 rfl B.b_range (pa_cons (pe_fld (pv 2) rfl) pa_nil)) (blkOk_by (own := [("node", 12)]) (N := ["self", "places", "rows", "out", "found", "near", "far", "kind", "place", "later", "told", "worth", "node"]) (sc := defScope s_Laying_layers) (by decide +kernel))  (fun _ _ _ _ _ => (pg_name (i := 12) sc_Laying_layers.nd rfl (Or.inl rfl))) (fun _ _ _ _ _ => pts_nil) (fun _ _ _ _ _ => (pe_lst pa_nil))) (pa_cons (pe_lst (pa_cons (pe_disp (pps_cons pe_int (pe_tup (pa_cons pe_int (pa_cons pe_non (pa_cons pe_non pa_nil)))) pps_nil) (by rfl) (by rfl) (fun z => by cases z) (by decide)) pa_nil)) pa_nil)) (by rfl)) (pss_cons (ps_for PassesOwn.never rfl (pi_any (pe_fld (pv 2) rfl)) (pg_tup rfl (pgs_cons (pg_name (i := 5) sc_Laying_layers.nd rfl (Or.inl rfl)) (pgs_cons (pg_name (i := 6) sc_Laying_layers.nd rfl (Or.inl rfl)) (pgs_cons (pg_name (i := 7) sc_Laying_layers.nd rfl (Or.inl rfl)) pgs_nil)))) (pss_one (ps_expr (pe_bm PySem.F.plainAttrs_list PySem.F.slot_list_append PySem.F.type_list_append mt_append (pe_ix (ix_uni (hu_of hr)) (pv 3) (pv 5) (fun _ _ => rfl)) (pa_cons (pe_tup (pa_cons (pv 6) (pa_cons (pv 7) pa_nil))) pa_nil))))) (pss_cons (ps_for PassesOwn.never rfl (pi_range1 rfl B.b_range (pa_cons (pv 1) pa_nil)) (pg_name (i := 8) sc_Laying_layers.nd rfl (Or.inl rfl)) (pss_cons (ps_set (i := 9) sc_Laying_layers.nd rfl (Or.inl rfl) pe_dnewK) (pss_cons (ps_lock (ps_for PassesOwn.never rfl (pi_items (pe_ix (ix_uni (hu_of hr)) (pv 4) (pe_un u_neg pe_int) (fun _ _ => rfl))) (pg_tup rfl (pgs_cons (pg_name (i := 5) sc_Laying_layers.nd rfl (Or.inl rfl)) (pgs_cons (pg_name (i := 10) sc_Laying_layers.nd rfl (Or.inl rfl)) pgs_nil))) (pss_one (ps_for PassesOwn.never rfl (pi_any (pe_ix (ix_uni (hu_of hr)) (pv 3) (pv 5) (fun _ _ => rfl))) (pg_tup rfl (pgs_cons (pg_name (i := 6) sc_Laying_layers.nd rfl (Or.inl rfl)) (pgs_cons (pg_name (i := 7) sc_Laying_layers.nd rfl (Or.inl rfl)) pgs_nil))) (pss_cons (ps_set (i := 11) sc_Laying_layers.nd rfl (Or.inl rfl) (pe_op u_add (pe_ix (ix_uni (hu_of hr)) (pv 10) pe_int (fun _ _ => rfl)) (pe_ix (ix_uni (hu_of hr)) (pe_fld (pe_fld (pv 0) rfl) rfl) (pv 7) (fun _ _ => rfl)))) (pss_one (ps_if (PW.pt (pw_or (pt_cmpR (u_nin (hu_of hr)) (pv 6) (pv 9) (by rfl)) (pw_or1 (pt_cmpR u_gt (pv 11) (pe_ix (ix_uni (hu_of hr)) (pe_ix (ix_uni (hu_of hr)) (pv 9) (pv 6) (fun _ _ => rfl)) pe_int (fun _ _ => rfl)) (nomark _))))) (pss_one (ps_asg (pe_tup (pa_cons (pv 11) (pa_cons (pv 5) (pa_cons (pv 7) pa_nil)))) (pg_sub (pv 9) (pv 6) (set_uni (hu_of hr))))) pss_nil))))))) (pss_one (ps_expr (pe_bm PySem.F.plainAttrs_list PySem.F.slot_list_append PySem.F.type_list_append mt_append (pv 4) (pa_cons (pv 9) pa_nil))))))) (pss_one (ps_ret (pv 4))))))), ?_⟩
    obtain ⟨inv, ht0⟩ := ok.tails hk
    have hTl := inv.len ok
    have hEl := ok.lenE row
    refine sq (s_asg dm (ev_mkTails ok hl hk (ea_cons (ev_rule TL (ev_var rfl r)) (ea_cons (ev_op (ev_past TL (ev_var rfl r)) ((ev_un ev_c und_neg).is (d' := dI (-1)) rfl) (opd_ixL (d := dS (st row)) (by rw [List.map_append]; exact atI_last))) ea_nil))) fun v2 H1 g1 r2 => ?_)
    generalize R.tailsF row = s0 at q inv ht0 hTl hEl r2
    have r01 := r.mono g1
    -- out, found
    show tPar 3 4 (tCons (tLc (iRng1 (tCons (tFld A.K (tVar 2) "many") tNil)) (gName 12) tYes (tLst tNil) [12]) (tCons (tLst (tCons (tDisp (((tC (.int 0)), (tTup (tCons (tC (.int 0)) (tCons (tC .non) (tCons (tC .non) tNil))))) :: [])) tNil)) tNil)) _ [some x, some (.int (n : Int)), some v2, none, none, none, none, none, none, none, none, none, none] H1
    refine s_parR ?_
    refine EvP.run g1.dm (ev_lcLists (m := Md.pure M) (K := A.K) (σ := [some x, some (.int (n : Int)), some v2, none, none, none, none, none, none, none, none, none, none]) (n := s0.T.length) (by show 12 < 13; decide) (fun _ _ z => z) (ea_cons (ev_many TT (ev_var (i := 2) rfl r2)) ea_nil) (by omega)) fun v3 H2 g2 ⟨lo, ls, e3, hlo, hnd, hll, hls, hlo2⟩ => ?_
    subst e3
    refine fun d0 hd0 => ⟨by show 3 ≤ sizeLine; decide, fun t ht => ?_⟩
    have td : t ≠ d0 := fun e => by rw [e, upd_same] at ht; cases ht
    have ht2 : H2 t = none := by rw [upd_ne td] at ht; exact ht
    refine ⟨by rw [upd_ne (Ne.symm td), upd_same], [(keyN 0, .ref t)], rfl, by show 1 ≤ 15; decide, by show 1 ≤ sizeLine; decide, fun lf hlf => ⟨.ref lo, .ref lf, rfl, ?_⟩⟩
    have d0lo : d0 ≠ lo := fun e => by rw [e, hlo2] at hd0; cases hd0
    have tlo : t ≠ lo := fun e => by rw [e, hlo2] at ht2; cases ht2
    have hlf3 : upd (upd H2 d0 (.dK [])) t (.tup [.int 0, .non, .non]) lf = none := by
      have ne : lf ≠ d0 := fun e => by rw [e, upd_same] at hlf; cases hlf
      rw [upd_ne ne] at hlf
      exact hlf
    have lft : lf ≠ t := fun e => by rw [e, upd_same] at hlf3; cases hlf3
    have lfd0 : lf ≠ d0 := fun e => by rw [e, upd_same] at hlf; cases hlf
    have hlf2 : H2 lf = none := by
      rw [upd_ne lft, upd_ne lfd0] at hlf3
      exact hlf3
    have lflo : lf ≠ lo := fun e => by rw [e, hlo2] at hlf2; cases hlf2
    have old5 : ∀ a o, H2 a = some o → upd (upd (upd (upd H2 d0 (.dK [])) t (.tup [.int 0, .non, .non])) d0 (.dK (mergeK [] [(keyN 0, .ref t)]))) lf (.lst [.ref d0]) a = some o := fun a o e => by
      rw [upd_ne (ne_of_none e hlf2), upd_ne (ne_of_none e hd0), upd_ne (ne_of_none e ht2), upd_ne (ne_of_none e hd0)]
      exact e
    have hlf5 : upd (upd (upd (upd H2 d0 (.dK [])) t (.tup [.int 0, .non, .non])) d0 (.dK (mergeK [] [(keyN 0, .ref t)]))) lf (.lst [.ref d0]) lf = some (.lst [.ref d0]) := upd_same
    have hd5 : upd (upd (upd (upd H2 d0 (.dK [])) t (.tup [.int 0, .non, .non])) d0 (.dK (mergeK [] [(keyN 0, .ref t)]))) lf (.lst [.ref d0]) d0 = some (.dK [(keyN 0, .ref t)]) := by rw [upd_ne (Ne.symm lfd0), upd_same]; rfl
    have ht5 : upd (upd (upd (upd H2 d0 (.dK [])) t (.tup [.int 0, .non, .non])) d0 (.dK (mergeK [] [(keyN 0, .ref t)]))) lf (.lst [.ref d0]) t = some (.tup [.int 0, .non, .non]) := by rw [upd_ne (Ne.symm lft), upd_ne td, upd_same]
    generalize upd (upd (upd (upd H2 d0 (.dK [])) t (.tup [.int 0, .non, .non])) d0 (.dK (mergeK [] [(keyN 0, .ref t)]))) lf (.lst [.ref d0]) = H5 at old5 hlf5 hd5 ht5 ⊢
    have old15 : ∀ a o, H1 a = some o → H5 a = some o := fun a o e => old5 a o (g2.ex a o e)
    have f1 : ∀ a, H2 a = none → H1 a = none := fun a e => g2.free e
    have hd01 := f1 d0 hd0
    have ht1 := f1 t ht2
    have hlf1 := f1 lf hlf2
    have hls5 : ∀ l ∈ ls, H5 l = some (.lst []) := fun l hl' => old5 l _ (hls l hl').2.2
    have hlo5 := old5 lo _ hlo2
    have eN : ∀ a, a ∈ ls → H1 a = none := fun a ha => (hls a ha).2.1
    have r2L : Rep (addN M (· ∈ ls)) A.K H5 (tailsD A s0) v2 := Rep.ext (fun a o _ e => old15 a o e) (Rep.addF eN r2)
    have dmL : Dm (Md.pure (addN M (· ∈ ls))) H5 := fun a ha => by
      rcases ha with ha | ha
      · cases e : H1 a with
        | none => exact absurd e (g1.dm a ha)
        | some o => rw [old15 a o e]; intro z; cases z
      · rw [hls5 a ha]; intro z; cases z
    clear hlf hlf3 hlo2 ht
    -- the edges of each node
    show tSeq _ _ _ [some x, some (.int (n : Int)), some v2, some (.ref lo), some (.ref lf), none, none, none, none, none, none, none, none] H5
    refine sq ?_
    refine s_for (m := Md.pure (addN M (· ∈ ls))) (dd := .l (s0.E.map edgeD)) dmL (ev_edges TT (ev_var (i := 2) rfl r2L)) rfl fun H6 g6 => ⟨Md.lists M (· ∈ ls), rfl, fun a σ' H' => G (Md.lists M (· ∈ ls)) H6 H' ∧ (∃ a5 a6 a7, σ' = [some x, some (.int (n : Int)), some v2, some (.ref lo), some (.ref lf), a5, a6, a7, none, none, none, none, none]) ∧
      ∀ (j : Nat) l, ls[j]? = some l → ∃ xs, H' l = some (.lst xs) ∧ Reps (Md.lists M (· ∈ ls)).M A.K H' ((outOf (s0.E.take a) j).map outD) xs, ⟨G.rf g6.dm, ⟨none, none, none, rfl⟩, fun j l h2 => ⟨[], g6.ex l _ (hls5 l (List.mem_of_getElem? h2)), Reps.nil⟩⟩, fun a σ' H' pv => pv.1, ?_, ?_⟩
    · rintro a d v σ' H' hd rv ⟨gg, ⟨a5, a6, a7, rfl⟩, hl'⟩
      obtain ⟨ed, he, rfl⟩ := map_get hd
      refine g_tup rv rfl fun xs rxs => ?_
      obtain ⟨y1, y2, y3, rfl, q1, q2, q3⟩ := reps3 rxs
      rw [rep_s.mp q1, rep_s.mp q2]
      refine ⟨_, _, rfl, _, _, rfl, y3, _, rfl, rfl, ?_⟩
      obtain ⟨tt, e1, _, _, _⟩ := inv.ed ed (List.mem_of_getElem? he)
      have hlt : ed.1 < ls.length := by rw [hll]; exact (List.getElem?_eq_some_iff.mp e1).1
      have hlj : ls[ed.1]? = some ls[ed.1] := List.getElem?_eq_getElem hlt
      generalize ls[ed.1] = l at hlj
      have hlm := List.mem_of_getElem? hlj
      obtain ⟨ys, hy, rys⟩ := hl' ed.1 l hlj
      have loN : ¬ lo ∈ ls := fun hm => (hls lo hm).1 rfl
      have hloH := gg.st lo _ loN (g6.ex lo _ hlo5)
      refine s_app (m := Md.pure (addN M (· ∈ ls))) (d := outD ed.2) gg.dm hy (fun z => z) (ev_ixLR (ev_vs (i := 3) rfl) (ev_vs rfl) hloH (fun z => z) (atI_nat (j := ed.1) rfl (get_map hlj))) (ev_tup (ea_cons (ev_vs rfl) (ea_cons (ev_var rfl q3) ea_nil)) (by simp)) (by rw [rys.len, List.length_map]; have := outOf_len (s0.E.take a) ed.1; rw [List.length_take] at this; omega) fun v1 H16 g16 r16 => ?_
      have hy16 := g16.ex l _ hy
      refine ⟨(gg.trans ⟨g16.dm, fun a o _ e => g16.ex a o e, g16.th⟩).put hlm, ⟨_, _, _, rfl⟩, fun j l' h2 => ?_⟩
      obtain ⟨zs, hz, rzs⟩ := hl' j l' h2
      have hz16 := g16.ex l' _ hz
      have rzs16 : Reps (Md.lists M (· ∈ ls)).M A.K (upd H16 l (.lst (ys ++ [v1]))) _ _ := Reps.putL hy16 (out_noL _) (Reps.mono (m := Md.pure (addN M (· ∈ ls))) g16 rzs)
      have r16' : Rep (Md.lists M (· ∈ ls)).M A.K (upd H16 l (.lst (ys ++ [v1]))) (outD ed.2) v1 := Rep.putL hy16 rfl r16
      rw [outOf_take s0.E a j ed he]
      by_cases ej : ed.1 = j
      · subst ej
        rw [hlj] at h2
        cases h2
        rw [hy] at hz
        cases hz
        rw [if_pos rfl, List.map_append]
        exact ⟨_, upd_same, rzs16.snoc r16'⟩
      · have nel : l' ≠ l := fun e => by
          subst e
          obtain ⟨hj1, e1⟩ := List.getElem?_eq_some_iff.mp h2
          exact ej ((List.getElem?_inj hj1 hnd).mp (h2.trans hlj.symm)).symm
        rw [if_neg ej, List.append_nil]
        exact ⟨zs, by rw [upd_ne nel]; exact hz16, rzs16⟩
    · rintro σ' H7 ⟨gg, ⟨a5, a6, a7, rfl⟩, hl'⟩
      rw [show (s0.E.map edgeD).length = s0.E.length from List.length_map .., List.take_length] at hl'
      have n1 : ∀ a o, H1 a = some o → ¬ a ∈ ls := fun a o e hm => by rw [eN a hm] at e; cases e
      have old7 : ∀ a o, H1 a = some o → H7 a = some o := fun a o e => gg.st a o (n1 a o e) (g6.ex a o (old15 a o e))
      have to7 : ∀ a o, ¬ a ∈ ls → H5 a = some o → H7 a = some o := fun a o hn e => gg.st a o hn (g6.ex a o e)
      have nls : ∀ a o, H5 a = some o → (∀ ys, o ≠ .lst ys) → ¬ a ∈ ls := fun a o e hne hm => by
        rw [hls5 a hm] at e
        exact hne _ (Option.some.inj e).symm
      have lfN : ¬ lf ∈ ls := fun hm => by
        have e := hls5 lf hm
        rw [hlf5] at e
        cases e
      have loN : ¬ lo ∈ ls := fun hm => (hls lo hm).1 rfl
      have hlf7 := to7 lf _ lfN hlf5
      have hlo7 := to7 lo _ loN hlo5
      have hd7 := to7 d0 _ (nls d0 _ hd5 (fun _ k => by cases k)) hd5
      have ht7 := to7 t _ (nls t _ ht5 (fun _ k => by cases k)) ht5
      have nM : ∀ a, H1 a = none → ¬ M a := fun a e hm => g1.dm a hm e
      have r7 : Rep (addA M lf) A.K H7 (lanD A R (past ++ [row])) x := Rep.ext (fun a o _ e => old7 a o e) (Rep.add hlf1 r01)
      have dm7 : Dm (Md.pure (addA M lf)) H7 := fun a ha => by
        rcases ha with ha | ha
        · exact gg.dm a (.inl ha)
        · rw [ha, hlf7]; intro z; cases z
      have ro7 : Rep (addA M lf) A.K H7 (outsD s0.E s0.T.length) (.ref lo) := by
        refine (rep_l (m := Md.pure (addA M lf))).mpr ⟨lo, ls.map V.ref, rfl, StL.of hlo7 (fun z => z.elim (nM lo hlo) (fun z => lflo z.symm)), reps_of (by rw [List.length_map, List.length_map, List.length_range, hll]) fun j d y h1 h2 => ?_⟩
        obtain ⟨j', hj', rfl⟩ := map_get h1
        obtain ⟨l, hlj, rfl⟩ := map_get h2
        have ejj : j = j' := by
          obtain ⟨hlt, e⟩ := List.getElem?_eq_some_iff.mp hj'
          rw [List.getElem_range] at e
          exact e
        subst ejj
        obtain ⟨xs, hx, rxs⟩ := hl' j l hlj
        have hlm := List.mem_of_getElem? hlj
        refine rep_l.mpr ⟨l, xs, rfl, StL.of hx (fun z => z.elim (nM l (eN l hlm)) (fun z => lfN (z ▸ hlm))), ?_⟩
        exact Reps.addN (M := M) (N := (· = lf)) (fun a ha => by rw [ha]; exact ⟨_, hlf7⟩) (out_noL _) (Reps.less (M' := (Md.lists M (· ∈ ls)).M) (fun a ha => .inl ha) rxs)
      have rd7 : Rep (addA M lf) A.K H7 (layD (R.layerAt s0.E 0)) (.ref d0) := by
        refine LR.to_rep (m := Md.pure (addA M lf)) (kvs := [(keyN 0, .ref t)]) ⟨rfl, Reps.cons ?_ Reps.nil⟩ hd7 (fun z => z.elim (nM d0 hd01) (fun z => lfd0 z.symm))
        show Rep _ _ _ (D.t [dI 0, dN, dN]) _
        exact rep_t.mpr ⟨t, _, rfl, StT.of ht7 (fun z => z.elim (nM t ht1) (fun z => lft z.symm)), Reps.cons (rep_s.mpr rfl) (Reps.cons (rep_s.mpr rfl) (Reps.cons (rep_s.mpr rfl) Reps.nil))⟩
      clear hl' gg hlo7 rs r2L dmL
      -- the layers
      refine sq ?_
      refine s_forR1 (m := Md.pure (addA M lf)) (K := A.K) (n := (n : Int)) dm7 (ea_cons (ev_vs (i := 1) rfl) ea_nil) (by omega) (by omega) fun H8 g8 => ⟨fun i σ' H' => (∀ a o, H1 a = some o → H' a = some o) ∧ Dm (Md.pure (addA M lf)) H' ∧ Rep (addA M lf) A.K H' (lanD A R (past ++ [row])) x ∧ Rep (addA M lf) A.K H' (outsD s0.E s0.T.length) (.ref lo) ∧
        (∃ dds : List Addr, dds.length = i + 1 ∧ H' lf = some (.lst (dds.map V.ref)) ∧ ∀ (j : Nat) d, dds[j]? = some d → H1 d = none ∧ (∃ kvs, H' d = some (.dK kvs)) ∧ Rep (addA M lf) A.K H' (layD (R.layerAt s0.E j)) (.ref d)) ∧
        ∃ b5 b6 b7 b8 b9 b10 b11, σ' = [some x, some (.int (n : Int)), some v2, some (.ref lo), some (.ref lf), b5, b6, b7, b8, b9, b10, b11, none], ⟨fun a o e => g8.ex a o (old7 a o e), g8.dm, Rep.mono g8 r7, Rep.mono g8 ro7, ⟨[d0], rfl, g8.ex lf _ hlf7, fun j d hj => ?_⟩, _, _, _, _, _, _, _, rfl⟩, ?_, ?_⟩
      · have ej : j = 0 := by
          have := (List.getElem?_eq_some_iff.mp hj).1
          simpa using this
        subst ej
        cases hj
        exact ⟨hd01, ⟨_, g8.ex d0 _ hd7⟩, Rep.mono g8 rd7⟩
      · rintro i σ' H' hi ⟨old, dmH, rH, roH, ⟨dds, hdl, hlfH, hdds⟩, b5, b6, b7, b8, b9, b10, b11, rfl⟩
        refine sq ?_
        refine fun lat hlat => ?_
        have hlat1 : H1 lat = none := by
          cases e : H1 lat with
          | none => rfl
          | some o => rw [old lat o e] at hlat; cases hlat
        have latlf : lat ≠ lf := fun e => by rw [e, hlfH] at hlat; cases hlat
        -- the last layer
        have hlast : dds[i]? = some (dds.getD i 0) := by rw [List.getD_eq_getElem?_getD, List.getElem?_eq_getElem (by omega : i < dds.length)]; rfl
        obtain ⟨hdn1, ⟨kvs, hdk⟩, rdk⟩ := hdds i _ hlast
        generalize dds.getD i 0 = d at hlast hdn1 hdk rdk
        have dlat : d ≠ lat := fun e => by rw [e, hlat] at hdk; cases hdk
        have dlf : d ≠ lf := fun e => by rw [e, hlfH] at hdk; cases hdk
        have eadd : addA (addA M lf) lat = (Md.pure (addA (addA M lf) lat)).M := rfl
        have rH8 : Rep (addA (addA M lf) lat) A.K (upd H' lat (.dK [])) (lanD A R (past ++ [row])) x := Rep.laid hlat rH
        have roH8 : Rep (addA (addA M lf) lat) A.K (upd H' lat (.dK [])) (outsD s0.E s0.T.length) (.ref lo) := Rep.laid hlat roH
        have rdk8 : Rep (addA (addA M lf) lat) A.K (upd H' lat (.dK [])) (layD (R.layerAt s0.E i)) (.ref d) := Rep.laid hlat rdk
        have hdk8 : upd H' lat (.dK []) d = some (.dK kvs) := by rw [upd_ne dlat]; exact hdk
        have lr8 := LR.of_rep (m := Md.pure (addA (addA M lf) lat)) rdk8 hdk8
        refine sq ?_
        refine ⟨d, .dK kvs, hdk8, trivial, fun od => ?_⟩
        have lrL : LR (Md.pure (addA (addA M lf) lat)) A.K (upd (upd H' lat (.dK [])) d (.frz od (.dK kvs))) (R.layerAt s0.E i) kvs := ⟨lr8.1, Reps.lock hdk8 lr8.2⟩
        have rL : Rep (addA (addA M lf) lat) A.K (upd (upd H' lat (.dK [])) d (.frz od (.dK kvs))) (lanD A R (past ++ [row])) x := Rep.lock hdk8 rH8
        have roL : Rep (addA (addA M lf) lat) A.K (upd (upd H' lat (.dK [])) d (.frz od (.dK kvs))) (outsD s0.E s0.T.length) (.ref lo) := Rep.lock hdk8 roH8
        have hdL : upd (upd H' lat (.dK [])) d (.frz od (.dK kvs)) d = some (.frz od (.dK kvs)) := upd_same
        have hlatL : upd (upd H' lat (.dK [])) d (.frz od (.dK kvs)) lat = some (.dK []) := by rw [upd_ne (Ne.symm dlat), upd_same]
        have hlfL : upd (upd H' lat (.dK [])) d (.frz od (.dK kvs)) lf = some (.lst (dds.map V.ref)) := by rw [upd_ne (Ne.symm dlf), upd_ne (Ne.symm latlf)]; exact hlfH
        have oldL : ∀ a o, a ≠ d → H' a = some o → upd (upd H' lat (.dK [])) d (.frz od (.dK kvs)) a = some o := fun a o ne e => by
          rw [upd_ne ne, upd_ne (ne_of_none e hlat)]
          exact e
        have dmLk : Dm (Md.pure (addA (addA M lf) lat)) (upd (upd H' lat (.dK [])) d (.frz od (.dK kvs))) := fun a ha => by
          by_cases e : a = d
          · rw [e, upd_same]; intro z; cases z
          · rw [upd_ne e]
            by_cases e2 : a = lat
            · rw [e2, upd_same]; intro z; cases z
            · rw [upd_ne e2]
              rcases ha with ha | ha
              · exact dmH a ha
              · exact absurd ha e2
        have hddsL : ∀ (j : Nat) d', dds[j]? = some d' → Rep (addA (addA M lf) lat) A.K (upd (upd H' lat (.dK [])) d (.frz od (.dK kvs))) (layD (R.layerAt s0.E j)) (.ref d') := fun j d' h => Rep.lock hdk8 (Rep.laid hlat (hdds j d' h).2.2)
        generalize upd (upd H' lat (.dK [])) d (.frz od (.dK kvs)) = HL at lrL rL roL hdL hlatL hlfL oldL dmLk hddsL ⊢
        have hML : addA (addA M lf) lat lat := .inr rfl
        refine s_forItems (m := Md.pure (addA (addA M lf) lat)) (q := d) dmLk (ev_ixLR (ev_vs (i := 4) rfl) ((ev_un ev_c und_neg).is (d' := dI (-1)) rfl) hlfL (fun z => z) (atI_neg (j := i) (by rw [List.length_map]; omega) (get_map hlast))) hdL (fun z => z) fun H9 g9 => ⟨fun a σ2 H2 => G (Md.one (addA (addA M lf) lat) lat hML) HL H2 ∧ (∃ kvl, H2 lat = some (.dK kvl) ∧ LR (Md.pure (addA (addA M lf) lat)) A.K H2 (((R.layerAt s0.E i).take a).foldl (fun acc x => (outOf s0.E x.1).foldl (R.relax x.1 x.2.1) acc) []) kvl) ∧
          From R s0.E (R.layerAt s0.E i) (((R.layerAt s0.E i).take a).foldl (fun acc x => (outOf s0.E x.1).foldl (R.relax x.1 x.2.1) acc) []) ∧ ∃ c5 c6 c7 c10 c11, σ2 = [some x, some (.int (n : Int)), some v2, some (.ref lo), some (.ref lf), c5, c6, c7, some (.int (i : Int)), some (.ref lat), c10, c11, none], ⟨G.one_of hML g9, ⟨[], g9.ex lat _ hlatL, LR.nil⟩, ⟨List.nodup_nil, fun x e h => by cases h⟩, _, _, _, _, _, rfl⟩, ?_, ?_, ?_⟩
        · rintro a σ2 H2 ⟨gg, _⟩
          exact gg.st d _ dlat hdL
        · rintro a key val σ2 H2 tp hkv ⟨gg, ⟨kvl, hkl, lrl⟩, fr, c5, c6, c7, c10, c11, rfl⟩ htp
          obtain ⟨xx, hxx, rfl, rval0⟩ := LR.get (LR.mono (m := Md.one (addA (addA M lf) lat) lat hML) gg lrL) hkv
          have hxm := List.mem_of_getElem? hxx
          have hnear : xx.1 < s0.T.length := by
            have := (walk_ok inv ht0 i xx.1 xx.2 (getE_of (layer_nd R s0.E i) hxm)).2.2.1
            exact (List.getElem?_eq_some_iff.mp this).1
          have gn : G (Md.pure (addA (addA M lf) lat)) H2 (upd H2 tp (.tup [kV (keyN xx.1), val])) := (G.rf (m := Md.pure (addA (addA M lf) lat)) gg.dm).mut htp
          have rval : Rep (addA (addA M lf) lat) A.K (upd H2 tp (.tup [kV (keyN xx.1), val])) (entD xx.2) val := Rep.mono (m := Md.pure (addA (addA M lf) lat)) gn rval0
          have r10 : Rep (addA (addA M lf) lat) A.K (upd H2 tp (.tup [kV (keyN xx.1), val])) (lanD A R (past ++ [row])) x := Rep.mono (m := Md.pure (addA (addA M lf) lat)) gn (Rep.mono (m := Md.one (addA (addA M lf) lat) lat hML) gg rL)
          have ro10 : Rep (addA (addA M lf) lat) A.K (upd H2 tp (.tup [kV (keyN xx.1), val])) (outsD s0.E s0.T.length) (.ref lo) := Rep.mono (m := Md.pure (addA (addA M lf) lat)) gn (Rep.mono (m := Md.one (addA (addA M lf) lat) lat hML) gg roL)
          have lr10 := lrl.mono gn
          have hkl10 := gn.ex lat _ hkl
          have g10 : G (Md.one (addA (addA M lf) lat) lat hML) HL (upd H2 tp (.tup [kV (keyN xx.1), val])) := gg.trans (G.one_of hML gn)
          have etk : ((R.layerAt s0.E i).take (a + 1)).foldl (fun acc x => (outOf s0.E x.1).foldl (R.relax x.1 x.2.1) acc) [] = (outOf s0.E xx.1).foldl (R.relax xx.1 xx.2.1) (((R.layerAt s0.E i).take a).foldl (fun acc x => (outOf s0.E x.1).foldl (R.relax x.1 x.2.1) acc) []) := by
            rw [List.take_add_one, hxx, List.foldl_append]
            rfl
          generalize ((R.layerAt s0.E i).take a).foldl (fun acc x => (outOf s0.E x.1).foldl (R.relax x.1 x.2.1) acc) [] = acc at lr10 fr etk lrl
          clear lrl hkl rval0
          generalize upd H2 tp (.tup [kV (keyN xx.1), val]) = H10 at gn rval r10 ro10 lr10 hkl10 g10 ⊢
          refine s_for (m := Md.pure (addA (addA M lf) lat)) (dd := .l ((outOf s0.E xx.1).map outD)) gn.dm (ev_op (ev_var (i := 3) rfl ro10) (ev_vs (i := 5) rfl) (opd_ixL (atI_nat (j := xx.1) rfl (get_map (List.getElem?_range hnear))))) rfl fun H11 g11 => ⟨Md.one (addA (addA M lf) lat) lat hML, rfl, fun b σ3 H3 => G (Md.one (addA (addA M lf) lat) lat hML) H11 H3 ∧
            (∃ kvl, H3 lat = some (.dK kvl) ∧ LR (Md.pure (addA (addA M lf) lat)) A.K H3 (((outOf s0.E xx.1).take b).foldl (R.relax xx.1 xx.2.1) acc) kvl) ∧ From R s0.E (R.layerAt s0.E i) (((outOf s0.E xx.1).take b).foldl (R.relax xx.1 xx.2.1) acc) ∧
            ∃ e6 e7 e11, σ3 = [some x, some (.int (n : Int)), some v2, some (.ref lo), some (.ref lf), some (.int (xx.1 : Int)), e6, e7, some (.int (i : Int)), some (.ref lat), some val, e11, none], ⟨G.rf g11.dm, ⟨kvl, g11.ex lat _ hkl10, lr10.mono g11⟩, fr, _, _, _, rfl⟩, fun b σ3 H3 pv => pv.1, ?_, ?_⟩
          · rintro b d1 v σ3 H3 hd1 rv ⟨g3, ⟨kv3, hk3, lr3⟩, fr3, e6, e7, e11, rfl⟩
            obtain ⟨fk, hfk, rfl⟩ := map_get hd1
            have hfkm := List.mem_of_getElem? hfk
            have hedge := outOf_mem hfkm
            obtain ⟨_, _, hkk, _, _⟩ := inv.ed _ hedge
            refine g_tup rv rfl fun xs rxs => ?_
            obtain ⟨y1, y2, rfl, q1, q2⟩ := reps2 rxs
            rw [rep_s.mp q1]
            refine ⟨_, _, rfl, y2, _, rfl, rfl, ?_⟩
            have g113 : G (Md.one (addA (addA M lf) lat) lat hML) H10 H3 := (G.one_of hML g11).trans g3
            have rval3 : Rep (addA (addA M lf) lat) A.K H3 (entD xx.2) val := Rep.mono (m := Md.one (addA (addA M lf) lat) lat hML) g113 rval
            have r13 : Rep (addA (addA M lf) lat) A.K H3 (lanD A R (past ++ [row])) x := Rep.mono (m := Md.one (addA (addA M lf) lat) lat hML) g113 r10
            rw [entD_t] at rval3
            refine sq (s_asgS (m := Md.pure (addA (addA M lf) lat)) (K := A.K) (x := .int (xx.2.1 + (R.worthOf fk.2 : Int))) g3.dm (ev_op (ev_op (ev_var (i := 10) rfl rval3) ev_c (opd_ixT (atI_nat (j := 0) rfl (entT_0 _)))) (ev_op (ev_worth_of T (ev_rule TL (ev_var (i := 0) rfl r13))) (ev_var (i := 7) rfl q2) (opd_ixD ok.keyNd (get_map (ok.kindAt hkk)) (get_map (ok.worthAt hkk)))) opd_addI) fun H12 g12 => ?_)
            have lr12 := lr3.mono g12
            have hk12 := g12.ex lat _ hk3
            have eb : ((outOf s0.E xx.1).take (b + 1)).foldl (R.relax xx.1 xx.2.1) acc = R.relax xx.1 xx.2.1 (((outOf s0.E xx.1).take b).foldl (R.relax xx.1 xx.2.1) acc) fk := by
              rw [List.take_add_one, hfk, List.foldl_append]
              rfl
            have frn : From R s0.E (R.layerAt s0.E i) (R.relax xx.1 xx.2.1 (((outOf s0.E xx.1).take b).foldl (R.relax xx.1 xx.2.1) acc) fk) := from_relax (e' := xx.2) fr3 hxm hfkm
            have accl := fr3.small inv
            obtain ⟨ac, eac⟩ : ∃ z, z = ((outOf s0.E xx.1).take b).foldl (R.relax xx.1 xx.2.1) acc := ⟨_, rfl⟩
            rw [← eac] at lr12 eb frn accl
            have g312 : G (Md.one (addA (addA M lf) lat) lat hML) H11 H12 := g3.trans (G.one_of hML g12)
            have htest : EvT (Md.pure (addA (addA M lf) lat)) (tOr (tTest (tOp (rNinU A.K) (tVar 6) (tVar 9))) (tTest (tOp rGtU (tVar 11) (tOp (rIxU A.K) (tOp (rIxU A.K) (tVar 9) (tVar 6)) (tC (.int 0))))))
                [some x, some (.int (n : Int)), some v2, some (.ref lo), some (.ref lf), some (.int (xx.1 : Int)), some (.int (fk.1 : Int)), some y2, some (.int (i : Int)), some (.ref lat), some val, some (.int (xx.2.1 + (R.worthOf fk.2 : Int))), none] H12 (better ac fk.1 (xx.2.1 + (R.worthOf fk.2 : Int))) := by
              unfold better
              cases hg : getE ac fk.1 with
              | none => exact (et_or (a := true) (b := true) ((et_test (ev_ninDR (k := keyN fk.1) (ev_vs (i := 6) rfl) (ev_vs (i := 9) rfl) hk12 (fun z => z))).is (by rw [lr12.get_none hg]; rfl)) fun e => by cases e).is rfl
              | some en =>
                obtain ⟨v', hv', rv'⟩ := lr12.get_some hg
                rw [entD_t] at rv'
                exact (et_or (a := false) (b := decide (en.1 < xx.2.1 + (R.worthOf fk.2 : Int))) ((et_test (ev_ninDR (k := keyN fk.1) (ev_vs (i := 6) rfl) (ev_vs (i := 9) rfl) hk12 (fun z => z))).is (by rw [hv']; rfl)) fun _ => et_test (ev_op (ev_vs rfl) (ev_op (ev_ixDD (k := keyN fk.1) (ev_vs (i := 9) rfl) (ev_vs (i := 6) rfl) hk12 (fun z => z) hv' rv') ev_c (opd_ixT (atI_nat (j := 0) rfl (entT_0 _)))) opd_gt)).is rfl
            refine s_if (m := Md.pure (addA (addA M lf) lat)) g12.dm htest (fun hb H13 g13 => ?_) (fun hb H13 g13 => ?_)
            · have q2' : Rep (addA (addA M lf) lat) A.K H13 (Rl.bsign fk.2) y2 := Rep.mono (m := Md.pure (addA (addA M lf) lat)) (g12.trans g13) q2
              have et : EvD (Md.pure (addA (addA M lf) lat)) A.K (tTup (tCons (tVar 11) (tCons (tVar 5) (tCons (tVar 7) tNil))))
                  [some x, some (.int (n : Int)), some v2, some (.ref lo), some (.ref lf), some (.int (xx.1 : Int)), some (.int (fk.1 : Int)), some y2, some (.int (i : Int)), some (.ref lat), some val, some (.int (xx.2.1 + (R.worthOf fk.2 : Int))), none] H13 (entD (xx.2.1 + (R.worthOf fk.2 : Int), some (xx.1, fk.2))) :=
                ev_tup (ea_cons (ev_vs rfl) (ea_cons (ev_vs rfl) (ea_cons (ev_var rfl q2') ea_nil))) (by simp)
              refine et.run g13.dm fun vv H14 g14 r14 => ?_
              have lr14 := (lr12.mono g13).mono g14
              have hk14 := g14.ex lat _ (g13.ex lat _ hk12)
              refine ⟨.ref lat, rfl, .int (fk.1 : Int), rfl, .inr ⟨lat, _, rfl, DPut.k (k := keyN fk.1) hk14 (by rw [lr12.len]; exact Nat.lt_of_le_of_lt (Nat.le_trans accl hTl) (by decide)), ?_⟩⟩
              have gput : G (Md.one (addA (addA M lf) lat) lat hML) H14 (upd H14 lat (.dK (putK kv3 (keyN fk.1) vv))) := (G.rf (m := Md.one (addA (addA M lf) lat) lat hML) g14.dm).put rfl
              have erel : R.relax xx.1 xx.2.1 ac fk = putE ac fk.1 (xx.2.1 + (R.worthOf fk.2 : Int), some (xx.1, fk.2)) := by
                unfold Rl.relax
                rw [hb, if_pos rfl]
              refine ⟨((g312.trans (G.one_of hML g13)).trans (G.one_of hML g14)).trans gput, ⟨_, upd_same, ?_⟩, by rw [eb]; exact frn, _, _, _, rfl⟩
              rw [eb, erel]
              exact LR.mono (m := Md.one (addA (addA M lf) lat) lat hML) gput (LR.put lr14 r14)
            · have erel : R.relax xx.1 xx.2.1 ac fk = ac := by
                unfold Rl.relax
                rw [hb]
                rfl
              refine ⟨g312.trans (G.one_of hML g13), ⟨kv3, g13.ex lat _ hk12, ?_⟩, by rw [eb]; exact frn, _, _, _, rfl⟩
              rw [eb, erel]
              exact lr12.mono g13
          · rintro σ3 H3 ⟨g3, ⟨kv3, hk3, lr3⟩, fr3, e6, e7, e11, rfl⟩
            rw [show ((outOf s0.E xx.1).map outD).length = (outOf s0.E xx.1).length from List.length_map .., List.take_length, ← etk] at lr3 fr3
            exact ⟨(g10.trans (G.one_of hML g11)).trans g3, ⟨kv3, hk3, lr3⟩, fr3, _, _, _, _, _, rfl⟩
        · rintro σ2 H2 ⟨gg, ⟨kvl, hkl, lrl⟩, fr, c5, c6, c7, c10, c11, rfl⟩
          have hkl' : kvs.length = (R.layerAt s0.E i).length := lrL.len
          rw [hkl', List.take_length] at lrl fr
          have hd2 := gg.st d _ dlat hdL
          refine ⟨hd2, ?_⟩
          have hlf2' : upd H2 d (.dK kvs) lf = some (.lst (dds.map V.ref)) := by rw [upd_ne (Ne.symm dlf)]; exact gg.st lf _ (Ne.symm latlf) hlfL
          have dmU : Dm (Md.pure (addA M lf)) (upd H2 d (.dK kvs)) := fun a ha => by
            by_cases e : a = d
            · rw [e, upd_same]; intro z; cases z
            · rw [upd_ne e]; exact gg.dm a (.inl ha)
          have rU : Rep (addA M lf) A.K (upd H2 d (.dK kvs)) (lanD A R (past ++ [row])) x := Rep.less (M' := addA (addA M lf) lat) (fun a ha => .inl ha) (Rep.unlock hd2 (Rep.mono (m := Md.one (addA (addA M lf) lat) lat hML) gg rL))
          have roU : Rep (addA M lf) A.K (upd H2 d (.dK kvs)) (outsD s0.E s0.T.length) (.ref lo) := Rep.less (M' := addA (addA M lf) lat) (fun a ha => .inl ha) (Rep.unlock hd2 (Rep.mono (m := Md.one (addA (addA M lf) lat) lat hML) gg roL))
          have hddsU : ∀ (j : Nat) d', dds[j]? = some d' → (∃ kz, upd H2 d (.dK kvs) d' = some (.dK kz)) ∧ Rep (addA M lf) A.K (upd H2 d (.dK kvs)) (layD (R.layerAt s0.E j)) (.ref d') := fun j d' h => by
            refine ⟨?_, Rep.less (M' := addA (addA M lf) lat) (fun a ha => .inl ha) (Rep.unlock hd2 (Rep.mono (m := Md.one (addA (addA M lf) lat) lat hML) gg (hddsL j d' h)))⟩
            by_cases e : d' = d
            · rw [e, upd_same]
              exact ⟨_, rfl⟩
            · obtain ⟨_, ⟨kz, hz⟩, _⟩ := hdds j d' h
              refine ⟨kz, ?_⟩
              rw [upd_ne e]
              exact gg.st d' _ (fun k => by have k' : d' = lat := k; rw [k', hlat] at hz; cases hz) (oldL d' _ e hz)
          have elay : ((R.layerAt s0.E i).foldl (fun acc x => (outOf s0.E x.1).foldl (R.relax x.1 x.2.1) acc) []) = R.layerAt s0.E (i + 1) := rfl
          rw [elay] at lrl
          have latM : ¬ (Md.pure (addA M lf)).M lat := fun z => z.elim (nM lat hlat1) latlf
          have hlatU : upd H2 d (.dK kvs) lat = some (.dK kvl) := by rw [upd_ne (Ne.symm dlat)]; exact hkl
          have lrU : LR (Md.pure (addA M lf)) A.K (upd H2 d (.dK kvs)) (R.layerAt s0.E (i + 1)) kvl := ⟨lrl.1, Reps.less (M' := addA (addA M lf) lat) (fun a ha => .inl ha) (Reps.unlock hd2 lrl.2)⟩
          have rlatU := lrU.to_rep hlatU latM
          have oldU : ∀ a o, H1 a = some o → upd H2 d (.dK kvs) a = some o := fun a o e => by
            have ad : a ≠ d := fun k => by rw [k, hdn1] at e; cases e
            rw [upd_ne ad]
            exact gg.st a o (fun k => by have k' : a = lat := k; rw [k', hlat1] at e; cases e) (oldL a o ad (old a o e))
          refine s_app (m := Md.pure (addA M lf)) (K := A.K) (d := .s (.ref lat)) dmU hlf2' (fun z => z) (ev_vs (i := 4) rfl) (ev_vs (i := 9) rfl) (by rw [List.length_map]; omega) fun v19 H19 g19 r19 => ?_
          rw [rep_s.mp r19]
          have hMf : addA M lf lf := .inr rfl
          have gput : G (Md.one (addA M lf) lf hMf) (upd H2 d (.dK kvs)) (upd H19 lf (.lst (dds.map V.ref ++ [.ref lat]))) := (G.one_of hMf g19).put rfl
          refine ⟨fun a o e => ?_, gput.dm, Rep.mono gput rU, Rep.mono gput roU, ⟨dds ++ [lat], by rw [List.length_append, hdl]; rfl, by rw [upd_same, List.map_append]; rfl, fun j d' h => ?_⟩, _, _, _, _, _, _, _, rfl⟩
          · rw [upd_ne (fun k => by rw [k, hlf1] at e; cases e)]
            exact g19.ex a o (oldU a o e)
          · by_cases hj : j < dds.length
            · rw [List.getElem?_append_left hj] at h
              obtain ⟨⟨kz, hz⟩, rz⟩ := hddsU j d' h
              have ne : d' ≠ lf := fun k => by rw [k, hlf2'] at hz; cases hz
              exact ⟨(hdds j d' h).1, ⟨kz, by rw [upd_ne ne]; exact g19.ex d' _ hz⟩, Rep.mono gput rz⟩
            · rw [List.getElem?_append_right (by omega)] at h
              have ej : j = i + 1 := by
                have := (List.getElem?_eq_some_iff.mp h).1
                simp at this
                omega
              subst ej
              rw [hdl, Nat.sub_self] at h
              cases h
              exact ⟨hlat1, ⟨kvl, by rw [upd_ne latlf]; exact g19.ex lat _ hlatU⟩, Rep.mono gput rlatU⟩
      · rintro σ' H' ⟨old, dmH, rH, roH, ⟨dds, hdl, hlfH, hdds⟩, b5, b6, b7, b8, b9, b10, b11, rfl⟩
        rw [Int.toNat_natCast] at hdl
        refine ⟨.ref lf, rfl, q (.ref lf) H' ?_ ⟨lf, _, rfl, ?_, hlfH, nM lf hlf1, ?_, ?_⟩⟩
        · exact g1.trans (G.all g1.dm old)
        · exact g1.free hlf1
        · refine reps_of (m := Md.pure M) ?_ fun j d y h1 h2 => ?_
          · unfold Rl.layersF
            rw [List.length_map, List.length_map, List.length_map, List.length_range, hdl]
          · obtain ⟨L, hL, rfl⟩ := map_get h1
            obtain ⟨d', hd', rfl⟩ := map_get h2
            obtain ⟨j', hj', rfl⟩ := map_get hL
            have ejj : j = j' := by
              obtain ⟨hlt, e⟩ := List.getElem?_eq_some_iff.mp hj'
              rw [List.getElem_range] at e
              exact e
            subst ejj
            exact Rep.less (M' := addA M lf) (fun a ha => .inl ha) (hdds j d' hd').2.2
        · intro y hy
          rw [List.mem_map] at hy
          obtain ⟨d', hd', rfl⟩ := hy
          obtain ⟨j, hj, e⟩ := List.getElem_of_mem hd'
          obtain ⟨h1, ⟨kz, hz⟩, _⟩ := hdds j d' (by rw [List.getElem?_eq_getElem hj, e])
          exact ⟨d', kz, rfl, g1.free h1, hz⟩
end
end GK

namespace GK
open PySem PySem.Spec PyProof.Rows L2
def optI : Option Int → D
  | none => dN
  | some i => dI i
def optS : Option (List Nat) → D
  | none => dN
  | some l => dS (st l)
def sp_Laying_best (A : Ad) : Sp := fun vs H Q _ => ∃ (R : Rl) (past : List (List Nat)) (row : List Nat) (n : Nat), R.Ok ∧ row.length ≤ 1000 ∧ (∀ c ∈ row, c ∈ R.kinds) ∧ n ≤ 200 ∧ Pd A.K vs H Q [lanD A R (past ++ [row]), dI (n : Int)] (optI (R.bestF row n))
def sp_Laying_best_end (A : Ad) : Sp := fun vs H Q _ => ∃ (R : Rl) (past : List (List Nat)) (row : List Nat) (n : Nat), R.Ok ∧ row.length ≤ 1000 ∧ (∀ c ∈ row, c ∈ R.kinds) ∧ n ≤ 200 ∧ Pd A.K vs H Q [lanD A R (past ++ [row]), dI (n : Int)] (optS (R.endF row n))
theorem sp_layers {A : Ad} {m : Md} {H : Hp} {R : Rl} {past : List (List Nat)} {row : List Nat} {n : Nat} (ok : R.Ok) (hl : row.length ≤ 1000) (hk : ∀ c ∈ row, c ∈ R.kinds) (hn : n ≤ 200) :
    SpP m A.K (sp_Laying_layers A) [lanD A R (past ++ [row]), dI (n : Int)] H (fun v H2 => ∃ Hc, G m H Hc ∧ LayP A Hc (R.layersF (R.tailsF row).E n) m.M v H2) := fun vs H1 g rs Q E k =>
  ⟨R, past, row, n, ok, hl, hk, hn, m.M, g.dm, rs, fun v H' e p => k v H' (G.all g.dm e) ⟨H1, g, p⟩⟩
theorem layersF_last (R : Rl) (E : List (Nat × Nat × Nat)) (n : Nat) : (R.layersF E n)[n]? = some (R.layerAt E n) := by
  unfold Rl.layersF
  exact get_map (List.getElem?_range (by omega))
theorem layersF_len (R : Rl) (E : List (Nat × Nat × Nat)) (n : Nat) : (R.layersF E n).length = n + 1 := by
  unfold Rl.layersF
  rw [List.length_map, List.length_range]
theorem layer_small {R : Rl} {s : TS} (inv : R.TInv s) (hT : s.T.length ≤ 1400) : ∀ n, (R.layerAt s.E n).length ≤ 1400
  | 0 => by show 1 ≤ 1400; decide
  | n + 1 => Nat.le_trans ((next_from R s.E _).small inv) hT
/-- the last layer, as it stands -/
theorem LayP.last {A : Ad} {m : Md} {H H2 : Hp} {R : Rl} {E : List (Nat × Nat × Nat)} {n : Nat} {v : V} (p : LayP A H (R.layersF E n) m.M v H2) : ∃ q xs d kvs, v = .ref q ∧ H q = none ∧ ¬ m.M q ∧ H2 q = some (.lst xs) ∧ xs.length = n + 1 ∧ xs[n]? = some (.ref d) ∧ H d = none ∧ H2 d = some (.dK kvs) ∧ LR m A.K H2 (R.layerAt E n) kvs ∧ Reps m.M A.K H2 ((R.layersF E n).map layD) xs := by
  obtain ⟨q, xs, rfl, hqn, hq, nM, rs, hx⟩ := p
  have hlen := rs.len
  rw [List.length_map, layersF_len] at hlen
  obtain ⟨y, hy, ry⟩ := rs.get (get_map (layersF_last R E n))
  obtain ⟨d, kvs, rfl, hdn, hd⟩ := hx y (List.mem_of_getElem? hy)
  exact ⟨q, xs, d, kvs, rfl, hqn, nM, hq, hlen, hy, hdn, hd, LR.of_rep ry hd, rs⟩
section
variable {prog : Program} {w : World} {mg : Str → Option Value} {base : Heap} {A : Ad}
theorem k_Laying_best (TL : LanT A) (B : BI mg) (k_MOST_MORE : Kst mg "MOST_MORE" v_MOST_MORE) (F : MethAt A.K A.Laying "best" "Laying.best" s_Laying_best ["self", "places"] []) (c_Laying_layers : CalleeM prog w A.K mg base A.Laying "layers" ["self", "places"] 5 (sp_Laying_layers A) []) (c_check_number : Callee prog w A.K mg base "check_number" ["value", "least", "most"] 3 (sp_check_number A)) :
    CalleeM prog w A.K mg base A.Laying "best" ["self", "places"] 6 (sp_Laying_best A) [] := by
  have cl_Laying := TL.cl_Laying
  obtain ⟨f, fd, ds, F, hk, hv, b, b2⟩ := F
  refine ⟨f, fd, ds, F.ok sc_Laying_best (fun vs H Q E h => ?_) (fun cdv Ar outer s H vs Q E hr h => ?_), hk, hv, b, b2⟩
  · obtain ⟨R, past, row, n, _, _, _, _, h⟩ := h
    exact h.len
  · obtain ⟨R, past, row, n, ok, hl, hk, hn, h⟩ := h
    obtain ⟨M, dm, rs, q⟩ := h.use
    obtain ⟨x, y, rfl, r, r1⟩ := reps2 rs
    rw [rep_s.mp r1]
    refine ⟨_, (pss_cons (ps_expr (pe_fn c_check_number hr (by decide) (pa_cons (pv 1) (pa_cons pe_int (pa_cons (pe_kst k_MOST_MORE) pa_nil))))) (pss_cons (ps_setLc (i := 2) (own := [("told", 3)]) (g := (gName 3)) (tt := tYes) (te := (tOp (rIxU A.K) (tVar 3) (tC (.int 0)))) rfl sc_Laying_best.nd rfl rfl (sw_true rfl rfl rfl (by decide +kernel)) (pi_valuesL (pe_ix (ix_uni (hu_of hr)) (pe_mt (pv 0) cl_Laying c_Laying_layers hr (by decide) (pa_cons (pv 1) pa_nil)) (pe_un u_neg pe_int) (fun _ _ => rfl))) (blkOk_by (own := [("told", 3)]) (N := ["self", "places", "tops", "told"]) (sc := defScope s_Laying_best) (by decide +kernel))  (fun _ _ _ _ _ => (pg_name (i := 3) sc_Laying_best.nd rfl (Or.inl rfl))) (fun _ _ _ _ _ => pts_nil) (fun _ _ _ _ _ => (pe_ix (ix_uni (hu_of hr)) (pv 3) pe_int (fun _ _ => rfl)))) (pss_one (ps_ret (pe_ifExp (pt_truth (pv 2) (by intro _; rfl)) (pe_callB (cr_max rfl) (by rfl) B.b_max (by decide +kernel) (pa_cons (pv 2) pa_nil)) pe_non))))), ?_⟩
    obtain ⟨inv, ht0⟩ := ok.tails hk
    have hTl := inv.len ok
    refine sq (s_drop dm (ev_callD (ea_cons (ev_vs (i := 1) rfl) (ea_cons ev_c (ea_cons ev_c ea_nil))) (spd fun vs H1 Q E p => ⟨(n : Int), 0, 200, by omega, by omega, p⟩)) fun _ H1 g1 _ => ?_)
    show (tSeq (tAsg (tLc (iValuesL (tOp (rIxU A.K) (tMeth A.Laying "layers" (sp_Laying_layers A) [] E0 (tVar 0) (tCons (tVar 1) tNil)) (tUn rNegU (tC (.int 1))))) (gName 3) tYes (tOp (rIxU A.K) (tVar 3) (tC (.int 0))) [3]) (gName 2)) (tRet (tIf (tTru A.K (tVar 2)) (tCB (rMax A.K) (tCons (tVar 2) tNil)) (tC .non)))) _ _ H1
    refine sq (s_asg (m := Md.pure M) (K := A.K) (d := .l ((R.layerAt (R.tailsF row).E n).map fun x => dI x.2.1)) g1.dm ?_ fun v2 H2 g2 r2 => ?_)
    · refine fun H0 g0 Q' k' => ?_
      have gx := g1.trans g0
      refine (ev_meth (m := Md.pure M) (f := "layers") (ev_var (i := 0) rfl (r.mono gx)) (by decide) (ea_cons (ev_vs (i := 1) rfl) ea_nil) (sp_layers ok hl hk hn)) H0 g0.r1 _ fun v3 H3 g3 ⟨Hc, gc, p⟩ => ?_
      obtain ⟨qq, xs, d, kvs, rfl, hqn, nMq, hq, hxl, hxn, hdn, hd, lr, rsx⟩ := p.last
      refine ((ev_un ev_c und_neg).is (d' := dI (-1)) rfl : EvD (Md.pure M) A.K (tUn rNegU (tC (.int 1))) _ H3 _).run g3.dm fun y4 H4 g4 r4 => ?_
      rw [rep_s.mp r4]
      have hd4 := g4.ex d _ hd
      refine .inl (.inl ⟨qq, xs, -1, .ref d, rfl, rfl, SqL.of (g4.ex qq _ hq), atI_neg (j := n) (by rw [hxl]; omega) hxn, d, kvs, rfl, .inr ⟨hd4, fun o => ?_⟩⟩)
      have lrL : LR (Md.pure M) A.K (upd H4 d (.frz o (.dK kvs))) (R.layerAt (R.tailsF row).E n) kvs := ⟨lr.1, Reps.lock hd4 (Reps.mono g4 lr.2)⟩
      have dmL : Dm (Md.pure M) (upd H4 d (.frz o (.dK kvs))) := g4.dm.upd
      have e9 := ev_lcTops (m := Md.pure M) (K := A.K) (σ := [some x, some (.int (n : Int)), none, none]) (i := 3) (te := tC (.ref d)) (by show 3 < 4; decide) (fun _ _ z => z) ev_c upd_same (fun z => z) lrL (Nat.le_trans (layer_small inv hTl n) (by decide))
      refine e9 _ (G.rf dmL) _ fun v5 H5 g5 ⟨pp, ys, e5, h5n, h5M, h5, r5⟩ => ?_
      subst e5
      refine k' _ H5 ?_ (rep_l.mpr ⟨pp, ys, rfl, StL.of h5 h5M, r5⟩)
      refine G.all g0.dm fun a o' e => ?_
      have ec := gc.ex a o' e
      have ad : a ≠ d := fun k => by rw [k, hdn] at ec; cases ec
      exact g5.ex a o' (by rw [upd_ne ad]; exact g4.ex a o' (g3.ex a o' e))
    · have ei : ((R.layerAt (R.tailsF row).E n).map fun x => dI x.2.1) = ((R.layerAt (R.tailsF row).E n).map fun x => x.2.1).map dI := by rw [List.map_map]; rfl
      refine s_retD g2.dm (ev_ifD (b := !((R.layerAt (R.tailsF row).E n).map fun x => dI x.2.1).isEmpty) (d := optI (R.bestF row n)) (et_truL (ev_var (i := 2) rfl r2)) (fun hb => ?_) (fun hb => ?_)) fun v H3 g3 r3 => q v H3 ((g1.trans g2).trans g3) r3
      · have hne : R.layerAt (R.tailsF row).E n ≠ [] := fun e => by rw [e] at hb; cases hb
        have eb : R.bestF row n = some (Rl.topOf (R.layerAt (R.tailsF row).E n)) := by unfold Rl.bestF; rw [if_neg hne]
        rw [eb]
        obtain ⟨h1, z, hz, ez⟩ := top_ok hne
        rw [ei] at r2
        exact ev_cb (ea_cons (ev_var (i := 2) rfl r2) ea_nil) (cd_max (List.mem_map.mpr ⟨z, hz, ez⟩) fun y hy => by
          rw [List.mem_map] at hy
          obtain ⟨z', hz', rfl⟩ := hy
          exact h1 z' hz')
      · have hne : R.layerAt (R.tailsF row).E n = [] := by
          cases e : R.layerAt (R.tailsF row).E n with
          | nil => rfl
          | cons a b => rw [e] at hb; cases hb
        have eb : R.bestF row n = none := by unfold Rl.bestF; rw [if_pos hne]
        rw [eb]
        exact ev_c
end
end GK

namespace GK
open PySem PySem.Spec PyProof.Rows L2
theorem layersB_get (R : Rl) (E : List (Nat × Nat × Nat)) : ∀ (n i : Nat), i < n → (R.layersB E n)[i]? = some (R.layerAt E (n - i))
  | 0, i, h => absurd h (by omega)
  | n + 1, 0, _ => rfl
  | n + 1, i + 1, h => by
    show (R.layersB E n)[i]? = _
    rw [layersB_get R E n i (by omega), show n + 1 - (i + 1) = n - i by omega]
theorem layersB_len (R : Rl) (E : List (Nat × Nat × Nat)) : ∀ n : Nat, (R.layersB E n).length = n
  | 0 => rfl
  | n + 1 => by show (R.layersB E n).length + 1 = n + 1; rw [layersB_len R E n]
theorem layersB_drop (R : Rl) (E : List (Nat × Nat × Nat)) : ∀ (n i : Nat), i ≤ n → (R.layersB E n).drop i = R.layersB E (n - i)
  | n, 0, _ => rfl
  | 0, i + 1, h => absurd h (by omega)
  | n + 1, i + 1, h => by
    show (R.layersB E n).drop i = _
    rw [layersB_drop R E n i (by omega), show n + 1 - (i + 1) = n - i by omega]
theorem here_get {L : Layer} {top : Int} (h : ∃ x ∈ L, x.2.1 = top) : ((L.filter fun x => decide (x.2.1 = top)).map fun x => dI (x.1 : Int))[0]? = some (dI (Rl.hereOf L top : Int)) := by
  obtain ⟨x, hx, e⟩ := h
  have hm : x ∈ L.filter fun x => decide (x.2.1 = top) := List.mem_filter.mpr ⟨hx, by simp [e]⟩
  unfold Rl.hereOf
  cases c : L.filter fun x => decide (x.2.1 = top) with
  | nil => rw [c] at hm; cases hm
  | cons y r => rfl
theorem join_signs (ks : List Nat) : Txt.join (st []) (ks.map fun c => st [c]) = st ks := by
  have := st_join [] (ks.map fun c => [c])
  rw [List.map_map, joinL_one] at this
  exact this
theorem signs_sum (ks : List Nat) : ((ks.map fun c => st [c]).map (·.length)).sum = ks.length := by
  rw [List.map_map]
  have e : ks.map ((fun z : Str => z.length) ∘ fun c => st [c]) = ks.map fun _ => 1 := List.map_congr_left fun x _ => st_len [x]
  rw [e, List.map_const', List.sum_replicate_nat, Nat.mul_one]
section
variable {prog : Program} {w : World} {mg : Str → Option Value} {base : Heap} {A : Ad}
theorem ok_Laying_best_end {f : Addr} {fd : FuncData} (TL : LanT A) (B : BI mg) (k_MOST_MORE : Kst mg "MOST_MORE" v_MOST_MORE) (F : Fun A.K "best_end" "Laying.best_end" s_Laying_best_end f fd) (c_Laying_layers : CalleeM prog w A.K mg base A.Laying "layers" ["self", "places"] 5 (sp_Laying_layers A) []) (c_check_number : Callee prog w A.K mg base "check_number" ["value", "least", "most"] 3 (sp_check_number A)) :
    FnOk prog w A.K mg base CX0 6 f fd ["self", "places"] (sp_Laying_best_end A) := by
  have cl_Laying := TL.cl_Laying
  refine F.ok sc_Laying_best_end (fun vs H Q E h => ?_) (fun cdv Ar outer s H vs Q E hr h => ?_)
  · obtain ⟨R, past, row, n, _, _, _, _, h⟩ := h
    exact h.len
  · obtain ⟨R, past, row, n, ok, hl, hk, hn, h⟩ := h
    obtain ⟨M, dm, rs, q⟩ := h.use
    obtain ⟨x, y, rfl, r, r1⟩ := reps2 rs
    rw [rep_s.mp r1]
    refine ⟨_, (pss_cons (ps_expr (pe_fn c_check_number hr (by decide) (pa_cons (pv 1) (pa_cons pe_int (pa_cons (pe_kst k_MOST_MORE) pa_nil))))) (pss_cons (ps_par (i := 2) (j := 3) (by rfl) sc_Laying_best_end.nd rfl rfl (by decide) rfl rfl (pa_cons (pe_lst pa_nil) (pa_cons (pe_mt (pv 0) cl_Laying c_Laying_layers hr (by decide) (pa_cons (pv 1) pa_nil)) pa_nil)) (by rfl)) (pss_cons (ps_if (pt_not (pt_truth (pe_ix (ix_uni (hu_of hr)) (pv 3) (pe_un u_neg pe_int) (fun _ _ => rfl)) (by intro _; rfl))) (pss_one (ps_ret pe_non)) pss_nil) (pss_cons (ps_set (i := 4) sc_Laying_best_end.nd rfl (Or.inr rfl) (pe_callB (cr_max rfl) (by rfl) B.b_max (by decide +kernel) (pa_cons (pe_lock (pe_lc (own := [("told", 10)]) (g := (gName 10)) (tt := tYes) (te := (tOp (rIxU A.K) (tVar 10) (tC (.int 0)))) rfl sc_Laying_best_end.nd (pi_values (pe_ix (ix_uni (hu_of hr)) (pv 3) (pe_un u_neg pe_int) (fun _ _ => rfl))) (blkOk_by (own := [("told", 10)]) (N := ["self", "places", "found", "layers", "top", "here", "layer", "worth", "near", "kind", "told", "node"]) (sc := defScope s_Laying_best_end) (by decide +kernel))  (fun _ _ _ _ _ => (pg_name (i := 10) sc_Laying_best_end.nd rfl (Or.inl rfl))) (fun _ _ _ _ _ => pts_nil) (fun _ _ _ _ _ => (pe_ix (ix_uni (hu_of hr)) (pv 10) pe_int (fun _ _ => rfl))))) pa_nil))) (pss_cons (ps_set (i := 5) sc_Laying_best_end.nd rfl (Or.inl rfl) (pe_ix (ix_uni (hu_of hr)) (pe_lock (pe_lc (own := [("node", 11), ("told", 10)]) (g := (gTup A.K 2 (gCons (gName 11) (gCons (gName 10) gNil)))) (tt := (tTest (tOp (rEqU A.K) (tOp (rIxU A.K) (tVar 10) (tC (.int 0))) (tVar 4)))) (te := (tVar 11)) rfl sc_Laying_best_end.nd (pi_items (pe_ix (ix_uni (hu_of hr)) (pv 3) (pe_un u_neg pe_int) (fun _ _ => rfl))) (blkOk_by (own := [("node", 11), ("told", 10)]) (N := ["self", "places", "found", "layers", "top", "here", "layer", "worth", "near", "kind", "told", "node"]) (sc := defScope s_Laying_best_end) (by decide +kernel))  (fun _ _ _ _ _ => (pg_tup rfl (pgs_cons (pg_name (i := 11) sc_Laying_best_end.nd rfl (Or.inl rfl)) (pgs_cons (pg_name (i := 10) sc_Laying_best_end.nd rfl (Or.inl rfl)) pgs_nil)))) (fun _ _ _ _ _ => (pts_one (pt_cmpR (u_eq hr.units) (pe_ix (ix_uni (hu_of hr)) (pv 10) pe_int (fun _ _ => rfl)) (pv 4) (nomark _)))) (fun _ _ _ _ _ => (pv 11)))) pe_int (fun _ _ => rfl))) (pss_cons (ps_for PassesOwn.never rfl (pi_any (pe_slb (pv 3) (po_some pe_int) (po_some (pe_un u_neg pe_int)))) (pg_name (i := 6) sc_Laying_best_end.nd rfl (Or.inl rfl)) (pss_cons (ps_asg (pe_ix (ix_uni (hu_of hr)) (pv 6) (pv 5) (fun _ _ => rfl)) (pg_tup rfl (pgs_cons (pg_name (i := 7) sc_Laying_best_end.nd rfl (Or.inl rfl)) (pgs_cons (pg_name (i := 8) sc_Laying_best_end.nd rfl (Or.inl rfl)) (pgs_cons (pg_name (i := 9) sc_Laying_best_end.nd rfl (Or.inl rfl)) pgs_nil))))) (pss_cons (ps_expr (pe_bm PySem.F.plainAttrs_list PySem.F.slot_list_append PySem.F.type_list_append mt_append (pv 2) (pa_cons (pv 9) pa_nil))) (pss_one (ps_set (i := 5) sc_Laying_best_end.nd rfl (Or.inl rfl) (pv 8)))))) (pss_one (ps_ret (pe_join pe_str (pe_slb (pv 2) po_none (po_some (pe_un u_neg pe_int)))))))))))), ?_⟩
    obtain ⟨inv, ht0⟩ := ok.tails hk
    have hTl := inv.len ok
    refine sq (s_drop dm (ev_callD (ea_cons (ev_vs (i := 1) rfl) (ea_cons ev_c (ea_cons ev_c ea_nil))) (spd fun vs H1 Q E p => ⟨(n : Int), 0, 200, by omega, by omega, p⟩)) fun _ H1 g1 _ => ?_)
    show (tSeq (tPar 2 3 (tCons (tLst tNil) (tCons (tMeth A.Laying "layers" (sp_Laying_layers A) [] E0 (tVar 0) (tCons (tVar 1) tNil)) tNil))) (tSeq (tIfS (tNot (tTru A.K (tOp (rIxU A.K) (tVar 3) (tUn rNegU (tC (.int 1)))))) (tRet (tC .non)) tNext) (tSeq (tAsg (tCB (rMax A.K) (tCons (tLockE (tLc (iVals (tOp (rIxU A.K) (tVar 3) (tUn rNegU (tC (.int 1))))) (gName 10) tYes (tOp (rIxU A.K) (tVar 10) (tC (.int 0))) [10])) tNil)) (gName 4)) (tSeq (tAsg (tOp (rIxU A.K) (tLockE (tLc (iItems (tOp (rIxU A.K) (tVar 3) (tUn rNegU (tC (.int 1))))) (gTup A.K 2 (gCons (gName 11) (gCons (gName 10) gNil))) (tTest (tOp (rEqU A.K) (tOp (rIxU A.K) (tVar 10) (tC (.int 0))) (tVar 4))) (tVar 11) [11, 10])) (tC (.int 0))) (gName 5)) (tSeq (tFor (iAny A.K (tSlB A.K (tVar 3) (tPart (tC (.int 0))) (tPart (tUn rNegU (tC (.int 1)))))) (gName 6) (tSeq (tAsg (tOp (rIxU A.K) (tVar 6) (tVar 5)) (gTup A.K 3 (gCons (gName 7) (gCons (gName 8) (gCons (gName 9) gNil))))) (tSeq (tDrop (tBM A.K "list" rAppend (tVar 2) (tCons (tVar 9) tNil))) (tAsg (tVar 8) (gName 5))))) (tRet (tM1 (rJoin A.K) (tC (.str "")) (tSlB A.K (tVar 2) tNoPart (tPart (tUn rNegU (tC (.int 1)))))))))))) _ [some x, some (.int (n : Int)), none, none, none, none, none, none, none, none, none, none] H1
    refine sq (s_parR ?_)
    refine ⟨by show 0 ≤ sizeLine; decide, fun lf hlf => ?_⟩
    have r01 := r.mono g1
    have r2 : Rep (addA M lf) A.K (upd H1 lf (.lst [])) (lanD A R (past ++ [row])) x := Rep.laid hlf r01
    have hMf : addA M lf lf := .inr rfl
    have dm2 : Dm (Md.pure (addA M lf)) (upd H1 lf (.lst [])) := fun a ha => by
      by_cases e : a = lf
      · rw [e, upd_same]; intro z; cases z
      · rw [upd_ne e]
        rcases ha with ha | ha
        · exact g1.dm a ha
        · exact absurd ha e
    have hlf2 : upd H1 lf (.lst []) lf = some (.lst []) := upd_same
    have old2 : ∀ a o, H a = some o → upd H1 lf (.lst []) a = some o := fun a o e => by
      have e1 := g1.ex a o e
      rw [upd_ne (ne_of_none e1 hlf)]
      exact e1
    have hlf0 : H lf = none := g1.free hlf
    generalize upd H1 lf (.lst []) = H2 at r2 dm2 hlf2 old2 ⊢
    refine (ev_meth (m := Md.pure (addA M lf)) (f := "layers") (ev_var (i := 0) rfl r2) (by decide) (ea_cons (ev_vs (i := 1) rfl) ea_nil) (sp_layers ok hl hk hn)) H2 (G.rf dm2) _ fun v3 H3 g3 ⟨Hc, gc, p⟩ => ?_
    obtain ⟨qq, xs, d, kvs, rfl, hqn, nMq, hq, hxl, hxn, hdn, hd, lr, rsx⟩ := p.last
    refine ⟨_, _, rfl, ?_⟩
    have hlf3 := g3.ex lf _ hlf2
    have rl3 : Rep (addA M lf) A.K H3 (.l ((R.layersF (R.tailsF row).E n).map layD)) (.ref qq) := (rep_l (m := Md.pure (addA M lf))).mpr ⟨qq, xs, rfl, StL.of hq nMq, rsx⟩
    have elast : ∀ {s : L2.St} {Hz : Hp}, s[3]? = some (some (.ref qq)) → G (Md.pure (addA M lf)) H3 Hz → EvD (Md.pure (addA M lf)) A.K (tOp (rIxU A.K) (tVar 3) (tUn rNegU (tC (.int 1)))) s Hz (.s (.ref d)) := fun hs gz => ev_ixLR (ev_vs hs) ((ev_un ev_c und_neg).is (d' := dI (-1)) rfl) (gz.ex qq _ hq) (fun z => z) (atI_neg (j := n) (by rw [hxl]; omega) hxn)
    show (tSeq (tIfS (tNot (tTru A.K (tOp (rIxU A.K) (tVar 3) (tUn rNegU (tC (.int 1)))))) (tRet (tC .non)) tNext) (tSeq (tAsg (tCB (rMax A.K) (tCons (tLockE (tLc (iVals (tOp (rIxU A.K) (tVar 3) (tUn rNegU (tC (.int 1))))) (gName 10) tYes (tOp (rIxU A.K) (tVar 10) (tC (.int 0))) [10])) tNil)) (gName 4)) (tSeq (tAsg (tOp (rIxU A.K) (tLockE (tLc (iItems (tOp (rIxU A.K) (tVar 3) (tUn rNegU (tC (.int 1))))) (gTup A.K 2 (gCons (gName 11) (gCons (gName 10) gNil))) (tTest (tOp (rEqU A.K) (tOp (rIxU A.K) (tVar 10) (tC (.int 0))) (tVar 4))) (tVar 11) [11, 10])) (tC (.int 0))) (gName 5)) (tSeq (tFor (iAny A.K (tSlB A.K (tVar 3) (tPart (tC (.int 0))) (tPart (tUn rNegU (tC (.int 1)))))) (gName 6) (tSeq (tAsg (tOp (rIxU A.K) (tVar 6) (tVar 5)) (gTup A.K 3 (gCons (gName 7) (gCons (gName 8) (gCons (gName 9) gNil))))) (tSeq (tDrop (tBM A.K "list" rAppend (tVar 2) (tCons (tVar 9) tNil))) (tAsg (tVar 8) (gName 5))))) (tRet (tM1 (rJoin A.K) (tC (.str "")) (tSlB A.K (tVar 2) tNoPart (tPart (tUn rNegU (tC (.int 1))))))))))) _ [some x, some (.int (n : Int)), some (.ref lf), some (.ref qq), none, none, none, none, none, none, none, none] H3
    refine sq (s_if (m := Md.pure (addA M lf)) (b := kvs.isEmpty) g3.dm ((et_not (et_truDR (elast rfl g3.r1) hd (fun z => z))).is (by rw [Bool.not_not])) (fun hb H4 g4 => ?_) (fun hb H4 g4 => ?_))
    · have hne : R.layerAt (R.tailsF row).E n = [] := by
        have := lr.len
        cases kvs with
        | nil => exact List.length_eq_zero_iff.mp this.symm
        | cons a b => cases hb
      have eb : R.endF row n = none := by unfold Rl.endF; rw [if_pos hne]
      refine q .non H4 (G.all dm fun a o e => g4.ex a o (g3.ex a o (old2 a o e))) ?_
      rw [eb]
      exact rep_s.mpr rfl
    · have hne : R.layerAt (R.tailsF row).E n ≠ [] := fun e => by
        have := lr.len
        rw [e] at this
        rw [List.length_eq_zero_iff.mp this] at hb
        cases hb
      obtain ⟨h1, zz, hz, ez⟩ := top_ok hne
      obtain ⟨e0, he0, he0t⟩ := here_ok (layer_nd R (R.tailsF row).E n) hne
      have hd4 := g4.ex d _ hd
      have lr4 := lr.mono g4
      show (tSeq (tAsg (tCB (rMax A.K) (tCons (tLockE (tLc (iVals (tOp (rIxU A.K) (tVar 3) (tUn rNegU (tC (.int 1))))) (gName 10) tYes (tOp (rIxU A.K) (tVar 10) (tC (.int 0))) [10])) tNil)) (gName 4)) (tSeq (tAsg (tOp (rIxU A.K) (tLockE (tLc (iItems (tOp (rIxU A.K) (tVar 3) (tUn rNegU (tC (.int 1))))) (gTup A.K 2 (gCons (gName 11) (gCons (gName 10) gNil))) (tTest (tOp (rEqU A.K) (tOp (rIxU A.K) (tVar 10) (tC (.int 0))) (tVar 4))) (tVar 11) [11, 10])) (tC (.int 0))) (gName 5)) (tSeq (tFor (iAny A.K (tSlB A.K (tVar 3) (tPart (tC (.int 0))) (tPart (tUn rNegU (tC (.int 1)))))) (gName 6) (tSeq (tAsg (tOp (rIxU A.K) (tVar 6) (tVar 5)) (gTup A.K 3 (gCons (gName 7) (gCons (gName 8) (gCons (gName 9) gNil))))) (tSeq (tDrop (tBM A.K "list" rAppend (tVar 2) (tCons (tVar 9) tNil))) (tAsg (tVar 8) (gName 5))))) (tRet (tM1 (rJoin A.K) (tC (.str "")) (tSlB A.K (tVar 2) tNoPart (tPart (tUn rNegU (tC (.int 1)))))))))) _ [some x, some (.int (n : Int)), some (.ref lf), some (.ref qq), none, none, none, none, none, none, none, none] H4
      refine sq (s_asgS (m := Md.pure (addA M lf)) (K := A.K) (x := .int (Rl.topOf (R.layerAt (R.tailsF row).E n))) g4.dm (ev_cb (ds := [.l (((R.layerAt (R.tailsF row).E n).map fun x => x.2.1).map dI)]) (ea_cons ?_ ea_nil) (cd_max (List.mem_map.mpr ⟨zz, hz, ez⟩) fun y hy => ?_)) fun H5 g5 => ?_)
      · refine ev_lockE (m := Md.pure (addA M lf)) (P' := fun v H2 => Rep (Md.pure (addA M lf)).M A.K H2 (.l (((R.layerAt (R.tailsF row).E n).map fun x => x.2.1).map dI)) v) hd4 (fun z => z) (fun Hz gz od => ?_) (fun v Hz od hz p => Rep.unlock hz p)
        have hdz := gz.ex d _ hd4
        have hqz : upd Hz d (.frz od (.dK kvs)) qq = some (.lst xs) := by
          rw [upd_ne (fun k => by rw [k, hd] at hq; cases hq)]
          exact gz.ex qq _ (g4.ex qq _ hq)
        exact ((ev_lcTops (m := Md.pure (addA M lf)) (K := A.K) (i := 10) (by show 10 < 12; decide) (fun _ _ z => z) (ev_ixLR (ev_vs (i := 3) rfl) ((ev_un ev_c und_neg).is (d' := dI (-1)) rfl) hqz (fun z => z) (atI_neg (j := n) (by rw [hxl]; omega) hxn)) upd_same (fun z => z) (LR.mk' (lr4.mono gz) hdz) (Nat.le_trans (layer_small inv hTl n) (by decide))).is (by rw [List.map_map]; rfl)).frz
      · rw [List.mem_map] at hy
        obtain ⟨z', hz', rfl⟩ := hy
        exact h1 z' hz'
      · have hd5 := g5.ex d _ hd4
        have lr5 := lr4.mono g5
        show (tSeq (tAsg (tOp (rIxU A.K) (tLockE (tLc (iItems (tOp (rIxU A.K) (tVar 3) (tUn rNegU (tC (.int 1))))) (gTup A.K 2 (gCons (gName 11) (gCons (gName 10) gNil))) (tTest (tOp (rEqU A.K) (tOp (rIxU A.K) (tVar 10) (tC (.int 0))) (tVar 4))) (tVar 11) [11, 10])) (tC (.int 0))) (gName 5)) (tSeq (tFor (iAny A.K (tSlB A.K (tVar 3) (tPart (tC (.int 0))) (tPart (tUn rNegU (tC (.int 1)))))) (gName 6) (tSeq (tAsg (tOp (rIxU A.K) (tVar 6) (tVar 5)) (gTup A.K 3 (gCons (gName 7) (gCons (gName 8) (gCons (gName 9) gNil))))) (tSeq (tDrop (tBM A.K "list" rAppend (tVar 2) (tCons (tVar 9) tNil))) (tAsg (tVar 8) (gName 5))))) (tRet (tM1 (rJoin A.K) (tC (.str "")) (tSlB A.K (tVar 2) tNoPart (tPart (tUn rNegU (tC (.int 1))))))))) _ [some x, some (.int (n : Int)), some (.ref lf), some (.ref qq), some (.int (Rl.topOf (R.layerAt (R.tailsF row).E n))), none, none, none, none, none, none, none] H5
        refine sq (s_asgS (m := Md.pure (addA M lf)) (K := A.K) (x := .int (Rl.hereOf (R.layerAt (R.tailsF row).E n) (Rl.topOf (R.layerAt (R.tailsF row).E n)) : Int)) g5.dm (ev_op (d1 := .l (((R.layerAt (R.tailsF row).E n).filter fun x => decide (x.2.1 = Rl.topOf (R.layerAt (R.tailsF row).E n))).map fun x => dI (x.1 : Int))) ?_ ev_c (opd_ixL (atI_nat (j := 0) rfl (here_get ⟨zz, hz, ez⟩)))) fun H6 g6 => ?_)
        · refine ev_lockE (m := Md.pure (addA M lf)) (P' := fun v H2 => Rep (Md.pure (addA M lf)).M A.K H2 (.l (((R.layerAt (R.tailsF row).E n).filter fun x => decide (x.2.1 = Rl.topOf (R.layerAt (R.tailsF row).E n))).map fun x => dI (x.1 : Int))) v) hd5 (fun z => z) (fun Hz gz od => ?_) (fun v Hz od hz p => Rep.unlock hz p)
          have hdz := gz.ex d _ hd5
          have hqz : upd Hz d (.frz od (.dK kvs)) qq = some (.lst xs) := by
            rw [upd_ne (fun k => by rw [k, hd] at hq; cases hq)]
            exact gz.ex qq _ (g5.ex qq _ (g4.ex qq _ hq))
          exact (ev_lcNodes (m := Md.pure (addA M lf)) (K := A.K) (i := 11) (j := 10) (c := 4) (by show 11 < 12; decide) (by show 10 < 12; decide) (by decide) (by decide) (by decide) rfl (fun _ _ z => z) (ev_ixLR (ev_vs (i := 3) rfl) ((ev_un ev_c und_neg).is (d' := dI (-1)) rfl) hqz (fun z => z) (atI_neg (j := n) (by rw [hxl]; omega) hxn)) upd_same (fun z => z) (LR.mk' (lr5.mono gz) hdz) (Nat.le_trans (layer_small inv hTl n) (by decide))).frz
        · have g36 := ((g4.trans g5).trans g6)
          have rl6 : Rep (addA M lf) A.K H6 (.l ((R.layersF (R.tailsF row).E n).map layD)) (.ref qq) := Rep.mono (m := Md.pure (addA M lf)) g36 rl3
          have hlf6 := g36.ex lf _ hlf3
          have ebk : backV ((R.layersF (R.tailsF row).E n).map layD) (some 0) = (R.layersB (R.tailsF row).E n).map layD := by
            show (((R.layersF (R.tailsF row).E n).map layD).drop 1).reverse = _
            rw [← List.map_drop, ← List.map_reverse, layersB_eq]
          show (tSeq (tFor (iAny A.K (tSlB A.K (tVar 3) (tPart (tC (.int 0))) (tPart (tUn rNegU (tC (.int 1)))))) (gName 6) (tSeq (tAsg (tOp (rIxU A.K) (tVar 6) (tVar 5)) (gTup A.K 3 (gCons (gName 7) (gCons (gName 8) (gCons (gName 9) gNil))))) (tSeq (tDrop (tBM A.K "list" rAppend (tVar 2) (tCons (tVar 9) tNil))) (tAsg (tVar 8) (gName 5))))) (tRet (tM1 (rJoin A.K) (tC (.str "")) (tSlB A.K (tVar 2) tNoPart (tPart (tUn rNegU (tC (.int 1)))))))) _ [some x, some (.int (n : Int)), some (.ref lf), some (.ref qq), some (.int (Rl.topOf (R.layerAt (R.tailsF row).E n))), some (.int (Rl.hereOf (R.layerAt (R.tailsF row).E n) (Rl.topOf (R.layerAt (R.tailsF row).E n)) : Int)), none, none, none, none, none, none] H6
          refine sq ?_
          refine s_for (m := Md.pure (addA M lf)) (dd := .l ((R.layersB (R.tailsF row).E n).map layD)) g6.dm (EvD.is (ev_slb (ev_var (i := 3) rfl rl6) (eo_some (K := A.K) ev_c) (eo_some (K := A.K) ((ev_un ev_c und_neg).is (d' := dI (-1)) rfl)) (.inr rfl)) (by rw [ebk])) rfl fun H7 g7 => ⟨Md.one (addA M lf) lf hMf, rfl, fun i σ' H' => G (Md.one (addA M lf) lf hMf) H7 H' ∧ ∃ (ks : List Nat) (cur : Nat) (e : Ent) (b6 b7 b8 b9 : Option V), σ' = [some x, some (.int (n : Int)), some (.ref lf), some (.ref qq), some (.int (Rl.topOf (R.layerAt (R.tailsF row).E n))), some (.int (cur : Int)), b6, b7, b8, b9, none, none] ∧
            H' lf = some (.lst (ks.map fun c => V.str (st [c]))) ∧ ks.length = i ∧ getE (R.layerAt (R.tailsF row).E (n - i)) cur = some e ∧ Rl.back (R.layersB (R.tailsF row).E n) (Rl.hereOf (R.layerAt (R.tailsF row).E n) (Rl.topOf (R.layerAt (R.tailsF row).E n))) = ks ++ Rl.back (R.layersB (R.tailsF row).E (n - i)) cur,
            ⟨G.rf g7.dm, [], _, e0, _, _, _, _, rfl, g7.ex lf _ hlf6, rfl, he0, rfl⟩, fun i σ' H' pv => pv.1, ?_, ?_⟩
          · rintro i d0 v σ' H' hd0 rv ⟨gg, ks, cur, e, b6, b7, b8, b9, rfl, hkf, hkl, hcur, hback⟩
            obtain ⟨L, hL, rfl⟩ := map_get hd0
            have hi : i < n := by
              have := (List.getElem?_eq_some_iff.mp hL).1
              rw [layersB_len] at this
              exact this
            rw [layersB_get R _ n i hi] at hL
            have eL := Option.some.inj hL
            subst eL
            obtain ⟨mm, hmm⟩ : ∃ mm, n - i = mm + 1 := ⟨n - i - 1, by omega⟩
            have hmm' : n - (i + 1) = mm := by omega
            rw [hmm] at hcur hback rv
            obtain ⟨near, k, e', h1', h2', h3'⟩ := (next_from R (R.tailsF row).E (R.layerAt (R.tailsF row).E mm)).2 cur e (getE_mem hcur)
            have ebk1 : Rl.back (R.layersB (R.tailsF row).E (mm + 1)) cur = k :: Rl.back (R.layersB (R.tailsF row).E mm) near := by
              show (match getE (R.layerAt (R.tailsF row).E (mm + 1)) cur with
                | some (_, some (near, k)) => k :: Rl.back (R.layersB (R.tailsF row).E mm) near
                | _ => []) = _
              rw [hcur, h3']
            show (tSeq (tAsg (tOp (rIxU A.K) (tVar 6) (tVar 5)) (gTup A.K 3 (gCons (gName 7) (gCons (gName 8) (gCons (gName 9) gNil))))) (tSeq (tDrop (tBM A.K "list" rAppend (tVar 2) (tCons (tVar 9) tNil))) (tAsg (tVar 8) (gName 5)))) _ _ _
            have ee : EvD (Md.pure (addA M lf)) A.K (tOp (rIxU A.K) (tVar 6) (tVar 5)) [some x, some (.int (n : Int)), some (.ref lf), some (.ref qq), some (.int (Rl.topOf (R.layerAt (R.tailsF row).E n))), some (.int (cur : Int)), some v, b7, b8, b9, none, none] H' (.t (entT e)) := ev_op (ev_var (i := 6) rfl rv) (ev_vs rfl) (opd_ixLay hcur)
            refine sq ?_
            refine EvD.run (m := Md.pure (addA M lf)) gg.dm ee fun v8 H8 g8 r8 => g_tup r8 (by rw [h3']; rfl) fun ys rys => ?_
            rw [h3'] at rys
            obtain ⟨y1, y2, y3, rfl, q1, q2, q3⟩ := reps3 rys
            rw [rep_s.mp q1, rep_s.mp q2]
            refine ⟨_, _, rfl, _, _, rfl, y3, _, rfl, rfl, ?_⟩
            have hkf8 := g8.ex lf _ hkf
            show (tSeq (tDrop (tBM A.K "list" rAppend (tVar 2) (tCons (tVar 9) tNil))) (tAsg (tVar 8) (gName 5))) _ [some x, some (.int (n : Int)), some (.ref lf), some (.ref qq), some (.int (Rl.topOf (R.layerAt (R.tailsF row).E n))), some (.int (cur : Int)), some v, some (.int (e'.1 + (R.worthOf k : Int))), some (.int (near : Int)), some y3, none, none] H8
            refine sq (s_app (m := Md.pure (addA M lf)) (d := Rl.bsign k) g8.dm hkf8 (fun z => z) (ev_vs (i := 2) rfl) (ev_var (i := 9) rfl q3) (by rw [List.length_map]; omega) fun v9 H9 g9 r9 => ?_)
            rw [rep_s.mp r9]
            refine ⟨_, rfl, ((gg.trans (G.one_of hMf g8)).trans (G.one_of hMf g9)).put rfl, ks ++ [k], near, e', _, _, _, _, rfl, ?_, by rw [List.length_append, hkl]; rfl, ?_, ?_⟩
            · rw [upd_same, List.map_append]
              rfl
            · rw [hmm']
              exact getE_of (layer_nd R _ mm) h1'
            · rw [hback, ebk1, hmm', List.append_assoc]
              rfl
          · rintro σ' H' ⟨gg, ks, cur, e, b6, b7, b8, b9, rfl, hkf, hkl, hcur, hback⟩
            rw [show ((R.layersB (R.tailsF row).E n).map layD).length = n by rw [List.length_map, layersB_len]] at hkl hcur hback
            rw [Nat.sub_self] at hback
            have hback' : Rl.back (R.layersB (R.tailsF row).E n) (Rl.hereOf (R.layerAt (R.tailsF row).E n) (Rl.topOf (R.layerAt (R.tailsF row).E n))) = ks := by
              rw [hback]
              exact List.append_nil _
            have ef : R.endF row n = some ks.reverse := by
              unfold Rl.endF
              rw [if_neg hne, hback']
            have rks : Reps (Md.pure (addA M lf)).M A.K H' (ks.map fun c => dS (st [c])) (ks.map fun c => V.str (st [c])) := by
              have e1 : (ks.map fun c => dS (st [c])) = (ks.map fun c => st [c]).map dS := by rw [List.map_map]; rfl
              rw [e1, reps_str, List.map_map]
              rfl
            show (tRet (tM1 (rJoin A.K) (tC (.str "")) (tSlB A.K (tVar 2) tNoPart (tPart (tUn rNegU (tC (.int 1))))))) _ [some x, some (.int (n : Int)), some (.ref lf), some (.ref qq), some (.int (Rl.topOf (R.layerAt (R.tailsF row).E n))), some (.int (cur : Int)), b6, b7, b8, b9, none, none] H'
            refine s_retD (m := Md.pure (addA M lf)) gg.dm ((ev_join (a := st []) (ys := ks.reverse.map fun c => st [c]) ev_c (EvD.is (ev_slbR (ev_vs (i := 2) rfl) hkf (fun z => z) rks eo_none (eo_some (K := A.K) ((ev_un ev_c und_neg).is (d' := dI (-1)) rfl)) (.inl rfl)) ?_) ?_).is (by rw [join_signs])) fun v9 H9 g9 r9 => ?_
            · show D.l (ks.map fun c => dS (st [c])).reverse = _
              rw [← List.map_reverse, List.map_map]
              rfl
            · rw [signs_sum, List.length_map, List.length_reverse, st_len, List.length_nil]
              omega
            · refine q v9 H9 (G.all dm fun a o e => ?_) ?_
              · have a2 := old2 a o e
                have alf : a ≠ lf := fun k => by rw [k, hlf0] at e; cases e
                refine g9.ex a o (gg.st a o alf (g7.ex a o (g36.ex a o (g3.ex a o a2))))
              · rw [ef, rep_s.mp r9]
                exact rep_s.mpr rfl
theorem k_Laying_best_end (TL : LanT A) (B : BI mg) (k_MOST_MORE : Kst mg "MOST_MORE" v_MOST_MORE) (F : MethAt A.K A.Laying "best_end" "Laying.best_end" s_Laying_best_end ["self", "places"] []) (c_Laying_layers : CalleeM prog w A.K mg base A.Laying "layers" ["self", "places"] 5 (sp_Laying_layers A) []) (c_check_number : Callee prog w A.K mg base "check_number" ["value", "least", "most"] 3 (sp_check_number A)) :
    CalleeM prog w A.K mg base A.Laying "best_end" ["self", "places"] 6 (sp_Laying_best_end A) [] := by
  obtain ⟨f, fd, ds, F, hk, hv, b, b2⟩ := F
  exact ⟨f, fd, ds, ok_Laying_best_end TL B k_MOST_MORE F c_Laying_layers c_check_number, hk, hv, b, b2⟩
end
end GK

namespace GK
open PySem PySem.Spec PyProof.Rows L2
/-! the law's own defs -/
def sp_Lcup (A : Ad) : Sp := fun vs H Q _ => ∃ (M : Addr → Prop) (w : Addr) (n : Nat) (o : HO), Dm (Md.well M w) H ∧ vs = [.ref w, .int (n : Int)] ∧ H w = some o ∧ IsW o ∧ 0 < n ∧ n < 100000 ∧ ∀ (k : Nat) H', G (Md.well M w) H H' → k < n → Q (.int (k : Int)) H'
def WellP (H : Hp) (v : V) (H' : Hp) : Prop := ∃ w o, v = .ref w ∧ H w = none ∧ H' w = some o ∧ IsW o
def sp_Lwell (A : Ad) : Sp := fun vs H Q _ => ∃ (ns : List Int) (t : Nat), ns.length ≤ 63 ∧ t ≤ 100 ∧ Pp A.K vs H Q [.l (ns.map dI), dI (t : Int)] (fun _ v H' => WellP H v H')
def letterSets : List (List Nat) := [[97, 98], [97, 98, 99], [97, 109, 122]]
structure RS (R : Rl) : Prop where
  ok : R.Ok
  ls : R.kinds ∈ letterSets
  far : R.reach ≤ 4
theorem RS.three {R : Rl} (h : RS R) : R.kinds.length ≤ 3 := by
  have : ∀ ks ∈ letterSets, ks.length ≤ 3 := by decide
  exact this _ h.ls
theorem RS.pow {R : Rl} (h : RS R) : R.kinds.length ^ R.reach ≤ 400 := by
  have h3 := h.three
  have h4 := h.far
  have l1 := h.ok.l1
  exact Nat.le_trans (Nat.pow_le_pow_left h3 _) (Nat.le_trans (Nat.pow_le_pow_right (by decide) h4) (by decide))
theorem RS.index {R : Rl} (h : RS R) {c : Nat} (hc : c ∈ R.kinds) : Txt.index0 (st R.kinds) (st [c]) = some (R.kinds.idxOf c) := by
  have : ∀ ks ∈ letterSets, ∀ c ∈ ks, Txt.index0 (st ks) (st [c]) = some (ks.idxOf c) := by decide +kernel
  exact this _ h.ls c hc
def specD (R : Rl) : D := .t [dS (st R.kinds), .t (R.worths.map fun (w : Nat) => dI (w : Int)), .t (R.bars.map fun b => dS (st (Rl.bword b)))]
def sp_Lspec (A : Ad) : Sp := fun vs H Q _ => ∃ (M : Addr → Prop) (w : Addr) (o : HO), Dm (Md.well M w) H ∧ vs = [.ref w, .int 3, .int 4, .int 14] ∧ H w = some o ∧ IsW o ∧ ∀ v R H', G (Md.well M w) H H' → RS R → Rep (Md.well M w).M A.K H' (specD R) v → Q v H'
def sp_Ltext (A : Ad) : Sp := fun vs H Q _ => ∃ R : Rl, R.Ok ∧ Pd A.K vs H Q [specD R] (dS (st R.text))
def sp_Lmade (A : Ad) : Sp := fun vs H Q _ => ∃ R : Rl, R.Ok ∧ Pd A.K vs H Q [specD R] (ruleD A R)
def sp_Lfits (A : Ad) : Sp := fun vs H Q _ => ∃ (R : Rl) (row : List Nat) (k : Nat), R.Ok ∧ row.length ≤ 2000 ∧ Pd A.K vs H Q [specD R, dS (st row), Rl.bsign k] (dB (R.fits row k))
def Rl.lkept (R : Rl) (row : List Nat) : Bool := (List.range row.length).all fun i => R.fits (row.take i) (row.getD i 0)
def sp_Lkept (A : Ad) : Sp := fun vs H Q _ => ∃ (R : Rl) (row : List Nat), R.Ok ∧ row.length ≤ 2000 ∧ Pd A.K vs H Q [specD R, dS (st row)] (dB (R.lkept row))
def sp_Lworth (A : Ad) : Sp := fun vs H Q _ => ∃ (R : Rl) (row : List Nat), RS R ∧ row.length ≤ 2000 ∧ (∀ c ∈ row, c ∈ R.kinds) ∧ Pd A.K vs H Q [specD R, dS (st row)] (dI (R.worthIn row))
def sp_Ldrawn_row (A : Ad) : Sp := fun vs H Q _ => ∃ (M : Addr → Prop) (w : Addr) (o : HO) (v1 : V) (R : Rl) (n : Nat), Dm (Md.well M w) H ∧ vs = [.ref w, v1, .int (n : Int)] ∧ H w = some o ∧ IsW o ∧ RS R ∧ n ≤ 10 ∧ Rep (Md.well M w).M A.K H (specD R) v1 ∧ ∀ (row : List Nat) H', G (Md.well M w) H H' → row.length ≤ n → (∀ c ∈ row, c ∈ R.kinds) → R.lkept row = true → Q (.str (st row)) H'
section
variable {m : Md} {A : Ad} {σ : L2.St} {H : Hp} {t1 t2 te : TE} {M : Addr → Prop} {w : Addr} {S : D → Prop}
/-- a number drawn -/
theorem evx_cup {E : XK} {o : HO} (hw : H w = some o) (iw : IsW o) (h1 : EvD (Md.well M w) A.K t1 σ H (.s (.ref w))) (h2 : EvX (Md.well M w) A.K t2 σ H fun d => ∃ n : Nat, d = dI (n : Int) ∧ 0 < n ∧ n < 100000 ∧ ∀ k : Nat, k < n → S (dI (k : Int))) : EvX (Md.well M w) A.K (tCall (sp_Lcup A) [] E (tCons t1 (tCons t2 tNil))) σ H S :=
  evx_call (eax2 (evx_of (S := fun d => d = .s (.ref w)) h1 rfl) h2) fun ds ⟨d, e, eds, ed, n, en, n0, n1, hk⟩ vs H1 g rs Q E k' => by
    subst eds
    subst ed
    subst en
    obtain ⟨x, y, rfl, r1, r2⟩ := reps2 rs
    rw [rep_s.mp r1, rep_s.mp r2]
    obtain ⟨o', ho, wo⟩ := g.th w o hw
    exact ⟨M, w, n, o', g.dm, rfl, ho, wo rfl iw, n0, n1, fun k H' g' hlt => k' _ H' g' ⟨dI (k : Int), hk k hlt, rep_s.mpr rfl⟩⟩
end
section
variable {prog : Program} {w : World} {mg : Str → Option Value} {base : Heap} {A : Ad}
theorem k_Lcup (B : BI mg) (F : DefAt A.K mg "_law_cup" s_Lcup ["_law_well_here", "_law_amount"]) : Callee prog w A.K mg base "_law_cup" ["_law_well_here", "_law_amount"] 1 (sp_Lcup A) := by
  obtain ⟨f, fd, F, hm, b⟩ := F
  refine ⟨f, fd, F.ok sc_Lcup (fun vs H Q E h => ?_) (fun cdv Ar outer s H vs Q E hr h => ?_), hm, F.kp, b⟩
  · obtain ⟨M, w, n, o, _, rfl, _⟩ := h
    rfl
  · obtain ⟨M, w, n, o, dm, rfl, hw, ⟨c0, c1, rfl⟩, n0, n1, q⟩ := h
    refine ⟨_, (pss_cons (ps_if (pt_cmpR u_gt (pe_ix (ix_uni (hu_of hr)) (pv 0) pe_int (fun _ _ => rfl)) pe_int (nomark _)) (pss_cons (ps_asg (pe_callB call_divmod (by rfl) B.b_divmod (by decide +kernel) (pa_cons (pe_ix (ix_uni (hu_of hr)) (pv 0) pe_int (fun _ _ => rfl)) (pa_cons (pv 1) pa_nil))) (pg_tup rfl (pgs_cons (pg_sub (pv 0) pe_int (set_uni (hu_of hr))) (pgs_cons (pg_name (i := 2) sc_Lcup.nd rfl (Or.inl rfl)) pgs_nil)))) (pss_one (ps_ret (pv 2)))) pss_nil) (pss_cons (ps_asg (pe_op u_mod (pe_callTy u_int (by rfl) B.b_int (by decide +kernel) (pa_cons (pe_op u_add (pe_op u_mul (pe_ix (ix_uni (hu_of hr)) (pv 0) pe_int (fun _ _ => rfl)) pe_int) pe_int) pa_nil)) pe_int) (pg_sub (pv 0) pe_int (set_uni (hu_of hr)))) (pss_one (ps_ret (pe_op u_mod (pe_callTy u_int (by rfl) B.b_int (by decide +kernel) (pa_cons (pe_op u_div (pe_ix (ix_uni (hu_of hr)) (pv 0) pe_int (fun _ _ => rfl)) pe_int) pa_nil)) (pv 1)))))), ?_⟩
    have dmp : Dm (Md.pure (Md.well M w).M) H := dm
    have nw : ∀ a, ¬ (Md.pure (Md.well M w).M).N a := fun a z => z
    have e1 : ∀ {Hz : Hp} {s : L2.St}, Hz w = some (.lst [.int c0, .int c1]) → s[0]? = some (some (.ref w)) → EvD (Md.pure (Md.well M w).M) A.K (tOp (rIxU A.K) (tVar 0) (tC (.int 1))) s Hz (dI c1) := fun hz hs => ev_ixLR (ev_vs hs) ev_c hz (fun z => z) (atI_nat (j := 1) rfl rfl)
    refine sq (s_if (m := Md.pure (Md.well M w).M) (b := decide (0 < c1)) dmp (et_test (ev_op (e1 hw rfl) ev_c opd_gt)) (fun hb H1 g1 => ?_) (fun hb H1 g1 => ?_))
    · have hw1 := g1.ex w _ hw
      refine sq ?_
      have ed : EvD (Md.pure (Md.well M w).M) A.K (tCB rDivmod (tCons (tOp (rIxU A.K) (tVar 0) (tC (.int 1))) (tCons (tVar 1) tNil))) [some (.ref w), some (.int (n : Int)), none] H1 (.t [dI (c1 / (n : Int)), dI (c1 % (n : Int))]) := ev_cb (ea_cons (e1 hw1 rfl) (ea_cons (ev_vs rfl) ea_nil)) (cd_divmod ⟨by omega, by omega⟩)
      refine ed.run g1.dm fun v H2 g2 r => g_tup r rfl fun xs rxs => ?_
      obtain ⟨x1, x2, rfl, q1, q2⟩ := reps2 rxs
      rw [rep_s.mp q1, rep_s.mp q2]
      have hw2 := g2.ex w _ hw1
      refine ⟨_, _, rfl, .ref w, rfl, .inl ⟨w, _, 1, 1, rfl, rfl, hw2, rfl, ⟨_, _, rfl, rfl, ?_⟩⟩⟩
      obtain ⟨t1, t2⟩ := toNat_mod (a := c1) n0
      have gp : G (Md.well M w) H2 (upd H2 w (.lst [.int c0, .int (c1 / (n : Int))])) := (G.rf (m := Md.well M w) g2.dm).put rfl (fun _ => ⟨c0, c1 / (n : Int), rfl⟩)
      refine ⟨_, rfl, ?_⟩
      have := q (c1 % (n : Int)).toNat _ ((G.well_of (g1.trans g2)).trans gp) t2
      rw [t1] at this
      exact this
    · have hw1 := g1.ex w _ hw
      show (tSeq (tAsg (tOp rModU (tCB rIntU (tCons (tOp rAddU (tOp rMulU (tOp (rIxU A.K) (tVar 0) (tC (.int 0))) (tC (.int 45887))) (tC (.int 4441))) tNil)) (tC (.int 2147483171))) (gSub (tVar 0) (tC (.int 0)) rSetU)) (tRet (tOp rModU (tCB rIntU (tCons (tOp rDivU (tOp (rIxU A.K) (tVar 0) (tC (.int 0))) (tC (.int 256))) tNil)) (tVar 1)))) _ [some (.ref w), some (.int (n : Int)), none] H1
      refine sq ?_
      have ed : EvD (Md.pure (Md.well M w).M) A.K (tOp rModU (tCB rIntU (tCons (tOp rAddU (tOp rMulU (tOp (rIxU A.K) (tVar 0) (tC (.int 0))) (tC (.int 45887))) (tC (.int 4441))) tNil)) (tC (.int 2147483171))) [some (.ref w), some (.int (n : Int)), none] H1 (dI ((c0 * 45887 + 4441) % 2147483171)) :=
        ev_op (ev_cb (ea_cons (ev_op (ev_op (ev_ixLR (ev_vs rfl) ev_c hw1 (fun z => z) (atI_nat (j := 0) rfl rfl)) ev_c (opd_mul (.inr (by decide)))) ev_c opd_addI) ea_nil) cd_int) ev_c (opd_mod (by decide))
      refine ed.run g1.dm fun v H2 g2 r => ?_
      rw [rep_s.mp r]
      have hw2 := g2.ex w _ hw1
      refine ⟨.ref w, rfl, .inl ⟨w, _, 0, 0, rfl, rfl, hw2, rfl, ?_⟩⟩
      have gp : G (Md.well M w) H2 (upd H2 w (.lst [.int ((c0 * 45887 + 4441) % 2147483171), .int c1])) := (G.rf (m := Md.well M w) g2.dm).put rfl (fun _ => ⟨_, _, rfl⟩)
      show (tRet (tOp rModU (tCB rIntU (tCons (tOp rDivU (tOp (rIxU A.K) (tVar 0) (tC (.int 0))) (tC (.int 256))) tNil)) (tVar 1))) _ [some (.ref w), some (.int (n : Int)), none] (upd H2 w (.lst [.int ((c0 * 45887 + 4441) % 2147483171), .int c1]))
      refine s_retD (m := Md.pure (Md.well M w).M) (K := A.K) gp.dm (ev_op (ev_cb (ea_cons (ev_op (ev_ixLR (ev_vs rfl) ev_c upd_same (fun z => z) (atI_nat (j := 0) rfl rfl)) ev_c (opd_div ⟨by decide, by decide⟩)) ea_nil) cd_int) (ev_vs rfl) (opd_mod (by omega))) fun v3 H3 g3 r3 => ?_
      obtain ⟨t1, t2⟩ := toNat_mod (a := (c0 * 45887 + 4441) % 2147483171 / 256) n0
      rw [rep_s.mp r3]
      have := q _ _ (((G.well_of (g1.trans g2)).trans gp).trans (G.well_of g3)) t2
      rw [t1] at this
      exact this
end
end GK

namespace GK
open PySem PySem.Spec PyProof.Rows L2
theorem cut_int {ns : List Int} {lo hi : Option Int} {i : Nat} {d : D} (h : (cutD (ns.map dI) lo hi)[i]? = some d) : ∃ k, d = dI k := by
  have hm := List.mem_of_getElem? h
  unfold cutD at hm
  have h2 := List.mem_of_mem_drop (List.mem_of_mem_take hm)
  rw [List.mem_map] at h2
  obtain ⟨k, _, e⟩ := h2
  exact ⟨k, e.symm⟩
theorem ev_mkRule {A : Ad} {m : Md} {σ : L2.St} {H : Hp} {ta : TA} {R : Rl} {E : XK} (ok : R.Ok) (h : EvA m A.K ta σ H [dS (st R.text)]) : EvD m A.K (tMake A.Rule (sp_Rule_init A) [] E ta) σ H (ruleD A R) := fun H1 g Q k =>
  h H1 g _ fun vs H2 g2 rs x dx hx hdx ne => by
    obtain ⟨y, rfl, r1⟩ := reps1 rs
    rw [rep_s.mp r1]
    refine ⟨R, m.M, x, dx, ok, fun a ha => ?_, rfl, upd_same, fun hM => g2.dm x hM hx, fun H' old r => ⟨rfl, k _ H' ?_ r⟩⟩
    · by_cases e : a = x
      · rw [e, upd_same]; intro z; cases z
      · rw [upd_ne e]
        by_cases e2 : a = dx
        · rw [e2, upd_same]; intro z; cases z
        · rw [upd_ne e2]; exact g2.dm a ha
    · refine g2.trans (G.all g2.dm fun a o e => old a o (ne_of_none e hx) ?_)
      rw [upd_ne (ne_of_none e hx), upd_ne (ne_of_none e hdx)]
      exact e
theorem str_digit {w : Nat} (h : w ≤ 9) : Str.ofString (toString (w : Int)) = st [48 + w] := by
  have : w = 0 ∨ w = 1 ∨ w = 2 ∨ w = 3 ∨ w = 4 ∨ w = 5 ∨ w = 6 ∨ w = 7 ∨ w = 8 ∨ w = 9 := by omega
  rcases this with rfl | rfl | rfl | rfl | rfl | rfl | rfl | rfl | rfl | rfl <;> decide +kernel
theorem joinL_cons (a p : List Nat) {ps : List (List Nat)} (h : ps ≠ []) : TL.joinL a (p :: ps) = p ++ (a ++ TL.joinL a ps) := by
  cases ps with
  | nil => exact absurd rfl h
  | cons q r => rfl
theorem zipWith_get {ks ws : List Nat} {i : Nat} {a b : Nat} (h1 : ks[i]? = some a) (h2 : ws[i]? = some b) : (List.zipWith Rl.kword ks ws)[i]? = some (Rl.kword a b) := by
  rw [List.getElem?_zipWith, h1, h2]
theorem kept_snoc (R : Rl) (row : List Nat) (k : Nat) : R.lkept (row ++ [k]) = (R.lkept row && R.fits row k) := by
  unfold Rl.lkept
  rw [List.length_append, List.length_singleton, List.range_succ, List.all_append]
  congr 1
  · rw [Bool.eq_iff_iff, List.all_eq_true, List.all_eq_true]
    constructor
    · intro h i hi
      have := h i hi
      rw [List.mem_range] at hi
      rw [List.take_append_of_le_length (by omega)] at this
      rw [List.getD_eq_getElem?_getD, List.getElem?_append_left hi, ← List.getD_eq_getElem?_getD] at this
      exact this
    · intro h i hi
      have := h i hi
      rw [List.mem_range] at hi
      rw [List.take_append_of_le_length (by omega)]
      rw [List.getD_eq_getElem?_getD, List.getElem?_append_left hi, ← List.getD_eq_getElem?_getD]
      exact this
  · rw [List.all_cons, List.all_nil, Bool.and_true]
    rw [List.take_append_of_le_length (Nat.le_refl _), List.take_length]
    rw [List.getD_eq_getElem?_getD, List.getElem?_append_right (Nat.le_refl _), Nat.sub_self]
    rfl
theorem pow18 {m : Md} {K : PySem.W.Frag} {σ : L2.St} {H : Hp} : EvX m K (tOp rPowU (tC (.int 10)) (tC (.int 18))) σ H fun d => ∃ k, d = dI k :=
  evx_op (S1 := fun d => d = dI 10) (S2 := fun d => d = dI 18) (evx_of ev_c rfl) (evx_of ev_c rfl) fun d1 d2 e1 e2 => by
    subst e1
    subst e2
    exact ⟨_, ⟨_, rfl⟩, opd_pow ⟨by decide, by decide, by decide⟩⟩
section
variable {prog : Program} {w : World} {mg : Str → Option Value} {base : Heap} {A : Ad}
theorem k_Lwell (B : BI mg) (F : DefAt A.K mg "_law_well" s_Lwell ["_law_cells", "_law_turn"]) : Callee prog w A.K mg base "_law_well" ["_law_cells", "_law_turn"] 1 (sp_Lwell A) := by
  obtain ⟨f, fd, F, hm, b⟩ := F
  refine ⟨f, fd, F.ok sc_Lwell (fun vs H Q E h => ?_) (fun cdv Ar outer s H vs Q E hr h => ?_), hm, F.kp, b⟩
  · obtain ⟨ns, t, _, _, h⟩ := h
    exact h.len
  · obtain ⟨ns, t, hns, ht, h⟩ := h
    obtain ⟨M, dm, rs, q⟩ := h.use
    obtain ⟨x, y, rfl, r, r1⟩ := reps2 rs
    rw [rep_s.mp r1]
    refine ⟨_, (pss_cons (ps_set (i := 2) sc_Lwell.nd rfl (Or.inl rfl) (pe_op u_add pe_int (pe_op u_mul pe_int (pv 1)))) (pss_cons (ps_for PassesOwn.never rfl (pi_any (pe_slice sl_uni (pv 0) po_none (po_some pe_int))) (pg_name (i := 3) sc_Lwell.nd rfl (Or.inl rfl)) (pss_one (ps_set (i := 2) sc_Lwell.nd rfl (Or.inl rfl) (pe_op u_mod (pe_callTy u_int (by rfl) B.b_int (by decide +kernel) (pa_cons (pe_op u_add (pe_op u_add (pe_op u_mul (pv 2) pe_int) (pv 3)) pe_int) pa_nil)) pe_int)))) (pss_cons (ps_set (i := 4) sc_Lwell.nd rfl (Or.inl rfl) (pe_ifExp (pt_cmpR u_lt (pv 1) (pe_callB u_len (by rfl) B.b_len (by decide +kernel) (pa_cons (pv 0) pa_nil)) (nomark _)) (pe_ix (ix_uni (hu_of hr)) (pv 0) (pv 1) (fun _ _ => rfl)) pe_int)) (pss_one (ps_ret (pe_lst (pa_cons (pe_op u_mod (pe_callTy u_int (by rfl) B.b_int (by decide +kernel) (pa_cons (pe_op u_add (pe_op u_mul (pv 2) pe_int) (pv 4)) pa_nil)) pe_int) (pa_cons (pe_ifExp (pt_cmpR u_ge (pe_callB call_abs (by rfl) B.b_abs (by decide +kernel) (pa_cons (pv 4) pa_nil)) (pe_op u_pow pe_int pe_int) (nomark _)) (pe_callB call_abs (by rfl) B.b_abs (by decide +kernel) (pa_cons (pv 4) pa_nil)) pe_int) pa_nil)))))))), ?_⟩
    refine sq (s_asgS (m := Md.pure M) (K := A.K) (x := .int (80021 + 7417 * (t : Int))) dm (ev_op ev_c (ev_op ev_c (ev_vs rfl) (opd_mul (.inl ⟨by decide, by decide⟩))) opd_addI) fun H1 g1 => ?_)
    show (tSeq (tFor (iAny A.K (tSl (rSlU A.K) (tVar 0) tNoPart (tPart (tC (.int 4))))) (gName 3) (tAsg (tOp rModU (tCB rIntU (tCons (tOp rAddU (tOp rAddU (tOp rMulU (tVar 2) (tC (.int 40949))) (tVar 3)) (tC (.int 103))) tNil)) (tC (.int 2147483171))) (gName 2))) (tSeq (tAsg (tIf (tTest (tOp rLtU (tVar 1) (tCB (rLenU A.K) (tCons (tVar 0) tNil)))) (tOp (rIxU A.K) (tVar 0) (tVar 1)) (tC (.int 0))) (gName 4)) (tRet (tLst (tCons (tOp rModU (tCB rIntU (tCons (tOp rAddU (tOp rMulU (tVar 2) (tC (.int 67))) (tVar 4)) tNil)) (tC (.int 2147483171))) (tCons (tIf (tTest (tOp rGeU (tCB rAbs (tCons (tVar 4) tNil)) (tOp rPowU (tC (.int 10)) (tC (.int 18))))) (tCB rAbs (tCons (tVar 4) tNil)) (tC (.int 0))) tNil)))))) _ [some x, some (.int (t : Int)), some (.int (80021 + 7417 * (t : Int))), none, none] H1
    refine sq (s_for (m := Md.pure M) (K := A.K) g1.dm (ev_sl (ev_var (i := 0) rfl (r.mono g1)) eo_none (eo_some (K := A.K) ev_c) sld_list) rfl fun H2 g2 => ⟨Md.pure M, rfl, fun i σ' H' => G (Md.pure M) H2 H' ∧ ∃ (mx : Int) (a : Option V), σ' = [some x, some (.int (t : Int)), some (.int mx), a, none], ⟨g2.r1, _, none, rfl⟩, fun i σ' H' p => p.1, ?_, ?_⟩)
    · rintro i d v σ' H' hd rv ⟨gg, mx, a, rfl⟩
      obtain ⟨k, rfl⟩ := cut_int hd
      rw [rep_s.mp rv]
      refine s_asgS (m := Md.pure M) (K := A.K) (x := .int ((mx * 40949 + k + 103) % 2147483171)) gg.dm (ev_op (ev_cb (ea_cons (ev_op (ev_op (ev_op (ev_vs rfl) ev_c (opd_mul (.inr (by decide)))) (ev_vs rfl) opd_addI) ev_c opd_addI) ea_nil) cd_int) ev_c (opd_mod (by decide))) fun H3 g3 => ⟨gg.trans g3, _, _, rfl⟩
    · rintro σ' H3 ⟨gg, mx, a, rfl⟩
      have g3 := (g1.trans g2).trans gg
      show (tSeq (tAsg (tIf (tTest (tOp rLtU (tVar 1) (tCB (rLenU A.K) (tCons (tVar 0) tNil)))) (tOp (rIxU A.K) (tVar 0) (tVar 1)) (tC (.int 0))) (gName 4)) (tRet (tLst (tCons (tOp rModU (tCB rIntU (tCons (tOp rAddU (tOp rMulU (tVar 2) (tC (.int 67))) (tVar 4)) tNil)) (tC (.int 2147483171))) (tCons (tIf (tTest (tOp rGeU (tCB rAbs (tCons (tVar 4) tNil)) (tOp rPowU (tC (.int 10)) (tC (.int 18))))) (tCB rAbs (tCons (tVar 4) tNil)) (tC (.int 0))) tNil))))) _ [some x, some (.int (t : Int)), some (.int mx), a, none] H3
      refine sq (s_asgP (m := Md.pure M) gg.dm (evx_if (K := A.K) (S := fun d => ∃ k, d = dI k) (b := decide (t < ns.length)) ((et_test (ev_op (ev_vs rfl) (ev_cb (ea_cons (ev_var (i := 0) rfl (r.mono g3)) ea_nil) (cd_len (n := ns.length) (by show some (ns.map dI).length = _; rw [List.length_map]) (by omega))) opd_ltI)).is ?_) (fun hb => ?_) (fun _ => evx_of ev_c ⟨0, rfl⟩)) fun v4 H4 g4 ⟨d, ⟨k, e⟩, r4⟩ => ?_)
      · by_cases c : t < ns.length
        · rw [decide_eq_true c, decide_eq_true (by omega)]
        · rw [decide_eq_false c, decide_eq_false (by omega)]
      · have hlt := of_decide_eq_true hb
        exact evx_of (ev_op (ev_var (i := 0) rfl (r.mono g3)) (ev_vs rfl) (opd_ixL (atI_nat (j := t) rfl (get_map (List.getElem?_eq_getElem hlt))))) ⟨_, rfl⟩
      · subst e
        rw [rep_s.mp r4]
        show (tRet (tLst (tCons (tOp rModU (tCB rIntU (tCons (tOp rAddU (tOp rMulU (tVar 2) (tC (.int 67))) (tVar 4)) tNil)) (tC (.int 2147483171))) (tCons (tIf (tTest (tOp rGeU (tCB rAbs (tCons (tVar 4) tNil)) (tOp rPowU (tC (.int 10)) (tC (.int 18))))) (tCB rAbs (tCons (tVar 4) tNil)) (tC (.int 0))) tNil)))) _ [some x, some (.int (t : Int)), some (.int mx), a, some (.int k)] H4
        refine s_retX2 (m := Md.pure M) (K := A.K) (S1 := fun d => ∃ k, d = dI k) (S2 := fun d => ∃ k, d = dI k) g4.dm ?_ ?_ fun p vs d e H5 g5 hp ⟨i, ei⟩ ⟨j, ej⟩ rs5 => ?_
        · exact evx_of (ev_op (ev_cb (ea_cons (ev_op (ev_op (ev_vs rfl) ev_c (opd_mul (.inr (by decide)))) (ev_vs rfl) opd_addI) ea_nil) cd_int) ev_c (opd_mod (by decide))) ⟨_, rfl⟩
        · exact evx_ifX (etx_test (K := A.K) (S := fun d => ∃ b, d = dB b) (evx_op (S1 := fun d => ∃ k, d = dI k) (S2 := fun d => ∃ k, d = dI k) (evx_of (ev_cb (ea_cons (ev_vs rfl) ea_nil) cd_abs) ⟨_, rfl⟩) pow18 fun d1 d2 ⟨i, e1⟩ ⟨j, e2⟩ => ⟨dB (decide (j ≤ i)), ⟨_, rfl⟩, by subst e1; subst e2; exact opd_ge⟩) (fun d h => h)) (evx_of (ev_cb (ea_cons (ev_vs rfl) ea_nil) cd_abs) ⟨_, rfl⟩) (evx_of ev_c ⟨0, rfl⟩)
        subst ei
        subst ej
        obtain ⟨y1, y2, rfl, q1, q2⟩ := reps2 rs5
        rw [rep_s.mp q1, rep_s.mp q2]
        refine q _ _ ?_ ⟨p, _, rfl, ?_, upd_same, i, j, rfl⟩
        · exact (g3.trans g4).trans (g5.mut (g5.free hp))
        · exact ((g3.trans g4).trans g5).free hp
theorem k_Lfits (B : BI mg) (F : DefAt A.K mg "_law_fits" s_Lfits ["_law_spec_here", "_law_begun", "_law_letter"]) : Callee prog w A.K mg base "_law_fits" ["_law_spec_here", "_law_begun", "_law_letter"] 1 (sp_Lfits A) := by
  obtain ⟨f, fd, F, hm, b⟩ := F
  refine ⟨f, fd, F.ok sc_Lfits (fun vs H Q E h => ?_) (fun cdv Ar outer s H vs Q E hr h => ?_), hm, F.kp, b⟩
  · obtain ⟨R, row, k, _, _, h⟩ := h
    exact h.len
  · obtain ⟨R, row, k, ok, hl, h⟩ := h
    obtain ⟨M, dm, rs, q⟩ := h.use
    obtain ⟨x, y, z, rfl, r, r1, r2⟩ := reps3 rs
    refine ⟨_, (pss_cons (ps_for PassesOwn.never rfl (pi_any (pe_ix (ix_uni (hu_of hr)) (pv 0) pe_int (fun _ _ => rfl))) (pg_name (i := 3) sc_Lfits.nd rfl (Or.inl rfl)) (pss_cons (ps_set (i := 4) sc_Lfits.nd rfl (Or.inl rfl) (pe_callTy u_int (by rfl) B.b_int (by decide +kernel) (pa_cons (pe_ix (ix_uni (hu_of hr)) (pv 3) pe_int (fun _ _ => rfl)) pa_nil))) (pss_one (ps_if (PW.pt (pw_and (pt_cmpR (u_eq hr.units) (pe_ix (ix_uni (hu_of hr)) (pv 3) pe_int (fun _ _ => rfl)) (pv 2) (nomark _)) (pw_and (pt_cmpR u_le (pv 4) (pe_callB u_len (by rfl) B.b_len (by decide +kernel) (pa_cons (pv 1) pa_nil)) (nomark _)) (pw_and1 (pt_cmpR (u_eq hr.units) (pe_ix (ix_uni (hu_of hr)) (pv 1) (pe_un u_neg (pv 4)) (fun _ _ => rfl)) (pe_ix (ix_uni (hu_of hr)) (pv 3) pe_int (fun _ _ => rfl)) (nomark _)))))) (pss_one (ps_ret pe_bl)) pss_nil)))) (pss_one (ps_ret pe_bl))), ?_⟩
    have b40 := ok.b40
    have efit : R.fits row k = R.bars.all fun b => !(decide (b.2.1 = k) && Rl.hit row (b.1, b.2.2)) := by
      unfold Rl.fits Rl.at_
      rw [List.all_map, List.all_filter]
      congr 1
      funext b
      show (!decide (b.2.1 = k) || !Rl.hit row (b.1, b.2.2)) = _
      rw [Bool.not_and]
    refine sq (s_for (m := Md.pure M) (K := A.K) (dd := .t (R.bars.map fun b => dS (st (Rl.bword b)))) dm (ev_op (ev_var (i := 0) rfl r) ev_c (opd_ixT (atI_nat (j := 2) rfl rfl))) rfl fun H1 g => ⟨Md.pure M, rfl, fun i σ' H' => G (Md.pure M) H1 H' ∧ (∀ j < i, ∀ b, R.bars[j]? = some b → (decide (b.2.1 = k) && Rl.hit row (b.1, b.2.2)) = false) ∧ ∃ a c, σ' = [some x, some y, some z, a, c], ⟨g.r1, fun j hj => absurd hj (by omega), none, none, rfl⟩, fun i σ' H' p => p.1, ?_, ?_⟩)
    · rintro i d v σ' H' hd rv ⟨gg, hn, a, c, rfl⟩
      obtain ⟨bb, hb, rfl⟩ := map_get hd
      have g' := g.trans gg
      obtain ⟨h1, h2, h3, h4⟩ := ok.bk bb (List.mem_of_getElem? hb)
      have ew : ∀ (j : Nat) (cc : Nat) {s : L2.St} {Hz : Hp}, (Rl.bword bb)[j]? = some cc → s[3]? = some (some v) → G (Md.pure M) H' Hz → EvD (Md.pure M) A.K (tOp (rIxU A.K) (tVar 3) (tC (.int (j : Int)))) s Hz (dS (st [cc])) := fun j cc s Hz hj hs gz => ev_op (ev_var hs (rv.mono gz)) ev_c (opd_ixS (c := cc) (Evl.sz_of (by simp [st_len, Rl.bword])) (by rw [st_cps]; exact atI_nat rfl hj))
      refine sq (s_asgS (m := Md.pure M) (K := A.K) (x := .int (bb.2.2 : Int)) gg.dm (ev_cb (ea_cons (ew 2 (48 + bb.2.2) rfl rfl gg.r1) ea_nil) (cd_intS (digit_int (by omega)) (by show (st [48 + bb.2.2]).length ≤ 640; rw [st_len]; simp))) fun H2 g2 => ?_)
      have elen : EvD (Md.pure M) A.K (tCB (rLenU A.K) (tCons (tVar 1) tNil)) [some x, some y, some z, some v, some (.int (bb.2.2 : Int))] H2 (dI (row.length : Int)) := ev_cb (ea_cons (ev_var rfl (r1.mono (g'.trans g2))) ea_nil) (cd_len (by show some (st row).length = _; rw [st_len]) (by omega))
      refine s_if (m := Md.pure M) (b := decide (bb.2.1 = k) && Rl.hit row (bb.1, bb.2.2)) g2.dm ((et_and (a := decide (bb.2.1 = k)) (b := Rl.hit row (bb.1, bb.2.2)) ((et_test (ev_op (ew 1 bb.2.1 rfl rfl g2) (ev_var (i := 2) rfl (r2.mono (g'.trans g2))) (opd_eq rfl))).is dec_sign) fun _ => (et_and (a := decide (bb.2.2 ≤ row.length)) (b := decide (row[row.length - bb.2.2]? = some bb.1)) ((et_test (ev_op (ev_vs rfl) elen opd_le)).is (by
          by_cases c : bb.2.2 ≤ row.length
          · rw [decide_eq_true c, decide_eq_true (by omega)]
          · rw [decide_eq_false c, decide_eq_false (by omega)])) fun e => ?_).is rfl).is rfl) (fun hb' H3 g3 => ?_) (fun hb' H3 g3 => ?_)
      · have hle := of_decide_eq_true e
        have hlt : row.length - bb.2.2 < row.length := by omega
        refine (et_test (ev_op (ev_op (ev_var (i := 1) rfl (r1.mono (g'.trans g2))) (ev_un (ev_vs rfl) und_neg) (opd_ixS (c := row[row.length - bb.2.2]) (by rw [st_len]; exact Evl.sz_of (by omega)) (by rw [st_cps]; exact atI_neg (j := row.length - bb.2.2) (by omega) (List.getElem?_eq_getElem hlt)))) (ew 0 bb.1 rfl rfl g2) (opd_eq rfl))).is ?_
        rw [List.getElem?_eq_getElem hlt]
        exact dec_sign.trans (by simp)
      · have : R.fits row k = false := by
          rw [efit]
          exact all_false_of hb (by rw [hb']; rfl)
        exact q _ H3 ((g'.trans g2).trans g3) (rep_s.mpr (congrArg V.bl this.symm))
      · refine ⟨(gg.trans g2).trans g3, fun j hj b' hb2 => ?_, _, _, rfl⟩
        by_cases ej : j = i
        · subst ej
          rw [hb] at hb2
          cases hb2
          exact hb'
        · exact hn j (by omega) b' hb2
    · rintro σ' H' ⟨gg, hn, a, c, rfl⟩
      have : R.fits row k = true := by
        rw [efit]
        exact all_true_of fun i hi b hb => by
          rw [hn i (by rw [List.length_map]; exact hi) b hb]
          rfl
      exact q _ H' (g.trans gg) (rep_s.mpr (congrArg V.bl this.symm))
end
end GK

namespace GK
open PySem PySem.Spec PyProof.Rows L2
theorem ev_cat {m : Md} {K : PySem.W.Frag} {σ : L2.St} {H : Hp} {ta tb : TE} {ds es : List D} (h1 : EvL m K ta σ H ds) (h2 : EvL m K tb σ H es) (hl : ds.length + es.length ≤ 100000) : EvL m K (tOp rAddU ta tb) σ H (ds ++ es) := fun H1 g Q k =>
  h1 H1 g _ fun v H2 g2 ⟨p, xs, e1, pn, pM, hp, rs⟩ => h2 H2 (g.trans g2) _ fun w H3 g3 ⟨p', xs', e2, pn', pM', hp', rs'⟩ => by
    subst e1
    subst e2
    have hp3 := g3.st p _ (fun z => pM (m.sub p z)) hp
    have rs3 := rs.mono g3
    have l1 := rs.len
    have l2 := rs'.len
    refine .inr (.inr ⟨p, p', xs, xs', rfl, rfl, hp3, hp', by rw [l1, l2]; exact Evl.sz_of hl, fun q hq => ?_⟩)
    have gn : G m H3 (upd H3 q (.lst (xs ++ xs'))) := g3.new hq
    exact k _ _ ((g2.trans g3).trans gn) ⟨q, _, rfl, ((g.trans g2).trans g3).free hq, g3.out hq, upd_same, (rs3.app rs').mono gn⟩
theorem ev_listT {m : Md} {K : PySem.W.Frag} {σ : L2.St} {H : Hp} {ta : TA} {ds : List D} (h : EvA m K ta σ H [.t ds]) : EvL m K (tCB (rListU K) ta) σ H ds := fun H1 g Q k =>
  h H1 g _ fun vs H2 g2 rs => by
    obtain ⟨x, rfl, r1⟩ := reps1 rs
    obtain ⟨p, xs, rfl, stp, rs'⟩ := rep_t.mp r1
    refine ⟨p, xs, rfl, .inr stp.here, fun l hl => ?_⟩
    have gn : G m H2 (upd H2 l (.lst xs)) := g2.new hl
    exact k _ _ (g2.trans gn) ⟨l, xs, rfl, (g.trans g2).free hl, g2.out hl, upd_same, rs'.mono gn⟩
theorem ev_sindex {m : Md} {K : PySem.W.Frag} {σ : L2.St} {H : Hp} {ta tb : TE} {z : List Nat} {c k : Nat} (h : EvD m K ta σ H (dS (st z))) (hb : EvD m K tb σ H (dS (st [c]))) (hk : Txt.index0 (st z) (st [c]) = some k) : EvD m K (tBM K "str" rStrIndex ta (tCons tb tNil)) σ H (dI (k : Int)) := fun H1 g Q k' =>
  h H1 g _ fun x H2 g2 rx => by
    rw [rep_s.mp rx]
    refine ⟨rfl, hb H2 (g.trans g2) _ fun y H3 g3 ry => ?_⟩
    rw [rep_s.mp ry]
    exact ⟨_, _, k, rfl, rfl, hk, k' _ H3 (g2.trans g3) (rep_s.mpr rfl)⟩
section
variable {prog : Program} {w : World} {mg : Str → Option Value} {base : Heap} {A : Ad}
theorem k_Lworth (B : BI mg) (F : DefAt A.K mg "_law_worth" s_Lworth ["_law_spec_here", "_law_begun"]) : Callee prog w A.K mg base "_law_worth" ["_law_spec_here", "_law_begun"] 1 (sp_Lworth A) := by
  obtain ⟨f, fd, F, hm, b⟩ := F
  refine ⟨f, fd, F.ok sc_Lworth (fun vs H Q E h => ?_) (fun cdv Ar outer s H vs Q E hr h => ?_), hm, F.kp, b⟩
  · obtain ⟨R, row, _, _, _, h⟩ := h
    exact h.len
  · obtain ⟨R, row, rs', hl, hk, h⟩ := h
    obtain ⟨M, dm, rs, q⟩ := h.use
    obtain ⟨x, y, rfl, r, r1⟩ := reps2 rs
    refine ⟨_, (pss_one (ps_ret (pe_callB (cr_sum rfl) (by rfl) B.b_sum (by decide +kernel) (pa_cons (pe_lc (own := [("_law_letter", 2)]) (g := (gName 2)) (tt := tYes) (te := (tOp (rIxU A.K) (tOp (rIxU A.K) (tVar 0) (tC (.int 1))) (tBM A.K "str" rStrIndex (tOp (rIxU A.K) (tVar 0) (tC (.int 0))) (tCons (tVar 2) tNil)))) rfl sc_Lworth.nd (pi_any (pv 1)) (blkOk_by (own := [("_law_letter", 2)]) (N := ["_law_spec_here", "_law_begun", "_law_letter"]) (sc := defScope s_Lworth) (by decide +kernel))  (fun _ _ _ _ _ => (pg_name (i := 2) sc_Lworth.nd rfl (Or.inl rfl))) (fun _ _ _ _ _ => pts_nil) (fun _ _ _ _ _ => (pe_ix (ix_uni (hu_of hr)) (pe_ix (ix_uni (hu_of hr)) (pv 0) pe_int (fun _ _ => rfl)) (pe_bm PySem.F.plainAttrs_str PySem.F.slot_str_index PySem.F.type_str_index mt_strindex (pe_ix (ix_uni (hu_of hr)) (pv 0) pe_int (fun _ _ => rfl)) (pa_cons (pv 2) pa_nil)) (fun _ _ => rfl)))) pa_nil)))), ?_⟩
    have el : EvL (Md.pure M) A.K _ [some x, some y, none] H (((signs (st row)).filter fun _ => true).map fun d => dI (R.worthOf (sgn d) : Int)) :=
      ev_lc (m := Md.pure M) (K := A.K) (g := gName 2) (vs := [2]) (t := tYes) (te := tOp (rIxU A.K) (tOp (rIxU A.K) (tVar 0) (tC (.int 1))) (tBM A.K "str" rStrIndex (tOp (rIxU A.K) (tVar 0) (tC (.int 0))) (tCons (tVar 2) tNil))) (fun _ => true) (fun d => dI (R.worthOf (sgn d) : Int)) (fun _ _ z => z) gm_name (ev_var (i := 1) (σ := [some x, some y, none]) rfl r1) rfl (by rw [signs_len]; omega) (fun d _ _ => rfl) fun i d v H' g hd rv => by
        obtain ⟨c, hc, rfl⟩ := signs_get hd
        have hck := hk c (List.mem_of_getElem? hc)
        exact ⟨rfl, rfl, et_yes, fun _ => ev_op (ev_op (ev_var (i := 0) rfl (r.mono g)) ev_c (opd_ixT (atI_nat (j := 1) rfl rfl))) (ev_sindex (ev_op (ev_var (i := 0) rfl (r.mono g)) ev_c (opd_ixT (atI_nat (j := 0) rfl rfl))) (ev_var (i := 2) rfl rv) (rs'.index hck)) (opd_ixT (atI_nat (j := R.kinds.idxOf c) rfl (get_map (rs'.ok.worthAt hck))))⟩
    rw [signs_all] at el
    have e2 : (row.map fun c => dI (R.worthOf (sgn (dS (st [c]))) : Int)) = (row.map fun c => (R.worthOf c : Int)).map dI := by rw [List.map_map]; rfl
    rw [e2] at el
    exact s_retD dm (ev_cb (ea_cons el.frz ea_nil) cd_sum) fun v H1 g r => q v H1 g r
theorem k_Lkept (B : BI mg) (F : DefAt A.K mg "_law_kept" s_Lkept ["_law_spec_here", "_law_begun"]) (c_Lfits : Callee prog w A.K mg base "_law_fits" ["_law_spec_here", "_law_begun", "_law_letter"] 1 (sp_Lfits A)) : Callee prog w A.K mg base "_law_kept" ["_law_spec_here", "_law_begun"] 2 (sp_Lkept A) := by
  obtain ⟨f, fd, F, hm, b⟩ := F
  refine ⟨f, fd, F.ok sc_Lkept (fun vs H Q E h => ?_) (fun cdv Ar outer s H vs Q E hr h => ?_), hm, F.kp, b⟩
  · obtain ⟨R, row, _, _, h⟩ := h
    exact h.len
  · obtain ⟨R, row, ok, hl, h⟩ := h
    obtain ⟨M, dm, rs, q⟩ := h.use
    obtain ⟨x, y, rfl, r, r1⟩ := reps2 rs
    refine ⟨_, (pss_one (ps_ret (pe_callB (cr_all rfl) (by rfl) B.b_all (by decide +kernel) (pa_cons (pe_lc (own := [("_law_k", 2)]) (g := (gName 2)) (tt := tYes) (te := (tCall (sp_Lfits A) [] E0 (tCons (tVar 0) (tCons (tSl (rSlU A.K) (tVar 1) tNoPart (tPart (tVar 2))) (tCons (tOp (rIxU A.K) (tVar 1) (tVar 2)) tNil))))) rfl sc_Lkept.nd (pi_range1 rfl B.b_range (pa_cons (pe_callB u_len (by rfl) B.b_len (by decide +kernel) (pa_cons (pv 1) pa_nil)) pa_nil)) (blkOk_by (own := [("_law_k", 2)]) (N := ["_law_spec_here", "_law_begun", "_law_k"]) (sc := defScope s_Lkept) (by decide +kernel))  (fun _ _ _ _ _ => (pg_name (i := 2) sc_Lkept.nd rfl (Or.inl rfl))) (fun _ _ _ _ _ => pts_nil) (fun _ _ _ _ _ => (pe_fn c_Lfits hr (by decide) (pa_cons (pv 0) (pa_cons (pe_slice sl_uni (pv 1) po_none (po_some (pv 2))) (pa_cons (pe_ix (ix_uni (hu_of hr)) (pv 1) (pv 2) (fun _ _ => rfl)) pa_nil)))))) pa_nil)))), ?_⟩
    have el : EvL (Md.pure M) A.K _ [some x, some y, none] H (((nats ((row.length : Int)).toNat).filter fun _ => true).map fun d => dB (R.fits (row.take (int_ d).toNat) (row.getD (int_ d).toNat 0))) :=
      ev_lcR (m := Md.pure M) (K := A.K) (g := gName 2) (vs := [2]) (t := tYes) (te := tCall (sp_Lfits A) [] E0 (tCons (tVar 0) (tCons (tSl (rSlU A.K) (tVar 1) tNoPart (tPart (tVar 2))) (tCons (tOp (rIxU A.K) (tVar 1) (tVar 2)) tNil)))) (fun _ => true) (fun d => dB (R.fits (row.take (int_ d).toNat) (row.getD (int_ d).toNat 0))) (fun _ _ z => z) gm_name
        (ea_cons (ev_cb (ea_cons (ev_var (i := 1) (σ := [some x, some y, none]) rfl r1) ea_nil) (cd_len (n := row.length) (by show some (st row).length = _; rw [st_len]) (by omega))) ea_nil) (by omega) (by omega) (fun d _ _ => rfl) fun i H' g hi => by
        have hlt : i < row.length := by omega
        refine ⟨rfl, rfl, et_yes, fun _ => ev_callD (ea_cons (ev_var (i := 0) rfl (r.mono g)) (ea_cons (EvD.is (ev_sl (ev_var (i := 1) rfl (r1.mono g)) eo_none (eo_some (K := A.K) (ev_vs rfl)) (sld_str (by rw [st_len]; exact Evl.sz_of (by omega)))) (d' := dS (st (row.take i))) ?_) (ea_cons (ev_op (ev_var (i := 1) rfl (r1.mono g)) (ev_vs rfl) (opd_ixS (c := row.getD i 0) (by rw [st_len]; exact Evl.sz_of (by omega)) (by rw [st_cps]; exact atI_nat (j := i) rfl (by rw [List.getD_eq_getElem?_getD, List.getElem?_eq_getElem hlt]; rfl)))) ea_nil))) (spd fun vs H1 Q E p => ⟨R, row.take i, row.getD i 0, ok, by rw [List.length_take]; omega, p⟩)⟩
        unfold cutS
        rw [st_cps, st_len]
        have e1 : HT.sIx row.length row.length (some (i : Int)) = i := by rw [HT.sIx_nat]; omega
        rw [e1]
        rfl
    rw [nats_all, Int.toNat_natCast] at el
    have e2 : ((List.range row.length).map fun (i : Nat) => dB (R.fits (row.take (int_ (dI (i : Int))).toNat) (row.getD (int_ (dI (i : Int))).toNat 0))) = ((List.range row.length).map fun i => R.fits (row.take i) (row.getD i 0)).map dB := by
      rw [List.map_map]
      rfl
    rw [e2] at el
    refine s_retD dm ((ev_cb (ea_cons el.frz ea_nil) cd_all).is (d' := dB (R.lkept row)) ?_) fun v H1 g r => q v H1 g r
    rw [map_all]
    rfl
theorem k_Lmade (F : DefAt A.K mg "_law_made" s_Lmade ["_law_spec_here"]) (c_Ltext : Callee prog w A.K mg base "_law_text" ["_law_spec_here"] 1 (sp_Ltext A)) (c_Rule_init : CalleeC prog w A.K mg base "Rule" A.Rule ["self", "text"] 4 (sp_Rule_init A) []) : Callee prog w A.K mg base "_law_made" ["_law_spec_here"] 6 (sp_Lmade A) := by
  obtain ⟨f, fd, F, hm, b⟩ := F
  refine ⟨f, fd, F.ok sc_Lmade (fun vs H Q E h => ?_) (fun cdv Ar outer s H vs Q E hr h => ?_), hm, F.kp, b⟩
  · obtain ⟨R, _, h⟩ := h
    exact h.len
  · obtain ⟨R, ok, h⟩ := h
    obtain ⟨M, dm, rs, q⟩ := h.use
    obtain ⟨x, rfl, r⟩ := reps1 rs
    refine ⟨_, (pss_one (ps_ret (pe_mk c_Rule_init hr (by decide) (pa_cons (pe_fn c_Ltext hr (by decide) (pa_cons (pv 0) pa_nil)) pa_nil)))), ?_⟩
    exact s_retD dm (ev_mkRule ok (ea_cons (ev_callD (ea_cons (ev_var rfl r) ea_nil) (spd fun vs H1 Q E p => ⟨R, ok, p⟩)) ea_nil)) fun v H1 g r => q v H1 g r
theorem k_Ltext (B : BI mg) (F : DefAt A.K mg "_law_text" s_Ltext ["_law_spec_here"]) : Callee prog w A.K mg base "_law_text" ["_law_spec_here"] 1 (sp_Ltext A) := by
  obtain ⟨f, fd, F, hm, b⟩ := F
  refine ⟨f, fd, F.ok sc_Ltext (fun vs H Q E h => ?_) (fun cdv Ar outer s H vs Q E hr h => ?_), hm, F.kp, b⟩
  · obtain ⟨R, _, h⟩ := h
    exact h.len
  · obtain ⟨R, ok, h⟩ := h
    obtain ⟨M, dm, rs, q⟩ := h.use
    obtain ⟨x, rfl, r⟩ := reps1 rs
    refine ⟨_, (pss_cons (ps_setLc (i := 1) (own := [("_law_k", 2)]) (g := (gName 2)) (tt := tYes) (te := (tOp rAddU (tOp (rIxU A.K) (tOp (rIxU A.K) (tVar 0) (tC (.int 0))) (tVar 2)) (tCB rStrU (tCons (tOp (rIxU A.K) (tOp (rIxU A.K) (tVar 0) (tC (.int 1))) (tVar 2)) tNil)))) rfl sc_Ltext.nd rfl rfl (sw_true rfl rfl rfl (by decide +kernel)) (pi_range1 rfl B.b_range (pa_cons (pe_callB u_len (by rfl) B.b_len (by decide +kernel) (pa_cons (pe_ix (ix_uni (hu_of hr)) (pv 0) pe_int (fun _ _ => rfl)) pa_nil)) pa_nil)) (blkOk_by (own := [("_law_k", 2)]) (N := ["_law_spec_here", "_law_words", "_law_k"]) (sc := defScope s_Ltext) (by decide +kernel))  (fun _ _ _ _ _ => (pg_name (i := 2) sc_Ltext.nd rfl (Or.inl rfl))) (fun _ _ _ _ _ => pts_nil) (fun _ _ _ _ _ => (pe_op u_add (pe_ix (ix_uni (hu_of hr)) (pe_ix (ix_uni (hu_of hr)) (pv 0) pe_int (fun _ _ => rfl)) (pv 2) (fun _ _ => rfl)) (pe_callTy u_str (by rfl) B.b_str (by decide +kernel) (pa_cons (pe_ix (ix_uni (hu_of hr)) (pe_ix (ix_uni (hu_of hr)) (pv 0) pe_int (fun _ _ => rfl)) (pv 2) (fun _ _ => rfl)) pa_nil))))) (pss_one (ps_ret (pe_op u_add (pe_op u_add (pe_op u_add pe_str (pe_join pe_str (pv 1))) pe_str) (pe_join pe_str (pe_op u_add (pe_lst (pa_cons pe_str pa_nil)) (pe_callTy u_list (by rfl) B.b_list (by decide +kernel) (pa_cons (pe_ix (ix_uni (hu_of hr)) (pv 0) pe_int (fun _ _ => rfl)) pa_nil)))))))), ?_⟩
    have l4 := ok.l4
    have l1 := ok.l1
    have b40 := ok.b40
    have hkw : R.kwords.length = R.kinds.length := kw_len ok.lw
    have hbw : R.bwords.length = R.bars.length := by unfold Rl.bwords; rw [List.length_map]
    have el : EvL (Md.pure M) A.K _ [some x, none, none] H (((nats ((R.kinds.length : Int)).toNat).filter fun _ => true).map fun d => dS (st (R.kwords.getD (int_ d).toNat []))) :=
      ev_lcR (m := Md.pure M) (K := A.K) (g := gName 2) (vs := [2]) (t := tYes) (te := tOp rAddU (tOp (rIxU A.K) (tOp (rIxU A.K) (tVar 0) (tC (.int 0))) (tVar 2)) (tCB rStrU (tCons (tOp (rIxU A.K) (tOp (rIxU A.K) (tVar 0) (tC (.int 1))) (tVar 2)) tNil))) (fun _ => true) (fun d => dS (st (R.kwords.getD (int_ d).toNat []))) (fun _ _ z => z) gm_name
        (ea_cons (ev_cb (ea_cons (ev_op (ev_var (i := 0) (σ := [some x, none, none]) rfl r) ev_c (opd_ixT (atI_nat (j := 0) rfl rfl))) ea_nil) (cd_len (n := R.kinds.length) (by show some (st R.kinds).length = _; rw [st_len]) (by omega))) ea_nil) (by omega) (by omega) (fun d _ _ => rfl) fun i H' g hi => by
        have hlt : i < R.kinds.length := by omega
        have h2 : i < R.worths.length := by rw [ok.lw]; exact hlt
        have g1 : R.kinds[i]? = some R.kinds[i] := List.getElem?_eq_getElem hlt
        have g2 : R.worths[i]? = some R.worths[i] := List.getElem?_eq_getElem h2
        have w9 := ok.w9 _ (List.getElem_mem h2)
        generalize R.kinds[i] = c at g1
        generalize R.worths[i] = ww at g2 w9
        have gk : R.kwords.getD i [] = [c, 48 + ww] := by
          rw [List.getD_eq_getElem?_getD]
          show ((List.zipWith Rl.kword R.kinds R.worths)[i]?).getD [] = _
          rw [zipWith_get g1 g2]
          rfl
        refine ⟨rfl, rfl, et_yes, fun _ => (ev_op (d1 := dS (st [c])) (d2 := dS (st [48 + ww])) (ev_op (ev_op (ev_var (i := 0) rfl (r.mono g)) ev_c (opd_ixT (atI_nat (j := 0) rfl rfl))) (ev_vs rfl) (opd_ixS (c := c) (by rw [st_len]; exact Evl.sz_of (by omega)) (by rw [st_cps]; exact atI_nat (j := i) rfl g1))) ((ev_cb (ea_cons (ev_op (ev_op (ev_var (i := 0) rfl (r.mono g)) ev_c (opd_ixT (atI_nat (j := 1) rfl rfl))) (ev_vs rfl) (opd_ixT (d := dI (ww : Int)) (atI_nat (j := i) rfl (get_map g2)))) ea_nil) (cd_str ?_)).is ?_) (opd_addS (by rw [st_len, st_len]; exact Evl.sz_of (by simp)))).is ?_⟩
        · have : ww = 0 ∨ ww = 1 ∨ ww = 2 ∨ ww = 3 ∨ ww = 4 ∨ ww = 5 ∨ ww = 6 ∨ ww = 7 ∨ ww = 8 ∨ ww = 9 := by omega
          rcases this with rfl | rfl | rfl | rfl | rfl | rfl | rfl | rfl | rfl | rfl <;> decide +kernel
        · exact congrArg dS (str_digit w9)
        · rw [st_app]
          show dS (st [c, 48 + ww]) = dS (st (R.kwords.getD i []))
          rw [gk]
    rw [nats_all, Int.toNat_natCast] at el
    have e2 : ((List.range R.kinds.length).map fun (i : Nat) => dS (st (R.kwords.getD (int_ (dI (i : Int))).toNat []))) = R.kwords.map fun w => dS (st w) := by
      apply List.ext_getElem
      · rw [List.length_map, List.length_map, List.length_range, hkw]
      · intro i h1 h2
        rw [List.getElem_map, List.getElem_map, List.getElem_range]
        show dS (st (R.kwords.getD i [])) = _
        rw [List.getD_eq_getElem?_getD, List.getElem?_eq_getElem (by rw [List.length_map] at h2; exact h2)]
        rfl
    rw [e2] at el
    refine sq (s_asg (m := Md.pure M) (K := A.K) dm el.frz fun v1 H1 g1 r1 => ?_)
    show (tRet (tOp rAddU (tOp rAddU (tOp rAddU (tC (.str "kinds ")) (tM1 (rJoin A.K) (tC (.str " ")) (tVar 1))) (tC (.str "\n"))) (tM1 (rJoin A.K) (tC (.str " ")) (tOp rAddU (tLst (tCons (tC (.str "bars")) tNil)) (tCB (rListU A.K) (tCons (tOp (rIxU A.K) (tVar 0) (tC (.int 2))) tNil)))))) _ [some x, some v1, none] H1
    have kne : R.kwords ≠ [] := fun e => by rw [e] at hkw; simp at hkw; omega
    have j1 := joinL_len [32] R.kwords
    have j2 : (R.kwords.map List.length).sum ≤ R.kwords.length * 5 := sum_le fun p hp => by
      obtain ⟨k, w, _, _, _, rfl⟩ := ok.kwordMem hp
      simp
    have j3 : (((Rl.wBars :: R.bwords)).map List.length).sum ≤ (Rl.wBars :: R.bwords).length * 4 := sum_le fun p hp => by
      rw [List.mem_cons] at hp
      rcases hp with rfl | hp
      · decide
      · obtain ⟨b, hb, rfl⟩ := ok.bwordMem hp
        simp [Rl.bword]
    have l2 := ok.len2
    have l1' := ok.len1
    have eline1 : R.line1 = [107, 105, 110, 100, 115, 32] ++ TL.joinL [32] R.kwords := by
      show TL.joinL [32] (Rl.wKinds :: R.kwords) = _
      rw [joinL_cons _ _ kne]
      rfl
    have hsz1 : (TL.joinL [32] R.kwords).length ≤ 1000 := by
      rw [eline1, List.length_append] at l1'
      omega
    have ej1 : EvD (Md.pure M) A.K (tM1 (rJoin A.K) (tC (.str " ")) (tVar 1)) [some x, some v1, none] H1 (dS (st (TL.joinL [32] R.kwords))) := (ev_join (a := st [32]) (ys := R.kwords.map st) ev_c (EvD.is (ev_var (i := 1) rfl r1) (by rw [dS_map])) (by
      rw [st_lens, st_len, List.length_map]
      simp only [List.length_cons, List.length_nil] at j1 ⊢
      omega)).is (by rw [st_join])
    have ej2 : EvD (Md.pure M) A.K (tM1 (rJoin A.K) (tC (.str " ")) (tOp rAddU (tLst (tCons (tC (.str "bars")) tNil)) (tCB (rListU A.K) (tCons (tOp (rIxU A.K) (tVar 0) (tC (.int 2))) tNil)))) [some x, some v1, none] H1 (dS (st R.line2)) := (ev_join (a := st [32]) (ys := (Rl.wBars :: R.bwords).map st) ev_c (EvD.is (ev_cat (ev_lst (ea_cons ev_c ea_nil) (by simp)) (ev_listT (ea_cons (ev_op (ev_var (i := 0) rfl (r.mono g1)) ev_c (opd_ixT (atI_nat (j := 2) rfl rfl))) ea_nil)) (by rw [List.length_map]; simp; omega)).frz ?_) (by
      rw [st_lens, st_len, List.length_map]
      simp only [List.length_cons, List.length_nil] at j3 ⊢
      omega)).is (by rw [st_join]; rfl)
    · refine s_retD (m := Md.pure M) (K := A.K) g1.dm ((ev_op (ev_op (ev_op (d1 := dS (st [107, 105, 110, 100, 115, 32])) ev_c ej1 (opd_addS (by rw [st_len, st_len]; exact Evl.sz_of (by simp; omega)))) (ev_c (v := .str (st [10]))) (opd_addS (by rw [st_app, st_len, st_len]; exact Evl.sz_of (by simp; omega)))) ej2 (opd_addS (by rw [st_app, st_app, st_len, st_len]; exact Evl.sz_of (by simp; omega)))).is ?_) fun v H2 g2 r2 => q v H2 (g1.trans g2) r2
      rw [st_app, st_app, st_app]
      unfold Rl.text
      rw [eline1]
      simp
    · show D.l (dS (st Rl.wBars) :: (R.bars.map fun b => dS (st (Rl.bword b)))) = D.l (((Rl.wBars :: R.bwords).map st).map dS)
      unfold Rl.bwords
      rw [List.map_cons, List.map_cons, List.map_map, List.map_map]
      rfl
end
end GK

namespace GK
open PySem PySem.Spec PyProof.Rows L2
theorem th_well {M : Addr → Prop} {w : Addr} {H H1 : Hp} {o : HO} (g : G (Md.well M w) H H1) (h : H w = some o) (i : IsW o) : ∃ o', H1 w = some o' ∧ IsW o' := by
  obtain ⟨o', h1, h2⟩ := g.th w o h
  exact ⟨o', h1, h2 rfl i⟩
section
variable {prog : Program} {w : World} {mg : Str → Option Value} {base : Heap} {A : Ad}
theorem k_Ldrawn_row (B : BI mg) (F : DefAt A.K mg "_law_drawn_row" s_Ldrawn_row ["_law_well_here", "_law_spec_here", "_law_most_here"]) (c_Lfits : Callee prog w A.K mg base "_law_fits" ["_law_spec_here", "_law_begun", "_law_letter"] 1 (sp_Lfits A)) (c_Lcup : Callee prog w A.K mg base "_law_cup" ["_law_well_here", "_law_amount"] 1 (sp_Lcup A)) :
    Callee prog w A.K mg base "_law_drawn_row" ["_law_well_here", "_law_spec_here", "_law_most_here"] 2 (sp_Ldrawn_row A) := by
  obtain ⟨f, fd, F, hm, b⟩ := F
  refine ⟨f, fd, F.ok sc_Ldrawn_row (fun vs H Q E h => ?_) (fun cdv Ar outer s H vs Q E hr h => ?_), hm, F.kp, b⟩
  · obtain ⟨M, w, o, v1, R, n, _, rfl, _⟩ := h
    rfl
  · obtain ⟨M, w, o, v1, R, n, dm, rfl, hw, iw, rs, hn, r, q⟩ := h
    refine ⟨_, (pss_cons (ps_set (i := 3) sc_Ldrawn_row.nd rfl (Or.inr rfl) pe_str) (pss_cons (ps_for PassesOwn.never rfl (pi_range1 rfl B.b_range (pa_cons (pv 2) pa_nil)) (pg_name (i := 4) sc_Ldrawn_row.nd rfl (Or.inl rfl)) (pss_cons (ps_setLc (i := 5) (own := [("_law_letter", 6)]) (g := (gName 6)) (tt := (tB (tCall (sp_Lfits A) [] E0 (tCons (tVar 1) (tCons (tVar 3) (tCons (tVar 6) tNil)))))) (te := (tVar 6)) rfl sc_Ldrawn_row.nd rfl rfl (sw_true rfl rfl rfl (by decide +kernel)) (pi_any (pe_ix (ix_uni (hu_of hr)) (pv 1) pe_int (fun _ _ => rfl))) (blkOk_by (own := [("_law_letter", 6)]) (N := ["_law_well_here", "_law_spec_here", "_law_most_here", "_law_found", "_law_turn", "_law_some", "_law_letter"]) (sc := defScope s_Ldrawn_row) (by decide +kernel))  (fun _ _ _ _ _ => (pg_name (i := 6) sc_Ldrawn_row.nd rfl (Or.inl rfl))) (fun _ _ _ _ _ => (pts_one (pt_val (pe_fn c_Lfits hr (by decide) (pa_cons (pv 1) (pa_cons (pv 3) (pa_cons (pv 6) pa_nil))))))) (fun _ _ _ _ _ => (pv 6))) (pss_cons (ps_if (pt_cmpR (u_eq hr.units) (pv 5) (pe_lst pa_nil) (nomark _)) (pss_one (ps_ret (pv 3))) pss_nil) (pss_one (ps_set (i := 3) sc_Ldrawn_row.nd rfl (Or.inr rfl) (pe_op u_add (pv 3) (pe_ix (ix_uni (hu_of hr)) (pv 5) (pe_fn c_Lcup hr (by decide) (pa_cons (pv 0) (pa_cons (pe_callB u_len (by rfl) B.b_len (by decide +kernel) (pa_cons (pv 5) pa_nil)) pa_nil))) (fun _ _ => rfl)))))))) (pss_one (ps_ret (pv 3))))), ?_⟩
    have l3 := rs.three
    refine sq (s_asgS (m := Md.well M w) (K := A.K) (x := .str (st [])) dm ev_c fun H1 g1 => ?_)
    show (tSeq (tFor (iRng1 (tCons (tVar 2) tNil)) (gName 4) (tSeq (tAsg (tLc (iAny A.K (tOp (rIxU A.K) (tVar 1) (tC (.int 0)))) (gName 6) (tB (tCall (sp_Lfits A) [] E0 (tCons (tVar 1) (tCons (tVar 3) (tCons (tVar 6) tNil))))) (tVar 6) [6]) (gName 5)) (tSeq (tIfS (tTest (tOp (rEqU A.K) (tVar 5) (tLst tNil))) (tRet (tVar 3)) tNext) (tAsg (tOp rAddU (tVar 3) (tOp (rIxU A.K) (tVar 5) (tCall (sp_Lcup A) [] E0 (tCons (tVar 0) (tCons (tCB (rLenU A.K) (tCons (tVar 5) tNil)) tNil))))) (gName 3))))) (tRet (tVar 3))) _ [some (.ref w), some v1, some (.int (n : Int)), some (.str (st [])), none, none, none] H1
    refine sq (s_forR1 (m := Md.well M w) (K := A.K) (n := (n : Int)) g1.dm (ea_cons (ev_vs (i := 2) rfl) ea_nil) (by omega) (by omega) fun H2 g2 => ⟨fun i σ' H' => G (Md.well M w) H H' ∧ ∃ (row : List Nat) (a4 a5 : Option V), σ' = [some (.ref w), some v1, some (.int (n : Int)), some (.str (st row)), a4, a5, none] ∧ row.length = i ∧ (∀ c ∈ row, c ∈ R.kinds) ∧ R.lkept row = true, ⟨g1.trans g2, [], none, none, rfl, rfl, fun c hc => (by cases hc), rfl⟩, ?_, ?_⟩)
    · rintro i σ' H' hi ⟨gg, row, a4, a5, rfl, hrl, hk, hkept⟩
      have rH := r.mono gg
      refine sq (s_asg (m := Md.well M w) (K := A.K) (d := .l (((R.kinds.filter (R.fits row)).map fun c => [c]).map fun z => dS (st z))) gg.dm (EvD.is ((ev_lc (m := Md.well M w) (fun d => R.fits row (sgn d)) (fun d => dS (st [sgn d])) (fun p h1 h2 => h1 (.inr h2)) gm_name (ev_op (ev_var (i := 1) rfl rH) ev_c (opd_ixT (d := dS (st R.kinds)) (atI_nat (j := 0) rfl rfl))) rfl (by rw [signs_len]; omega) (fun d _ _ => rfl) fun j d v H3 g3 hd rv => ?_).frz) ?_) fun v5 H3 g3 r3 => ?_)
      · obtain ⟨c, hc, rfl⟩ := signs_get hd
        exact ⟨rfl, rfl, et_B (ev_callD (ea_cons (ev_var (i := 1) rfl (rH.mono g3)) (ea_cons (ev_vs (i := 3) rfl) (ea_cons (ev_var (i := 6) rfl rv) ea_nil))) (spd fun vs H1 Q E p => ⟨R, row, c, rs.ok, by omega, p⟩)), fun _ => ev_var (i := 6) rfl rv⟩
      · rw [signs_fm, List.map_map]
        rfl
      · have sm : small ((R.kinds.filter (R.fits row)).map fun c => [c]) := fun z hz c hc => by
          rw [List.mem_map] at hz
          obtain ⟨c', hc', rfl⟩ := hz
          rw [List.mem_singleton] at hc
          have := (rs.ok.az c' (List.mem_filter.mp hc').1).2
          omega
        refine sq (s_if (m := Md.well M w) (b := ((R.kinds.filter (R.fits row)).map fun c => [c]).isEmpty) g3.dm (et_test (ev_op (ev_var (i := 5) rfl r3) (ev_lst ea_nil (by simp)).frz (opd_eqNil sm))) (fun hb H4 g4 => ?_) (fun hb H4 g4 => ?_))
        · refine ⟨_, rfl, ?_⟩
          exact q row H4 ((gg.trans g3).trans g4) (by omega) hk hkept
        · have hlen : 0 < (R.kinds.filter (R.fits row)).length := by
            cases e : R.kinds.filter (R.fits row) with
            | nil => rw [e] at hb; cases hb
            | cons a b => simp
          have hle : (R.kinds.filter (R.fits row)).length ≤ 3 := Nat.le_trans (List.length_filter_le _ _) l3
          have g04 := (gg.trans g3).trans g4
          obtain ⟨o4, ho4, iw4⟩ := th_well g04 hw iw
          refine s_asgP (m := Md.well M w) g4.dm (evx_op (K := A.K) (S1 := fun d => d = dS (st row)) (S2 := fun d => ∃ c ∈ R.kinds, R.fits row c = true ∧ d = dS (st [c])) (S := fun d => ∃ c ∈ R.kinds, R.fits row c = true ∧ d = dS (st (row ++ [c]))) (evx_of (ev_vs rfl) rfl) (evx_op (S1 := fun d => d = .l (((R.kinds.filter (R.fits row)).map fun c => [c]).map fun z => dS (st z))) (S2 := fun d => ∃ k : Nat, k < (R.kinds.filter (R.fits row)).length ∧ d = dI (k : Int)) (evx_of (ev_var (i := 5) rfl (r3.mono g4)) rfl) (evx_cup ho4 iw4 (ev_vs (i := 0) rfl) (evx_of (ev_cb (ea_cons (ev_var (i := 5) rfl (r3.mono g4)) ea_nil) (cd_len (n := (R.kinds.filter (R.fits row)).length) (by show some (List.length _) = _; rw [List.length_map, List.length_map]) (by omega))) ⟨_, rfl, hlen, by omega, fun k hk' => ⟨k, hk', rfl⟩⟩)) fun d1 d2 e1 ⟨k, hk', e2⟩ => ?_) fun d1 d2 e1 ⟨c, hc, hf, e2⟩ => ?_) fun v6 H6 g6 ⟨d, ⟨c, hc, hf, e⟩, r6⟩ => ?_
          · subst e1
            subst e2
            have hm := List.getElem_mem hk'
            rw [List.mem_filter] at hm
            exact ⟨dS (st [(R.kinds.filter (R.fits row))[k]]), ⟨_, hm.1, hm.2, rfl⟩, opd_ixL (atI_nat (j := k) rfl (get_map (get_map (List.getElem?_eq_getElem hk'))))⟩
          · subst e1
            subst e2
            exact ⟨_, ⟨c, hc, hf, rfl⟩, by rw [← st_app]; exact opd_addS (by rw [st_len, st_len]; exact Evl.sz_of (by simp; omega))⟩
          · subst e
            rw [rep_s.mp r6]
            refine ⟨g04.trans g6, row ++ [c], _, _, rfl, by rw [List.length_append, hrl]; rfl, fun c' hc' => ?_, by rw [kept_snoc, hkept, hf]; rfl⟩
            rw [List.mem_append, List.mem_singleton] at hc'
            rcases hc' with hc' | rfl
            · exact hk c' hc'
            · exact hc
    · rintro σ' H' ⟨gg, row, a4, a5, rfl, hrl, hk, hkept⟩
      refine ⟨_, rfl, q row H' gg (by omega) hk hkept⟩
end
end GK

namespace GK
open PySem PySem.Spec PyProof.Rows L2
/-- a well and a list of one's own may change -/
def Md.wl (M : Addr → Prop) (w l : Addr) : Md := ⟨fun a => a = w ∨ a = l, (Md.well (addA M l) w).M, fun a h => h.elim (fun e => .inr e) fun e => .inl (.inr e), fun a => a = w⟩
theorem G.wl_of {M : Addr → Prop} {w l : Addr} {H H1 : Hp} (g : G (Md.well (addA M l) w) H H1) : G (Md.wl M w l) H H1 := ⟨g.dm, fun a o n e => g.st a o (fun z => n (.inl z)) e, g.th⟩
theorem exists_map {α β : Type} {f : α → β} {P : α → Prop} : ∀ {zs : List β}, (∀ z ∈ zs, ∃ b, P b ∧ z = f b) → ∃ bs : List α, zs = bs.map f ∧ ∀ b ∈ bs, P b
  | [], _ => ⟨[], rfl, fun b h => by cases h⟩
  | z :: zs, h => by
    obtain ⟨b, hb, e⟩ := h z List.mem_cons_self
    obtain ⟨bs, e2, h2⟩ := exists_map (zs := zs) fun y hy => h y (List.mem_cons_of_mem _ hy)
    refine ⟨b :: bs, by rw [List.map_cons, e, e2], fun x hx => ?_⟩
    rw [List.mem_cons] at hx
    rcases hx with rfl | hx
    · exact hb
    · exact h2 x hx
def sets0 : List (List Nat) := [[97, 98], [97, 98, 99], [97, 98, 99, 100], [97, 109, 122]]
theorem cutS_take (z : List Nat) (n : Nat) : cutS (st z) none (some (n : Int)) = st (z.take n) := by
  unfold cutS
  rw [st_cps, st_len]
  have e1 : HT.sIx z.length z.length (some (n : Int)) = min n z.length := HT.sIx_nat _ _ _
  rw [e1]
  show st (List.take (min n z.length - 0) (z.drop 0)) = _
  rw [Nat.sub_zero, List.drop_zero]
  congr 1
  by_cases h : n ≤ z.length
  · rw [Nat.min_eq_left h]
  · rw [Nat.min_eq_right (by omega), List.take_of_length_le (Nat.le_refl _), List.take_of_length_le (by omega)]
theorem ev_sortedR {m : Md} {K : PySem.W.Frag} {σ : L2.St} {H : Hp} {ta : TE} {q : Addr} {ss : List Str} (h : EvD m K ta σ H (.s (.ref q))) (hq : H q = some (.lst (ss.map V.str))) (nq : ¬ m.N q) : EvX m K (tCB (rSortedSA K) (tCons ta tNil)) σ H fun d => ∃ zs : List Str, zs.Perm ss ∧ sortedS zs = true ∧ d = .l (zs.map dS) := fun H1 g Q k =>
  h H1 g _ fun x H2 g2 rx => by
    rw [rep_s.mp rx]
    refine ⟨q, ss, rfl, SqL.of ((g.trans g2).st q _ nq hq), fun zs p h1 h2 hp => ?_⟩
    have gn : G m H2 (upd H2 p (.lst (zs.map V.str))) := g2.new hp
    exact k _ _ (g2.trans gn) ⟨_, ⟨zs, h1, h2, rfl⟩, rep_l.mpr ⟨p, _, rfl, StL.of upd_same (g2.out hp), reps_str.mpr rfl⟩⟩
/-- the rule that is drawn -/
theorem rs_of {z ws : List Nat} {bs : List (Nat × Nat × Nat)} {zs : List Str} (hz : z ∈ letterSets) (hw : ws.length = z.length) (h9 : ∀ w ∈ ws, w ≤ 9) (hb : ∀ b ∈ bs, b.1 ∈ z ∧ b.2.1 ∈ z ∧ 1 ≤ b.2.2 ∧ b.2.2 ≤ 4) (nd : (bs.map Rl.bword).Nodup) (hl : bs.length ≤ 14) (hp : zs.Perm (bs.map fun b => st (Rl.bword b))) (hs : sortedS zs = true) :
    ∃ R : Rl, RS R ∧ R.kinds = z ∧ R.worths = ws ∧ zs = R.bars.map fun b => st (Rl.bword b) := by
  obtain ⟨bars, e, hbars⟩ := exists_map (f := fun b => st (Rl.bword b)) (P := fun b => b ∈ bs) (zs := zs) fun y hy => by
    have := hp.mem_iff.mp hy
    rw [List.mem_map] at this
    obtain ⟨b, hb, e⟩ := this
    exact ⟨b, hb, e.symm⟩
  have ndz : zs.Nodup := by
    rw [hp.nodup_iff]
    have e2 : (bs.map fun b => st (Rl.bword b)) = (bs.map Rl.bword).map st := by rw [List.map_map]; rfl
    rw [e2]
    unfold List.Nodup
    rw [List.pairwise_map]
    exact List.Pairwise.imp (fun ne k => ne (st_inj k)) nd
  have hlen : bars.length ≤ 14 := by
    have h1 := hp.length_eq
    rw [e, List.length_map, List.length_map] at h1
    omega
  have hset : ∀ ks ∈ letterSets, 1 ≤ ks.length ∧ ks.length ≤ 3 ∧ (∀ k ∈ ks, 97 ≤ k ∧ k ≤ 122) ∧ ks.Pairwise (· < ·) := by decide
  obtain ⟨s1, s2, s3, s4⟩ := hset z hz
  refine ⟨⟨z, ws, bars⟩, ⟨⟨hw, s1, by show z.length ≤ 4; omega, s3, s4, h9, fun b hb' => ?_, ?_, by show bars.length ≤ 40; omega⟩, hz, ?_⟩, rfl, rfl, e⟩
  · obtain ⟨h1, h2, h3, h4⟩ := hb b (hbars b hb')
    exact ⟨h1, h2, h3, by omega⟩
  · have h := sorted_lt hs ndz
    rw [e, List.pairwise_map] at h
    show (bars.map Rl.bword).Pairwise (· < ·)
    rw [List.pairwise_map]
    exact List.Pairwise.imp (fun {a b} hab => by rw [st_cps, st_cps] at hab; exact hab) h
  · rcases Rl.reach_mem ⟨z, ws, bars⟩ with h | h
    · rw [h]; decide
    · rw [List.mem_map] at h
      obtain ⟨b, hb', e2⟩ := h
      rw [← e2]
      exact (hb b (hbars b hb')).2.2.2
section
variable {prog : Program} {w : World} {mg : Str → Option Value} {base : Heap} {A : Ad}
theorem k_Lspec (B : BI mg) (F : DefAt A.K mg "_law_spec" s_Lspec ["_law_well_here", "_law_most_kinds", "_law_far", "_law_lots"]) (c_Lcup : Callee prog w A.K mg base "_law_cup" ["_law_well_here", "_law_amount"] 1 (sp_Lcup A)) :
    Callee prog w A.K mg base "_law_spec" ["_law_well_here", "_law_most_kinds", "_law_far", "_law_lots"] 2 (sp_Lspec A) := by
  obtain ⟨f, fd, F, hm, b⟩ := F
  refine ⟨f, fd, F.ok sc_Lspec (fun vs H Q E h => ?_) (fun cdv Ar outer s H vs Q E hr h => ?_), hm, F.kp, b⟩
  · obtain ⟨M, w, o, _, rfl, _⟩ := h
    rfl
  · obtain ⟨M, w, o, dm, rfl, hw, iw, q⟩ := h
    refine ⟨_, (pss_cons (ps_set (i := 4) sc_Lspec.nd rfl (Or.inl rfl) (pe_slice sl_uni (pe_ix (ix_uni (hu_of hr)) (pe_lst (pa_cons pe_str (pa_cons pe_str (pa_cons pe_str (pa_cons pe_str pa_nil))))) (pe_fn c_Lcup hr (by decide) (pa_cons (pv 0) (pa_cons pe_int pa_nil))) (fun _ _ => rfl)) po_none (po_some (pv 1)))) (pss_cons (ps_set (i := 5) sc_Lspec.nd rfl (Or.inl rfl) (pe_callTy u_tuple (by rfl) B.b_tuple (by decide +kernel) (pa_cons (pe_lc (own := [("_law_letter", 11)]) (g := (gName 11)) (tt := tYes) (te := (tCall (sp_Lcup A) [] E0 (tCons (tVar 0) (tCons (tC (.int 10)) tNil)))) rfl sc_Lspec.nd (pi_any (pv 4)) (blkOk_by (own := [("_law_letter", 11)]) (N := ["_law_well_here", "_law_most_kinds", "_law_far", "_law_lots", "_law_letters_here", "_law_prices", "_law_barred", "_law_reach_here", "_law_turn", "_law_near", "_law_each", "_law_letter"]) (sc := defScope s_Lspec) (by decide +kernel))  (fun _ _ _ _ _ => (pg_name (i := 11) sc_Lspec.nd rfl (Or.inl rfl))) (fun _ _ _ _ _ => pts_nil) (fun _ _ _ _ _ => (pe_fn c_Lcup hr (by decide) (pa_cons (pv 0) (pa_cons pe_int pa_nil))))) pa_nil))) (pss_cons (ps_if (pt_cmpR (u_eq hr.units) (pe_fn c_Lcup hr (by decide) (pa_cons (pv 0) (pa_cons pe_int pa_nil))) pe_int (nomark _)) (pss_one (ps_set (i := 5) sc_Lspec.nd rfl (Or.inl rfl) (pe_callTy u_tuple (by rfl) B.b_tuple (by decide +kernel) (pa_cons (pe_lc (own := [("_law_letter", 11)]) (g := (gName 11)) (tt := tYes) (te := (tCall (sp_Lcup A) [] E0 (tCons (tVar 0) (tCons (tC (.int 2)) tNil)))) rfl sc_Lspec.nd (pi_any (pv 4)) (blkOk_by (own := [("_law_letter", 11)]) (N := ["_law_well_here", "_law_most_kinds", "_law_far", "_law_lots", "_law_letters_here", "_law_prices", "_law_barred", "_law_reach_here", "_law_turn", "_law_near", "_law_each", "_law_letter"]) (sc := defScope s_Lspec) (by decide +kernel))  (fun _ _ _ _ _ => (pg_name (i := 11) sc_Lspec.nd rfl (Or.inl rfl))) (fun _ _ _ _ _ => pts_nil) (fun _ _ _ _ _ => (pe_fn c_Lcup hr (by decide) (pa_cons (pv 0) (pa_cons pe_int pa_nil))))) pa_nil)))) pss_nil) (pss_cons (ps_par (i := 6) (j := 7) (by rfl) sc_Lspec.nd rfl rfl (by decide) rfl rfl (pa_cons (pe_lst pa_nil) (pa_cons (pe_op u_add pe_int (pe_fn c_Lcup hr (by decide) (pa_cons (pv 0) (pa_cons (pv 2) pa_nil)))) pa_nil)) (by rfl)) (pss_cons (ps_for PassesOwn.never rfl (pi_range1 rfl B.b_range (pa_cons (pe_fn c_Lcup hr (by decide) (pa_cons (pv 0) (pa_cons (pe_op u_add (pv 3) pe_int) pa_nil))) pa_nil)) (pg_name (i := 8) sc_Lspec.nd rfl (Or.inl rfl)) (pss_cons (ps_set (i := 9) sc_Lspec.nd rfl (Or.inl rfl) (pe_ix (ix_uni (hu_of hr)) (pv 4) (pe_fn c_Lcup hr (by decide) (pa_cons (pv 0) (pa_cons (pe_callB u_len (by rfl) B.b_len (by decide +kernel) (pa_cons (pv 4) pa_nil)) pa_nil))) (fun _ _ => rfl))) (pss_cons (ps_set (i := 10) sc_Lspec.nd rfl (Or.inl rfl) (pe_op u_add (pe_op u_add (pv 9) (pe_ix (ix_uni (hu_of hr)) (pv 4) (pe_fn c_Lcup hr (by decide) (pa_cons (pv 0) (pa_cons (pe_callB u_len (by rfl) B.b_len (by decide +kernel) (pa_cons (pv 4) pa_nil)) pa_nil))) (fun _ _ => rfl))) (pe_callTy u_str (by rfl) B.b_str (by decide +kernel) (pa_cons (pe_op u_add pe_int (pe_fn c_Lcup hr (by decide) (pa_cons (pv 0) (pa_cons (pv 7) pa_nil)))) pa_nil)))) (pss_one (ps_if (pt_cmpR (u_nin (hu_of hr)) (pv 10) (pv 6) (by rfl)) (pss_one (ps_expr (pe_bm PySem.F.plainAttrs_list PySem.F.slot_list_append PySem.F.type_list_append mt_append (pv 6) (pa_cons (pv 10) pa_nil)))) pss_nil))))) (pss_one (ps_ret (pe_tup (pa_cons (pv 4) (pa_cons (pv 5) (pa_cons (pe_callTy u_tuple (by rfl) B.b_tuple (by decide +kernel) (pa_cons (pe_callB cr_sortedSA (by rfl) B.b_sorted (by decide +kernel) (pa_cons (pv 6) pa_nil)) pa_nil)) pa_nil))))))))))), ?_⟩
    have hmw : ∀ (M : Addr → Prop) (p : Addr), ¬ (Md.well M w).M p → ¬ (Md.well M w).N p := fun M p h1 h2 => h1 (.inr h2)
    -- the letters
    refine sq (s_asgP (m := Md.well M w) dm (evx_sl (K := A.K) (S := fun d => ∃ z ∈ letterSets, d = dS (st z)) (S1 := fun d => ∃ z ∈ sets0, d = dS (st z)) (evx_op (S1 := fun d => d = .l (sets0.map fun z => dS (st z))) (S2 := fun d => ∃ k : Nat, k < 4 ∧ d = dI (k : Int)) (evx_of ((ev_lst (ea_cons (ev_c (v := .str (st [97, 98]))) (ea_cons (ev_c (v := .str (st [97, 98, 99]))) (ea_cons (ev_c (v := .str (st [97, 98, 99, 100]))) (ea_cons (ev_c (v := .str (st [97, 109, 122]))) ea_nil)))) (by simp)).frz) rfl) (evx_cup hw iw (ev_vs (i := 0) rfl) (evx_of ev_c ⟨4, rfl, by decide, by decide, fun k hk => ⟨k, hk, rfl⟩⟩)) fun d1 d2 e1 ⟨k, hk, e2⟩ => ?_) eo_none (eo_some (K := A.K) (ev_vs (i := 1) (v := .int 3) rfl)) fun d1 ⟨z, hz, e⟩ => ?_) fun v4 H1 g1 ⟨d, ⟨z, hz, e⟩, r4⟩ => ?_)
    · subst e1
      subst e2
      have hlt : k < sets0.length := hk
      exact ⟨dS (st sets0[k]), ⟨_, List.getElem_mem hlt, rfl⟩, opd_ixL (atI_nat (j := k) rfl (get_map (List.getElem?_eq_getElem hlt)))⟩
    · subst e
      have hh : ∀ z ∈ sets0, z.take 3 ∈ letterSets ∧ z.length ≤ 4 := by decide
      refine ⟨dS (st (z.take 3)), ⟨_, (hh z hz).1, rfl⟩, ?_⟩
      have := cutS_take z 3
      rw [← this]
      exact sld_str (by rw [st_len]; exact Evl.sz_of (by have := (hh z hz).2; omega))
    · subst e
      rw [rep_s.mp r4]
      clear r4
      have hset : ∀ ks ∈ letterSets, 1 ≤ ks.length ∧ ks.length ≤ 3 ∧ ∀ c ∈ ks, c ≤ 122 := by decide
      obtain ⟨z1, z3, z122⟩ := hset z hz
      -- prices
      have eprice : ∀ (n : Nat), 0 < n → n ≤ 10 → ∀ (s : L2.St) (Hz : Hp), s[4]? = some (some (.str (st z))) → s[0]? = some (some (.ref w)) → s.length = 12 → G (Md.well M w) H Hz → EvX (Md.well M w) A.K (tCB (rTupleU A.K) (tCons (tLc (iAny A.K (tVar 4)) (gName 11) tYes (tCall (sp_Lcup A) [] E0 (tCons (tVar 0) (tCons (tC (.int (n : Int))) tNil))) [11]) tNil)) s Hz fun d => ∃ ws : List Nat, ws.length = z.length ∧ (∀ w ∈ ws, w ≤ 9) ∧ d = .t (ws.map fun (w : Nat) => dI (w : Int)) := by
        intro n n0 n10 s Hz h4 h0 hsl gz
        obtain ⟨o', ho', iw'⟩ := th_well gz hw iw
        refine evx_cb (eax1 (ev_lcXs (T := fun k => ∃ j : Nat, j < n ∧ k = (j : Int)) (hmw M) (ev_vs h4) (by omega) fun c H' hc g' => ?_)) fun ds ⟨d, e, ks, e2, hkl, hT⟩ => ?_
        · obtain ⟨o2, ho2, iw2⟩ := th_well g' ho' iw'
          refine evx_cup ho2 iw2 (ev_vs (i := 0) ?_) (evx_of ev_c ⟨n, rfl, n0, by omega, fun k hk => ⟨(k : Int), ⟨k, hk, rfl⟩, rfl⟩⟩)
          show ((s.set 11 none).set 11 (some (.str (st [c]))))[0]? = _
          rw [List.set_set, List.getElem?_set_ne (by decide)]
          exact h0
        · subst e
          subst e2
          obtain ⟨ws, ew, hws⟩ := exists_map (f := fun j : Nat => (j : Int)) (P := fun j => j < n) (zs := ks) hT
          subst ew
          refine ⟨.t ((ws.map fun j : Nat => (j : Int)).map dI), ⟨ws, by rw [← hkl, List.length_map], fun w hw' => by have := hws w hw'; omega, by rw [List.map_map]; rfl⟩, cd_tupleL⟩
      show (tSeq (tAsg (tCB (rTupleU A.K) (tCons (tLc (iAny A.K (tVar 4)) (gName 11) tYes (tCall (sp_Lcup A) [] E0 (tCons (tVar 0) (tCons (tC (.int 10)) tNil))) [11]) tNil)) (gName 5)) (tSeq (tIfS (tTest (tOp (rEqU A.K) (tCall (sp_Lcup A) [] E0 (tCons (tVar 0) (tCons (tC (.int 3)) tNil))) (tC (.int 0)))) (tAsg (tCB (rTupleU A.K) (tCons (tLc (iAny A.K (tVar 4)) (gName 11) tYes (tCall (sp_Lcup A) [] E0 (tCons (tVar 0) (tCons (tC (.int 2)) tNil))) [11]) tNil)) (gName 5)) tNext) (tSeq (tPar 6 7 (tCons (tLst tNil) (tCons (tOp rAddU (tC (.int 1)) (tCall (sp_Lcup A) [] E0 (tCons (tVar 0) (tCons (tVar 2) tNil)))) tNil))) (tSeq (tFor (iRng1 (tCons (tCall (sp_Lcup A) [] E0 (tCons (tVar 0) (tCons (tOp rAddU (tVar 3) (tC (.int 1))) tNil))) tNil)) (gName 8) (tSeq (tAsg (tOp (rIxU A.K) (tVar 4) (tCall (sp_Lcup A) [] E0 (tCons (tVar 0) (tCons (tCB (rLenU A.K) (tCons (tVar 4) tNil)) tNil)))) (gName 9)) (tSeq (tAsg (tOp rAddU (tOp rAddU (tVar 9) (tOp (rIxU A.K) (tVar 4) (tCall (sp_Lcup A) [] E0 (tCons (tVar 0) (tCons (tCB (rLenU A.K) (tCons (tVar 4) tNil)) tNil))))) (tCB rStrU (tCons (tOp rAddU (tC (.int 1)) (tCall (sp_Lcup A) [] E0 (tCons (tVar 0) (tCons (tVar 7) tNil)))) tNil))) (gName 10)) (tIfS (tTest (tOp (rNinU A.K) (tVar 10) (tVar 6))) (tDrop (tBM A.K "list" rAppend (tVar 6) (tCons (tVar 10) tNil))) tNext)))) (tRet (tTup (tCons (tVar 4) (tCons (tVar 5) (tCons (tCB (rTupleU A.K) (tCons (tCB (rSortedSA A.K) (tCons (tVar 6) tNil)) tNil)) tNil))))))))) _ [some (.ref w), some (.int 3), some (.int 4), some (.int 14), some (.str (st z)), none, none, none, none, none, none, none] H1
      refine sq (s_asgP (m := Md.well M w) g1.dm (eprice 10 (by decide) (by decide) _ _ rfl rfl rfl g1) fun v5 H2 g2 ⟨d, ⟨ws, hws1, hws2, e⟩, r5⟩ => ?_)
      subst e
      have hrest : ∀ (ws : List Nat) (v5 : V) (Hz : Hp), ws.length = z.length → (∀ w ∈ ws, w ≤ 9) → G (Md.well M w) H Hz → Rep (Md.well M w).M A.K Hz (.t (ws.map fun (w : Nat) => dI (w : Int))) v5 →
          (tSeq (tPar 6 7 (tCons (tLst tNil) (tCons (tOp rAddU (tC (.int 1)) (tCall (sp_Lcup A) [] E0 (tCons (tVar 0) (tCons (tVar 2) tNil)))) tNil))) (tSeq (tFor (iRng1 (tCons (tCall (sp_Lcup A) [] E0 (tCons (tVar 0) (tCons (tOp rAddU (tVar 3) (tC (.int 1))) tNil))) tNil)) (gName 8) (tSeq (tAsg (tOp (rIxU A.K) (tVar 4) (tCall (sp_Lcup A) [] E0 (tCons (tVar 0) (tCons (tCB (rLenU A.K) (tCons (tVar 4) tNil)) tNil)))) (gName 9)) (tSeq (tAsg (tOp rAddU (tOp rAddU (tVar 9) (tOp (rIxU A.K) (tVar 4) (tCall (sp_Lcup A) [] E0 (tCons (tVar 0) (tCons (tCB (rLenU A.K) (tCons (tVar 4) tNil)) tNil))))) (tCB rStrU (tCons (tOp rAddU (tC (.int 1)) (tCall (sp_Lcup A) [] E0 (tCons (tVar 0) (tCons (tVar 7) tNil)))) tNil))) (gName 10)) (tIfS (tTest (tOp (rNinU A.K) (tVar 10) (tVar 6))) (tDrop (tBM A.K "list" rAppend (tVar 6) (tCons (tVar 10) tNil))) tNext)))) (tRet (tTup (tCons (tVar 4) (tCons (tVar 5) (tCons (tCB (rTupleU A.K) (tCons (tCB (rSortedSA A.K) (tCons (tVar 6) tNil)) tNil)) tNil))))))) { nx := fun _ H' => Q .non H', rt := Q } [some (.ref w), some (.int 3), some (.int 4), some (.int 14), some (.str (st z)), some v5, none, none, none, none, none, none] Hz := by
        intro ws v5 Hz hws1 hws2 gz r5
        refine sq (s_parR ?_)
        refine ⟨by show 0 ≤ sizeLine; decide, fun lb hlb => ?_⟩
        obtain ⟨oz, hoz, iwz⟩ := th_well gz hw iw
        have lbw : lb ≠ w := fun e => by rw [e, hoz] at hlb; cases hlb
        have hlb0 : H lb = none := gz.free hlb
        have g2 : G (Md.well M w) H (upd Hz lb (.lst [])) := gz.mut hlb0
        have r52 : Rep (Md.well (addA M lb) w).M A.K (upd Hz lb (.lst [])) (.t (ws.map fun (w : Nat) => dI (w : Int))) v5 := Rep.less (M' := addA (Md.well M w).M lb) (fun a ha => by
          rcases ha with (ha | ha) | ha
          · exact .inl (.inl ha)
          · exact .inr ha
          · exact .inl (.inr ha)) (Rep.laid hlb r5)
        have hlb2 : upd Hz lb (.lst []) lb = some (.lst []) := upd_same
        have hw2 : upd Hz lb (.lst []) w = some oz := by rw [upd_ne (Ne.symm lbw)]; exact hoz
        have dm2 : Dm (Md.well (addA M lb) w) (upd Hz lb (.lst [])) := fun a ha => by
          rcases ha with (ha | ha) | ha
          · exact g2.dm a (.inl ha)
          · rw [ha, hlb2]; intro z; cases z
          · exact g2.dm a (.inr ha)
        clear hlb r5
        generalize upd Hz lb (.lst []) = H3 at g2 r52 hlb2 hw2 dm2 ⊢
        refine EvP.run dm2 (evx_op (K := A.K) (S := fun d => ∃ k : Nat, k < 4 ∧ d = dI ((1 + k : Nat) : Int)) (S1 := fun d => d = dI 1) (S2 := fun d => ∃ k : Nat, k < 4 ∧ d = dI (k : Int)) (evx_of ev_c rfl) (evx_cup hw2 iwz (ev_vs (i := 0) rfl) (evx_of (ev_vs (i := 2) (v := .int ((4 : Nat) : Int)) rfl) ⟨4, rfl, by decide, by decide, fun k hk => ⟨k, hk, rfl⟩⟩)) fun d1 d2 e1 ⟨k, hk, e2⟩ => ⟨dI ((1 + k : Nat) : Int), ⟨k, hk, rfl⟩, by
          subst e1
          subst e2
          exact opd_addI.is (by show dI (1 + (k : Int)) = _; rw [Int.natCast_add]; rfl)⟩) fun v7 H4 g4 ⟨d, ⟨k, hk, e⟩, r7⟩ => ?_
        subst e
        rw [rep_s.mp r7]
        refine ⟨_, _, rfl, ?_⟩
        obtain ⟨o4, ho4, iw4⟩ := th_well g4 hw2 iwz
        have hlb4 := g4.st lb _ (fun z => lbw z) hlb2
        have r54 := r52.mono g4
        show (tSeq (tFor (iRng1 (tCons (tCall (sp_Lcup A) [] E0 (tCons (tVar 0) (tCons (tOp rAddU (tVar 3) (tC (.int 1))) tNil))) tNil)) (gName 8) (tSeq (tAsg (tOp (rIxU A.K) (tVar 4) (tCall (sp_Lcup A) [] E0 (tCons (tVar 0) (tCons (tCB (rLenU A.K) (tCons (tVar 4) tNil)) tNil)))) (gName 9)) (tSeq (tAsg (tOp rAddU (tOp rAddU (tVar 9) (tOp (rIxU A.K) (tVar 4) (tCall (sp_Lcup A) [] E0 (tCons (tVar 0) (tCons (tCB (rLenU A.K) (tCons (tVar 4) tNil)) tNil))))) (tCB rStrU (tCons (tOp rAddU (tC (.int 1)) (tCall (sp_Lcup A) [] E0 (tCons (tVar 0) (tCons (tVar 7) tNil)))) tNil))) (gName 10)) (tIfS (tTest (tOp (rNinU A.K) (tVar 10) (tVar 6))) (tDrop (tBM A.K "list" rAppend (tVar 6) (tCons (tVar 10) tNil))) tNext)))) (tRet (tTup (tCons (tVar 4) (tCons (tVar 5) (tCons (tCB (rTupleU A.K) (tCons (tCB (rSortedSA A.K) (tCons (tVar 6) tNil)) tNil)) tNil)))))) { nx := fun _ H' => Q .non H', rt := Q } [some (.ref w), some (.int 3), some (.int 4), some (.int 14), some (.str (st z)), some v5, some (.ref lb), some (.int ((1 + k : Nat) : Int)), none, none, none, none] H4
        refine sq (s_forX (N := 14) (K := A.K) (by decide) g4.dm (evx_cup ho4 iw4 (ev_vs (i := 0) rfl) (evx_of ((ev_op (ev_vs (i := 3) (v := .int 14) rfl) ev_c opd_addI).is (d' := dI ((15 : Nat) : Int)) rfl) ⟨15, rfl, by decide, by decide, fun k hk => ⟨k, by omega, rfl⟩⟩)) fun n H5 hn g5 => ⟨fun i σ' H' => G (Md.wl M w lb) H4 H' ∧ ∃ (bs : List (Nat × Nat × Nat)) (a8 a9 a10 : Option V), σ' = [some (.ref w), some (.int 3), some (.int 4), some (.int 14), some (.str (st z)), some v5, some (.ref lb), some (.int ((1 + k : Nat) : Int)), a8, a9, a10, none] ∧
          H' lb = some (.lst ((bs.map Rl.bword).map fun w => V.str (st w))) ∧ (∀ b ∈ bs, b.1 ∈ z ∧ b.2.1 ∈ z ∧ 1 ≤ b.2.2 ∧ b.2.2 ≤ 4) ∧ (bs.map Rl.bword).Nodup ∧ bs.length ≤ i, ⟨G.wl_of g5, [], none, none, none, rfl, g5.st lb _ (fun z => lbw z) hlb4, fun b hb => (by cases hb), List.nodup_nil, Nat.zero_le _⟩, ?_, ?_⟩)
        · rintro i σ' H' hi ⟨gg, bs, a8, a9, a10, rfl, hlbH, hbs, hnd, hbl⟩
          obtain ⟨o6, ho6, hiw6⟩ := gg.th w o4 ho4
          have iw6 := hiw6 rfl iw4
          have dmH : Dm (Md.well (addA M lb) w) H' := gg.dm
          -- near
          refine sq (s_asgP (m := Md.well (addA M lb) w) dmH (evx_op (K := A.K) (S := fun d => ∃ c ∈ z, d = dS (st [c])) (S1 := fun d => d = dS (st z)) (S2 := fun d => ∃ k : Nat, k < z.length ∧ d = dI (k : Int)) (evx_of (ev_vs (i := 4) rfl) rfl) (evx_cup ho6 iw6 (ev_vs (i := 0) rfl) (evx_of (ev_cb (ea_cons (ev_vs (i := 4) rfl) ea_nil) (cd_len (n := z.length) (by show some (st z).length = _; rw [st_len]) (by omega))) ⟨z.length, rfl, z1, by omega, fun k hk => ⟨k, hk, rfl⟩⟩)) fun d1 d2 e1 ⟨j, hj, e2⟩ => ⟨dS (st [z[j]]), ⟨z[j], List.getElem_mem hj, rfl⟩, by
            subst e1
            subst e2
            exact opd_ixS (c := z[j]) (by rw [st_len]; exact Evl.sz_of (by omega)) (by rw [st_cps]; exact atI_nat (j := j) rfl (List.getElem?_eq_getElem hj))⟩) fun v9 H6 g6 ⟨d, ⟨c1, hc1, e⟩, r9⟩ => ?_)
          subst e
          rw [rep_s.mp r9]
          obtain ⟨o7, ho7, iw7⟩ := th_well g6 ho6 iw6
          -- each
          show (tSeq (tAsg (tOp rAddU (tOp rAddU (tVar 9) (tOp (rIxU A.K) (tVar 4) (tCall (sp_Lcup A) [] E0 (tCons (tVar 0) (tCons (tCB (rLenU A.K) (tCons (tVar 4) tNil)) tNil))))) (tCB rStrU (tCons (tOp rAddU (tC (.int 1)) (tCall (sp_Lcup A) [] E0 (tCons (tVar 0) (tCons (tVar 7) tNil)))) tNil))) (gName 10)) (tIfS (tTest (tOp (rNinU A.K) (tVar 10) (tVar 6))) (tDrop (tBM A.K "list" rAppend (tVar 6) (tCons (tVar 10) tNil))) tNext)) _ [some (.ref w), some (.int 3), some (.int 4), some (.int 14), some (.str (st z)), some v5, some (.ref lb), some (.int ((1 + k : Nat) : Int)), some (.int (i : Int)), some (.str (st [c1])), a10, none] H6
          refine sq (s_asgP (m := Md.well (addA M lb) w) g6.dm (evx_op (K := A.K) (S := fun d => ∃ b : Nat × Nat × Nat, (b.1 ∈ z ∧ b.2.1 ∈ z ∧ 1 ≤ b.2.2 ∧ b.2.2 ≤ 4) ∧ d = dS (st (Rl.bword b))) (S1 := fun d => ∃ c2 ∈ z, d = dS (st [c1, c2])) (S2 := fun d => ∃ j : Nat, j < 4 ∧ d = dS (st [48 + (1 + j)])) (evx_op (S1 := fun d => d = dS (st [c1])) (S2 := fun d => ∃ c2 ∈ z, d = dS (st [c2])) (evx_of (ev_vs (i := 9) rfl) rfl) (evx_op (S1 := fun d => d = dS (st z)) (S2 := fun d => ∃ k : Nat, k < z.length ∧ d = dI (k : Int)) (evx_of (ev_vs (i := 4) rfl) rfl) (evx_cup ho7 iw7 (ev_vs (i := 0) rfl) (evx_of (ev_cb (ea_cons (ev_vs (i := 4) rfl) ea_nil) (cd_len (n := z.length) (by show some (st z).length = _; rw [st_len]) (by omega))) ⟨z.length, rfl, z1, by omega, fun k hk => ⟨k, hk, rfl⟩⟩)) fun d1 d2 e1 ⟨j, hj, e2⟩ => ⟨dS (st [z[j]]), ⟨z[j], List.getElem_mem hj, rfl⟩, by
              subst e1
              subst e2
              exact opd_ixS (c := z[j]) (by rw [st_len]; exact Evl.sz_of (by omega)) (by rw [st_cps]; exact atI_nat (j := j) rfl (List.getElem?_eq_getElem hj))⟩) fun d1 d2 e1 ⟨c2, hc2, e2⟩ => ⟨dS (st [c1, c2]), ⟨c2, hc2, rfl⟩, by
              subst e1
              subst e2
              exact (opd_addS (by rw [st_len, st_len]; exact Evl.sz_of (by simp))).is (by rw [st_app]; rfl)⟩)
            (evx_cb (eax1 (evx_op (S := fun d => ∃ j : Nat, j < 4 ∧ d = dI ((1 + j : Nat) : Int)) (S1 := fun d => d = dI 1) (S2 := fun d => ∃ j : Nat, j < 4 ∧ d = dI (j : Int)) (evx_of ev_c rfl) (evx_cup ho7 iw7 (ev_vs (i := 0) rfl) (evx_of (ev_vs (i := 7) rfl) ⟨1 + k, rfl, by omega, by omega, fun j hj => ⟨j, by omega, rfl⟩⟩)) fun d1 d2 e1 ⟨j, hj, e2⟩ => ⟨dI ((1 + j : Nat) : Int), ⟨j, hj, rfl⟩, by
              subst e1
              subst e2
              exact opd_addI.is (by show dI (1 + (j : Int)) = _; rw [Int.natCast_add]; rfl)⟩)) fun ds ⟨d, e, ⟨j, hj, e2⟩⟩ => ⟨dS (st [48 + (1 + j)]), ⟨j, hj, rfl⟩, by
              subst e
              subst e2
              refine (cd_str ?_).is (congrArg dS (str_digit (by omega)))
              have : j = 0 ∨ j = 1 ∨ j = 2 ∨ j = 3 := by omega
              rcases this with rfl | rfl | rfl | rfl <;> decide +kernel⟩)
            fun d1 d2 ⟨c2, hc2, e1⟩ ⟨j, hj, e2⟩ => ⟨dS (st (Rl.bword (c1, c2, 1 + j))), ⟨(c1, c2, 1 + j), ⟨hc1, hc2, by show 1 ≤ 1 + j; omega, by show 1 + j ≤ 4; omega⟩, rfl⟩, by
              subst e1
              subst e2
              exact (opd_addS (by rw [st_len, st_len]; exact Evl.sz_of (by simp))).is (by rw [st_app]; rfl)⟩) fun v10 H7 g7 ⟨d, ⟨bb, hbb, e⟩, r10⟩ => ?_)
          subst e
          rw [rep_s.mp r10]
          have g67 := g6.trans g7
          have hlb7 := g67.st lb _ (fun z => lbw z) hlbH
          show (tIfS (tTest (tOp (rNinU A.K) (tVar 10) (tVar 6))) (tDrop (tBM A.K "list" rAppend (tVar 6) (tCons (tVar 10) tNil))) tNext) _ [some (.ref w), some (.int 3), some (.int 4), some (.int 14), some (.str (st z)), some v5, some (.ref lb), some (.int ((1 + k : Nat) : Int)), some (.int (i : Int)), some (.str (st [c1])), some (.str (st (Rl.bword bb))), none] H7
          refine s_if (m := Md.well (addA M lb) w) (b := !decide (Rl.bword bb ∈ bs.map Rl.bword)) g7.dm (et_test (ev_ninLR (ev_vs (i := 10) rfl) (ev_vs (i := 6) rfl) hlb7 (fun z => lbw z))) (fun hb' H8 g8 => ?_) (fun hb' H8 g8 => ?_)
          · have hnin : Rl.bword bb ∉ bs.map Rl.bword := by simpa using hb'
            refine s_app (m := Md.well (addA M lb) w) (K := A.K) (d := dS (st (Rl.bword bb))) g8.dm (g8.st lb _ (fun z => lbw z) hlb7) (fun z => lbw z) (ev_vs (i := 6) rfl) (ev_vs (i := 10) rfl) (by rw [List.length_map, List.length_map]; omega) fun v11 H9 g9 r11 => ?_
            rw [rep_s.mp r11]
            refine ⟨(((gg.trans (G.wl_of g67)).trans (G.wl_of g8)).trans (G.wl_of g9)).put (.inr rfl) (fun e => absurd e lbw), bs ++ [bb], _, _, _, rfl, by rw [upd_same, List.map_append, List.map_append]; rfl, fun b hb => ?_, ?_, by rw [List.length_append]; show bs.length + 1 ≤ _; omega⟩
            · rw [List.mem_append, List.mem_singleton] at hb
              rcases hb with hb | rfl
              · exact hbs b hb
              · exact hbb
            · rw [List.map_append, List.nodup_append]
              exact ⟨hnd, by simp, fun a ha b hb => by
                have : b = Rl.bword bb := by simpa using hb
                rw [this]
                exact fun e => hnin (e ▸ ha)⟩
          · exact ⟨(gg.trans (G.wl_of g67)).trans (G.wl_of g8), bs, _, _, _, rfl, g8.st lb _ (fun z => lbw z) hlb7, hbs, hnd, by omega⟩
        · rintro σ' H' ⟨gg, bs, a8, a9, a10, rfl, hlbH, hbs, hnd, hbl⟩
          have dmH : Dm (Md.well (addA M lb) w) H' := gg.dm
          have r5H : Rep (Md.well (addA M lb) w).M A.K H' (.t (ws.map fun (w : Nat) => dI (w : Int))) v5 := Rep.mono (m := Md.wl M w lb) gg r54
          have hlbH' : H' lb = some (.lst ((bs.map fun b => st (Rl.bword b)).map V.str)) := by
            rw [hlbH, List.map_map, List.map_map]
            rfl
          show (tRet (tTup (tCons (tVar 4) (tCons (tVar 5) (tCons (tCB (rTupleU A.K) (tCons (tCB (rSortedSA A.K) (tCons (tVar 6) tNil)) tNil)) tNil))))) { nx := fun _ H' => Q .non H', rt := Q } [some (.ref w), some (.int 3), some (.int 4), some (.int 14), some (.str (st z)), some v5, some (.ref lb), some (.int ((1 + k : Nat) : Int)), a8, a9, a10, none] H'
          refine s_ret (m := Md.well (addA M lb) w) dmH (evx_tup (K := A.K) (eax_cons (S := fun d => d = dS (st z)) (evx_of (ev_vs (i := 4) rfl) rfl) (eax_cons (S := fun d => d = .t (ws.map fun (w : Nat) => dI (w : Int))) (evx_of (ev_var (i := 5) rfl r5H) rfl) (eax1 (S := fun d => ∃ zs : List Str, zs.Perm (bs.map fun b => st (Rl.bword b)) ∧ sortedS zs = true ∧ d = .t (zs.map dS)) (evx_cb (eax1 (ev_sortedR (ev_vs (i := 6) rfl) hlbH' (fun z => lbw z))) fun ds ⟨d, e, zs, h1, h2, e2⟩ => ⟨.t (zs.map dS), ⟨zs, h1, h2, rfl⟩, by
            subst e
            subst e2
            exact cd_tupleL⟩)))) fun ds ⟨d, es, e, _, d', es', e', _, d'', e'', _⟩ => by rw [e, e', e'']; simp) fun v H9 g9 ⟨d, ⟨ds, ed, d1, es, e, ed1, d', es', e', ed', d'', e'', zs, h1, h2, ez⟩, r⟩ => ?_
          obtain ⟨R, rs, k1, k2, k3⟩ := rs_of hz hws1 hws2 hbs hnd (by omega) h1 h2
          have esp : d = specD R := by
            rw [ed, e, ed1, e', ed', e'', ez]
            unfold specD
            rw [k1, k2, k3, List.map_map]
            rfl
          subst esp
          refine q v R H9 ?_ rs (Rep.less (M' := (Md.well (addA M lb) w).M) (fun a ha => ha.elim (fun ha => .inl (.inl ha)) .inr) r)
          have g49 : G (Md.wl M w lb) H3 H9 := ((G.wl_of g4).trans gg).trans (G.wl_of g9)
          refine ⟨fun a ha => g49.dm a (ha.elim (fun ha => .inl (.inl ha)) .inr), fun a o na e => ?_, fun a o e => ?_⟩
          · refine g49.st a o (fun z => z.elim na fun al => ?_) (g2.st a o na e)
            rw [al, hlb0] at e
            cases e
          · obtain ⟨o', h1, h2⟩ := g2.th a o e
            obtain ⟨o'', h3, h4⟩ := g49.th a o' h1
            exact ⟨o'', h3, fun wa i => h4 wa (h2 wa i)⟩
      show (tSeq (tIfS (tTest (tOp (rEqU A.K) (tCall (sp_Lcup A) [] E0 (tCons (tVar 0) (tCons (tC (.int 3)) tNil))) (tC (.int 0)))) (tAsg (tCB (rTupleU A.K) (tCons (tLc (iAny A.K (tVar 4)) (gName 11) tYes (tCall (sp_Lcup A) [] E0 (tCons (tVar 0) (tCons (tC (.int 2)) tNil))) [11]) tNil)) (gName 5)) tNext) (tSeq (tPar 6 7 (tCons (tLst tNil) (tCons (tOp rAddU (tC (.int 1)) (tCall (sp_Lcup A) [] E0 (tCons (tVar 0) (tCons (tVar 2) tNil)))) tNil))) (tSeq (tFor (iRng1 (tCons (tCall (sp_Lcup A) [] E0 (tCons (tVar 0) (tCons (tOp rAddU (tVar 3) (tC (.int 1))) tNil))) tNil)) (gName 8) (tSeq (tAsg (tOp (rIxU A.K) (tVar 4) (tCall (sp_Lcup A) [] E0 (tCons (tVar 0) (tCons (tCB (rLenU A.K) (tCons (tVar 4) tNil)) tNil)))) (gName 9)) (tSeq (tAsg (tOp rAddU (tOp rAddU (tVar 9) (tOp (rIxU A.K) (tVar 4) (tCall (sp_Lcup A) [] E0 (tCons (tVar 0) (tCons (tCB (rLenU A.K) (tCons (tVar 4) tNil)) tNil))))) (tCB rStrU (tCons (tOp rAddU (tC (.int 1)) (tCall (sp_Lcup A) [] E0 (tCons (tVar 0) (tCons (tVar 7) tNil)))) tNil))) (gName 10)) (tIfS (tTest (tOp (rNinU A.K) (tVar 10) (tVar 6))) (tDrop (tBM A.K "list" rAppend (tVar 6) (tCons (tVar 10) tNil))) tNext)))) (tRet (tTup (tCons (tVar 4) (tCons (tVar 5) (tCons (tCB (rTupleU A.K) (tCons (tCB (rSortedSA A.K) (tCons (tVar 6) tNil)) tNil)) tNil)))))))) _ [some (.ref w), some (.int 3), some (.int 4), some (.int 14), some (.str (st z)), some v5, none, none, none, none, none, none] H2
      have g12 := g1.trans g2
      obtain ⟨o2, ho2, iw2⟩ := th_well g12 hw iw
      refine sq (s_ifX (m := Md.well M w) g2.dm (etx_test (K := A.K) (S := fun d => ∃ b, d = dB b) (evx_op (S1 := fun d => ∃ k : Nat, d = dI (k : Int)) (S2 := fun d => d = dI 0) (evx_cup ho2 iw2 (ev_vs (i := 0) rfl) (evx_of ev_c ⟨3, rfl, by decide, by decide, fun k hk => ⟨k, rfl⟩⟩)) (evx_of ev_c rfl) fun d1 d2 ⟨k, e1⟩ e2 => ⟨dB (decide (V.int (k : Int) = V.int 0)), ⟨_, rfl⟩, by subst e1; subst e2; exact opd_eq rfl⟩) fun d h => h) (fun H3 g3 => ?_) (fun H3 g3 => ?_))
      · refine s_asgP (m := Md.well M w) g3.dm (eprice 2 (by decide) (by decide) _ _ rfl rfl rfl (g12.trans g3)) fun v6 H4 g4 ⟨d, ⟨ws', hws1', hws2', e⟩, r6⟩ => ?_
        subst e
        exact hrest ws' v6 H4 hws1' hws2' ((g12.trans g3).trans g4) r6
      · exact hrest ws v5 H3 hws1 hws2 (g12.trans g3) (r5.mono g3)
end
end GK

namespace GK
open PySem PySem.Spec PyProof.Rows L2
theorem lkept_eq {R : Rl} (ok : R.Ok) (row : List Nat) : R.lkept row = R.kept row := by
  have : ∀ n (row : List Nat), row.length = n → R.lkept row = R.kept row := by
    intro n
    induction n with
    | zero =>
      intro row h
      rw [List.length_eq_zero_iff.mp h]
      unfold Rl.lkept Rl.kept
      simp
    | succ n ih =>
      intro row h
      have hne : row ≠ [] := fun e => by rw [e] at h; cases h
      have e := (List.dropLast_concat_getLast hne).symm
      rw [e, kept_snoc, kept_snoc' ok, ih _ (by rw [List.length_dropLast, h]; rfl)]
  exact this _ row rfl
theorem s_par3 {m : Md} {K : PySem.W.Frag} {σ : L2.St} {H : Hp} {i j l : Nat} {ta : TA} {d1 d2 d3 : D} {D0 : Ends} (dm : Dm m H) (h : EvA m K ta σ H [d1, d2, d3]) (k : ∀ v w z H1, G m H H1 → Rep m.M K H1 d1 v → Rep m.M K H1 d2 w → Rep m.M K H1 d3 z → D0.nx (((σ.set i (some v)).set j (some w)).set l (some z)) H1) : tPar3 i j l ta D0 σ H := h H (G.rf dm) _ fun vs H1 g rs => by
  obtain ⟨x, y, z, rfl, r1, r2, r3⟩ := reps3 rs
  exact ⟨x, y, z, rfl, k x y z H1 g r1 r2 r3⟩
def sp_Lone_right (A : Ad) : Sp := fun vs H Q _ => ∃ (R : Rl) (row : List Nat) (M : Addr → Prop) (a dx l : Addr) (rv v0 : V) (n : Nat), RS R ∧ row.length ≤ 10 ∧ (∀ c ∈ row, c ∈ R.kinds) ∧ R.lkept row = true ∧ n ≤ 200 ∧ (∀ a, M a → H a ≠ none) ∧ vs = [v0, .ref a, .int (n : Int)] ∧
  Rep M A.K H (specD R) v0 ∧ LanAt A M H R a dx l rv [row] ∧ ∀ H', (∀ b o, H b = some o → H' b = some o) → Q (.bl true) H'
/-- what does not lean on l -/
def offA (M : Addr → Prop) (l : Addr) : Addr → Prop := fun b => M b ∧ b ≠ l
theorem LanAt.datum {A : Ad} {M : Addr → Prop} {H : Hp} {R : Rl} {a dx l : Addr} {rv : V} {past : List (List Nat)} (h : LanAt A M H R a dx l rv past) : Rep (Md.pure (offA M l)).M A.K H (lanD A R past) (.ref a) := by
  obtain ⟨h1, h2, h3, h4, h5⟩ := h
  refine rep_i.mpr ⟨a, dx, [("rule", rv), ("past", .ref l)], [rv, .ref l], rfl, StI.of h1 (fun z => h2 z.1), ⟨?_, fun f hf => lookup_out (ks := ["rule", "past"]) rfl hf⟩, Reps.cons (Rep.less (M' := M) (fun a z => z.1) h4) (Reps.cons (rep_l.mpr ⟨l, _, rfl, StL.of h5 (fun z => z.2 rfl), reps_strs.mpr rfl⟩) Reps.nil)⟩
  intro j f x e1 e2
  have hj : j < 2 := (List.getElem?_eq_some_iff.mp e1).1
  have : j = 0 ∨ j = 1 := by omega
  rcases this with rfl | rfl <;> (cases e1; cases e2; rfl)
/-- the same rows behind changes elsewhere -/
theorem LanAt.keep {A : Ad} {M : Addr → Prop} {H H' : Hp} {R : Rl} {a dx l : Addr} {rv : V} {past past' : List (List Nat)} (h : LanAt A M H R a dx l rv past) (g : ∀ b o, b ≠ l → H b = some o → H' b = some o) (hl : H' l = some (.lst (past'.map fun w => V.str (st w)))) : LanAt A M H' R a dx l rv past' := by
  obtain ⟨h1, h2, h3, h4, h5⟩ := h
  have al : a ≠ l := fun e => by rw [e, h5] at h1; cases h1
  exact ⟨g a _ al h1, h2, h3, Rep.ext (fun b o nb e => g b o (fun k => nb (k ▸ h3)) e) h4, hl⟩
section
variable {prog : Program} {w : World} {mg : Str → Option Value} {base : Heap} {A : Ad}
theorem k_Lone_right (TL : LanT A) (B : BI mg) (F : DefAt A.K mg "_law_one_right" s_Lone_right ["_law_spec_here", "_law_lane", "_law_span"]) (c_Laying_row : CalleeP prog w A.K mg base A.Laying "row" 1 (sp_Laying_row A)) (c_Laying_worth : CalleeP prog w A.K mg base A.Laying "worth" 2 (sp_Laying_worth A))
    (c_Laying_best : CalleeM prog w A.K mg base A.Laying "best" ["self", "places"] 6 (sp_Laying_best A) []) (c_Laying_best_end : CalleeM prog w A.K mg base A.Laying "best_end" ["self", "places"] 6 (sp_Laying_best_end A) []) (k_Laying_best_end : CalleeK prog w A.K mg base A.Laying "best_end" ["self", "places"] ["places"] 6 (sp_Laying_best_end A))
    (c_Laying_lay : CalleeM prog w A.K mg base A.Laying "lay" ["self", "row"] 3 (sp_Laying_lay A) []) (c_Laying_undo : CalleeM prog w A.K mg base A.Laying "undo" ["self"] 1 (sp_Laying_undo A) []) (c_Lkept : Callee prog w A.K mg base "_law_kept" ["_law_spec_here", "_law_begun"] 2 (sp_Lkept A)) (c_Lworth : Callee prog w A.K mg base "_law_worth" ["_law_spec_here", "_law_begun"] 1 (sp_Lworth A)) :
    Callee prog w A.K mg base "_law_one_right" ["_law_spec_here", "_law_lane", "_law_span"] 7 (sp_Lone_right A) := by
  have cl_Laying := TL.cl_Laying
  obtain ⟨f, fd, F, hm, b⟩ := F
  refine ⟨f, fd, F.ok sc_Lone_right (fun vs H Q E h => ?_) (fun cdv Ar outer s H vs Q E hr h => ?_), hm, F.kp, b⟩
  · obtain ⟨R, row, M, a, dx, l, rv, v0, n, _, _, _, _, _, _, rfl, _⟩ := h
    rfl
  · obtain ⟨R, row, M, a, dx, l, rv, v0, n, rs, hrl, hk, hkept, hn, dm0, rfl, rspec, lan, q⟩ := h
    refine ⟨_, (pss_cons (ps_par3 (i := 3) (j := 4) (l := 5) (by rfl) sc_Lone_right.nd rfl rfl rfl (by decide) (by decide) (by decide) rfl rfl rfl (pa_cons (pe_pr (pv 1) cl_Laying c_Laying_row hr (by decide)) (pa_cons (pe_mt (pv 1) cl_Laying c_Laying_best hr (by decide) (pa_cons (pv 2) pa_nil)) (pa_cons (pe_mt (pv 1) cl_Laying c_Laying_best_end hr (by decide) (pa_cons (pv 2) pa_nil)) pa_nil))) (by rfl)) (pss_cons (ps_if (pt_cmpR (u_ne hr.units) (pe_mtK (pv 1) cl_Laying k_Laying_best_end hr (by decide) (pk_cons (pv 2) pk_nil)) (pv 5) (nomark _)) (pss_one (ps_ret pe_bl)) pss_nil) (pss_cons (ps_if (PW.pt (pw_or (pt_cmpR u_is (pv 4) pe_non (nomark _)) (pw_or1 (pt_cmpR u_is (pv 5) pe_non (nomark _))))) (pss_one (ps_ret (pe_and (pe_cmpR u_is (pv 4) pe_non (nomark _)) (pe_one (pe_cmpR u_is (pv 5) pe_non (nomark _)))))) pss_nil) (pss_cons (ps_if (PW.pt (pw_or (pt_not (pt_val (pe_callB call_isi (by rfl) B.b_isinstance (by decide +kernel) (pa_cons (pv 5) (pa_cons (pe_bltn (v := .ty "str") rfl B.b_str (by decide +kernel) rfl) pa_nil))))) (pw_or (pt_cmpR (u_ne hr.units) (pe_callB u_len (by rfl) B.b_len (by decide +kernel) (pa_cons (pv 5) pa_nil)) (pv 2) (nomark _)) (pw_or1 (pt_cmpR (u_ne hr.units) (pe_lc (own := [("_law_letter", 7)]) (g := (gName 7)) (tt := (tTest (tOp (rNinU A.K) (tVar 7) (tOp (rIxU A.K) (tVar 0) (tC (.int 0)))))) (te := (tVar 7)) rfl sc_Lone_right.nd (pi_any (pv 5)) (blkOk_by (own := [("_law_letter", 7)]) (N := ["_law_spec_here", "_law_lane", "_law_span", "_law_begun", "_law_price", "_law_told", "_law_before", "_law_letter"]) (sc := defScope s_Lone_right) (by decide +kernel))  (fun _ _ _ _ _ => (pg_name (i := 7) sc_Lone_right.nd rfl (Or.inl rfl))) (fun _ _ _ _ _ => (pts_one (pt_cmpR (u_nin (hu_of hr)) (pv 7) (pe_ix (ix_uni (hu_of hr)) (pv 0) pe_int (fun _ _ => rfl)) (by rfl)))) (fun _ _ _ _ _ => (pv 7))) (pe_lst pa_nil) (nomark _)))))) (pss_one (ps_ret pe_bl)) pss_nil) (pss_cons (ps_if (PW.pt (pw_or (pt_not (pt_val (pe_fn c_Lkept hr (by decide) (pa_cons (pv 0) (pa_cons (pe_op u_add (pv 3) (pv 5)) pa_nil))))) (pw_or1 (pt_cmpR (u_ne hr.units) (pe_fn c_Lworth hr (by decide) (pa_cons (pv 0) (pa_cons (pv 5) pa_nil))) (pv 4) (nomark _))))) (pss_one (ps_ret pe_bl)) pss_nil) (pss_cons (ps_set (i := 6) sc_Lone_right.nd rfl (Or.inl rfl) (pe_pr (pv 1) cl_Laying c_Laying_worth hr (by decide))) (pss_cons (ps_if (PW.pt (pw_or (pt_cmpR u_isnot (pe_mt (pv 1) cl_Laying c_Laying_lay hr (by decide) (pa_cons (pv 5) pa_nil)) pe_non (nomark _)) (pw_or (pt_cmpR (u_ne hr.units) (pe_pr (pv 1) cl_Laying c_Laying_row hr (by decide)) (pe_op u_add (pv 3) (pv 5)) (nomark _)) (pw_or1 (pt_cmpR (u_ne hr.units) (pe_pr (pv 1) cl_Laying c_Laying_worth hr (by decide)) (pe_op u_add (pv 6) (pv 4)) (nomark _)))))) (pss_one (ps_ret pe_bl)) pss_nil) (pss_one (ps_ret (pe_and (pe_cmpR u_is (pe_mt0 (pv 1) cl_Laying c_Laying_undo hr (by decide)) pe_non (nomark _)) (pe_one (pe_cmpR (u_eq hr.units) (pe_pr (pv 1) cl_Laying c_Laying_row hr (by decide)) (pv 3) (nomark _))))))))))))), ?_⟩
    have dm : Dm (Md.pure (offA M l)) H := fun a z => dm0 a z.1
    have rlan := lan.datum
    have rsp : Rep (Md.pure (offA M l)).M A.K H (specD R) v0 := Rep.less (M' := M) (fun a z => z.1) rspec
    have hMl : M l := lan.2.2.1
    have hkept' : R.kept row = true := by rw [← lkept_eq rs.ok]; exact hkept
    refine sq (s_par3 (m := Md.pure (offA M l)) (K := A.K) (d1 := dS (st row)) (d2 := optI (R.bestF row n)) (d3 := optS (R.endF row n)) dm (ea_cons (ev_prop (ev_var (i := 1) rfl rlan) (spd fun vs H1 Q E p => ⟨R, [], row, p⟩)) (ea_cons (ev_meth (f := "best") (ev_var (i := 1) rfl rlan) (by decide) (ea_cons (ev_vs (i := 2) rfl) ea_nil) (spd fun vs H1 Q E p => ⟨R, [], row, n, rs.ok, by omega, hk, hn, p⟩)) (ea_cons (ev_meth (f := "best_end") (ev_var (i := 1) rfl rlan) (by decide) (ea_cons (ev_vs (i := 2) rfl) ea_nil) (spd fun vs H1 Q E p => ⟨R, [], row, n, rs.ok, by omega, hk, hn, p⟩)) ea_nil))) fun v3 v4 v5 H1 g1 r3 r4 r5 => ?_)
    rw [rep_s.mp r3]
    show (tSeq (tIfS (tTest (tOp (rNeU A.K) (tMethK A.Laying "best_end" 1 (sp_Laying_best_end A) E0 (tVar 1) (tCons (tVar 2) tNil)) (tVar 5))) (tRet (tC (.bl false))) tNext) (tSeq (tIfS (tOr (tTest (tOp rIsU (tVar 4) (tC .non))) (tTest (tOp rIsU (tVar 5) (tC .non)))) (tRet (tAndV (tOp rIsU (tVar 4) (tC .non)) (tOp rIsU (tVar 5) (tC .non)))) tNext) (tSeq (tIfS (tOr (tNot (tB (tCB (rIsi A.K) (tCons (tVar 5) (tCons (tC (.ty "str")) tNil))))) (tOr (tTest (tOp (rNeU A.K) (tCB (rLenU A.K) (tCons (tVar 5) tNil)) (tVar 2))) (tTest (tOp (rNeU A.K) (tLc (iAny A.K (tVar 5)) (gName 7) (tTest (tOp (rNinU A.K) (tVar 7) (tOp (rIxU A.K) (tVar 0) (tC (.int 0))))) (tVar 7) [7]) (tLst tNil))))) (tRet (tC (.bl false))) tNext) (tSeq (tIfS (tOr (tNot (tB (tCall (sp_Lkept A) [] E0 (tCons (tVar 0) (tCons (tOp rAddU (tVar 3) (tVar 5)) tNil))))) (tTest (tOp (rNeU A.K) (tCall (sp_Lworth A) [] E0 (tCons (tVar 0) (tCons (tVar 5) tNil))) (tVar 4)))) (tRet (tC (.bl false))) tNext) (tSeq (tAsg (tProp A.Laying (sp_Laying_worth A) [] E0 (tVar 1)) (gName 6)) (tSeq (tIfS (tOr (tTest (tOp rIsNotU (tMeth A.Laying "lay" (sp_Laying_lay A) [] E0 (tVar 1) (tCons (tVar 5) tNil)) (tC .non))) (tOr (tTest (tOp (rNeU A.K) (tProp A.Laying (sp_Laying_row A) [] E0 (tVar 1)) (tOp rAddU (tVar 3) (tVar 5)))) (tTest (tOp (rNeU A.K) (tProp A.Laying (sp_Laying_worth A) [] E0 (tVar 1)) (tOp rAddU (tVar 6) (tVar 4)))))) (tRet (tC (.bl false))) tNext) (tRet (tAndV (tOp rIsU (tMeth A.Laying "undo" (sp_Laying_undo A) [] E0 (tVar 1) tNil) (tC .non)) (tOp (rEqU A.K) (tProp A.Laying (sp_Laying_row A) [] E0 (tVar 1)) (tVar 3)))))))))) _ [some v0, some (.ref a), some (.int (n : Int)), some (.str (st row)), some v4, some v5, none, none] H1
    have ee : ∀ o : Option (List Nat), ∃ x, optS o = .s x ∧ scal x x = true := fun o => by
      cases o with
      | none => exact ⟨_, rfl, rfl⟩
      | some z => exact ⟨_, rfl, rfl⟩
    obtain ⟨xe, exe, sxe⟩ := ee (R.endF row n)
    refine sq (s_if (m := Md.pure (offA M l)) (b := false) g1.dm ((et_test (ev_op (d1 := .s xe) (d2 := .s xe) (EvD.is (ev_methK (f := "best_end") (n := 1) (ev_var (i := 1) rfl (rlan.mono g1)) (by decide) (ea_cons (ev_vs (i := 2) rfl) ea_nil) rfl (spd fun vs H1 Q E p => ⟨R, [], row, n, rs.ok, by omega, hk, hn, p⟩)) exe) (EvD.is (ev_var (i := 5) rfl r5) exe) (opd_ne sxe))).is (by simp)) (fun e => by cases e) fun _ H2 g2 => ?_)
    have g12 := g1.trans g2
    rcases rs.ok.best hk n with ⟨hb0, he0⟩ | ⟨bb, ks, hb0, he0, hks, hgood, hworth⟩
    · rw [hb0] at r4
      rw [he0] at r5
      refine sq (s_if (m := Md.pure (offA M l)) (b := true) g2.dm ((et_or (a := true) (b := true) ((et_test (ev_op (ev_var (i := 4) rfl (r4.mono g2)) ev_c opd_is)).is rfl) fun e => by cases e).is rfl) (fun _ H3 g3 => ?_) (fun e => by cases e))
      refine s_retD (m := Md.pure (offA M l)) g3.dm (ev_andV (a := true) (b := true) ((ev_op (ev_var (i := 4) rfl ((r4.mono g2).mono g3)) ev_c opd_is).is rfl) fun _ => (ev_op (ev_var (i := 5) rfl ((r5.mono g2).mono g3)) ev_c opd_is).is rfl) fun v H4 g4 rv4 => ?_
      rw [rep_s.mp rv4]
      exact q H4 fun b o e => g4.ex b o (g3.ex b o (g12.ex b o e))
    · rw [hb0] at r4
      rw [he0] at r5
      have hkk := good_mem hgood
      have hkall : R.kept (row ++ ks) = true := kept_good rs.ok hkept' hgood
      refine sq (s_if (m := Md.pure (offA M l)) (b := false) g2.dm ((et_or (a := false) (b := false) ((et_test (ev_op (ev_var (i := 4) rfl (r4.mono g2)) ev_c opd_is)).is rfl) fun e => (et_test (ev_op (ev_var (i := 5) rfl (r5.mono g2)) ev_c opd_is)).is rfl).is rfl) (fun e => by cases e) fun _ H3 g3 => ?_)
      have g13 := g12.trans g3
      have r5' : Rep (Md.pure (offA M l)).M A.K H3 (dS (st ks)) v5 := (r5.mono g2).mono g3
      have r4' : Rep (Md.pure (offA M l)).M A.K H3 (dI bb) v4 := (r4.mono g2).mono g3
      rw [rep_s.mp r5', rep_s.mp r4']
      show (tSeq (tIfS (tOr (tNot (tB (tCB (rIsi A.K) (tCons (tVar 5) (tCons (tC (.ty "str")) tNil))))) (tOr (tTest (tOp (rNeU A.K) (tCB (rLenU A.K) (tCons (tVar 5) tNil)) (tVar 2))) (tTest (tOp (rNeU A.K) (tLc (iAny A.K (tVar 5)) (gName 7) (tTest (tOp (rNinU A.K) (tVar 7) (tOp (rIxU A.K) (tVar 0) (tC (.int 0))))) (tVar 7) [7]) (tLst tNil))))) (tRet (tC (.bl false))) tNext) (tSeq (tIfS (tOr (tNot (tB (tCall (sp_Lkept A) [] E0 (tCons (tVar 0) (tCons (tOp rAddU (tVar 3) (tVar 5)) tNil))))) (tTest (tOp (rNeU A.K) (tCall (sp_Lworth A) [] E0 (tCons (tVar 0) (tCons (tVar 5) tNil))) (tVar 4)))) (tRet (tC (.bl false))) tNext) (tSeq (tAsg (tProp A.Laying (sp_Laying_worth A) [] E0 (tVar 1)) (gName 6)) (tSeq (tIfS (tOr (tTest (tOp rIsNotU (tMeth A.Laying "lay" (sp_Laying_lay A) [] E0 (tVar 1) (tCons (tVar 5) tNil)) (tC .non))) (tOr (tTest (tOp (rNeU A.K) (tProp A.Laying (sp_Laying_row A) [] E0 (tVar 1)) (tOp rAddU (tVar 3) (tVar 5)))) (tTest (tOp (rNeU A.K) (tProp A.Laying (sp_Laying_worth A) [] E0 (tVar 1)) (tOp rAddU (tVar 6) (tVar 4)))))) (tRet (tC (.bl false))) tNext) (tRet (tAndV (tOp rIsU (tMeth A.Laying "undo" (sp_Laying_undo A) [] E0 (tVar 1) tNil) (tC .non)) (tOp (rEqU A.K) (tProp A.Laying (sp_Laying_row A) [] E0 (tVar 1)) (tVar 3)))))))) _ [some v0, some (.ref a), some (.int (n : Int)), some (.str (st row)), some (.int bb), some (.str (st ks)), none, none] H3
      have rsp3 := rsp.mono g13
      -- letters
      have efil : ((signs (st ks)).filter fun d => !decide (sgn d ∈ R.kinds)).map (fun d => dS (st [sgn d])) = [] := by
        rw [signs_fm]
        have : (ks.filter fun c => !decide (sgn (dS (st [c])) ∈ R.kinds)) = [] := by
          rw [List.filter_eq_nil_iff]
          intro c hc
          have := hkk c hc
          show ¬ (!decide (c ∈ R.kinds)) = true
          simp [this]
        rw [this]
        rfl
      refine sq (s_if (m := Md.pure (offA M l)) (b := false) g3.dm ((et_or (a := false) (b := false) ((et_not (et_B (ev_cb (ea_cons (ev_vs (i := 5) rfl) (ea_cons ev_c ea_nil)) (cd_isiS (b := true) rfl)))).is rfl) fun _ => et_or (a := false) (b := false) ((et_test (ev_op (ev_cb (ea_cons (ev_vs (i := 5) rfl) ea_nil) (cd_len (n := ks.length) (by show some (st ks).length = _; rw [st_len]) (by omega))) (ev_vs (i := 2) rfl) (opd_ne rfl))).is (by rw [hks]; simp)) fun _ => ?_).is rfl) (fun e => by cases e) fun _ H4 g4 => ?_)
      · refine (et_test (ev_op (d1 := .l (([] : List (List Nat)).map fun w => dS (st w))) (EvD.is ((ev_lc (m := Md.pure (offA M l)) (fun d => !decide (sgn d ∈ R.kinds)) (fun d => dS (st [sgn d])) (fun _ _ z => z) gm_name (ev_vs (i := 5) rfl) rfl (by rw [signs_len]; omega) (fun d _ _ => rfl) fun j d v H' g' hd rv => ?_).frz) (by rw [efil]; rfl)) (ev_lst ea_nil (by simp)).frz (opd_neNil (fun w hw => by cases hw)))).is rfl
        obtain ⟨c, hc, rfl⟩ := signs_get hd
        refine ⟨rfl, rfl, (et_test (ev_op (ev_var (i := 7) rfl rv) (ev_op (ev_var (i := 0) rfl (rsp3.mono g')) ev_c (opd_ixT (d := dS (st R.kinds)) (atI_nat (j := 0) rfl rfl))) opd_ninC)).is ?_, fun _ => ev_var (i := 7) rfl rv⟩
        rw [st_cps]
        rfl
      · have g14 := g13.trans g4
        have rsp4 := rsp3.mono g4
        -- kept, worth
        show (tSeq (tIfS (tOr (tNot (tB (tCall (sp_Lkept A) [] E0 (tCons (tVar 0) (tCons (tOp rAddU (tVar 3) (tVar 5)) tNil))))) (tTest (tOp (rNeU A.K) (tCall (sp_Lworth A) [] E0 (tCons (tVar 0) (tCons (tVar 5) tNil))) (tVar 4)))) (tRet (tC (.bl false))) tNext) (tSeq (tAsg (tProp A.Laying (sp_Laying_worth A) [] E0 (tVar 1)) (gName 6)) (tSeq (tIfS (tOr (tTest (tOp rIsNotU (tMeth A.Laying "lay" (sp_Laying_lay A) [] E0 (tVar 1) (tCons (tVar 5) tNil)) (tC .non))) (tOr (tTest (tOp (rNeU A.K) (tProp A.Laying (sp_Laying_row A) [] E0 (tVar 1)) (tOp rAddU (tVar 3) (tVar 5)))) (tTest (tOp (rNeU A.K) (tProp A.Laying (sp_Laying_worth A) [] E0 (tVar 1)) (tOp rAddU (tVar 6) (tVar 4)))))) (tRet (tC (.bl false))) tNext) (tRet (tAndV (tOp rIsU (tMeth A.Laying "undo" (sp_Laying_undo A) [] E0 (tVar 1) tNil) (tC .non)) (tOp (rEqU A.K) (tProp A.Laying (sp_Laying_row A) [] E0 (tVar 1)) (tVar 3))))))) _ [some v0, some (.ref a), some (.int (n : Int)), some (.str (st row)), some (.int bb), some (.str (st ks)), none, none] H4
        refine sq (s_if (m := Md.pure (offA M l)) (b := false) g4.dm ((et_or (a := false) (b := false) ((et_not (et_B (ev_callD (ea_cons (ev_var (i := 0) rfl rsp4) (ea_cons ((ev_op (ev_vs (i := 3) rfl) (ev_vs (i := 5) rfl) (opd_addS (by rw [st_len, st_len]; exact Evl.sz_of (by omega)))).is (by rw [st_app])) ea_nil)) (spd fun vs H1 Q E p => ⟨R, row ++ ks, rs.ok, by rw [List.length_append]; omega, p⟩)))).is (by rw [lkept_eq rs.ok, hkall]; rfl)) fun _ => (et_test (ev_op (ev_callD (ea_cons (ev_var (i := 0) rfl rsp4) (ea_cons (ev_vs (i := 5) rfl) ea_nil)) (spd fun vs H1 Q E p => ⟨R, ks, rs, by omega, hkk, p⟩)) (ev_vs (i := 4) rfl) (opd_ne rfl))).is (by rw [hworth]; simp)).is rfl) (fun e => by cases e) fun _ H5 g5 => ?_)
        have g15 := g14.trans g5
        -- before
        refine sq (s_asgS (m := Md.pure (offA M l)) (K := A.K) (x := .int (R.worthIn row)) g5.dm (ev_prop (ev_var (i := 1) rfl (rlan.mono g15)) (spd fun vs H1 Q E p => ⟨R, [], row, rs.ok, by omega, hk, p⟩)) fun H6 g6 => ?_)
        have g16 := g15.trans g6
        have lan6 : LanAt A M H6 R a dx l rv [row] := lan.keep (fun b o _ e => g16.ex b o e) (g16.ex l _ lan.2.2.2.2)
        have dm6 : ∀ b, M b → H6 b ≠ none := fun b hb => by
          cases e : H b with
          | none => exact absurd e (dm0 b hb)
          | some o => rw [g16.ex b o e]; intro z; cases z
        have noK : ∀ f : Str, f ∉ (["rule", "past"] : List Str) → ([("rule", rv), ("past", V.ref l)] : List (Str × V)).lookup f = none := fun f hf => lookup_out (ks := ["rule", "past"]) rfl hf
        show (tSeq (tIfS (tOr (tTest (tOp rIsNotU (tMeth A.Laying "lay" (sp_Laying_lay A) [] E0 (tVar 1) (tCons (tVar 5) tNil)) (tC .non))) (tOr (tTest (tOp (rNeU A.K) (tProp A.Laying (sp_Laying_row A) [] E0 (tVar 1)) (tOp rAddU (tVar 3) (tVar 5)))) (tTest (tOp (rNeU A.K) (tProp A.Laying (sp_Laying_worth A) [] E0 (tVar 1)) (tOp rAddU (tVar 6) (tVar 4)))))) (tRet (tC (.bl false))) tNext) (tRet (tAndV (tOp rIsU (tMeth A.Laying "undo" (sp_Laying_undo A) [] E0 (tVar 1) tNil) (tC .non)) (tOp (rEqU A.K) (tProp A.Laying (sp_Laying_row A) [] E0 (tVar 1)) (tVar 3))))) { nx := fun _ H' => Q .non H', rt := Q } [some v0, some (.ref a), some (.int (n : Int)), some (.str (st row)), some (.int bb), some (.str (st ks)), some (.int (R.worthIn row)), none] H6
        refine sq ?_
        refine ⟨.ref a, rfl, a, dx, _, rfl, lan6.1, noK _ (by decide), .str (st ks), rfl, ?_⟩
        refine ⟨R, M, a, dx, l, rv, [], row, ks, rs.ok, by omega, hkk, hkall, by simp, dm6, rfl, lan6, fun H7 old7 hl7 => ?_⟩
        refine ⟨rfl, false, rfl, ?_⟩
        refine iteF ?_
        have lan7 : LanAt A M H7 R a dx l rv ([row] ++ [row ++ ks]) := lan6.keep old7 hl7
        have rlan7 := lan7.datum
        have dm7 : Dm (Md.pure (offA M l)) H7 := fun b hb => by
          cases e : H6 b with
          | none => exact absurd e (dm6 b hb.1)
          | some o => rw [old7 b o hb.2 e]; intro z; cases z
        have etest : EvT (Md.pure (offA M l)) (tOr (tTest (tOp (rNeU A.K) (tProp A.Laying (sp_Laying_row A) [] E0 (tVar 1)) (tOp rAddU (tVar 3) (tVar 5)))) (tTest (tOp (rNeU A.K) (tProp A.Laying (sp_Laying_worth A) [] E0 (tVar 1)) (tOp rAddU (tVar 6) (tVar 4))))) [some v0, some (.ref a), some (.int (n : Int)), some (.str (st row)), some (.int bb), some (.str (st ks)), some (.int (R.worthIn row)), none] H7 false :=
          (et_or (a := false) (b := false) ((et_test (ev_op (ev_prop (ev_var (i := 1) rfl rlan7) (spd fun vs H1 Q E p => ⟨R, [row], row ++ ks, p⟩)) ((ev_op (ev_vs (i := 3) rfl) (ev_vs (i := 5) rfl) (opd_addS (by rw [st_len, st_len]; exact Evl.sz_of (by omega)))).is (by rw [st_app])) (opd_ne rfl))).is (by simp)) fun _ => (et_test (ev_op (ev_prop (ev_var (i := 1) rfl rlan7) (spd fun vs H1 Q E p => ⟨R, [row], row ++ ks, rs.ok, by rw [List.length_append]; omega, fun c hc => (List.mem_append.mp hc).elim (hk c) (hkk c), p⟩)) ((ev_op (ev_vs (i := 6) rfl) (ev_vs (i := 4) rfl) opd_addI).is (by rw [← hworth, ← worth_app])) (opd_ne rfl))).is (by simp)).is rfl
        refine etest H7 (G.rf dm7) _ fun H8 g8 => ?_
        refine iteF ?_
        -- undo
        have lan8 : LanAt A M H8 R a dx l rv ([row] ++ [row ++ ks]) := lan7.keep (fun b o _ e => g8.ex b o e) (g8.ex l _ lan7.2.2.2.2)
        have dm8 : ∀ b, M b → H8 b ≠ none := fun b hb => by
          cases e : H6 b with
          | none => exact absurd e (dm6 b hb)
          | some o =>
            by_cases c : b = l
            · subst c
              rw [lan8.2.2.2.2]; intro z; cases z
            · rw [g8.ex b o (old7 b o c e)]; intro z; cases z
        show (tRet (tAndV (tOp rIsU (tMeth A.Laying "undo" (sp_Laying_undo A) [] E0 (tVar 1) tNil) (tC .non)) (tOp (rEqU A.K) (tProp A.Laying (sp_Laying_row A) [] E0 (tVar 1)) (tVar 3)))) { nx := fun _ H' => Q .non H', rt := Q } [some v0, some (.ref a), some (.int (n : Int)), some (.str (st row)), some (.int bb), some (.str (st ks)), some (.int (R.worthIn row)), none] H8
        refine ⟨.ref a, rfl, a, dx, _, rfl, lan8.1, noK _ (by decide), ?_⟩
        refine ⟨R, M, a, dx, l, rv, [row], row ++ ks, by simp, by simp, dm8, rfl, lan8, fun H9 old9 hl9 => ?_⟩
        refine ⟨rfl, true, rfl, ?_⟩
        refine iteT ?_
        have lan9 : LanAt A M H9 R a dx l rv ([] ++ [row]) := lan8.keep old9 hl9
        have rlan9 := lan9.datum
        have dm9 : Dm (Md.pure (offA M l)) H9 := fun b hb => by
          cases e : H8 b with
          | none => exact absurd e (dm8 b hb.1)
          | some o => rw [old9 b o hb.2 e]; intro z; cases z
        have elast : EvD (Md.pure (offA M l)) A.K (tOp (rEqU A.K) (tProp A.Laying (sp_Laying_row A) [] E0 (tVar 1)) (tVar 3)) [some v0, some (.ref a), some (.int (n : Int)), some (.str (st row)), some (.int bb), some (.str (st ks)), some (.int (R.worthIn row)), none] H9 (dB true) :=
          (ev_op (ev_prop (ev_var (i := 1) rfl rlan9) (spd fun vs H1 Q E p => ⟨R, [], row, p⟩)) (ev_vs (i := 3) rfl) (opd_eq rfl)).is (by simp)
        refine elast.run dm9 fun v10 H10 g10 r10 => ?_
        rw [rep_s.mp r10]
        refine q H10 fun b o e => ?_
        by_cases c : b = l
        · subst c
          have e1 := lan.2.2.2.2
          rw [e1] at e
          cases e
          exact g10.ex b _ hl9
        · exact g10.ex b o (old9 b o c (g8.ex b o (old7 b o c (g16.ex b o e))))
end
end GK

namespace GK
open PySem PySem.Spec PyProof.Rows L2
def sp_Lright (A : Ad) : Sp := fun vs H Q _ => ∃ (M : Addr → Prop) (w : Addr) (o : HO), Dm (Md.well M w) H ∧ vs = [.ref w] ∧ H w = some o ∧ IsW o ∧ ∀ H', G (Md.well M w) H H' → Q (.bl true) H'
def spLaw (A : Ad) : Sp := fun vs H Q _ => ∃ (a : Addr) (ns : List Int), vs = [.ref a] ∧ SqL A.K H a (ns.map V.int) ∧ ns.length ≤ 63 ∧ ∀ H', Q (.bl true) H'
theorem s_forXd {m : Md} {K : PySem.W.Frag} {σ : L2.St} {H : Hp} {tl : TE} {S : D → Prop} {g : TG} {tu : L2.TS} {D0 : Ends} (dm : Dm m H) (h : EvX m K tl σ H S) (k : ∀ d v H1, G m H H1 → S d → Rep m.M K H1 d v → tFor (iAny K (tC v)) g tu D0 σ H1) : tFor (iAny K tl) g tu D0 σ H := EvP.run dm h fun v H1 g ⟨d, s, r⟩ => k d v H1 g s r
theorem G.well_less {M : Addr → Prop} {w l : Addr} {H H1 : Hp} (g : G (Md.well (addA M l) w) H H1) : G (Md.well M w) H H1 := ⟨fun a ha => g.dm a (ha.elim (fun h => .inl (.inl h)) .inr), g.st, g.th⟩
theorem sx_spec {A : Ad} {M : Addr → Prop} {w : Addr} {H : Hp} {o : HO} (hw : H w = some o) (iw : IsW o) : SpP (Md.well M w) A.K (sp_Lspec A) [.s (.ref w), dI 3, dI 4, dI 14] H (fun v H2 => ∃ R, RS R ∧ Rep (Md.well M w).M A.K H2 (specD R) v) := fun vs H1 g rs Q E k => by
  obtain ⟨x, r, rfl, q1, q2⟩ := reps_cons.mp rs
  obtain ⟨y1, y2, y3, rfl, q3, q4, q5⟩ := reps3 q2
  rw [rep_s.mp q1, rep_s.mp q3, rep_s.mp q4, rep_s.mp q5]
  obtain ⟨o', ho, io⟩ := th_well g hw iw
  exact ⟨M, w, o', g.dm, rfl, ho, io, fun v R H' g' hR r => k v H' g' ⟨R, hR, r⟩⟩
theorem sx_drawn {A : Ad} {M : Addr → Prop} {w : Addr} {H : Hp} {o : HO} {R : Rl} {n : Nat} (hw : H w = some o) (iw : IsW o) (rs : RS R) (hn : n ≤ 10) : SpP (Md.well M w) A.K (sp_Ldrawn_row A) [.s (.ref w), specD R, dI (n : Int)] H (fun v H2 => ∃ d, (∃ row : List Nat, row.length ≤ 10 ∧ (∀ c ∈ row, c ∈ R.kinds) ∧ R.lkept row = true ∧ d = dS (st row)) ∧ Rep (Md.well M w).M A.K H2 d v) := fun vs H1 g rs' Q E k => by
  obtain ⟨x, y, z, rfl, q1, q2, q3⟩ := reps3 rs'
  rw [rep_s.mp q1, rep_s.mp q3]
  obtain ⟨o', ho, io⟩ := th_well g hw iw
  exact ⟨M, w, o', y, R, n, g.dm, rfl, ho, io, rs, hn, q2, fun row H' g' h1 h2 h3 => k _ H' g' ⟨_, ⟨row, by omega, h2, h3, rfl⟩, rep_s.mpr rfl⟩⟩
section
variable {prog : Program} {w : World} {mg : Str → Option Value} {base : Heap} {A : Ad}
theorem k_Lright (TL : LanT A) (B : BI mg) (F : DefAt A.K mg "_law_right" s_Lright ["_law_well_here"]) (c_Lcup : Callee prog w A.K mg base "_law_cup" ["_law_well_here", "_law_amount"] 1 (sp_Lcup A)) (c_Lone_right : Callee prog w A.K mg base "_law_one_right" ["_law_spec_here", "_law_lane", "_law_span"] 7 (sp_Lone_right A))
    (c_Ldrawn_row : Callee prog w A.K mg base "_law_drawn_row" ["_law_well_here", "_law_spec_here", "_law_most_here"] 2 (sp_Ldrawn_row A)) (c_Laying_init : CalleeC prog w A.K mg base "Laying" A.Laying ["self", "rule", "row"] 3 (sp_Laying_init A) [.str ""]) (c_Lmade : Callee prog w A.K mg base "_law_made" ["_law_spec_here"] 6 (sp_Lmade A)) (c_Lspec : Callee prog w A.K mg base "_law_spec" ["_law_well_here", "_law_most_kinds", "_law_far", "_law_lots"] 2 (sp_Lspec A)) :
    Callee prog w A.K mg base "_law_right" ["_law_well_here"] 8 (sp_Lright A) := by
  obtain ⟨f, fd, F, hm, b⟩ := F
  refine ⟨f, fd, F.ok sc_Lright (fun vs H Q E h => ?_) (fun cdv Ar outer s H vs Q E hr h => ?_), hm, F.kp, b⟩
  · obtain ⟨M, w, o, _, rfl, _⟩ := h
    rfl
  · obtain ⟨M, w, o, dm, rfl, hw, iw, q⟩ := h
    refine ⟨_, (pss_cons (ps_set (i := 1) sc_Lright.nd rfl (Or.inl rfl) (pe_fn c_Lspec hr (by decide) (pa_cons (pv 0) (pa_cons pe_int (pa_cons pe_int (pa_cons pe_int pa_nil)))))) (pss_cons (ps_set (i := 2) sc_Lright.nd rfl (Or.inl rfl) (pe_fn c_Lmade hr (by decide) (pa_cons (pv 1) pa_nil))) (pss_cons (ps_for PassesOwn.never rfl (pi_range1 rfl B.b_range (pa_cons pe_int pa_nil)) (pg_name (i := 3) sc_Lright.nd rfl (Or.inl rfl)) (pss_cons (ps_set (i := 4) sc_Lright.nd rfl (Or.inl rfl) (pe_mk c_Laying_init hr (by decide) (pa_cons (pv 2) (pa_cons (pe_fn c_Ldrawn_row hr (by decide) (pa_cons (pv 0) (pa_cons (pv 1) (pa_cons (pe_fn c_Lcup hr (by decide) (pa_cons (pv 0) (pa_cons pe_int pa_nil))) pa_nil)))) pa_nil)))) (pss_one (ps_for PassesOwn.never rfl (pi_any (pe_lst (pa_cons pe_int (pa_cons pe_int (pa_cons pe_int (pa_cons (pe_fn c_Lcup hr (by decide) (pa_cons (pv 0) (pa_cons pe_int pa_nil))) (pa_cons (pe_ix (ix_uni (hu_of hr)) (pe_lst (pa_cons pe_int (pa_cons pe_int pa_nil))) (pe_fn c_Lcup hr (by decide) (pa_cons (pv 0) (pa_cons pe_int pa_nil))) (fun _ _ => rfl)) pa_nil))))))) (pg_name (i := 5) sc_Lright.nd rfl (Or.inl rfl)) (pss_one (ps_if (pt_not (pt_val (pe_fn c_Lone_right hr (by decide) (pa_cons (pv 1) (pa_cons (pv 4) (pa_cons (pv 5) pa_nil)))))) (pss_one (ps_ret pe_bl)) pss_nil)))))) (pss_one (ps_ret pe_bl))))), ?_⟩
    refine sq (s_asgP (m := Md.well M w) dm (ev_call (K := A.K) (ea_cons (ev_vs (i := 0) rfl) (ea_cons ev_c (ea_cons ev_c (ea_cons ev_c ea_nil)))) (sx_spec hw iw)) fun v1 H1 g1 ⟨R, rs, r1⟩ => ?_)
    show (tSeq (tAsg (tCall (sp_Lmade A) [] E0 (tCons (tVar 1) tNil)) (gName 2)) (tSeq (tFor (iRng1 (tCons (tC (.int 5)) tNil)) (gName 3) (tSeq (tAsg (tMake A.Laying (sp_Laying_init A) [] E0 (tCons (tVar 2) (tCons (tCall (sp_Ldrawn_row A) [] E0 (tCons (tVar 0) (tCons (tVar 1) (tCons (tCall (sp_Lcup A) [] E0 (tCons (tVar 0) (tCons (tC (.int 10)) tNil))) tNil)))) tNil))) (gName 4)) (tFor (iAny A.K (tLst (tCons (tC (.int 0)) (tCons (tC (.int 1)) (tCons (tC (.int 2)) (tCons (tCall (sp_Lcup A) [] E0 (tCons (tVar 0) (tCons (tC (.int 26)) tNil))) (tCons (tOp (rIxU A.K) (tLst (tCons (tC (.int 200)) (tCons (tC (.int 5)) tNil))) (tCall (sp_Lcup A) [] E0 (tCons (tVar 0) (tCons (tC (.int 2)) tNil)))) tNil))))))) (gName 5) (tIfS (tNot (tB (tCall (sp_Lone_right A) [] E0 (tCons (tVar 1) (tCons (tVar 4) (tCons (tVar 5) tNil)))))) (tRet (tC (.bl false))) tNext)))) (tRet (tC (.bl true))))) _ [some (.ref w), some v1, none, none, none, none] H1
    refine sq (s_asg (m := Md.well M w) (K := A.K) g1.dm (ev_callD (ea_cons (ev_var (i := 1) rfl r1) ea_nil) (spd fun vs H1 Q E p => ⟨R, rs.ok, p⟩)) fun v2 H2 g2 r2 => ?_)
    show (tSeq (tFor (iRng1 (tCons (tC (.int 5)) tNil)) (gName 3) (tSeq (tAsg (tMake A.Laying (sp_Laying_init A) [] E0 (tCons (tVar 2) (tCons (tCall (sp_Ldrawn_row A) [] E0 (tCons (tVar 0) (tCons (tVar 1) (tCons (tCall (sp_Lcup A) [] E0 (tCons (tVar 0) (tCons (tC (.int 10)) tNil))) tNil)))) tNil))) (gName 4)) (tFor (iAny A.K (tLst (tCons (tC (.int 0)) (tCons (tC (.int 1)) (tCons (tC (.int 2)) (tCons (tCall (sp_Lcup A) [] E0 (tCons (tVar 0) (tCons (tC (.int 26)) tNil))) (tCons (tOp (rIxU A.K) (tLst (tCons (tC (.int 200)) (tCons (tC (.int 5)) tNil))) (tCall (sp_Lcup A) [] E0 (tCons (tVar 0) (tCons (tC (.int 2)) tNil)))) tNil))))))) (gName 5) (tIfS (tNot (tB (tCall (sp_Lone_right A) [] E0 (tCons (tVar 1) (tCons (tVar 4) (tCons (tVar 5) tNil)))))) (tRet (tC (.bl false))) tNext)))) (tRet (tC (.bl true)))) { nx := fun _ H' => Q .non H', rt := Q } [some (.ref w), some v1, some v2, none, none, none] H2
    have r12 := r1.mono g2
    refine sq (s_forR1 (m := Md.well M w) (K := A.K) (n := 5) g2.dm (ea_cons ev_c ea_nil) (by decide) (by decide) fun H3 g3 => ⟨fun i σ' H' => G (Md.well M w) H3 H' ∧ ∃ a3 a4 a5, σ' = [some (.ref w), some v1, some v2, a3, a4, a5], ⟨g3.r1, none, none, none, rfl⟩, ?_, ?_⟩)
    · rintro i σ' H' hi ⟨gg, a3, a4, a5, rfl⟩
      have gH := ((g1.trans g2).trans g3).trans gg
      have rspec := (r12.mono g3).mono gg
      have rmine := (r2.mono g3).mono gg
      obtain ⟨o4, ho4, iw4⟩ := th_well gH hw iw
      refine sq ?_
      show tMake A.Laying (sp_Laying_init A) [] E0 (tCons (tVar 2) (tCons (tCall (sp_Ldrawn_row A) [] E0 (tCons (tVar 0) (tCons (tVar 1) (tCons (tCall (sp_Lcup A) [] E0 (tCons (tVar 0) (tCons (tC (.int 10)) tNil))) tNil)))) tNil)) [some (.ref w), some v1, some v2, some (.int (i : Int)), a4, a5] H' _
      refine eax2 (m := Md.well M w) (K := A.K) (S := fun d => d = ruleD A R) (S2 := fun d => ∃ row : List Nat, row.length ≤ 10 ∧ (∀ c ∈ row, c ∈ R.kinds) ∧ R.lkept row = true ∧ d = dS (st row)) (evx_of (ev_var (i := 2) rfl rmine) rfl) (evx_call (eax_cons (S := fun d => d = .s (.ref w)) (evx_of (ev_vs (i := 0) rfl) rfl) (eax2 (S := fun d => d = specD R) (S2 := fun d => ∃ k : Nat, k < 10 ∧ d = dI (k : Int)) (evx_of (ev_var (i := 1) rfl rspec) rfl) (evx_cup ho4 iw4 (ev_vs (i := 0) rfl) (evx_of ev_c ⟨10, rfl, by decide, by decide, fun k hk => ⟨k, hk, rfl⟩⟩)))) fun ds ⟨d, es, e, ed, d', e', ees, ed', k, hk, ek⟩ => by
        subst e
        subst ed
        subst ees
        subst ed'
        subst ek
        exact sx_drawn ho4 iw4 rs (by omega)) H' (G.rf gg.dm) _ fun vs H5 g5 ⟨ds, ⟨d, e, eds, ed, row, hrl, hrk, hrkept, ee⟩, rsx⟩ => ?_
      subst eds
      subst ed
      subst ee
      obtain ⟨rv, y2, rfl, q1, q2⟩ := reps2 rsx
      rw [rep_s.mp q2]
      intro x dx hx hdx ne
      have gH5 := gH.trans g5
      have hwx : H5 w ≠ none := g5.dm w (.inr rfl)
      have xw : x ≠ w := fun e => hwx (e ▸ hx)
      refine ⟨R, row, (Md.well M w).M, x, dx, rv, rs.ok, rs.pow, by omega, hrk, by rw [← lkept_eq rs.ok]; exact hrkept, fun a ha => ?_, rfl, ?_, upd_same, fun hM => g5.dm x hM hx, fun H6 l old6 hl hl6 hx6 => ⟨rfl, ?_⟩⟩
      · by_cases e : a = x
        · rw [e, upd_same]; intro z; cases z
        · rw [upd_ne e]
          by_cases e2 : a = dx
          · rw [e2, upd_same]; intro z; cases z
          · rw [upd_ne e2]; exact g5.dm a ha
      · refine Rep.ext (fun a o na e => ?_) (Rep.add hx q1)
        rw [upd_ne (fun q => na (.inr q)), upd_ne (ne_of_none e hdx)]
        exact e
      · have lx : l ≠ x := fun e => by rw [e, upd_same] at hl; cases hl
        have ldx : l ≠ dx := fun e => by rw [e, upd_ne ne, upd_same] at hl; cases hl
        have hl5 : H5 l = none := by rw [upd_ne lx, upd_ne ldx] at hl; exact hl
        have old56 : ∀ a o, H5 a = some o → H6 a = some o := fun a o e => old6 a o (ne_of_none e hx) (by rw [upd_ne (ne_of_none e hx), upd_ne (ne_of_none e hdx)]; exact e)
        have lw : l ≠ w := fun e => hwx (e ▸ hl5)
        have perm : ∀ a, (Md.well (addA M l) w).M a → addA (Md.well M w).M l a := fun a ha => by
          rcases ha with (ha | ha) | ha
          · exact .inl (.inl ha)
          · exact .inr ha
          · exact .inl (.inr ha)
        have toM : ∀ {d : D} {v : V}, Rep (Md.well M w).M A.K H5 d v → Rep (Md.well (addA M l) w).M A.K H6 d v := fun r => Rep.less (M' := addA (Md.well M w).M l) perm (Rep.ext (fun a o _ e => old56 a o e) (Rep.add hl5 r))
        have rspec6 := toM (rspec.mono g5)
        have dm6 : Dm (Md.well (addA M l) w) H6 := fun a ha => by
          rcases ha with (ha | ha) | ha
          · cases e : H5 a with
            | none => exact absurd e (g5.dm a (.inl ha))
            | some o => rw [old56 a o e]; intro z; cases z
          · rw [ha, hl6]; intro z; cases z
          · cases e : H5 a with
            | none => exact absurd e (g5.dm a (.inr ha))
            | some o => rw [old56 a o e]; intro z; cases z
        have nMx : ¬ (Md.well (addA M l) w).M x := fun z => by
          rcases z with (z | z) | z
          · exact g5.dm x (.inl z) hx
          · exact lx z.symm
          · exact xw z
        have lan6 : LanAt A (Md.well (addA M l) w).M H6 R x dx l rv [row] := ⟨hx6, nMx, .inl (.inr rfl), toM q1, hl6⟩
        have g56 : G (Md.well M w) H5 H6 := G.all g5.dm old56
        obtain ⟨o6, ho6, iw6⟩ := th_well (gH5.trans g56) hw iw
        show (tFor (iAny A.K (tLst (tCons (tC (.int 0)) (tCons (tC (.int 1)) (tCons (tC (.int 2)) (tCons (tCall (sp_Lcup A) [] E0 (tCons (tVar 0) (tCons (tC (.int 26)) tNil))) (tCons (tOp (rIxU A.K) (tLst (tCons (tC (.int 200)) (tCons (tC (.int 5)) tNil))) (tCall (sp_Lcup A) [] E0 (tCons (tVar 0) (tCons (tC (.int 2)) tNil)))) tNil))))))) (gName 5) (tIfS (tNot (tB (tCall (sp_Lone_right A) [] E0 (tCons (tVar 1) (tCons (tVar 4) (tCons (tVar 5) tNil)))))) (tRet (tC (.bl false))) tNext)) _ [some (.ref w), some v1, some v2, some (.int (i : Int)), some (.ref x), a5] H6
        refine s_forXd (m := Md.well (addA M l) w) (K := A.K) (S := fun d => ∃ ns : List Nat, (∀ n ∈ ns, n ≤ 200) ∧ ns.length ≤ 5 ∧ d = .l (ns.map fun (n : Nat) => dI (n : Int))) dm6 ((evx_lst (eax_cons (S := fun d => d = dI 0) (evx_of ev_c rfl) (eax_cons (S := fun d => d = dI 1) (evx_of ev_c rfl) (eax_cons (S := fun d => d = dI 2) (evx_of ev_c rfl) (eax2 (S := fun d => ∃ k : Nat, k < 26 ∧ d = dI (k : Int)) (S2 := fun d => ∃ n : Nat, n ≤ 200 ∧ d = dI (n : Int)) (evx_cup ho6 iw6 (ev_vs (i := 0) rfl) (evx_of ev_c ⟨26, rfl, by decide, by decide, fun k hk => ⟨k, hk, rfl⟩⟩)) (evx_op (S1 := fun d => d = .l [dI 200, dI 5]) (S2 := fun d => ∃ k : Nat, k < 2 ∧ d = dI (k : Int)) (evx_of (ev_lst (ea_cons ev_c (ea_cons ev_c ea_nil)) (by simp)).frz rfl) (evx_cup ho6 iw6 (ev_vs (i := 0) rfl) (evx_of ev_c ⟨2, rfl, by decide, by decide, fun k hk => ⟨k, hk, rfl⟩⟩)) fun d1 d2 e1 ⟨k, hk, e2⟩ => ?_))))) (fun ds ⟨_, es, e, _, _, es', e', _, _, es'', e'', _, _, _, e''', _⟩ => by rw [e, e', e'', e''']; simp)).sub fun d ⟨ds, ed, d0, es, e, ed0, d1, es', e', ed1, d2, es'', e'', ed2, d3, d4, e''', ⟨k, hk, ek⟩, ⟨n, hn, en⟩⟩ => ⟨[0, 1, 2, k, n], ?_, by simp, ?_⟩) fun d vl H7 g7 ⟨ns, hns, hnl, ed⟩ rl => ?_
        · subst e1
          subst e2
          have : k = 0 ∨ k = 1 := by omega
          rcases this with rfl | rfl
          · exact ⟨dI ((200 : Nat) : Int), ⟨200, by decide, rfl⟩, opd_ixL (atI_nat (j := 0) rfl rfl)⟩
          · exact ⟨dI ((5 : Nat) : Int), ⟨5, by decide, rfl⟩, opd_ixL (atI_nat (j := 1) rfl rfl)⟩
        · intro z hz
          simp only [List.mem_cons, List.not_mem_nil, or_false] at hz
          omega
        · rw [ed, e, ed0, e', ed1, e'', ed2, e''', ek, en]
          rfl
        · subst ed
          refine s_for (m := Md.well (addA M l) w) g7.dm (ev_cD rl) rfl fun H8 g8 => ⟨Md.well (addA M l) w, rfl, fun j σ2 H2 => G (Md.well (addA M l) w) H8 H2 ∧ ∃ a5, σ2 = [some (.ref w), some v1, some v2, some (.int (i : Int)), some (.ref x), a5], ⟨g8.r1, _, rfl⟩, fun j σ2 H2 p => p.1, ?_, ?_⟩
          · rintro j d v σ2 H2' hd rv5 ⟨gg2, a5', rfl⟩
            obtain ⟨n, hn, rfl⟩ := map_get hd
            have hn200 := hns n (List.mem_of_getElem? hn)
            rw [rep_s.mp rv5]
            have g62 := (g7.trans g8).trans gg2
            refine s_if (m := Md.well (addA M l) w) (b := false) gg2.dm ((et_not (et_B (ev_callD (d := dB true) (ds := [specD R, .s (.ref x), dI (n : Int)]) (ea_cons (ev_var (i := 1) rfl (rspec6.mono g62)) (ea_cons (ev_vs (i := 4) rfl) (ea_cons (ev_vs (i := 5) rfl) ea_nil))) fun vs H9 g9 rs9 Q9 E9 k9 => ?_))).is rfl) (fun e => by cases e) fun _ H9 g9 => ⟨gg2.trans g9, _, rfl⟩
            obtain ⟨z0, z1, z2, rfl, p0, p1, p2⟩ := reps3 rs9
            rw [rep_s.mp p1, rep_s.mp p2]
            have g69 := g62.trans g9
            exact ⟨R, row, (Md.well (addA M l) w).M, x, dx, l, rv, z0, n, rs, hrl, hrk, hrkept, hn200, g9.dm, rfl, p0, ⟨g69.st x _ (fun z => xw z) lan6.1, nMx, .inl (.inr rfl), Rep.mono g69 lan6.2.2.2.1, g69.st l _ (fun z => lw z) hl6⟩, fun H' old => k9 _ H' (G.all g9.dm old) (rep_s.mpr rfl)⟩
          · rintro σ2 H2' ⟨gg2, a5', rfl⟩
            exact ⟨((gg.trans g5).trans g56).trans ((g7.trans g8).trans gg2).well_less, _, _, _, rfl⟩
    · rintro σ' H' ⟨gg, a3, a4, a5, rfl⟩
      exact q H' (((g1.trans g2).trans g3).trans gg)
theorem ok_Llaw {f : Addr} {fd : FuncData} (B : BI mg) (F : Fun A.K "law" "law" s_Llaw f fd) (c_Lwell : Callee prog w A.K mg base "_law_well" ["_law_cells", "_law_turn"] 1 (sp_Lwell A)) (c_Lright : Callee prog w A.K mg base "_law_right" ["_law_well_here"] 8 (sp_Lright A)) :
    FnOk prog w A.K mg base CX0 9 f fd ["_law_cells"] (spLaw A) := by
  refine F.ok sc_Llaw (fun vs H Q E h => ?_) (fun cdv Ar outer s H vs Q E hr h => ?_)
  · obtain ⟨a, ns, rfl, _⟩ := h
    rfl
  · obtain ⟨a, ns, rfl, hq, hl, q⟩ := h
    refine ⟨_, (pss_one (ps_ret (pe_callB (cr_all rfl) (by rfl) B.b_all (by decide +kernel) (pa_cons (pe_lc (own := [("_law_turn", 1)]) (g := (gName 1)) (tt := tYes) (te := (tCall (sp_Lright A) [] E0 (tCons (tCall (sp_Lwell A) [] E0 (tCons (tVar 0) (tCons (tVar 1) tNil))) tNil))) rfl sc_Llaw.nd (pi_range1 rfl B.b_range (pa_cons pe_int pa_nil)) (blkOk_by (own := [("_law_turn", 1)]) (N := ["_law_cells", "_law_turn"]) (sc := defScope s_Llaw) (by decide +kernel))  (fun _ _ _ _ _ => (pg_name (i := 1) sc_Llaw.nd rfl (Or.inl rfl))) (fun _ _ _ _ _ => pts_nil) (fun _ _ _ _ _ => (pe_fn c_Lright hr (by decide) (pa_cons (pe_fn c_Lwell hr (by decide) (pa_cons (pv 0) (pa_cons (pv 1) pa_nil))) pa_nil)))) pa_nil)))), ?_⟩
    have dm : Dm (Md.pure fun _ => False) H := fun a z => z.elim
    have rc : Rep (Md.pure fun _ => False).M A.K H (.l (ns.map dI)) (.ref a) := rep_l.mpr ⟨a, _, rfl, hq.imp (fun h => ⟨fun z => z, h⟩) id, reps_int.mpr rfl⟩
    have el : EvL (Md.pure fun _ => False) A.K _ [some (.ref a), none] H (((nats ((3 : Int)).toNat).filter fun _ => true).map fun d => dB true) :=
      ev_lcR (m := Md.pure fun _ => False) (K := A.K) (g := gName 1) (vs := [1]) (t := tYes) (te := tCall (sp_Lright A) [] E0 (tCons (tCall (sp_Lwell A) [] E0 (tCons (tVar 0) (tCons (tVar 1) tNil))) tNil)) (fun _ => true) (fun d => dB true) (fun _ _ z => z) gm_name (ea_cons ev_c ea_nil) (by decide) (by decide) (fun d _ _ => rfl) fun i H' g hi => by
        refine ⟨rfl, rfl, et_yes, fun _ => fun H1 g1 Q1 k1 => ?_⟩
        have ew : EvP (Md.pure fun _ => False) (tCall (sp_Lwell A) [] E0 (tCons (tVar 0) (tCons (tVar 1) tNil))) [some (.ref a), some (.int (i : Int))] H1 (fun v H2 => ∃ Hc, G (Md.pure fun _ => False) H1 Hc ∧ WellP Hc v H2) := ev_call (K := A.K) (ea_cons (ev_var (i := 0) rfl (rc.mono (g.trans g1))) (ea_cons (ev_vs (i := 1) rfl) ea_nil)) fun vs H2 g2 rs Q E k => ⟨ns, i, hl, by omega, (Md.pure fun _ => False).M, g2.dm, rs, fun v H' e p => k v H' (G.all g2.dm e) ⟨H2, g2, p⟩⟩
        refine ew H1 g1.r1 _ fun v H2 g2 ⟨Hc, gc, w, o, ev, hwn, hw, iw⟩ => ?_
        subst ev
        refine ⟨fun _ => False, w, o, fun b hb => ?_, rfl, hw, iw, fun H' g' => k1 _ H' (G.all g1.dm fun b o' e => ?_) (rep_s.mpr rfl)⟩
        · rcases hb with hb | hb
          · exact hb.elim
          · rw [hb, hw]; intro z; cases z
        · refine g'.st b o' (fun z => ?_) (g2.ex b o' e)
          have z' : b = w := z
          have ec := gc.ex b o' e
          rw [z', hwn] at ec
          cases ec
    rw [nats_all] at el
    exact s_retD dm (ev_cb (ea_cons el.frz ea_nil) cd_allT) fun v H1 g r => by
      rw [rep_s.mp r]
      exact q H1
end
end GK

namespace GK
open PySem PySem.Spec PyProof.Rows L2
theorem all_mk {l : PySem.W.OpenLaw} {w : World} {K : PySem.W.Frag} {h : Heap} {mg : Str → Option Value} {fa : Addr} (X : K.In h) (G : h.Ns mainGlobals mg) (hfa : mg "law" = some (.ref fa))
    {fis_integer : Addr}
    {odis_integer anis_integer : Option Addr} {slis_integer : Array (Option Value)} {ocis_integer kVis_integer dcis_integer pmis_integer cdis_integer ctis_integer : Value}
    {fis_between : Addr}
    {odis_between anis_between : Option Addr} {slis_between : Array (Option Value)} {ocis_between kVis_between dcis_between pmis_between cdis_between ctis_between : Value}
    {fcheck_number : Addr}
    {odcheck_number ancheck_number : Option Addr} {slcheck_number : Array (Option Value)} {occheck_number kVcheck_number dccheck_number pmcheck_number cdcheck_number ctcheck_number : Value}
    {fis_rising : Addr}
    {odis_rising anis_rising : Option Addr} {slis_rising : Array (Option Value)} {ocis_rising kVis_rising dcis_rising pmis_rising cdis_rising ctis_rising : Value}
    {fis_kind_word : Addr}
    {odis_kind_word anis_kind_word : Option Addr} {slis_kind_word : Array (Option Value)} {ocis_kind_word kVis_kind_word dcis_kind_word pmis_kind_word cdis_kind_word ctis_kind_word : Value}
    {fis_bar : Addr}
    {odis_bar anis_bar : Option Addr} {slis_bar : Array (Option Value)} {ocis_bar kVis_bar dcis_bar pmis_bar cdis_bar ctis_bar : Value}
    {fwords_behind : Addr}
    {odwords_behind anwords_behind : Option Addr} {slwords_behind : Array (Option Value)} {ocwords_behind kVwords_behind dcwords_behind pmwords_behind cdwords_behind ctwords_behind : Value}
    {fread_kinds : Addr}
    {odread_kinds anread_kinds : Option Addr} {slread_kinds : Array (Option Value)} {ocread_kinds kVread_kinds dcread_kinds pmread_kinds cdread_kinds ctread_kinds : Value}
    {fread_bars : Addr}
    {odread_bars anread_bars : Option Addr} {slread_bars : Array (Option Value)} {ocread_bars kVread_bars dcread_bars pmread_bars cdread_bars ctread_bars : Value}
    {fread_text : Addr}
    {odread_text anread_text : Option Addr} {slread_text : Array (Option Value)} {ocread_text kVread_text dcread_text pmread_text cdread_text ctread_text : Value}
    {fcheck_rule : Addr}
    {odcheck_rule ancheck_rule : Option Addr} {slcheck_rule : Array (Option Value)} {occheck_rule kVcheck_rule dccheck_rule pmcheck_rule cdcheck_rule ctcheck_rule : Value}
    {fis_row : Addr}
    {odis_row anis_row : Option Addr} {slis_row : Array (Option Value)} {ocis_row kVis_row dcis_row pmis_row cdis_row ctis_row : Value}
    {fcheck_row : Addr}
    {odcheck_row ancheck_row : Option Addr} {slcheck_row : Array (Option Value)} {occheck_row kVcheck_row dccheck_row pmcheck_row cdcheck_row ctcheck_row : Value}
    {ffits : Addr}
    {odfits anfits : Option Addr} {slfits : Array (Option Value)} {ocfits kVfits dcfits pmfits cdfits ctfits : Value}
    {fis_kept : Addr}
    {odis_kept anis_kept : Option Addr} {slis_kept : Array (Option Value)} {ocis_kept kVis_kept dcis_kept pmis_kept cdis_kept ctis_kept : Value}
    {fworth_in : Addr}
    {odworth_in anworth_in : Option Addr} {slworth_in : Array (Option Value)} {ocworth_in kVworth_in dcworth_in pmworth_in cdworth_in ctworth_in : Value}
    {fnext_rows : Addr}
    {odnext_rows annext_rows : Option Addr} {slnext_rows : Array (Option Value)} {ocnext_rows kVnext_rows dcnext_rows pmnext_rows cdnext_rows ctnext_rows : Value}
    {frows_with : Addr}
    {odrows_with anrows_with : Option Addr} {slrows_with : Array (Option Value)} {ocrows_with kVrows_with dcrows_with pmrows_with cdrows_with ctrows_with : Value}
    {fLwell : Addr}
    {odLwell anLwell : Option Addr} {slLwell : Array (Option Value)} {ocLwell kVLwell dcLwell pmLwell cdLwell ctLwell : Value}
    {fLcup : Addr}
    {odLcup anLcup : Option Addr} {slLcup : Array (Option Value)} {ocLcup kVLcup dcLcup pmLcup cdLcup ctLcup : Value}
    {fLspec : Addr}
    {odLspec anLspec : Option Addr} {slLspec : Array (Option Value)} {ocLspec kVLspec dcLspec pmLspec cdLspec ctLspec : Value}
    {fLtext : Addr}
    {odLtext anLtext : Option Addr} {slLtext : Array (Option Value)} {ocLtext kVLtext dcLtext pmLtext cdLtext ctLtext : Value}
    {fLmade : Addr}
    {odLmade anLmade : Option Addr} {slLmade : Array (Option Value)} {ocLmade kVLmade dcLmade pmLmade cdLmade ctLmade : Value}
    {fLfits : Addr}
    {odLfits anLfits : Option Addr} {slLfits : Array (Option Value)} {ocLfits kVLfits dcLfits pmLfits cdLfits ctLfits : Value}
    {fLkept : Addr}
    {odLkept anLkept : Option Addr} {slLkept : Array (Option Value)} {ocLkept kVLkept dcLkept pmLkept cdLkept ctLkept : Value}
    {fLworth : Addr}
    {odLworth anLworth : Option Addr} {slLworth : Array (Option Value)} {ocLworth kVLworth dcLworth pmLworth cdLworth ctLworth : Value}
    {fLdrawn_row : Addr}
    {odLdrawn_row anLdrawn_row : Option Addr} {slLdrawn_row : Array (Option Value)} {ocLdrawn_row kVLdrawn_row dcLdrawn_row pmLdrawn_row cdLdrawn_row ctLdrawn_row : Value}
    {fLone_right : Addr}
    {odLone_right anLone_right : Option Addr} {slLone_right : Array (Option Value)} {ocLone_right kVLone_right dcLone_right pmLone_right cdLone_right ctLone_right : Value}
    {fLright : Addr}
    {odLright anLright : Option Addr} {slLright : Array (Option Value)} {ocLright kVLright dcLright pmLright cdLright ctLright : Value}
    {fLlaw : Addr}
    {odLlaw anLlaw : Option Addr} {slLlaw : Array (Option Value)} {ocLlaw kVLlaw dcLlaw pmLlaw cdLlaw ctLlaw : Value}
    {CRule : Addr}
    {CTails : Addr}
    {CLaying : Addr}
    {fRule_init : Addr}
    {odRule_init anRule_init : Option Addr} {slRule_init : Array (Option Value)} {ocRule_init kVRule_init dcRule_init pmRule_init cdRule_init ctRule_init : Value}
    {fTails_init : Addr}
    {odTails_init anTails_init : Option Addr} {slTails_init : Array (Option Value)} {ocTails_init kVTails_init dcTails_init pmTails_init cdTails_init ctTails_init : Value}
    {fLaying_init : Addr}
    {TLaying_init : Addr}
    {odLaying_init anLaying_init : Option Addr} {slLaying_init : Array (Option Value)} {ocLaying_init kVLaying_init dcLaying_init pmLaying_init cdLaying_init ctLaying_init : Value}
    {odT : Option Addr} {nT : Nat} {slT : Array (Option Value)} {tkT : Tok}
    {fLaying_lay : Addr}
    {odLaying_lay anLaying_lay : Option Addr} {slLaying_lay : Array (Option Value)} {ocLaying_lay kVLaying_lay dcLaying_lay pmLaying_lay cdLaying_lay ctLaying_lay : Value}
    {fLaying_undo : Addr}
    {odLaying_undo anLaying_undo : Option Addr} {slLaying_undo : Array (Option Value)} {ocLaying_undo kVLaying_undo dcLaying_undo pmLaying_undo cdLaying_undo ctLaying_undo : Value}
    {fLaying_layers : Addr}
    {odLaying_layers anLaying_layers : Option Addr} {slLaying_layers : Array (Option Value)} {ocLaying_layers kVLaying_layers dcLaying_layers pmLaying_layers cdLaying_layers ctLaying_layers : Value}
    {fLaying_best : Addr}
    {odLaying_best anLaying_best : Option Addr} {slLaying_best : Array (Option Value)} {ocLaying_best kVLaying_best dcLaying_best pmLaying_best cdLaying_best ctLaying_best : Value}
    {fLaying_best_end : Addr}
    {odLaying_best_end anLaying_best_end : Option Addr} {slLaying_best_end : Array (Option Value)} {ocLaying_best_end kVLaying_best_end dcLaying_best_end pmLaying_best_end cdLaying_best_end ctLaying_best_end : Value}
    {fLaying_row pLaying_row : Addr} {reLaying_row : List Value}
    {odLaying_row anLaying_row : Option Addr} {slLaying_row : Array (Option Value)} {ocLaying_row kVLaying_row dcLaying_row pmLaying_row cdLaying_row ctLaying_row : Value}
    {fLaying_worth pLaying_worth : Addr} {reLaying_worth : List Value}
    {odLaying_worth anLaying_worth : Option Addr} {slLaying_worth : Array (Option Value)} {ocLaying_worth kVLaying_worth dcLaying_worth pmLaying_worth cdLaying_worth ctLaying_worth : Value}
    {tkMOST_KINDS : Tok}
    {tkMOST_BARS : Tok}
    {tkMOST_PLACES : Tok}
    {tkMOST_WINDOWS : Tok}
    {tkMOST_MORE : Tok}
    {tkLETTERS : Tok}
    {tkDIGITS : Tok}
    {tkDISTANCES : Tok}
    (ais_integer : PySem.W.nsIn K mainGlobals "is_integer" = some (some (.ref fis_integer)))
    (lis_integer : K.lookup fis_integer = some ⟨ocis_integer, odis_integer, .func (PySem.W.fnOf "is_integer" "is_integer" (defArgs s_is_integer) (defBody s_is_integer) (defScope s_is_integer) .none kVis_integer dcis_integer pmis_integer anis_integer cdis_integer ctis_integer), slis_integer⟩)
    (cis_integer : PySem.W.codeIn K cdis_integer "is_integer" = true)
    (kis_integer : PySem.W.keepIn K (.ref fis_integer) = true)
    (ais_between : PySem.W.nsIn K mainGlobals "is_between" = some (some (.ref fis_between)))
    (lis_between : K.lookup fis_between = some ⟨ocis_between, odis_between, .func (PySem.W.fnOf "is_between" "is_between" (defArgs s_is_between) (defBody s_is_between) (defScope s_is_between) .none kVis_between dcis_between pmis_between anis_between cdis_between ctis_between), slis_between⟩)
    (cis_between : PySem.W.codeIn K cdis_between "is_between" = true)
    (kis_between : PySem.W.keepIn K (.ref fis_between) = true)
    (acheck_number : PySem.W.nsIn K mainGlobals "check_number" = some (some (.ref fcheck_number)))
    (lcheck_number : K.lookup fcheck_number = some ⟨occheck_number, odcheck_number, .func (PySem.W.fnOf "check_number" "check_number" (defArgs s_check_number) (defBody s_check_number) (defScope s_check_number) .none kVcheck_number dccheck_number pmcheck_number ancheck_number cdcheck_number ctcheck_number), slcheck_number⟩)
    (ccheck_number : PySem.W.codeIn K cdcheck_number "check_number" = true)
    (kcheck_number : PySem.W.keepIn K (.ref fcheck_number) = true)
    (ais_rising : PySem.W.nsIn K mainGlobals "is_rising" = some (some (.ref fis_rising)))
    (lis_rising : K.lookup fis_rising = some ⟨ocis_rising, odis_rising, .func (PySem.W.fnOf "is_rising" "is_rising" (defArgs s_is_rising) (defBody s_is_rising) (defScope s_is_rising) .none kVis_rising dcis_rising pmis_rising anis_rising cdis_rising ctis_rising), slis_rising⟩)
    (cis_rising : PySem.W.codeIn K cdis_rising "is_rising" = true)
    (kis_rising : PySem.W.keepIn K (.ref fis_rising) = true)
    (ais_kind_word : PySem.W.nsIn K mainGlobals "is_kind_word" = some (some (.ref fis_kind_word)))
    (lis_kind_word : K.lookup fis_kind_word = some ⟨ocis_kind_word, odis_kind_word, .func (PySem.W.fnOf "is_kind_word" "is_kind_word" (defArgs s_is_kind_word) (defBody s_is_kind_word) (defScope s_is_kind_word) .none kVis_kind_word dcis_kind_word pmis_kind_word anis_kind_word cdis_kind_word ctis_kind_word), slis_kind_word⟩)
    (cis_kind_word : PySem.W.codeIn K cdis_kind_word "is_kind_word" = true)
    (kis_kind_word : PySem.W.keepIn K (.ref fis_kind_word) = true)
    (ais_bar : PySem.W.nsIn K mainGlobals "is_bar" = some (some (.ref fis_bar)))
    (lis_bar : K.lookup fis_bar = some ⟨ocis_bar, odis_bar, .func (PySem.W.fnOf "is_bar" "is_bar" (defArgs s_is_bar) (defBody s_is_bar) (defScope s_is_bar) .none kVis_bar dcis_bar pmis_bar anis_bar cdis_bar ctis_bar), slis_bar⟩)
    (cis_bar : PySem.W.codeIn K cdis_bar "is_bar" = true)
    (kis_bar : PySem.W.keepIn K (.ref fis_bar) = true)
    (awords_behind : PySem.W.nsIn K mainGlobals "words_behind" = some (some (.ref fwords_behind)))
    (lwords_behind : K.lookup fwords_behind = some ⟨ocwords_behind, odwords_behind, .func (PySem.W.fnOf "words_behind" "words_behind" (defArgs s_words_behind) (defBody s_words_behind) (defScope s_words_behind) .none kVwords_behind dcwords_behind pmwords_behind anwords_behind cdwords_behind ctwords_behind), slwords_behind⟩)
    (cwords_behind : PySem.W.codeIn K cdwords_behind "words_behind" = true)
    (kwords_behind : PySem.W.keepIn K (.ref fwords_behind) = true)
    (aread_kinds : PySem.W.nsIn K mainGlobals "read_kinds" = some (some (.ref fread_kinds)))
    (lread_kinds : K.lookup fread_kinds = some ⟨ocread_kinds, odread_kinds, .func (PySem.W.fnOf "read_kinds" "read_kinds" (defArgs s_read_kinds) (defBody s_read_kinds) (defScope s_read_kinds) .none kVread_kinds dcread_kinds pmread_kinds anread_kinds cdread_kinds ctread_kinds), slread_kinds⟩)
    (cread_kinds : PySem.W.codeIn K cdread_kinds "read_kinds" = true)
    (kread_kinds : PySem.W.keepIn K (.ref fread_kinds) = true)
    (aread_bars : PySem.W.nsIn K mainGlobals "read_bars" = some (some (.ref fread_bars)))
    (lread_bars : K.lookup fread_bars = some ⟨ocread_bars, odread_bars, .func (PySem.W.fnOf "read_bars" "read_bars" (defArgs s_read_bars) (defBody s_read_bars) (defScope s_read_bars) .none kVread_bars dcread_bars pmread_bars anread_bars cdread_bars ctread_bars), slread_bars⟩)
    (cread_bars : PySem.W.codeIn K cdread_bars "read_bars" = true)
    (kread_bars : PySem.W.keepIn K (.ref fread_bars) = true)
    (aread_text : PySem.W.nsIn K mainGlobals "read_text" = some (some (.ref fread_text)))
    (lread_text : K.lookup fread_text = some ⟨ocread_text, odread_text, .func (PySem.W.fnOf "read_text" "read_text" (defArgs s_read_text) (defBody s_read_text) (defScope s_read_text) .none kVread_text dcread_text pmread_text anread_text cdread_text ctread_text), slread_text⟩)
    (cread_text : PySem.W.codeIn K cdread_text "read_text" = true)
    (kread_text : PySem.W.keepIn K (.ref fread_text) = true)
    (acheck_rule : PySem.W.nsIn K mainGlobals "check_rule" = some (some (.ref fcheck_rule)))
    (lcheck_rule : K.lookup fcheck_rule = some ⟨occheck_rule, odcheck_rule, .func (PySem.W.fnOf "check_rule" "check_rule" (defArgs s_check_rule) (defBody s_check_rule) (defScope s_check_rule) .none kVcheck_rule dccheck_rule pmcheck_rule ancheck_rule cdcheck_rule ctcheck_rule), slcheck_rule⟩)
    (ccheck_rule : PySem.W.codeIn K cdcheck_rule "check_rule" = true)
    (kcheck_rule : PySem.W.keepIn K (.ref fcheck_rule) = true)
    (ais_row : PySem.W.nsIn K mainGlobals "is_row" = some (some (.ref fis_row)))
    (lis_row : K.lookup fis_row = some ⟨ocis_row, odis_row, .func (PySem.W.fnOf "is_row" "is_row" (defArgs s_is_row) (defBody s_is_row) (defScope s_is_row) .none kVis_row dcis_row pmis_row anis_row cdis_row ctis_row), slis_row⟩)
    (cis_row : PySem.W.codeIn K cdis_row "is_row" = true)
    (kis_row : PySem.W.keepIn K (.ref fis_row) = true)
    (acheck_row : PySem.W.nsIn K mainGlobals "check_row" = some (some (.ref fcheck_row)))
    (lcheck_row : K.lookup fcheck_row = some ⟨occheck_row, odcheck_row, .func (PySem.W.fnOf "check_row" "check_row" (defArgs s_check_row) (defBody s_check_row) (defScope s_check_row) .none kVcheck_row dccheck_row pmcheck_row ancheck_row cdcheck_row ctcheck_row), slcheck_row⟩)
    (ccheck_row : PySem.W.codeIn K cdcheck_row "check_row" = true)
    (kcheck_row : PySem.W.keepIn K (.ref fcheck_row) = true)
    (afits : PySem.W.nsIn K mainGlobals "fits" = some (some (.ref ffits)))
    (lfits : K.lookup ffits = some ⟨ocfits, odfits, .func (PySem.W.fnOf "fits" "fits" (defArgs s_fits) (defBody s_fits) (defScope s_fits) .none kVfits dcfits pmfits anfits cdfits ctfits), slfits⟩)
    (cfits : PySem.W.codeIn K cdfits "fits" = true)
    (kfits : PySem.W.keepIn K (.ref ffits) = true)
    (ais_kept : PySem.W.nsIn K mainGlobals "is_kept" = some (some (.ref fis_kept)))
    (lis_kept : K.lookup fis_kept = some ⟨ocis_kept, odis_kept, .func (PySem.W.fnOf "is_kept" "is_kept" (defArgs s_is_kept) (defBody s_is_kept) (defScope s_is_kept) .none kVis_kept dcis_kept pmis_kept anis_kept cdis_kept ctis_kept), slis_kept⟩)
    (cis_kept : PySem.W.codeIn K cdis_kept "is_kept" = true)
    (kis_kept : PySem.W.keepIn K (.ref fis_kept) = true)
    (aworth_in : PySem.W.nsIn K mainGlobals "worth_in" = some (some (.ref fworth_in)))
    (lworth_in : K.lookup fworth_in = some ⟨ocworth_in, odworth_in, .func (PySem.W.fnOf "worth_in" "worth_in" (defArgs s_worth_in) (defBody s_worth_in) (defScope s_worth_in) .none kVworth_in dcworth_in pmworth_in anworth_in cdworth_in ctworth_in), slworth_in⟩)
    (cworth_in : PySem.W.codeIn K cdworth_in "worth_in" = true)
    (kworth_in : PySem.W.keepIn K (.ref fworth_in) = true)
    (anext_rows : PySem.W.nsIn K mainGlobals "next_rows" = some (some (.ref fnext_rows)))
    (lnext_rows : K.lookup fnext_rows = some ⟨ocnext_rows, odnext_rows, .func (PySem.W.fnOf "next_rows" "next_rows" (defArgs s_next_rows) (defBody s_next_rows) (defScope s_next_rows) .none kVnext_rows dcnext_rows pmnext_rows annext_rows cdnext_rows ctnext_rows), slnext_rows⟩)
    (cnext_rows : PySem.W.codeIn K cdnext_rows "next_rows" = true)
    (knext_rows : PySem.W.keepIn K (.ref fnext_rows) = true)
    (arows_with : PySem.W.nsIn K mainGlobals "rows_with" = some (some (.ref frows_with)))
    (lrows_with : K.lookup frows_with = some ⟨ocrows_with, odrows_with, .func (PySem.W.fnOf "rows_with" "rows_with" (defArgs s_rows_with) (defBody s_rows_with) (defScope s_rows_with) .none kVrows_with dcrows_with pmrows_with anrows_with cdrows_with ctrows_with), slrows_with⟩)
    (crows_with : PySem.W.codeIn K cdrows_with "rows_with" = true)
    (krows_with : PySem.W.keepIn K (.ref frows_with) = true)
    (aLwell : PySem.W.nsIn K mainGlobals "_law_well" = some (some (.ref fLwell)))
    (lLwell : K.lookup fLwell = some ⟨ocLwell, odLwell, .func (PySem.W.fnOf "_law_well" "_law_well" (defArgs s_Lwell) (defBody s_Lwell) (defScope s_Lwell) .none kVLwell dcLwell pmLwell anLwell cdLwell ctLwell), slLwell⟩)
    (cLwell : PySem.W.codeIn K cdLwell "_law_well" = true)
    (kLwell : PySem.W.keepIn K (.ref fLwell) = true)
    (aLcup : PySem.W.nsIn K mainGlobals "_law_cup" = some (some (.ref fLcup)))
    (lLcup : K.lookup fLcup = some ⟨ocLcup, odLcup, .func (PySem.W.fnOf "_law_cup" "_law_cup" (defArgs s_Lcup) (defBody s_Lcup) (defScope s_Lcup) .none kVLcup dcLcup pmLcup anLcup cdLcup ctLcup), slLcup⟩)
    (cLcup : PySem.W.codeIn K cdLcup "_law_cup" = true)
    (kLcup : PySem.W.keepIn K (.ref fLcup) = true)
    (aLspec : PySem.W.nsIn K mainGlobals "_law_spec" = some (some (.ref fLspec)))
    (lLspec : K.lookup fLspec = some ⟨ocLspec, odLspec, .func (PySem.W.fnOf "_law_spec" "_law_spec" (defArgs s_Lspec) (defBody s_Lspec) (defScope s_Lspec) .none kVLspec dcLspec pmLspec anLspec cdLspec ctLspec), slLspec⟩)
    (cLspec : PySem.W.codeIn K cdLspec "_law_spec" = true)
    (kLspec : PySem.W.keepIn K (.ref fLspec) = true)
    (aLtext : PySem.W.nsIn K mainGlobals "_law_text" = some (some (.ref fLtext)))
    (lLtext : K.lookup fLtext = some ⟨ocLtext, odLtext, .func (PySem.W.fnOf "_law_text" "_law_text" (defArgs s_Ltext) (defBody s_Ltext) (defScope s_Ltext) .none kVLtext dcLtext pmLtext anLtext cdLtext ctLtext), slLtext⟩)
    (cLtext : PySem.W.codeIn K cdLtext "_law_text" = true)
    (kLtext : PySem.W.keepIn K (.ref fLtext) = true)
    (aLmade : PySem.W.nsIn K mainGlobals "_law_made" = some (some (.ref fLmade)))
    (lLmade : K.lookup fLmade = some ⟨ocLmade, odLmade, .func (PySem.W.fnOf "_law_made" "_law_made" (defArgs s_Lmade) (defBody s_Lmade) (defScope s_Lmade) .none kVLmade dcLmade pmLmade anLmade cdLmade ctLmade), slLmade⟩)
    (cLmade : PySem.W.codeIn K cdLmade "_law_made" = true)
    (kLmade : PySem.W.keepIn K (.ref fLmade) = true)
    (aLfits : PySem.W.nsIn K mainGlobals "_law_fits" = some (some (.ref fLfits)))
    (lLfits : K.lookup fLfits = some ⟨ocLfits, odLfits, .func (PySem.W.fnOf "_law_fits" "_law_fits" (defArgs s_Lfits) (defBody s_Lfits) (defScope s_Lfits) .none kVLfits dcLfits pmLfits anLfits cdLfits ctLfits), slLfits⟩)
    (cLfits : PySem.W.codeIn K cdLfits "_law_fits" = true)
    (kLfits : PySem.W.keepIn K (.ref fLfits) = true)
    (aLkept : PySem.W.nsIn K mainGlobals "_law_kept" = some (some (.ref fLkept)))
    (lLkept : K.lookup fLkept = some ⟨ocLkept, odLkept, .func (PySem.W.fnOf "_law_kept" "_law_kept" (defArgs s_Lkept) (defBody s_Lkept) (defScope s_Lkept) .none kVLkept dcLkept pmLkept anLkept cdLkept ctLkept), slLkept⟩)
    (cLkept : PySem.W.codeIn K cdLkept "_law_kept" = true)
    (kLkept : PySem.W.keepIn K (.ref fLkept) = true)
    (aLworth : PySem.W.nsIn K mainGlobals "_law_worth" = some (some (.ref fLworth)))
    (lLworth : K.lookup fLworth = some ⟨ocLworth, odLworth, .func (PySem.W.fnOf "_law_worth" "_law_worth" (defArgs s_Lworth) (defBody s_Lworth) (defScope s_Lworth) .none kVLworth dcLworth pmLworth anLworth cdLworth ctLworth), slLworth⟩)
    (cLworth : PySem.W.codeIn K cdLworth "_law_worth" = true)
    (kLworth : PySem.W.keepIn K (.ref fLworth) = true)
    (aLdrawn_row : PySem.W.nsIn K mainGlobals "_law_drawn_row" = some (some (.ref fLdrawn_row)))
    (lLdrawn_row : K.lookup fLdrawn_row = some ⟨ocLdrawn_row, odLdrawn_row, .func (PySem.W.fnOf "_law_drawn_row" "_law_drawn_row" (defArgs s_Ldrawn_row) (defBody s_Ldrawn_row) (defScope s_Ldrawn_row) .none kVLdrawn_row dcLdrawn_row pmLdrawn_row anLdrawn_row cdLdrawn_row ctLdrawn_row), slLdrawn_row⟩)
    (cLdrawn_row : PySem.W.codeIn K cdLdrawn_row "_law_drawn_row" = true)
    (kLdrawn_row : PySem.W.keepIn K (.ref fLdrawn_row) = true)
    (aLone_right : PySem.W.nsIn K mainGlobals "_law_one_right" = some (some (.ref fLone_right)))
    (lLone_right : K.lookup fLone_right = some ⟨ocLone_right, odLone_right, .func (PySem.W.fnOf "_law_one_right" "_law_one_right" (defArgs s_Lone_right) (defBody s_Lone_right) (defScope s_Lone_right) .none kVLone_right dcLone_right pmLone_right anLone_right cdLone_right ctLone_right), slLone_right⟩)
    (cLone_right : PySem.W.codeIn K cdLone_right "_law_one_right" = true)
    (kLone_right : PySem.W.keepIn K (.ref fLone_right) = true)
    (aLright : PySem.W.nsIn K mainGlobals "_law_right" = some (some (.ref fLright)))
    (lLright : K.lookup fLright = some ⟨ocLright, odLright, .func (PySem.W.fnOf "_law_right" "_law_right" (defArgs s_Lright) (defBody s_Lright) (defScope s_Lright) .none kVLright dcLright pmLright anLright cdLright ctLright), slLright⟩)
    (cLright : PySem.W.codeIn K cdLright "_law_right" = true)
    (kLright : PySem.W.keepIn K (.ref fLright) = true)
    (aLlaw : PySem.W.nsIn K mainGlobals "law" = some (some (.ref fLlaw)))
    (lLlaw : K.lookup fLlaw = some ⟨ocLlaw, odLlaw, .func (PySem.W.fnOf "law" "law" (defArgs s_Llaw) (defBody s_Llaw) (defScope s_Llaw) .none kVLlaw dcLlaw pmLlaw anLlaw cdLlaw ctLlaw), slLlaw⟩)
    (cLlaw : PySem.W.codeIn K cdLlaw "law" = true)
    (kLlaw : PySem.W.keepIn K (.ref fLlaw) = true)
    (aCRule : PySem.W.nsIn K mainGlobals "Rule" = some (some (.ref CRule)))
    (pgRule : PySem.W.plainGet K CRule Str.empty = true)
    (hdRule : PySem.W.hasDictIn K CRule = true)
    (poRule : PySem.W.plainOver K CRule = true)
    (saRule : PySem.W.findIn K (.ref CRule) "__setattr__" = some (some (.builtin "object.__setattr__")))
    (mkRule : PySem.W.makesIn K CRule = true)
    (kcRule : PySem.W.keepIn K (.ref CRule) = true)
    (nRule_text : PySem.W.findIn K (.ref CRule) "text" = some none)
    (nRule_kinds : PySem.W.findIn K (.ref CRule) "kinds" = some none)
    (nRule_worths : PySem.W.findIn K (.ref CRule) "worths" = some none)
    (nRule_bars : PySem.W.findIn K (.ref CRule) "bars" = some none)
    (nRule_triples : PySem.W.findIn K (.ref CRule) "triples" = some none)
    (nRule_reach : PySem.W.findIn K (.ref CRule) "reach" = some none)
    (nRule_worth_of : PySem.W.findIn K (.ref CRule) "worth_of" = some none)
    (nRule_behind : PySem.W.findIn K (.ref CRule) "behind" = some none)
    (aCTails : PySem.W.nsIn K mainGlobals "Tails" = some (some (.ref CTails)))
    (pgTails : PySem.W.plainGet K CTails Str.empty = true)
    (hdTails : PySem.W.hasDictIn K CTails = true)
    (poTails : PySem.W.plainOver K CTails = true)
    (saTails : PySem.W.findIn K (.ref CTails) "__setattr__" = some (some (.builtin "object.__setattr__")))
    (mkTails : PySem.W.makesIn K CTails = true)
    (kcTails : PySem.W.keepIn K (.ref CTails) = true)
    (nTails_tails : PySem.W.findIn K (.ref CTails) "tails" = some none)
    (nTails_edges : PySem.W.findIn K (.ref CTails) "edges" = some none)
    (nTails_many : PySem.W.findIn K (.ref CTails) "many" = some none)
    (aCLaying : PySem.W.nsIn K mainGlobals "Laying" = some (some (.ref CLaying)))
    (pgLaying : PySem.W.plainGet K CLaying Str.empty = true)
    (hdLaying : PySem.W.hasDictIn K CLaying = true)
    (poLaying : PySem.W.plainOver K CLaying = true)
    (saLaying : PySem.W.findIn K (.ref CLaying) "__setattr__" = some (some (.builtin "object.__setattr__")))
    (mkLaying : PySem.W.makesIn K CLaying = true)
    (kcLaying : PySem.W.keepIn K (.ref CLaying) = true)
    (nLaying_rule : PySem.W.findIn K (.ref CLaying) "rule" = some none)
    (nLaying_past : PySem.W.findIn K (.ref CLaying) "past" = some none)
    (aRule_init : PySem.W.findIn K (.ref CRule) "__init__" = some (some (.ref fRule_init)))
    (iRule_init : PySem.W.isFn K (.ref fRule_init) = true)
    (lRule_init : K.lookup fRule_init = some ⟨ocRule_init, odRule_init, .func (PySem.W.fnOf "__init__" "Rule.__init__" (defArgs s_Rule_init) (defBody s_Rule_init) (defScope s_Rule_init) .none kVRule_init dcRule_init pmRule_init anRule_init cdRule_init ctRule_init), slRule_init⟩)
    (cRule_init : PySem.W.codeIn K cdRule_init "Rule.__init__" = true)
    (kRule_init : PySem.W.keepIn K (.ref fRule_init) = true)
    (aTails_init : PySem.W.findIn K (.ref CTails) "__init__" = some (some (.ref fTails_init)))
    (iTails_init : PySem.W.isFn K (.ref fTails_init) = true)
    (lTails_init : K.lookup fTails_init = some ⟨ocTails_init, odTails_init, .func (PySem.W.fnOf "__init__" "Tails.__init__" (defArgs s_Tails_init) (defBody s_Tails_init) (defScope s_Tails_init) .none kVTails_init dcTails_init pmTails_init anTails_init cdTails_init ctTails_init), slTails_init⟩)
    (cTails_init : PySem.W.codeIn K cdTails_init "Tails.__init__" = true)
    (kTails_init : PySem.W.keepIn K (.ref fTails_init) = true)
    (aLaying_init : PySem.W.findIn K (.ref CLaying) "__init__" = some (some (.ref fLaying_init)))
    (iLaying_init : PySem.W.isFn K (.ref fLaying_init) = true)
    (lLaying_init : K.lookup fLaying_init = some ⟨ocLaying_init, odLaying_init, .func (PySem.W.fnOf "__init__" "Laying.__init__" (defArgs s_Laying_init) (defBody s_Laying_init) (defScope s_Laying_init) (.ref TLaying_init) kVLaying_init dcLaying_init pmLaying_init anLaying_init cdLaying_init ctLaying_init), slLaying_init⟩)
    (cLaying_init : PySem.W.codeIn K cdLaying_init "Laying.__init__" = true)
    (kLaying_init : PySem.W.keepIn K (.ref fLaying_init) = true)
    (lT : K.lookup TLaying_init = some ⟨.type "tuple", odT, .seq #[.str "" tkT] nT, slT⟩)
    (aLaying_lay : PySem.W.findIn K (.ref CLaying) "lay" = some (some (.ref fLaying_lay)))
    (iLaying_lay : PySem.W.isFn K (.ref fLaying_lay) = true)
    (lLaying_lay : K.lookup fLaying_lay = some ⟨ocLaying_lay, odLaying_lay, .func (PySem.W.fnOf "lay" "Laying.lay" (defArgs s_Laying_lay) (defBody s_Laying_lay) (defScope s_Laying_lay) .none kVLaying_lay dcLaying_lay pmLaying_lay anLaying_lay cdLaying_lay ctLaying_lay), slLaying_lay⟩)
    (cLaying_lay : PySem.W.codeIn K cdLaying_lay "Laying.lay" = true)
    (kLaying_lay : PySem.W.keepIn K (.ref fLaying_lay) = true)
    (aLaying_undo : PySem.W.findIn K (.ref CLaying) "undo" = some (some (.ref fLaying_undo)))
    (iLaying_undo : PySem.W.isFn K (.ref fLaying_undo) = true)
    (lLaying_undo : K.lookup fLaying_undo = some ⟨ocLaying_undo, odLaying_undo, .func (PySem.W.fnOf "undo" "Laying.undo" (defArgs s_Laying_undo) (defBody s_Laying_undo) (defScope s_Laying_undo) .none kVLaying_undo dcLaying_undo pmLaying_undo anLaying_undo cdLaying_undo ctLaying_undo), slLaying_undo⟩)
    (cLaying_undo : PySem.W.codeIn K cdLaying_undo "Laying.undo" = true)
    (kLaying_undo : PySem.W.keepIn K (.ref fLaying_undo) = true)
    (aLaying_layers : PySem.W.findIn K (.ref CLaying) "layers" = some (some (.ref fLaying_layers)))
    (iLaying_layers : PySem.W.isFn K (.ref fLaying_layers) = true)
    (lLaying_layers : K.lookup fLaying_layers = some ⟨ocLaying_layers, odLaying_layers, .func (PySem.W.fnOf "layers" "Laying.layers" (defArgs s_Laying_layers) (defBody s_Laying_layers) (defScope s_Laying_layers) .none kVLaying_layers dcLaying_layers pmLaying_layers anLaying_layers cdLaying_layers ctLaying_layers), slLaying_layers⟩)
    (cLaying_layers : PySem.W.codeIn K cdLaying_layers "Laying.layers" = true)
    (kLaying_layers : PySem.W.keepIn K (.ref fLaying_layers) = true)
    (aLaying_best : PySem.W.findIn K (.ref CLaying) "best" = some (some (.ref fLaying_best)))
    (iLaying_best : PySem.W.isFn K (.ref fLaying_best) = true)
    (lLaying_best : K.lookup fLaying_best = some ⟨ocLaying_best, odLaying_best, .func (PySem.W.fnOf "best" "Laying.best" (defArgs s_Laying_best) (defBody s_Laying_best) (defScope s_Laying_best) .none kVLaying_best dcLaying_best pmLaying_best anLaying_best cdLaying_best ctLaying_best), slLaying_best⟩)
    (cLaying_best : PySem.W.codeIn K cdLaying_best "Laying.best" = true)
    (kLaying_best : PySem.W.keepIn K (.ref fLaying_best) = true)
    (aLaying_best_end : PySem.W.findIn K (.ref CLaying) "best_end" = some (some (.ref fLaying_best_end)))
    (iLaying_best_end : PySem.W.isFn K (.ref fLaying_best_end) = true)
    (lLaying_best_end : K.lookup fLaying_best_end = some ⟨ocLaying_best_end, odLaying_best_end, .func (PySem.W.fnOf "best_end" "Laying.best_end" (defArgs s_Laying_best_end) (defBody s_Laying_best_end) (defScope s_Laying_best_end) .none kVLaying_best_end dcLaying_best_end pmLaying_best_end anLaying_best_end cdLaying_best_end ctLaying_best_end), slLaying_best_end⟩)
    (cLaying_best_end : PySem.W.codeIn K cdLaying_best_end "Laying.best_end" = true)
    (kLaying_best_end : PySem.W.keepIn K (.ref fLaying_best_end) = true)
    (aLaying_row : PySem.W.findIn K (.ref CLaying) "row" = some (some (.ref pLaying_row)))
    (gLaying_row : PySem.W.specialIn K (.ref pLaying_row) "__get__" = some (some (.builtin "property.__get__")))
    (tLaying_row : PySem.W.takesIn K (.ref pLaying_row) = some true)
    (rLaying_row : PySem.W.recIn K pLaying_row "property" = some (.ref fLaying_row :: reLaying_row))
    (lLaying_row : K.lookup fLaying_row = some ⟨ocLaying_row, odLaying_row, .func (PySem.W.fnOf "row" "Laying.row" (defArgs s_Laying_row) (defBody s_Laying_row) (defScope s_Laying_row) .none kVLaying_row dcLaying_row pmLaying_row anLaying_row cdLaying_row ctLaying_row), slLaying_row⟩)
    (cLaying_row : PySem.W.codeIn K cdLaying_row "Laying.row" = true)
    (kLaying_row : PySem.W.keepIn K (.ref fLaying_row) = true)
    (aLaying_worth : PySem.W.findIn K (.ref CLaying) "worth" = some (some (.ref pLaying_worth)))
    (gLaying_worth : PySem.W.specialIn K (.ref pLaying_worth) "__get__" = some (some (.builtin "property.__get__")))
    (tLaying_worth : PySem.W.takesIn K (.ref pLaying_worth) = some true)
    (rLaying_worth : PySem.W.recIn K pLaying_worth "property" = some (.ref fLaying_worth :: reLaying_worth))
    (lLaying_worth : K.lookup fLaying_worth = some ⟨ocLaying_worth, odLaying_worth, .func (PySem.W.fnOf "worth" "Laying.worth" (defArgs s_Laying_worth) (defBody s_Laying_worth) (defScope s_Laying_worth) .none kVLaying_worth dcLaying_worth pmLaying_worth anLaying_worth cdLaying_worth ctLaying_worth), slLaying_worth⟩)
    (cLaying_worth : PySem.W.codeIn K cdLaying_worth "Laying.worth" = true)
    (kLaying_worth : PySem.W.keepIn K (.ref fLaying_worth) = true)
    (ha : PySem.W.findIn K (.ref CRule) "__class__" = some (some (.builtin "object.__class__")))
    (hn : PySem.W.specialIn K (.builtin "object.__class__") "__get__" = some (some (.builtin "getset_descriptor.__get__")))
    (htk : PySem.W.takesIn K (.builtin "object.__class__") = some true)
    (hmr : PySem.W.mroIn K CRule (.type "object") = some true)
    (qMOST_KINDS : PySem.W.nsIn K mainGlobals "MOST_KINDS" = some (some (.int 4 tkMOST_KINDS)))
    (qMOST_BARS : PySem.W.nsIn K mainGlobals "MOST_BARS" = some (some (.int 40 tkMOST_BARS)))
    (qMOST_PLACES : PySem.W.nsIn K mainGlobals "MOST_PLACES" = some (some (.int 1000 tkMOST_PLACES)))
    (qMOST_WINDOWS : PySem.W.nsIn K mainGlobals "MOST_WINDOWS" = some (some (.int 400 tkMOST_WINDOWS)))
    (qMOST_MORE : PySem.W.nsIn K mainGlobals "MOST_MORE" = some (some (.int 200 tkMOST_MORE)))
    (qLETTERS : PySem.W.nsIn K mainGlobals "LETTERS" = some (some (.str "abcdefghijklmnopqrstuvwxyz" tkLETTERS)))
    (qDIGITS : PySem.W.nsIn K mainGlobals "DIGITS" = some (some (.str "0123456789" tkDIGITS)))
    (qDISTANCES : PySem.W.nsIn K mainGlobals "DISTANCES" = some (some (.str "12345" tkDISTANCES)))
    (zlen : PySem.W.nsIn K mainGlobals "len" = some none)
    (zrange : PySem.W.nsIn K mainGlobals "range" = some none)
    (zall : PySem.W.nsIn K mainGlobals "all" = some none)
    (zany : PySem.W.nsIn K mainGlobals "any" = some none)
    (zsum : PySem.W.nsIn K mainGlobals "sum" = some none)
    (zmax : PySem.W.nsIn K mainGlobals "max" = some none)
    (zmin : PySem.W.nsIn K mainGlobals "min" = some none)
    (zabs : PySem.W.nsIn K mainGlobals "abs" = some none)
    (zdivmod : PySem.W.nsIn K mainGlobals "divmod" = some none)
    (zsorted : PySem.W.nsIn K mainGlobals "sorted" = some none)
    (zisinstance : PySem.W.nsIn K mainGlobals "isinstance" = some none)
    (zint : PySem.W.nsIn K mainGlobals "int" = some none)
    (zstr : PySem.W.nsIn K mainGlobals "str" = some none)
    (zbool : PySem.W.nsIn K mainGlobals "bool" = some none)
    (ztuple : PySem.W.nsIn K mainGlobals "tuple" = some none)
    (zlist : PySem.W.nsIn K mainGlobals "list" = some none)
    (zdict : PySem.W.nsIn K mainGlobals "dict" = some none)
    (zzip : PySem.W.nsIn K mainGlobals "zip" = some none)
    (zenumerate : PySem.W.nsIn K mainGlobals "enumerate" = some none) :
    ∃ fd : FuncData, (∀ (s : Shared) (v : Value), BindsTo s fd ⟨[v], []⟩ [("_law_cells", v)]) ∧ ∀ base : Heap, K.In base → base.Ns mainGlobals mg → FnOk l.prog w K mg base CX0 9 fa fd ["_law_cells"] (spLaw { K := K }) := by
  have e := hfa.symm.trans (PySem.W.mg_of X G aLlaw)
  cases e
  let A : Ad := { K := K, Rule := CRule, Tails := CTails, Laying := CLaying }
  have B : BI mg := ⟨PySem.W.mg_none_of X G zlen, PySem.W.mg_none_of X G zrange, PySem.W.mg_none_of X G zall, PySem.W.mg_none_of X G zany, PySem.W.mg_none_of X G zsum, PySem.W.mg_none_of X G zmax, PySem.W.mg_none_of X G zmin, PySem.W.mg_none_of X G zabs, PySem.W.mg_none_of X G zdivmod, PySem.W.mg_none_of X G zsorted, PySem.W.mg_none_of X G zisinstance, PySem.W.mg_none_of X G zint, PySem.W.mg_none_of X G zstr, PySem.W.mg_none_of X G zbool, PySem.W.mg_none_of X G ztuple, PySem.W.mg_none_of X G zlist, PySem.W.mg_none_of X G zdict, PySem.W.mg_none_of X G zzip, PySem.W.mg_none_of X G zenumerate⟩
  have clRule : Cls K CRule := ⟨pgRule, hdRule, poRule, saRule⟩
  have clTails : Cls K CTails := ⟨pgTails, hdTails, poTails, saTails⟩
  have clLaying : Cls K CLaying := ⟨pgLaying, hdLaying, poLaying, saLaying⟩
  have T : RuleT A := ⟨clRule, nRule_text, nRule_kinds, nRule_worths, nRule_bars, nRule_triples, nRule_reach, nRule_worth_of, nRule_behind⟩
  have TT : TailsT A := ⟨clTails, nTails_tails, nTails_edges, nTails_many⟩
  have TL : LanT A := ⟨clLaying, nLaying_rule, nLaying_past⟩
  have I : IsT A := ⟨fun H a dx fs e => .base (.ins e clRule ha hn htk hmr), if_pos (beq_self_eq_true _)⟩
  have K_MOST_KINDS : Kst mg "MOST_KINDS" v_MOST_KINDS := ⟨_, PySem.W.mg_of X G qMOST_KINDS, _, rfl⟩
  have K_MOST_BARS : Kst mg "MOST_BARS" v_MOST_BARS := ⟨_, PySem.W.mg_of X G qMOST_BARS, _, rfl⟩
  have K_MOST_PLACES : Kst mg "MOST_PLACES" v_MOST_PLACES := ⟨_, PySem.W.mg_of X G qMOST_PLACES, _, rfl⟩
  have K_MOST_WINDOWS : Kst mg "MOST_WINDOWS" v_MOST_WINDOWS := ⟨_, PySem.W.mg_of X G qMOST_WINDOWS, _, rfl⟩
  have K_MOST_MORE : Kst mg "MOST_MORE" v_MOST_MORE := ⟨_, PySem.W.mg_of X G qMOST_MORE, _, rfl⟩
  have K_LETTERS : Kst mg "LETTERS" v_LETTERS := ⟨_, PySem.W.mg_of X G qLETTERS, _, rfl⟩
  have K_DIGITS : Kst mg "DIGITS" v_DIGITS := ⟨_, PySem.W.mg_of X G qDIGITS, _, rfl⟩
  have K_DISTANCES : Kst mg "DISTANCES" v_DISTANCES := ⟨_, PySem.W.mg_of X G qDISTANCES, _, rfl⟩
  have gR : mg "Rule" = some (.ref A.Rule) := PySem.W.mg_of X G aCRule
  have Fis_integer := fun_mk (st := s_is_integer) lis_integer cis_integer kis_integer
  have Dis_integer : DefAt A.K mg "is_integer" s_is_integer ["value"] := ⟨_, _, Fis_integer, PySem.W.mg_of X G ais_integer, Fis_integer.binds (ps := ["value"]) fun _ _ _ _ _ _ us hl => match us, hl with | [_], _ => rfl⟩
  have Fis_between := fun_mk (st := s_is_between) lis_between cis_between kis_between
  have Dis_between : DefAt A.K mg "is_between" s_is_between ["value", "least", "most"] := ⟨_, _, Fis_between, PySem.W.mg_of X G ais_between, Fis_between.binds (ps := ["value", "least", "most"]) fun _ _ _ _ _ _ us hl => match us, hl with | [_, _, _], _ => rfl⟩
  have Fcheck_number := fun_mk (st := s_check_number) lcheck_number ccheck_number kcheck_number
  have Dcheck_number : DefAt A.K mg "check_number" s_check_number ["value", "least", "most"] := ⟨_, _, Fcheck_number, PySem.W.mg_of X G acheck_number, Fcheck_number.binds (ps := ["value", "least", "most"]) fun _ _ _ _ _ _ us hl => match us, hl with | [_, _, _], _ => rfl⟩
  have Fis_rising := fun_mk (st := s_is_rising) lis_rising cis_rising kis_rising
  have Dis_rising : DefAt A.K mg "is_rising" s_is_rising ["words"] := ⟨_, _, Fis_rising, PySem.W.mg_of X G ais_rising, Fis_rising.binds (ps := ["words"]) fun _ _ _ _ _ _ us hl => match us, hl with | [_], _ => rfl⟩
  have Fis_kind_word := fun_mk (st := s_is_kind_word) lis_kind_word cis_kind_word kis_kind_word
  have Dis_kind_word : DefAt A.K mg "is_kind_word" s_is_kind_word ["word"] := ⟨_, _, Fis_kind_word, PySem.W.mg_of X G ais_kind_word, Fis_kind_word.binds (ps := ["word"]) fun _ _ _ _ _ _ us hl => match us, hl with | [_], _ => rfl⟩
  have Fis_bar := fun_mk (st := s_is_bar) lis_bar cis_bar kis_bar
  have Dis_bar : DefAt A.K mg "is_bar" s_is_bar ["kinds", "value"] := ⟨_, _, Fis_bar, PySem.W.mg_of X G ais_bar, Fis_bar.binds (ps := ["kinds", "value"]) fun _ _ _ _ _ _ us hl => match us, hl with | [_, _], _ => rfl⟩
  have Fwords_behind := fun_mk (st := s_words_behind) lwords_behind cwords_behind kwords_behind
  have Dwords_behind : DefAt A.K mg "words_behind" s_words_behind ["line", "head"] := ⟨_, _, Fwords_behind, PySem.W.mg_of X G awords_behind, Fwords_behind.binds (ps := ["line", "head"]) fun _ _ _ _ _ _ us hl => match us, hl with | [_, _], _ => rfl⟩
  have Fread_kinds := fun_mk (st := s_read_kinds) lread_kinds cread_kinds kread_kinds
  have Dread_kinds : DefAt A.K mg "read_kinds" s_read_kinds ["line"] := ⟨_, _, Fread_kinds, PySem.W.mg_of X G aread_kinds, Fread_kinds.binds (ps := ["line"]) fun _ _ _ _ _ _ us hl => match us, hl with | [_], _ => rfl⟩
  have Fread_bars := fun_mk (st := s_read_bars) lread_bars cread_bars kread_bars
  have Dread_bars : DefAt A.K mg "read_bars" s_read_bars ["kinds", "line"] := ⟨_, _, Fread_bars, PySem.W.mg_of X G aread_bars, Fread_bars.binds (ps := ["kinds", "line"]) fun _ _ _ _ _ _ us hl => match us, hl with | [_, _], _ => rfl⟩
  have Fread_text := fun_mk (st := s_read_text) lread_text cread_text kread_text
  have Dread_text : DefAt A.K mg "read_text" s_read_text ["text"] := ⟨_, _, Fread_text, PySem.W.mg_of X G aread_text, Fread_text.binds (ps := ["text"]) fun _ _ _ _ _ _ us hl => match us, hl with | [_], _ => rfl⟩
  have Fcheck_rule := fun_mk (st := s_check_rule) lcheck_rule ccheck_rule kcheck_rule
  have Dcheck_rule : DefAt A.K mg "check_rule" s_check_rule ["value"] := ⟨_, _, Fcheck_rule, PySem.W.mg_of X G acheck_rule, Fcheck_rule.binds (ps := ["value"]) fun _ _ _ _ _ _ us hl => match us, hl with | [_], _ => rfl⟩
  have Fis_row := fun_mk (st := s_is_row) lis_row cis_row kis_row
  have Dis_row : DefAt A.K mg "is_row" s_is_row ["rule", "value"] := ⟨_, _, Fis_row, PySem.W.mg_of X G ais_row, Fis_row.binds (ps := ["rule", "value"]) fun _ _ _ _ _ _ us hl => match us, hl with | [_, _], _ => rfl⟩
  have Fcheck_row := fun_mk (st := s_check_row) lcheck_row ccheck_row kcheck_row
  have Dcheck_row : DefAt A.K mg "check_row" s_check_row ["rule", "value"] := ⟨_, _, Fcheck_row, PySem.W.mg_of X G acheck_row, Fcheck_row.binds (ps := ["rule", "value"]) fun _ _ _ _ _ _ us hl => match us, hl with | [_, _], _ => rfl⟩
  have Ffits := fun_mk (st := s_fits) lfits cfits kfits
  have Dfits : DefAt A.K mg "fits" s_fits ["rule", "row", "kind"] := ⟨_, _, Ffits, PySem.W.mg_of X G afits, Ffits.binds (ps := ["rule", "row", "kind"]) fun _ _ _ _ _ _ us hl => match us, hl with | [_, _, _], _ => rfl⟩
  have Fis_kept := fun_mk (st := s_is_kept) lis_kept cis_kept kis_kept
  have Dis_kept : DefAt A.K mg "is_kept" s_is_kept ["rule", "row"] := ⟨_, _, Fis_kept, PySem.W.mg_of X G ais_kept, Fis_kept.binds (ps := ["rule", "row"]) fun _ _ _ _ _ _ us hl => match us, hl with | [_, _], _ => rfl⟩
  have Fworth_in := fun_mk (st := s_worth_in) lworth_in cworth_in kworth_in
  have Dworth_in : DefAt A.K mg "worth_in" s_worth_in ["rule", "row"] := ⟨_, _, Fworth_in, PySem.W.mg_of X G aworth_in, Fworth_in.binds (ps := ["rule", "row"]) fun _ _ _ _ _ _ us hl => match us, hl with | [_, _], _ => rfl⟩
  have Fnext_rows := fun_mk (st := s_next_rows) lnext_rows cnext_rows knext_rows
  have Dnext_rows : DefAt A.K mg "next_rows" s_next_rows ["rule", "row", "limit"] := ⟨_, _, Fnext_rows, PySem.W.mg_of X G anext_rows, Fnext_rows.binds (ps := ["rule", "row", "limit"]) fun _ _ _ _ _ _ us hl => match us, hl with | [_, _, _], _ => rfl⟩
  have Frows_with := fun_mk (st := s_rows_with) lrows_with crows_with krows_with
  have Drows_with : DefAt A.K mg "rows_with" s_rows_with ["rule", "places", "limit"] := ⟨_, _, Frows_with, PySem.W.mg_of X G arows_with, Frows_with.binds (ps := ["rule", "places", "limit"]) fun _ _ _ _ _ _ us hl => match us, hl with | [_, _, _], _ => rfl⟩
  have FLwell := fun_mk (st := s_Lwell) lLwell cLwell kLwell
  have DLwell : DefAt A.K mg "_law_well" s_Lwell ["_law_cells", "_law_turn"] := ⟨_, _, FLwell, PySem.W.mg_of X G aLwell, FLwell.binds (ps := ["_law_cells", "_law_turn"]) fun _ _ _ _ _ _ us hl => match us, hl with | [_, _], _ => rfl⟩
  have FLcup := fun_mk (st := s_Lcup) lLcup cLcup kLcup
  have DLcup : DefAt A.K mg "_law_cup" s_Lcup ["_law_well_here", "_law_amount"] := ⟨_, _, FLcup, PySem.W.mg_of X G aLcup, FLcup.binds (ps := ["_law_well_here", "_law_amount"]) fun _ _ _ _ _ _ us hl => match us, hl with | [_, _], _ => rfl⟩
  have FLspec := fun_mk (st := s_Lspec) lLspec cLspec kLspec
  have DLspec : DefAt A.K mg "_law_spec" s_Lspec ["_law_well_here", "_law_most_kinds", "_law_far", "_law_lots"] := ⟨_, _, FLspec, PySem.W.mg_of X G aLspec, FLspec.binds (ps := ["_law_well_here", "_law_most_kinds", "_law_far", "_law_lots"]) fun _ _ _ _ _ _ us hl => match us, hl with | [_, _, _, _], _ => rfl⟩
  have FLtext := fun_mk (st := s_Ltext) lLtext cLtext kLtext
  have DLtext : DefAt A.K mg "_law_text" s_Ltext ["_law_spec_here"] := ⟨_, _, FLtext, PySem.W.mg_of X G aLtext, FLtext.binds (ps := ["_law_spec_here"]) fun _ _ _ _ _ _ us hl => match us, hl with | [_], _ => rfl⟩
  have FLmade := fun_mk (st := s_Lmade) lLmade cLmade kLmade
  have DLmade : DefAt A.K mg "_law_made" s_Lmade ["_law_spec_here"] := ⟨_, _, FLmade, PySem.W.mg_of X G aLmade, FLmade.binds (ps := ["_law_spec_here"]) fun _ _ _ _ _ _ us hl => match us, hl with | [_], _ => rfl⟩
  have FLfits := fun_mk (st := s_Lfits) lLfits cLfits kLfits
  have DLfits : DefAt A.K mg "_law_fits" s_Lfits ["_law_spec_here", "_law_begun", "_law_letter"] := ⟨_, _, FLfits, PySem.W.mg_of X G aLfits, FLfits.binds (ps := ["_law_spec_here", "_law_begun", "_law_letter"]) fun _ _ _ _ _ _ us hl => match us, hl with | [_, _, _], _ => rfl⟩
  have FLkept := fun_mk (st := s_Lkept) lLkept cLkept kLkept
  have DLkept : DefAt A.K mg "_law_kept" s_Lkept ["_law_spec_here", "_law_begun"] := ⟨_, _, FLkept, PySem.W.mg_of X G aLkept, FLkept.binds (ps := ["_law_spec_here", "_law_begun"]) fun _ _ _ _ _ _ us hl => match us, hl with | [_, _], _ => rfl⟩
  have FLworth := fun_mk (st := s_Lworth) lLworth cLworth kLworth
  have DLworth : DefAt A.K mg "_law_worth" s_Lworth ["_law_spec_here", "_law_begun"] := ⟨_, _, FLworth, PySem.W.mg_of X G aLworth, FLworth.binds (ps := ["_law_spec_here", "_law_begun"]) fun _ _ _ _ _ _ us hl => match us, hl with | [_, _], _ => rfl⟩
  have FLdrawn_row := fun_mk (st := s_Ldrawn_row) lLdrawn_row cLdrawn_row kLdrawn_row
  have DLdrawn_row : DefAt A.K mg "_law_drawn_row" s_Ldrawn_row ["_law_well_here", "_law_spec_here", "_law_most_here"] := ⟨_, _, FLdrawn_row, PySem.W.mg_of X G aLdrawn_row, FLdrawn_row.binds (ps := ["_law_well_here", "_law_spec_here", "_law_most_here"]) fun _ _ _ _ _ _ us hl => match us, hl with | [_, _, _], _ => rfl⟩
  have FLone_right := fun_mk (st := s_Lone_right) lLone_right cLone_right kLone_right
  have DLone_right : DefAt A.K mg "_law_one_right" s_Lone_right ["_law_spec_here", "_law_lane", "_law_span"] := ⟨_, _, FLone_right, PySem.W.mg_of X G aLone_right, FLone_right.binds (ps := ["_law_spec_here", "_law_lane", "_law_span"]) fun _ _ _ _ _ _ us hl => match us, hl with | [_, _, _], _ => rfl⟩
  have FLright := fun_mk (st := s_Lright) lLright cLright kLright
  have DLright : DefAt A.K mg "_law_right" s_Lright ["_law_well_here"] := ⟨_, _, FLright, PySem.W.mg_of X G aLright, FLright.binds (ps := ["_law_well_here"]) fun _ _ _ _ _ _ us hl => match us, hl with | [_], _ => rfl⟩
  have FLlaw := fun_mk (st := s_Llaw) lLlaw cLlaw kLlaw
  have FRule_init := fun_mk (st := s_Rule_init) lRule_init cRule_init kRule_init
  have bRule_init := FRule_init.binds (ps := ["self", "text"]) fun _ _ _ _ _ _ us hl => match us, hl with | [_, _], _ => rfl
  have DRule_init : InitAt A.K mg "Rule" A.Rule "Rule.__init__" s_Rule_init ["self", "text"] [] := ⟨_, _, [], FRule_init, ⟨mkRule, aRule_init, iRule_init, kcRule⟩, PySem.W.mg_of X G aCRule, .nil, bRule_init, bRule_init⟩
  have FTails_init := fun_mk (st := s_Tails_init) lTails_init cTails_init kTails_init
  have bTails_init := FTails_init.binds (ps := ["self", "rule", "row"]) fun _ _ _ _ _ _ us hl => match us, hl with | [_, _, _], _ => rfl
  have DTails_init : InitAt A.K mg "Tails" A.Tails "Tails.__init__" s_Tails_init ["self", "rule", "row"] [] := ⟨_, _, [], FTails_init, ⟨mkTails, aTails_init, iTails_init, kcTails⟩, PySem.W.mg_of X G aCTails, .nil, bTails_init, bTails_init⟩
  have FLaying_init : FunD K "__init__" "Laying.__init__" (defArgs s_Laying_init) (defBody s_Laying_init) (defScope s_Laying_init) [.str ""] [] fLaying_init _ := ⟨⟨ocLaying_init, odLaying_init, .ref TLaying_init, kVLaying_init, dcLaying_init, pmLaying_init, anLaying_init, cdLaying_init, ctLaying_init, slLaying_init, rfl, lLaying_init, cLaying_init, .inr ⟨by simp, TLaying_init, _, [.str "" tkT], nT, rfl, lT, rfl, .cons ⟨tkT, rfl⟩ .nil⟩, .inl rfl⟩, kLaying_init⟩
  have B1Laying_init := FLaying_init.binds1 (ps := ["self", "rule", "row"]) 3 1 (by simp) rfl fun _ _ _ _ _ _ _ us its hl h2 => match us, hl, its, h2 with | [_, _, _], _, [_], _ => ⟨_, rfl, rfl⟩
  have B2Laying_init := FLaying_init.binds1 (ps := ["self", "rule", "row"]) 2 0 (by simp) rfl fun _ _ _ _ _ _ _ us its hl h2 => match us, hl, its, h2 with | [_, _], _, [_], _ => ⟨_, rfl, rfl⟩
  obtain ⟨ds1, v1, b1⟩ := B1Laying_init
  cases v1
  obtain ⟨ds2, v2, b2⟩ := B2Laying_init
  have DLaying_init : InitAtD A.K mg "Laying" A.Laying "Laying.__init__" s_Laying_init ["self", "rule", "row"] [.str ""] := ⟨_, _, ds2, FLaying_init, ⟨mkLaying, aLaying_init, iLaying_init, kcLaying⟩, PySem.W.mg_of X G aCLaying, v2, b1, b2⟩
  have FLaying_lay := fun_mk (st := s_Laying_lay) lLaying_lay cLaying_lay kLaying_lay
  have bLaying_lay := FLaying_lay.binds (ps := ["self", "row"]) fun _ _ _ _ _ _ us hl => match us, hl with | [_, _], _ => rfl
  have DLaying_lay : MethAt A.K A.Laying "lay" "Laying.lay" s_Laying_lay ["self", "row"] [] := ⟨_, _, [], FLaying_lay, ⟨aLaying_lay, iLaying_lay, kLaying_lay⟩, .nil, bLaying_lay, bLaying_lay⟩
  have FLaying_undo := fun_mk (st := s_Laying_undo) lLaying_undo cLaying_undo kLaying_undo
  have bLaying_undo := FLaying_undo.binds (ps := ["self"]) fun _ _ _ _ _ _ us hl => match us, hl with | [_], _ => rfl
  have DLaying_undo : MethAt A.K A.Laying "undo" "Laying.undo" s_Laying_undo ["self"] [] := ⟨_, _, [], FLaying_undo, ⟨aLaying_undo, iLaying_undo, kLaying_undo⟩, .nil, bLaying_undo, bLaying_undo⟩
  have FLaying_layers := fun_mk (st := s_Laying_layers) lLaying_layers cLaying_layers kLaying_layers
  have bLaying_layers := FLaying_layers.binds (ps := ["self", "places"]) fun _ _ _ _ _ _ us hl => match us, hl with | [_, _], _ => rfl
  have DLaying_layers : MethAt A.K A.Laying "layers" "Laying.layers" s_Laying_layers ["self", "places"] [] := ⟨_, _, [], FLaying_layers, ⟨aLaying_layers, iLaying_layers, kLaying_layers⟩, .nil, bLaying_layers, bLaying_layers⟩
  have FLaying_best := fun_mk (st := s_Laying_best) lLaying_best cLaying_best kLaying_best
  have bLaying_best := FLaying_best.binds (ps := ["self", "places"]) fun _ _ _ _ _ _ us hl => match us, hl with | [_, _], _ => rfl
  have DLaying_best : MethAt A.K A.Laying "best" "Laying.best" s_Laying_best ["self", "places"] [] := ⟨_, _, [], FLaying_best, ⟨aLaying_best, iLaying_best, kLaying_best⟩, .nil, bLaying_best, bLaying_best⟩
  have FLaying_best_end := fun_mk (st := s_Laying_best_end) lLaying_best_end cLaying_best_end kLaying_best_end
  have bLaying_best_end := FLaying_best_end.binds (ps := ["self", "places"]) fun _ _ _ _ _ _ us hl => match us, hl with | [_, _], _ => rfl
  have DLaying_best_end : MethAt A.K A.Laying "best_end" "Laying.best_end" s_Laying_best_end ["self", "places"] [] := ⟨_, _, [], FLaying_best_end, ⟨aLaying_best_end, iLaying_best_end, kLaying_best_end⟩, .nil, bLaying_best_end, bLaying_best_end⟩
  have FLaying_row := fun_mk (st := s_Laying_row) lLaying_row cLaying_row kLaying_row
  have DLaying_row : PropAt A.K A.Laying "row" "Laying.row" s_Laying_row := ⟨_, _, _, FLaying_row, ⟨aLaying_row, gLaying_row, tLaying_row, _, rLaying_row⟩, FLaying_row.binds (ps := ["self"]) fun _ _ _ _ _ _ us hl => match us, hl with | [_], _ => rfl⟩
  have FLaying_worth := fun_mk (st := s_Laying_worth) lLaying_worth cLaying_worth kLaying_worth
  have DLaying_worth : PropAt A.K A.Laying "worth" "Laying.worth" s_Laying_worth := ⟨_, _, _, FLaying_worth, ⟨aLaying_worth, gLaying_worth, tLaying_worth, _, rLaying_worth⟩, FLaying_worth.binds (ps := ["self"]) fun _ _ _ _ _ _ us hl => match us, hl with | [_], _ => rfl⟩
  refine ⟨PySem.W.fnOf "law" "law" (defArgs s_Llaw) (defBody s_Llaw) (defScope s_Llaw) .none kVLlaw dcLlaw pmLlaw anLlaw cdLlaw ctLlaw, fun s v => .of_eq rfl, fun base _ _ => ?_⟩
  have eis_integer := k_is_integer (prog := l.prog) (w := w) (mg := mg) (base := base) (A := A) B Dis_integer
  have eis_rising := k_is_rising (prog := l.prog) (w := w) (mg := mg) (base := base) (A := A) B Dis_rising
  have eis_kind_word := k_is_kind_word (prog := l.prog) (w := w) (mg := mg) (base := base) (A := A) B K_LETTERS K_DIGITS Dis_kind_word
  have eis_bar := k_is_bar (prog := l.prog) (w := w) (mg := mg) (base := base) (A := A) B K_DISTANCES Dis_bar
  have ewords_behind := k_words_behind (prog := l.prog) (w := w) (mg := mg) (base := base) (A := A) Dwords_behind
  have echeck_rule := k_check_rule (prog := l.prog) (w := w) (mg := mg) (base := base) (A := A) B I gR Dcheck_rule
  have eis_row := k_is_row (prog := l.prog) (w := w) (mg := mg) (base := base) (A := A) T B Dis_row
  have efits := k_fits (prog := l.prog) (w := w) (mg := mg) (base := base) (A := A) T B Dfits
  have eis_kept := k_is_kept (prog := l.prog) (w := w) (mg := mg) (base := base) (A := A) T B Dis_kept
  have eworth_in := k_worth_in (prog := l.prog) (w := w) (mg := mg) (base := base) (A := A) T B Dworth_in
  have eLwell := k_Lwell (prog := l.prog) (w := w) (mg := mg) (base := base) (A := A) B DLwell
  have eLcup := k_Lcup (prog := l.prog) (w := w) (mg := mg) (base := base) (A := A) B DLcup
  have eLtext := k_Ltext (prog := l.prog) (w := w) (mg := mg) (base := base) (A := A) B DLtext
  have eLfits := k_Lfits (prog := l.prog) (w := w) (mg := mg) (base := base) (A := A) B DLfits
  have eLworth := k_Lworth (prog := l.prog) (w := w) (mg := mg) (base := base) (A := A) B DLworth
  have eLaying_undo := k_Laying_undo (prog := l.prog) (w := w) (mg := mg) (base := base) (A := A) TL B DLaying_undo
  have eLaying_row := k_Laying_row (prog := l.prog) (w := w) (mg := mg) (base := base) (A := A) TL DLaying_row
  have eis_between := k_is_between (prog := l.prog) (w := w) (mg := mg) (base := base) (A := A) Dis_between eis_integer
  have eread_kinds := k_read_kinds (prog := l.prog) (w := w) (mg := mg) (base := base) (A := A) B K_MOST_KINDS Dread_kinds eis_rising eis_kind_word ewords_behind
  have eread_bars := k_read_bars (prog := l.prog) (w := w) (mg := mg) (base := base) (A := A) B K_MOST_BARS Dread_bars eis_rising eis_bar ewords_behind
  have echeck_row := k_check_row (prog := l.prog) (w := w) (mg := mg) (base := base) (A := A) T B K_MOST_PLACES Dcheck_row eis_row
  have enext_rows := k_next_rows (prog := l.prog) (w := w) (mg := mg) (base := base) (A := A) T B Dnext_rows efits
  have erows_with := k_rows_with (prog := l.prog) (w := w) (mg := mg) (base := base) (A := A) T B Drows_with efits
  have eLspec := k_Lspec (prog := l.prog) (w := w) (mg := mg) (base := base) (A := A) B DLspec eLcup
  have eLkept := k_Lkept (prog := l.prog) (w := w) (mg := mg) (base := base) (A := A) B DLkept eLfits
  have eLdrawn_row := k_Ldrawn_row (prog := l.prog) (w := w) (mg := mg) (base := base) (A := A) B DLdrawn_row eLfits eLcup
  have eLaying_worth := k_Laying_worth (prog := l.prog) (w := w) (mg := mg) (base := base) (A := A) TL DLaying_worth eworth_in
  have echeck_number := k_check_number (prog := l.prog) (w := w) (mg := mg) (base := base) (A := A) Dcheck_number eis_between
  have eread_text := k_read_text (prog := l.prog) (w := w) (mg := mg) (base := base) (A := A) B Dread_text eread_kinds eread_bars
  have eTails_init := k_Tails_init (prog := l.prog) (w := w) (mg := mg) (base := base) (A := A) TT T B DTails_init enext_rows
  have eLaying_init := k_Laying_init (prog := l.prog) (w := w) (mg := mg) (base := base) (A := A) TL T K_MOST_WINDOWS DLaying_init echeck_rule echeck_row eis_kept erows_with
  have eLaying_lay := k_Laying_lay (prog := l.prog) (w := w) (mg := mg) (base := base) (A := A) TL B K_MOST_PLACES DLaying_lay echeck_row eis_kept
  have eRule_init := k_Rule_init (prog := l.prog) (w := w) (mg := mg) (base := base) (A := A) T B DRule_init eread_text
  have eLaying_layers := k_Laying_layers (prog := l.prog) (w := w) (mg := mg) (base := base) (A := A) TL TT T B DLaying_layers eTails_init
  have eLmade := k_Lmade (prog := l.prog) (w := w) (mg := mg) (base := base) (A := A) DLmade eLtext eRule_init
  have eLaying_best := k_Laying_best (prog := l.prog) (w := w) (mg := mg) (base := base) (A := A) TL B K_MOST_MORE DLaying_best eLaying_layers echeck_number
  have eLaying_best_end := k_Laying_best_end (prog := l.prog) (w := w) (mg := mg) (base := base) (A := A) TL B K_MOST_MORE DLaying_best_end eLaying_layers echeck_number
  have kwBest : CalleeK l.prog w A.K mg base A.Laying "best_end" ["self", "places"] ["places"] 6 (sp_Laying_best_end A) := by
    refine ⟨_, _, ok_Laying_best_end (prog := l.prog) (w := w) (mg := mg) (base := base) (A := A) TL B K_MOST_MORE FLaying_best_end eLaying_layers echeck_number, ⟨aLaying_best_end, iLaying_best_end, kLaying_best_end⟩, ⟨fun s us ws _ h1 h2 => match us, h1, ws, h2 with | [_], _, [_], _ => .of_eq rfl, fun r1 r2 => r1.append r2⟩⟩
  have eLone_right := k_Lone_right (prog := l.prog) (w := w) (mg := mg) (base := base) (A := A) TL B DLone_right eLaying_row eLaying_worth eLaying_best eLaying_best_end kwBest eLaying_lay eLaying_undo eLkept eLworth
  have eLright := k_Lright (prog := l.prog) (w := w) (mg := mg) (base := base) (A := A) TL B DLright eLcup eLone_right eLdrawn_row eLaying_init eLmade eLspec
  exact ok_Llaw (prog := l.prog) (w := w) (mg := mg) (base := base) (A := A) B FLlaw eLwell eLright
theorem walk {l : PySem.W.OpenLaw} {q : Program} {loose : List Str} {XP : (Str → Option Value) → Heap → Prop} {YP : World → Heap → Prop} {d : DefRec} {K : Params → PySem.W.Frag} (hn : l.most = some 63) (hdf : d.params.defaults = [])
    (hY : ∀ (w : World) (h : Heap), YP w h → (K w.params).In h)
    (F : ∀ (w : World) (mg : Str → Option Value) (fa : Addr) (h : Heap), (K w.params).In h → h.Ns mainGlobals mg → mg d.name = some (.ref fa) →
      ∃ fd : FuncData, (∀ (s : Shared) (u : Value), BindsTo s fd ⟨[u], []⟩ [("_law_cells", u)]) ∧ ∀ base : Heap, (K w.params).In base → base.Ns mainGlobals mg → FnOk l.prog w (K w.params) mg base CX0 9 fa fd ["_law_cells"] (spLaw { K := K w.params })) :
    PySem.W.WalkO q loose XP YP l.row.toRowW d [] (fun f vs => PySem.call f vs) :=
  L2.walk_of (n := 63) (k := 9) (x := "_law_cells") (CX := fun _ => CX0) (sp := fun w => spLaw { K := K w.params }) hn (by decide) hdf ⟨rfl, by decide, by decide⟩ hY F (fun _ _ a ns hl _ hS => ⟨a, ns, rfl, hS, hl, fun _ => rfl⟩) fun _ _ _ _ _ z => z
end GK

open PySem PySem.W PyProof.Rows in
set_option maxRecDepth 100000 in
set_option maxHeartbeats 0 in
theorem PySem.Challenge.cw_gapkinds_k74_best_rows_judged_holds : PySem.Challenge.rw_gapkinds_k74_best_rows_judged.Holds := by
  w_on; o_law; k_head; (case hw => w_witness2)
  k_fill
  refine GK.walk (l := PySem.Challenge.rw_gapkinds_k74_best_rows_judged) rfl rfl (fun w h Y => PySem.W.kIn_of Y) ?F
  case F =>
    intro w mg fa h KX G hmg
    refine' GK.all_mk KX G hmg ?ais_integer ?lis_integer ?cis_integer ?kis_integer ?ais_between ?lis_between ?cis_between ?kis_between ?acheck_number ?lcheck_number ?ccheck_number ?kcheck_number ?ais_rising ?lis_rising ?cis_rising ?kis_rising ?ais_kind_word ?lis_kind_word ?cis_kind_word ?kis_kind_word ?ais_bar ?lis_bar ?cis_bar ?kis_bar ?awords_behind ?lwords_behind ?cwords_behind ?kwords_behind ?aread_kinds ?lread_kinds ?cread_kinds ?kread_kinds ?aread_bars ?lread_bars ?cread_bars ?kread_bars ?aread_text ?lread_text ?cread_text ?kread_text ?acheck_rule ?lcheck_rule ?ccheck_rule ?kcheck_rule ?ais_row ?lis_row ?cis_row ?kis_row ?acheck_row ?lcheck_row ?ccheck_row ?kcheck_row ?afits ?lfits ?cfits ?kfits ?ais_kept ?lis_kept ?cis_kept ?kis_kept ?aworth_in ?lworth_in ?cworth_in ?kworth_in ?anext_rows ?lnext_rows ?cnext_rows ?knext_rows ?arows_with ?lrows_with ?crows_with ?krows_with ?aLwell ?lLwell ?cLwell ?kLwell ?aLcup ?lLcup ?cLcup ?kLcup ?aLspec ?lLspec ?cLspec ?kLspec ?aLtext ?lLtext ?cLtext ?kLtext ?aLmade ?lLmade ?cLmade ?kLmade ?aLfits ?lLfits ?cLfits ?kLfits ?aLkept ?lLkept ?cLkept ?kLkept ?aLworth ?lLworth ?cLworth ?kLworth ?aLdrawn_row ?lLdrawn_row ?cLdrawn_row ?kLdrawn_row ?aLone_right ?lLone_right ?cLone_right ?kLone_right ?aLright ?lLright ?cLright ?kLright ?aLlaw ?lLlaw ?cLlaw ?kLlaw ?aCRule ?pgRule ?hdRule ?poRule ?saRule ?mkRule ?kcRule ?nRule_text ?nRule_kinds ?nRule_worths ?nRule_bars ?nRule_triples ?nRule_reach ?nRule_worth_of ?nRule_behind ?aCTails ?pgTails ?hdTails ?poTails ?saTails ?mkTails ?kcTails ?nTails_tails ?nTails_edges ?nTails_many ?aCLaying ?pgLaying ?hdLaying ?poLaying ?saLaying ?mkLaying ?kcLaying ?nLaying_rule ?nLaying_past ?aRule_init ?iRule_init ?lRule_init ?cRule_init ?kRule_init ?aTails_init ?iTails_init ?lTails_init ?cTails_init ?kTails_init ?aLaying_init ?iLaying_init ?lLaying_init ?cLaying_init ?kLaying_init ?lT ?aLaying_lay ?iLaying_lay ?lLaying_lay ?cLaying_lay ?kLaying_lay ?aLaying_undo ?iLaying_undo ?lLaying_undo ?cLaying_undo ?kLaying_undo ?aLaying_layers ?iLaying_layers ?lLaying_layers ?cLaying_layers ?kLaying_layers ?aLaying_best ?iLaying_best ?lLaying_best ?cLaying_best ?kLaying_best ?aLaying_best_end ?iLaying_best_end ?lLaying_best_end ?cLaying_best_end ?kLaying_best_end ?aLaying_row ?gLaying_row ?tLaying_row ?rLaying_row ?lLaying_row ?cLaying_row ?kLaying_row ?aLaying_worth ?gLaying_worth ?tLaying_worth ?rLaying_worth ?lLaying_worth ?cLaying_worth ?kLaying_worth ?ha ?hn ?htk ?hmr ?qMOST_KINDS ?qMOST_BARS ?qMOST_PLACES ?qMOST_WINDOWS ?qMOST_MORE ?qLETTERS ?qDIGITS ?qDISTANCES ?zlen ?zrange ?zall ?zany ?zsum ?zmax ?zmin ?zabs ?zdivmod ?zsorted ?zisinstance ?zint ?zstr ?zbool ?ztuple ?zlist ?zdict ?zzip ?zenumerate
    (case ais_integer => k_is)
    (case lis_integer => k_is)
    (case cis_integer => k_is)
    (case kis_integer => k_is)
    (case ais_between => k_is)
    (case lis_between => k_is)
    (case cis_between => k_is)
    (case kis_between => k_is)
    (case acheck_number => k_is)
    (case lcheck_number => k_is)
    (case ccheck_number => k_is)
    (case kcheck_number => k_is)
    (case ais_rising => k_is)
    (case lis_rising => k_is)
    (case cis_rising => k_is)
    (case kis_rising => k_is)
    (case ais_kind_word => k_is)
    (case lis_kind_word => k_is)
    (case cis_kind_word => k_is)
    (case kis_kind_word => k_is)
    (case ais_bar => k_is)
    (case lis_bar => k_is)
    (case cis_bar => k_is)
    (case kis_bar => k_is)
    (case awords_behind => k_is)
    (case lwords_behind => k_is)
    (case cwords_behind => k_is)
    (case kwords_behind => k_is)
    (case aread_kinds => k_is)
    (case lread_kinds => k_is)
    (case cread_kinds => k_is)
    (case kread_kinds => k_is)
    (case aread_bars => k_is)
    (case lread_bars => k_is)
    (case cread_bars => k_is)
    (case kread_bars => k_is)
    (case aread_text => k_is)
    (case lread_text => k_is)
    (case cread_text => k_is)
    (case kread_text => k_is)
    (case acheck_rule => k_is)
    (case lcheck_rule => k_is)
    (case ccheck_rule => k_is)
    (case kcheck_rule => k_is)
    (case ais_row => k_is)
    (case lis_row => k_is)
    (case cis_row => k_is)
    (case kis_row => k_is)
    (case acheck_row => k_is)
    (case lcheck_row => k_is)
    (case ccheck_row => k_is)
    (case kcheck_row => k_is)
    (case afits => k_is)
    (case lfits => k_is)
    (case cfits => k_is)
    (case kfits => k_is)
    (case ais_kept => k_is)
    (case lis_kept => k_is)
    (case cis_kept => k_is)
    (case kis_kept => k_is)
    (case aworth_in => k_is)
    (case lworth_in => k_is)
    (case cworth_in => k_is)
    (case kworth_in => k_is)
    (case anext_rows => k_is)
    (case lnext_rows => k_is)
    (case cnext_rows => k_is)
    (case knext_rows => k_is)
    (case arows_with => k_is)
    (case lrows_with => k_is)
    (case crows_with => k_is)
    (case krows_with => k_is)
    (case aLwell => k_is)
    (case lLwell => k_is)
    (case cLwell => k_is)
    (case kLwell => k_is)
    (case aLcup => k_is)
    (case lLcup => k_is)
    (case cLcup => k_is)
    (case kLcup => k_is)
    (case aLspec => k_is)
    (case lLspec => k_is)
    (case cLspec => k_is)
    (case kLspec => k_is)
    (case aLtext => k_is)
    (case lLtext => k_is)
    (case cLtext => k_is)
    (case kLtext => k_is)
    (case aLmade => k_is)
    (case lLmade => k_is)
    (case cLmade => k_is)
    (case kLmade => k_is)
    (case aLfits => k_is)
    (case lLfits => k_is)
    (case cLfits => k_is)
    (case kLfits => k_is)
    (case aLkept => k_is)
    (case lLkept => k_is)
    (case cLkept => k_is)
    (case kLkept => k_is)
    (case aLworth => k_is)
    (case lLworth => k_is)
    (case cLworth => k_is)
    (case kLworth => k_is)
    (case aLdrawn_row => k_is)
    (case lLdrawn_row => k_is)
    (case cLdrawn_row => k_is)
    (case kLdrawn_row => k_is)
    (case aLone_right => k_is)
    (case lLone_right => k_is)
    (case cLone_right => k_is)
    (case kLone_right => k_is)
    (case aLright => k_is)
    (case lLright => k_is)
    (case cLright => k_is)
    (case kLright => k_is)
    (case aLlaw => k_is)
    (case lLlaw => k_is)
    (case cLlaw => k_is)
    (case kLlaw => k_is)
    (case aCRule => k_is)
    (case pgRule => k_is)
    (case hdRule => k_is)
    (case poRule => k_is)
    (case saRule => k_is)
    (case mkRule => k_is)
    (case kcRule => k_is)
    (case nRule_text => k_is)
    (case nRule_kinds => k_is)
    (case nRule_worths => k_is)
    (case nRule_bars => k_is)
    (case nRule_triples => k_is)
    (case nRule_reach => k_is)
    (case nRule_worth_of => k_is)
    (case nRule_behind => k_is)
    (case aCTails => k_is)
    (case pgTails => k_is)
    (case hdTails => k_is)
    (case poTails => k_is)
    (case saTails => k_is)
    (case mkTails => k_is)
    (case kcTails => k_is)
    (case nTails_tails => k_is)
    (case nTails_edges => k_is)
    (case nTails_many => k_is)
    (case aCLaying => k_is)
    (case pgLaying => k_is)
    (case hdLaying => k_is)
    (case poLaying => k_is)
    (case saLaying => k_is)
    (case mkLaying => k_is)
    (case kcLaying => k_is)
    (case nLaying_rule => k_is)
    (case nLaying_past => k_is)
    (case aRule_init => k_is)
    (case iRule_init => k_is)
    (case lRule_init => k_is)
    (case cRule_init => k_is)
    (case kRule_init => k_is)
    (case aTails_init => k_is)
    (case iTails_init => k_is)
    (case lTails_init => k_is)
    (case cTails_init => k_is)
    (case kTails_init => k_is)
    (case aLaying_init => k_is)
    (case iLaying_init => k_is)
    (case lLaying_init => k_is)
    (case cLaying_init => k_is)
    (case kLaying_init => k_is)
    (case lT => k_is)
    (case aLaying_lay => k_is)
    (case iLaying_lay => k_is)
    (case lLaying_lay => k_is)
    (case cLaying_lay => k_is)
    (case kLaying_lay => k_is)
    (case aLaying_undo => k_is)
    (case iLaying_undo => k_is)
    (case lLaying_undo => k_is)
    (case cLaying_undo => k_is)
    (case kLaying_undo => k_is)
    (case aLaying_layers => k_is)
    (case iLaying_layers => k_is)
    (case lLaying_layers => k_is)
    (case cLaying_layers => k_is)
    (case kLaying_layers => k_is)
    (case aLaying_best => k_is)
    (case iLaying_best => k_is)
    (case lLaying_best => k_is)
    (case cLaying_best => k_is)
    (case kLaying_best => k_is)
    (case aLaying_best_end => k_is)
    (case iLaying_best_end => k_is)
    (case lLaying_best_end => k_is)
    (case cLaying_best_end => k_is)
    (case kLaying_best_end => k_is)
    (case aLaying_row => k_is)
    (case gLaying_row => k_is)
    (case tLaying_row => k_is)
    (case rLaying_row => k_is)
    (case lLaying_row => k_is)
    (case cLaying_row => k_is)
    (case kLaying_row => k_is)
    (case aLaying_worth => k_is)
    (case gLaying_worth => k_is)
    (case tLaying_worth => k_is)
    (case rLaying_worth => k_is)
    (case lLaying_worth => k_is)
    (case cLaying_worth => k_is)
    (case kLaying_worth => k_is)
    (case ha => k_is)
    (case hn => k_is)
    (case htk => k_is)
    (case hmr => k_is)
    (case qMOST_KINDS => k_is)
    (case qMOST_BARS => k_is)
    (case qMOST_PLACES => k_is)
    (case qMOST_WINDOWS => k_is)
    (case qMOST_MORE => k_is)
    (case qLETTERS => k_is)
    (case qDIGITS => k_is)
    (case qDISTANCES => k_is)
    (case zlen => k_is)
    (case zrange => k_is)
    (case zall => k_is)
    (case zany => k_is)
    (case zsum => k_is)
    (case zmax => k_is)
    (case zmin => k_is)
    (case zabs => k_is)
    (case zdivmod => k_is)
    (case zsorted => k_is)
    (case zisinstance => k_is)
    (case zint => k_is)
    (case zstr => k_is)
    (case zbool => k_is)
    (case ztuple => k_is)
    (case zlist => k_is)
    (case zdict => k_is)
    (case zzip => k_is)
    (case zenumerate => k_is)
