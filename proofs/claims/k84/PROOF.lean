import PyProof.Rows.All
import Wide.All
import OpenK.AllK
import Wide.FinOn
import HandS.ForMost
import HandS.Deep
import HandS.Exc
import HandS.WordsExc
import HandS.TupAny
import HandS.TupMul
import HandS.TupLe
import HandS.Wide
import HandS.WideBits
import HandS.Gcd
import KE.SortData
import KE.DataIsa
import KE.LtData
import PyProof.ReprRoads
import PyProof.P3In
import KE.GoesNew
import HandS.Zip
import PyProof.SeqIndex
import KE.KIndexOf
import HandS.Ends
import HandS.Defaults
import HandS.HeadEnd
import HandS.SetFor
import HandS.Set
import KE.DataMinMax
import KE.KRevSl
import HandS.Style
import HandS.Words
import HandS.Conv
import KE.KStateDown
import Lean
import HandS.Base
import HandS.Call
import HandS.More
import HandS.Head0
import HandS.Head1
import HandS.Head2
import HandS.HeadHook1
import HandS.HeadHook2
import PySem.Challenge.RW_asktell_k84_whole_envies_and_ways
set_option Elab.async false
set_option linter.all false
set_option maxRecDepth 100000
set_option maxHeartbeats 2000000
/-! EvA: a small pure language over PyData: its states and its monad. -/
namespace Ev
open PySem PySem.Spec L2

/-- what an expression gives: the datum; fr: it is a list that nobody else holds -/
structure RV where
  d : PyData
  fr : Bool

/-- a slot: nothing, a datum, a list of one's own (b: lent by the caller) -/
inductive Sl where
  | un
  | vl (d : PyData)
  | ow (b : Bool) (ds : List PyData)
abbrev En := List Sl

structure Exn where
  name : Str
  arg : PyData

inductive Rs (α : Type) where
  | ok (a : α) (e : En)
  | ex (x : Exn) (e : En)

def M (α : Type) := En → Option (Rs α)
def M.ret {α : Type} (a : α) : M α := fun e => some (.ok a e)
def M.bnd {α β : Type} (m : M α) (f : α → M β) : M β := fun e => match m e with
  | none => none
  | some (.ok a e') => f a e'
  | some (.ex x e') => some (.ex x e')
instance : Monad M where
  pure := M.ret
  bind := M.bnd

/-- it runs and ends so, or raises so -/
def Ok {α : Type} (m : M α) (e : En) (P : α → En → Prop) (W : Exn → En → Prop) : Prop := match m e with
  | none => False
  | some (.ok a e') => P a e'
  | some (.ex x e') => W x e'

section
variable {α β : Type} {m : M α} {f : α → M β} {e : En} {P P' : α → En → Prop} {W W' : Exn → En → Prop}
theorem Ok.imp (h : Ok m e P W) (hp : ∀ a e', P a e' → P' a e') (hw : ∀ x e', W x e' → W' x e') : Ok m e P' W' := by
  unfold Ok at h ⊢
  split at h
  · exact h.elim
  · exact hp _ _ h
  · exact hw _ _ h
theorem ok_bind {Q : β → En → Prop} : Ok (m >>= f) e Q W ↔ Ok m e (fun a e' => Ok (f a) e' Q W) W := by
  show Ok (M.bnd m f) e Q W ↔ _
  unfold Ok M.bnd
  cases m e with
  | none => simp
  | some r => cases r <;> simp
theorem ok_pure {a : α} : Ok (pure a : M α) e P W ↔ P a e := Iff.rfl
end

def liftO {α : Type} (o : Option α) : M α := fun e => o.map fun a => .ok a e
theorem ok_liftO {α : Type} {o : Option α} {e : En} {P : α → En → Prop} {W : Exn → En → Prop} : Ok (liftO o) e P W ↔ ∃ a, o = some a ∧ P a e := by
  unfold Ok liftO
  cases o <;> simp

/-- an operand: a slot, or a datum -/
inductive OV where
  | sl (i : Nat)
  | vl (d : PyData)
@[simp] def slotD (e : En) (i : Nat) : Option PyData := match e[i]? with
  | some (.vl d) => some d
  | some (.ow _ ds) => some (.list ds)
  | _ => none
def derS (i : Nat) : M PyData := fun e => (slotD e i).map fun d => .ok d e
theorem ok_derS {i : Nat} {e : En} {P : PyData → En → Prop} {W : Exn → En → Prop} : Ok (derS i) e P W ↔ ∃ a, slotD e i = some a ∧ P a e := by
  unfold Ok derS
  cases slotD e i <;> simp
def der : OV → M PyData
  | .vl d => pure d
  | .sl i => derS i
@[simp] def ders : List OV → M (List PyData)
  | [] => pure []
  | o :: os => do
    let d ← der o
    let ds ← ders os
    pure (d :: ds)

/-- a name read as a value: a list of one's own is given away -/
def readV (i : Nat) : M RV := fun e => match e[i]? with
  | some (.vl d) => some (.ok ⟨d, false⟩ e)
  | some (.ow false ds) => some (.ok ⟨.list ds, false⟩ (e.set i (.vl (.list ds))))
  | _ => none
/-- a name as an operand: it is not given away -/
def readO (i : Nat) : M OV := fun e => match e[i]? with
  | some (.vl d) => some (.ok (.vl d) e)
  | some (.ow _ _) => some (.ok (.sl i) e)
  | _ => none
@[simp] def toO (m : M RV) : M OV := do
  let r ← m
  pure (.vl r.d)
/-- a name returned: a list of one's own goes with it -/
def readR (i : Nat) : M RV := fun e => match e[i]? with
  | some (.vl d) => some (.ok ⟨d, false⟩ e)
  | some (.ow false ds) => some (.ok ⟨.list ds, true⟩ (e.set i .un))
  | _ => none
/-- what raises is stuck -/
def noX {α : Type} (m : M α) : M α := fun e => match m e with
  | some (.ok a e') => some (.ok a e')
  | _ => none
theorem ok_noX {α : Type} {m : M α} {e : En} {P : α → En → Prop} {W W' : Exn → En → Prop} (h : Ok (noX m) e P W) : Ok m e P W' := by
  unfold Ok noX at *
  cases q : m e with
  | none => rw [q] at h; exact h
  | some r =>
    rw [q] at h
    cases r with
    | ok a e' => exact h
    | ex x e' => exact h.elim

/-- a slot is stored -/
def Sl.of (r : RV) : Sl := match r.fr, r.d with
  | true, .list ds => .ow false ds
  | _, d => .vl d
def store (i : Nat) (r : RV) : M Unit := fun e => if i < e.length then some (.ok () (e.set i (.of r))) else none
def wipeE (e : En) : List Nat → En
  | [] => e
  | v :: vs => (wipeE e vs).set v .un
def backE (e0 e1 : En) : List Nat → En
  | [] => e1
  | v :: vs => (backE e0 e1 vs).set v (e0.getD v .un)

@[simp] def isB : PyData → Option Bool
  | .bool b => some b
  | _ => none
@[simp] def asB (m : M RV) : M Bool := do
  let r ← m
  liftO (isB r.d)
end Ev

set_option Elab.async false
set_option linter.all false
set_option maxRecDepth 100000
set_option maxHeartbeats 2000000
/-! EvT: new tuples, known as objects without a dict of their own. -/
namespace Ev
open PySem PySem.Spec L2
/-- a tuple at a whose object bears no dict -/
def TupR (K : PySem.W.Frag) (H : Hp) (a : Addr) (xs : List V) : Prop := (∃ o : Obj, H a = some (.frz o (.tup xs)) ∧ o.dict = none) ∨
  ∃ (o : Obj) (its : Array Value) (n : Nat), K.lookup a = some o ∧ o.cls = .type "tuple" ∧ o.dict = none ∧ o.data = .seq its n ∧ its.size ≤ sizeLine ∧ Vals xs its.toList
theorem TupR.sqT {K : PySem.W.Frag} {H : Hp} {a : Addr} {xs : List V} (h : TupR K H a xs) : SqT K H a xs := by
  rcases h with ⟨o, h, _⟩ | ⟨o, its, n, h1, h2, _, h3, h4, h5⟩
  · exact .inl (.inr ⟨o, h⟩)
  · exact .inr ⟨o, its, n, h1, h2, h3, h4, h5⟩
theorem TupR.same {K : PySem.W.Frag} {H H' : Hp} {a : Addr} {xs : List V} (e : Same H H') (h : TupR K H a xs) : TupR K H' a xs := by
  rcases h with ⟨o, h, d⟩ | h
  · exact .inl ⟨o, e _ _ h, d⟩
  · exact .inr h
/-- what a rule that makes a tuple of vs hands on -/
def NewT (vs : List V) (H : Hp) (Q : VK) : Prop := ∀ (p : Addr) (o : Obj), H p = none → o.dict = none → Q (.ref p) (upd H p (.frz o (.tup vs)))
section
variable {X : Cx} {pins : List (Addr × Obj)} {σ : St} {H : Hp} {s : Shared}
/-- a tuple object pushed -/
theorem newT (I : Inv X pins σ H s) {vs : List V} {us : List Value} {t : Nat} {Q : VK} (r : Vals vs us) (z : vs.length ≤ sizeLine) (q : NewT vs H Q) :
    EP X pins σ Q (.ref s.heap.objs.size) { s with heap := s.heap.push { cls := .type "tuple", data := .seq us.toArray }, toks := t } := by
  have hn : H s.heap.objs.size = none := I.hok.fresh (Nat.le_refl _)
  have e := Heap.get?_push_size s.heap (o := { cls := .type "tuple", data := .seq us.toArray }) rfl
  refine ⟨.ref s.heap.objs.size, _, I.laid (t' := t) (o := .frz { cls := .type "tuple", data := .seq us.toArray } (.tup vs)) (fun b ob q => Heap.get?_push_of_some _ q) (Nat.le_refl _) ⟨e, z, us, r, ⟨_, e, rfl, 0, rfl⟩⟩, rfl, q _ _ hn rfl⟩
/-- (a, b, ..) -/
def tTupZ (t : TA) : TE := fun σ H Q => t σ H fun xs H1 => xs.length ≤ sizeLine ∧ NewT xs H1 Q
theorem pe_tupZ {es : List Expr} {t : TA} {pos : Pos} {k : Nat} (h : PA X es t) : PE X (.Tuple es k pos) (tTupZ t) := by
  refine ⟨fun pins s σ H Q I hq => ?_⟩
  refine wpAny_Tuple_spliced (thn (h.run pos pins s σ H _ I hq) fun us s1 ⟨xs, H1, I1, r, z, q⟩ => ⟨?_, ?_⟩)
  · rw [← r.length]; exact z
  · exact newT (t := s1.toks) I1 r z q
/-- tuple(x) -/
def rTupleZ (K : PySem.W.Frag) : List V → Hp → VK → Prop := fun xs H Q => ∃ p ys, xs = [.ref p] ∧ ((SqL K H p ys ∧ NewT ys H Q) ∨ (SqT K H p ys ∧ Q (.ref p) H))
theorem cr_tupleZ : CallR X (.type "tuple") (rTupleZ X.K) := by
  intro pins s σ H xs us Q I r ⟨p, ys, ex, h⟩
  subst ex
  rw [Vals.ref1 r]
  rcases h with ⟨hq, q⟩ | ⟨hq, q⟩
  · obtain ⟨its, r', pl, hz⟩ := I.list hq
    have hl := r'.length
    refine call_tuple_list pl.isList (fun h' kp => ?_) (by simp only [List.size_toArray]; omega)
    exact newT (t := s.toks) (I.kept (t' := s.toks) kp) r' hz q
  · obtain ⟨its, r', pl, hz⟩ := I.tuple hq
    exact call_tuple_same pl ⟨.ref p, H, I, rfl, q⟩
/-- t + u -/
def rCatZ (K : PySem.W.Frag) : R2 := fun x y H Q => ∃ a b xs ys, x = .ref a ∧ y = .ref b ∧ SqT K H a xs ∧ SqT K H b ys ∧ xs.length + ys.length ≤ sizeLine ∧
  (xs = [] → Q (.ref b) H) ∧ (xs ≠ [] → ys = [] → Q (.ref a) H) ∧ (xs ≠ [] → ys ≠ [] → NewT (xs ++ ys) H Q)
theorem op_catZ : OpR X (binaryOp .Add) (rCatZ X.K) := by
  intro pins s σ H x y v u Q I rx ry ⟨a, b, xs, ys, ex, ey, ha, hb, hz, q0, q1, q2⟩
  subst ex ey
  cases rx
  cases ry
  obtain ⟨its, r1, p1, _⟩ := I.tuple ha
  obtain ⟨its2, r2, p2, _⟩ := I.tuple hb
  by_cases hx : xs = []
  · subst hx
    cases r1
    exact cat_tup0 p1 p2 ⟨.ref b, H, I, rfl, q0 rfl⟩
  · refine HT.cat_tup p1 p2 (fun z => hx (r1.nil_iff.mp z)) (fun z => ⟨.ref a, H, I, rfl, q1 hx (r2.nil_iff.mp z)⟩) (fun z => ?_) (by rw [← r1.length, ← r2.length]; exact hz)
    exact newT (t := s.toks) I (r1.append r2) (by rw [List.length_append]; exact hz) (q2 hx fun w => z (r2.nil_iff.mpr w))
/-- t[lo:hi] -/
def rSlZ (K : PySem.W.Frag) : V → Option Int → Option Int → Hp → VK → Prop := fun x lo hi H Q => ∃ a xs, x = .ref a ∧ SqT K H a xs ∧
  (HT.sIx xs.length 0 lo = 0 ∧ HT.sIx xs.length xs.length hi = xs.length → Q (.ref a) H) ∧ (¬ (HT.sIx xs.length 0 lo = 0 ∧ HT.sIx xs.length xs.length hi = xs.length) → NewT (cutV xs lo hi) H Q)
theorem sl_tupZ : SlR X (rSlZ X.K) := by
  intro pins s σ H x v vl vu lo hi sl Q I rx hs pl pu ⟨a, xs, ex, hx, q1, q2⟩
  subst ex
  cases rx
  obtain ⟨its, r, ht, hz⟩ := I.tuple hx
  have hl : its.toArray.size = xs.length := by rw [List.size_toArray]; exact r.length.symm
  refine ⟨"tuple", _, PyProof.Rows.slot_tuple_getitem.lookup, ht.typeIs, ?_⟩
  by_cases hw : HT.sIx xs.length 0 lo = 0 ∧ HT.sIx xs.length xs.length hi = xs.length
  · exact getItem_tuple_whole ht hs pl pu (by rw [hl]; exact hw) ⟨.ref a, H, I, rfl, q1 hw⟩
  · refine HT.getItem_tuple_cut ht hs pl pu (by rw [hl]; exact hw) ?_ (by rw [hl]; exact hz)
    rw [hl]
    exact newT (t := s.toks) I ((r.drop _).take _) (Nat.le_trans (cutV_length xs lo hi) hz) (q2 hw)
/-- divmod(i, j) -/
def rDivmodZ : List V → Hp → VK → Prop := fun xs H Q => ∃ i j : Int, xs = [.int i, .int j] ∧ 0 < j ∧ j < 1073741824 ∧ NewT [.int (i / j), .int (i % j)] H Q
theorem cr_divmodZ : CallR X (.builtin "divmod") rDivmodZ := by
  intro pins s σ H xs us Q I r ⟨i, j, ex, h1, h2, q⟩
  subst ex
  obtain ⟨u, w', rfl, ⟨t, rfl⟩, ⟨t', rfl⟩⟩ := Vals.two r
  refine PyProof.Rows.divmod_int (by omega) ?_ (.inl (PyProof.noPylong_small (by omega)))
  rw [Int.fdiv_eq_ediv_of_nonneg i (by omega), Int.fmod_eq_emod_of_nonneg i (by omega)]
  exact newT (t := s.toks + 1 + 1) I (vs := [.int (i / j), .int (i % j)]) (us := [.int (i / j) s.toks, .int (i % j) (s.toks + 1)]) (.cons ⟨_, rfl⟩ (.cons ⟨_, rfl⟩ .nil)) (by show 2 ≤ sizeLine; decide) q
end
end Ev

set_option Elab.async false
set_option linter.all false
set_option maxRecDepth 100000
set_option maxHeartbeats 2000000
/-! EvB: how states lie in the abstract heap. -/
namespace Ev
open PySem PySem.Spec L2

theorem sqT_same {K : PySem.W.Frag} {H H' : Hp} {a : Addr} {xs : List V} (e : Same H H') (h : SqT K H a xs) : SqT K H' a xs := by
  rcases h with (h | ⟨o, h⟩) | h
  · exact .inl (.inl (e _ _ h))
  · exact .inl (.inr ⟨o, e _ _ h⟩)
  · exact .inr h
theorem rd_same {H H' : Hp} {a : Addr} {u : HO} (e : Same H H') (h : Rd H a u) : Rd H' a u := by
  rcases h with h | ⟨o, h⟩
  · exact .inl (e _ _ h)
  · exact .inr ⟨o, e _ _ h⟩
/-- a list that is read: a tracked one, or one of the module's own -/
def LsR (K : PySem.W.Frag) (H : Hp) (a : Addr) (xs : List V) : Prop := Rd H a (.lst xs) ∨ ∃ (its : List Value) (n : Nat), K.lookup a = some { cls := .type "list", data := .seq its.toArray n } ∧ Vals xs its ∧ xs.length ≤ sizeLine
theorem LsR.same {K : PySem.W.Frag} {H H' : Hp} {a : Addr} {xs : List V} (e : Same H H') (h : LsR K H a xs) : LsR K H' a xs := h.imp (rd_same e) id
theorem LsR.sqL {K : PySem.W.Frag} {H : Hp} {a : Addr} {xs : List V} (h : LsR K H a xs) : SqL K H a xs := by
  rcases h with h | ⟨its, n, h1, h2, h3⟩
  · exact .inl h
  · exact .inr ⟨_, its.toArray, n, h1, rfl, rfl, rfl, by rw [List.size_toArray, ← h2.length]; exact h3, h2⟩
theorem LsR.of {K : PySem.W.Frag} {H : Hp} {a : Addr} {xs : List V} (h : H a = some (.lst xs)) : LsR K H a xs := .inl (.of h)
/-! a datum lies at v: lists are tracked -/
mutual
inductive Rp (K : PySem.W.Frag) (H : Hp) : V → PyData → Prop
  | non : Rp K H .non .none
  | bl (b : Bool) : Rp K H (.bl b) (.bool b)
  | int (i : Int) : Rp K H (.int i) (.int i)
  | str (x : Str) : Rp K H (.str x) (.str x)
  | lst {a : Addr} {xs : List V} {ds : List PyData} : LsR K H a xs → RpAll K H xs ds → Rp K H (.ref a) (.list ds)
  | tup {a : Addr} {xs : List V} {ds : List PyData} : TupR K H a xs → RpAll K H xs ds → Rp K H (.ref a) (.tuple ds)
inductive RpAll (K : PySem.W.Frag) (H : Hp) : List V → List PyData → Prop
  | nil : RpAll K H [] []
  | cons {v : V} {vs : List V} {d : PyData} {ds : List PyData} : Rp K H v d → RpAll K H vs ds → RpAll K H (v :: vs) (d :: ds)
end
mutual
theorem rp_same {K : PySem.W.Frag} {H H' : Hp} (e : Same H H') : ∀ (d : PyData) (v : V), Rp K H v d → Rp K H' v d
  | .none, _, h => by cases h; exact .non
  | .bool _, _, h => by cases h; exact .bl _
  | .int _, _, h => by cases h; exact .int _
  | .str _, _, h => by cases h; exact .str _
  | .list ds, _, h => by
    cases h with
    | lst hs ha => exact .lst (hs.same e) (rps_same e ds _ ha)
  | .tuple ds, _, h => by
    cases h with
    | tup hs ha => exact .tup (hs.same e) (rps_same e ds _ ha)
  | .dict _, _, h => by cases h
theorem rps_same {K : PySem.W.Frag} {H H' : Hp} (e : Same H H') : ∀ (ds : List PyData) (vs : List V), RpAll K H vs ds → RpAll K H' vs ds
  | [], _, h => by cases h; exact .nil
  | d :: ds, _, h => by
    cases h with
    | cons h1 h2 => exact .cons (rp_same e d _ h1) (rps_same e ds _ h2)
end
mutual
theorem rp_dp {K : PySem.W.Frag} {H : Hp} : ∀ (d : PyData) (v : V), Rp K H v d → L2.Dp K H v d
  | .none, _, h => by cases h; exact .non
  | .bool _, _, h => by cases h; exact .bl _
  | .int _, _, h => by cases h; exact .int _
  | .str _, _, h => by cases h; exact .str _
  | .list ds, _, h => by
    cases h with
    | lst hs ha => exact .lst hs.sqL (rps_dp ds _ ha)
  | .tuple ds, _, h => by
    cases h with
    | tup hs ha => exact .tup hs.sqT (rps_dp ds _ ha)
  | .dict _, _, h => by cases h
theorem rps_dp {K : PySem.W.Frag} {H : Hp} : ∀ (ds : List PyData) (vs : List V), RpAll K H vs ds → L2.DpAll K H vs ds
  | [], _, h => by cases h; exact .nil
  | d :: ds, _, h => by
    cases h with
    | cons h1 h2 => exact .cons (rp_dp d _ h1) (rps_dp ds _ h2)
end
section
variable {K : PySem.W.Frag} {H G G' : Hp}
theorem Rp.up {v : V} {d : PyData} (h : Rp K G v d) (e : Same G G') : Rp K G' v d := rp_same e _ _ h
theorem RpAll.up {vs : List V} {ds : List PyData} (h : RpAll K G vs ds) (e : Same G G') : RpAll K G' vs ds := rps_same e _ _ h
theorem RpAll.len : ∀ {vs : List V} {ds : List PyData}, RpAll K G vs ds → vs.length = ds.length
  | _, _, .nil => rfl
  | _, _, .cons _ t => by simp [RpAll.len t]
theorem RpAll.get : ∀ {vs : List V} {ds : List PyData} {i : Nat} {d : PyData}, RpAll K G vs ds → ds[i]? = some d → ∃ v, vs[i]? = some v ∧ Rp K G v d
  | _, _, _, _, .nil, e => by simp at e
  | _, _, 0, _, .cons h _, e => by simp at e; subst e; exact ⟨_, rfl, h⟩
  | _, _, i + 1, _, .cons _ t, e => by
    obtain ⟨v, h1, h2⟩ := RpAll.get (i := i) t (by simpa using e)
    exact ⟨v, by simpa using h1, h2⟩
theorem RpAll.getV : ∀ {vs : List V} {ds : List PyData} {i : Nat} {v : V}, RpAll K G vs ds → vs[i]? = some v → ∃ d, ds[i]? = some d ∧ Rp K G v d
  | _, _, _, _, .nil, e => by simp at e
  | _, _, 0, _, .cons h _, e => by simp at e; subst e; exact ⟨_, rfl, h⟩
  | _, _, i + 1, _, .cons _ t, e => by
    obtain ⟨v, h1, h2⟩ := RpAll.getV (i := i) t (by simpa using e)
    exact ⟨v, by simpa using h1, h2⟩
theorem RpAll.app : ∀ {vs ws : List V} {ds es : List PyData}, RpAll K G vs ds → RpAll K G ws es → RpAll K G (vs ++ ws) (ds ++ es)
  | _, _, _, _, .nil, h => h
  | _, _, _, _, .cons h t, s => .cons h (RpAll.app t s)
theorem RpAll.set {v : V} {d : PyData} (h : Rp K G v d) : ∀ {vs : List V} {ds : List PyData} (i : Nat), RpAll K G vs ds → RpAll K G (vs.set i v) (ds.set i d)
  | _, _, _, .nil => .nil
  | _, _, 0, .cons _ t => .cons h t
  | _, _, i + 1, .cons q t => .cons q (RpAll.set h i t)
theorem RpAll.take : ∀ {vs : List V} {ds : List PyData} (n : Nat), RpAll K G vs ds → RpAll K G (vs.take n) (ds.take n)
  | _, _, 0, _ => .nil
  | _, _, _ + 1, .nil => .nil
  | _, _, n + 1, .cons h t => .cons h (RpAll.take n t)
theorem RpAll.drop : ∀ {vs : List V} {ds : List PyData} (n : Nat), RpAll K G vs ds → RpAll K G (vs.drop n) (ds.drop n)
  | _, _, 0, h => h
  | _, _, _ + 1, .nil => .nil
  | _, _, n + 1, .cons _ t => RpAll.drop n t
theorem RpAll.ints : ∀ {vs : List V} {ns : List Int}, RpAll K G vs (ns.map PyData.int) → vs = ns.map V.int
  | _, [], h => by cases h; rfl
  | _, n :: ns, h => by
    cases h with
    | cons h1 h2 => cases h1; simp [RpAll.ints h2]
theorem RpAll.bls : ∀ {vs : List V} {ns : List Bool}, RpAll K G vs (ns.map PyData.bool) → vs = ns.map V.bl
  | _, [], h => by cases h; rfl
  | _, n :: ns, h => by
    cases h with
    | cons h1 h2 => cases h1; simp [RpAll.bls h2]
theorem RpAll.strs : ∀ {vs : List V} {ns : List Str}, RpAll K G vs (ns.map PyData.str) → vs = ns.map V.str
  | _, [], h => by cases h; rfl
  | _, n :: ns, h => by
    cases h with
    | cons h1 h2 => cases h1; simp [RpAll.strs h2]
theorem rps_ints : ∀ ns : List Int, RpAll K G (ns.map V.int) (ns.map PyData.int)
  | [] => .nil
  | _ :: ns => .cons (.int _) (rps_ints ns)

/-- a datum that is read now: given away, or a list of one's own at the top -/
def Dw (K : PySem.W.Frag) (G H : Hp) (v : V) (d : PyData) : Prop := Rp K G v d ∨ ∃ p vs ds, v = .ref p ∧ d = .list ds ∧ H p = some (.lst vs) ∧ RpAll K G vs ds
theorem Dw.rp {v : V} {d : PyData} (h : Dw K G H v d) (s : Same G H) : Rp K H v d := by
  rcases h with h | ⟨p, vs, ds, rfl, rfl, e, a⟩
  · exact h.up s
  · exact .lst (.of e) (a.up s)
theorem Dw.lst {v : V} {ds : List PyData} (h : Dw K G H v (.list ds)) (s : Same G H) : ∃ p vs, v = .ref p ∧ LsR K H p vs ∧ RpAll K G vs ds := by
  rcases h with h | ⟨p, vs, ds', rfl, e', e, a⟩
  · cases h with
    | lst h1 h2 => exact ⟨_, _, rfl, h1.same s, h2⟩
  · cases e'
    exact ⟨p, vs, rfl, .of e, a⟩
theorem Dw.tup {v : V} {ds : List PyData} (h : Dw K G H v (.tuple ds)) (s : Same G H) : ∃ p vs, v = .ref p ∧ TupR K H p vs ∧ RpAll K G vs ds := by
  rcases h with h | ⟨p, vs, ds', rfl, e', e, a⟩
  · cases h with
    | tup h1 h2 => exact ⟨_, _, rfl, h1.same s, h2⟩
  · cases e'
theorem Dw.int {v : V} {i : Int} (h : Dw K G H v (.int i)) : v = .int i := by
  rcases h with h | ⟨p, vs, ds', rfl, e', e, a⟩
  · cases h; rfl
  · cases e'
theorem Dw.bl {v : V} {i : Bool} (h : Dw K G H v (.bool i)) : v = .bl i := by
  rcases h with h | ⟨p, vs, ds', rfl, e', e, a⟩
  · cases h; rfl
  · cases e'
theorem Dw.str {v : V} {i : Str} (h : Dw K G H v (.str i)) : v = .str i := by
  rcases h with h | ⟨p, vs, ds', rfl, e', e, a⟩
  · cases h; rfl
  · cases e'
theorem Dw.non {v : V} (h : Dw K G H v .none) : v = .non := by
  rcases h with h | ⟨p, vs, ds', rfl, e', e, a⟩
  · cases h; rfl
  · cases e'
end

/-- a state lies so: G is given away (never written any more), F is the frame (left as it is), B the lent lists' places -/
structure SR (K : PySem.W.Frag) (F : Hp) (B : List (Nat × Addr)) (σ : St) (H : Hp) (e : En) (G : Hp) : Prop where
  len : e.length = σ.length
  sub : Same G H
  frm : Same F H
  dsj : ∀ a o, F a = some o → G a = none
  vls : ∀ (i : Nat) (d : PyData), e[i]? = some (.vl d) → ∃ v, σ[i]? = some (some v) ∧ Rp K G v d
  ows : ∀ (i : Nat) (b : Bool) (ds : List PyData), e[i]? = some (.ow b ds) → ∃ p vs, σ[i]? = some (some (.ref p)) ∧ G p = none ∧ F p = none ∧ H p = some (.lst vs) ∧ RpAll K G vs ds ∧ (b = true → (i, p) ∈ B)
  dis : ∀ (i j : Nat) (b c : Bool) (ds es : List PyData) (p : Addr), e[i]? = some (.ow b ds) → e[j]? = some (.ow c es) → σ[i]? = some (some (.ref p)) → σ[j]? = some (some (.ref p)) → i = j

/-- how a result lies -/
def RR (K : PySem.W.Frag) (F : Hp) (σ : St) (H : Hp) (e : En) (G : Hp) (v : V) (r : RV) : Prop := match r.fr with
  | true => ∃ p vs ds, v = .ref p ∧ r.d = .list ds ∧ G p = none ∧ F p = none ∧ H p = some (.lst vs) ∧ RpAll K G vs ds ∧ ∀ (i : Nat) (b : Bool) (es : List PyData), e[i]? = some (.ow b es) → σ[i]? ≠ some (some (.ref p))
  | false => Rp K G v r.d
def OR (K : PySem.W.Frag) (σ : St) (G : Hp) (v : V) : OV → Prop
  | .sl i => σ[i]? = some (some v)
  | .vl d => Rp K G v d
inductive ORs (K : PySem.W.Frag) (σ : St) (G : Hp) : List V → List OV → Prop
  | nil : ORs K σ G [] []
  | cons {v : V} {vs : List V} {o : OV} {os : List OV} : OR K σ G v o → ORs K σ G vs os → ORs K σ G (v :: vs) (o :: os)
inductive Dws (K : PySem.W.Frag) (G H : Hp) : List V → List PyData → Prop
  | nil : Dws K G H [] []
  | cons {v : V} {vs : List V} {o : PyData} {os : List PyData} : Dw K G H v o → Dws K G H vs os → Dws K G H (v :: vs) (o :: os)

theorem same_upd {G : Hp} {p : Addr} {o : HO} (h : G p = none) : Same G (upd G p o) := fun b u e => by
  rw [upd_ne (ne_of_none e h)]
  exact e

section
variable {K : PySem.W.Frag} {F : Hp} {B : List (Nat × Addr)} {σ : St} {H : Hp} {e : En} {G : Hp}
/-- an address given away -/
theorem SR.freeze (s : SR K F B σ H e G) {p : Addr} {o : HO} (hp : H p = some o) (hG : G p = none) (hF : F p = none) (no : ∀ (i : Nat) (b : Bool) (es : List PyData), e[i]? = some (.ow b es) → σ[i]? ≠ some (some (.ref p))) :
    SR K F B σ H e (upd G p o) := by
  have sm := same_upd (o := o) hG
  refine ⟨s.len, fun b u q => ?_, s.frm, fun a u q => ?_, fun i d q => ?_, fun i b ds q => ?_, s.dis⟩
  · by_cases hb : b = p
    · subst hb; rw [upd_same] at q; rw [← q]; exact hp
    · rw [upd_ne hb] at q; exact s.sub b u q
  · rw [upd_ne (ne_of_none q hF)]
    exact s.dsj a u q
  · obtain ⟨v, h1, h2⟩ := s.vls i d q
    exact ⟨v, h1, h2.up sm⟩
  · obtain ⟨p', vs, h1, h2, h3, h4, h5, h6⟩ := s.ows i b ds q
    have ne : p' ≠ p := fun z => no i b ds q (by rw [h1, z])
    exact ⟨p', vs, h1, by rw [upd_ne ne]; exact h2, h3, h4, h5.up sm, h6⟩
/-- a new object -/
theorem SR.new (s : SR K F B σ H e G) {p : Addr} {o : HO} (hp : H p = none) : SR K F B σ (upd H p o) e G := by
  have sm := same_upd (o := o) hp
  refine ⟨s.len, s.sub.trans sm, s.frm.trans sm, s.dsj, s.vls, fun i b ds q => ?_, s.dis⟩
  obtain ⟨p', vs, h1, h2, h3, h4, h5, h6⟩ := s.ows i b ds q
  exact ⟨p', vs, h1, h2, h3, sm _ _ h4, h5, h6⟩
theorem SR.newG (s : SR K F B σ H e G) {p : Addr} (hp : H p = none) : G p = none := s.sub.free hp
theorem SR.newF (s : SR K F B σ H e G) {p : Addr} (hp : H p = none) : F p = none := s.frm.free hp
theorem SR.newO (s : SR K F B σ H e G) {p : Addr} (hp : H p = none) : ∀ (i : Nat) (b : Bool) (es : List PyData), e[i]? = some (.ow b es) → σ[i]? ≠ some (some (.ref p)) := fun i b es q z => by
  obtain ⟨p', vs, h1, h2, h3, h4, _⟩ := s.ows i b es q
  rw [z] at h1
  cases h1
  rw [hp] at h4
  cases h4
/-- a result given away -/
theorem RR.freeze {v : V} {r : RV} (h : RR K F σ H e G v r) (s : SR K F B σ H e G) : ∃ G', SR K F B σ H e G' ∧ Same G G' ∧ Rp K G' v r.d := by
  unfold RR at h
  split at h
  · obtain ⟨p, vs, ds, rfl, e1, h1, h2, h3, h4, h5⟩ := h
    refine ⟨upd G p (.lst vs), s.freeze h3 h1 h2 h5, same_upd h1, ?_⟩
    rw [e1]
    exact .lst (.of upd_same) (h4.up (same_upd h1))
  · exact ⟨G, s, .refl _, h⟩
theorem OR.up {G' : Hp} {v : V} {o : OV} (h : OR K σ G v o) (s : Same G G') : OR K σ G' v o := by
  cases o with
  | sl i => exact h
  | vl d => exact Rp.up h s
theorem ORs.up {G' : Hp} : ∀ {vs : List V} {os : List OV}, ORs K σ G vs os → Same G G' → ORs K σ G' vs os
  | _, _, .nil, _ => .nil
  | _, _, .cons h t, s => .cons (h.up s) (t.up s)
theorem SR.der (s : SR K F B σ H e G) {v : V} {o : OV} (h : OR K σ G v o) {P : PyData → En → Prop} {W : Exn → En → Prop} (k : Ok (Ev.der o) e P W) : ∃ d, Dw K G H v d ∧ P d e := by
  cases o with
  | vl d => exact ⟨d, .inl h, k⟩
  | sl i =>
    obtain ⟨d, hd, k⟩ := ok_derS.mp (show Ok (derS i) e P W from k)
    have h' : σ[i]? = some (some v) := h
    unfold slotD at hd
    split at hd
    · rename_i d' q
      cases hd
      obtain ⟨w, h1, h2⟩ := s.vls i d q
      rw [h1] at h'
      cases h'
      exact ⟨d, .inl h2, k⟩
    · rename_i b ds q
      cases hd
      obtain ⟨p, vs, h1, h2, h3, h4, h5, h6⟩ := s.ows i b ds q
      rw [h1] at h'
      cases h'
      exact ⟨.list ds, .inr ⟨p, vs, ds, rfl, rfl, h4, h5⟩, k⟩
    · cases hd
theorem SR.ders (s : SR K F B σ H e G) : ∀ {vs : List V} {os : List OV} {P : List PyData → En → Prop} {W : Exn → En → Prop}, ORs K σ G vs os → Ok (Ev.ders os) e P W → ∃ ds, Dws K G H vs ds ∧ P ds e
  | _, _, _, _, .nil, k => ⟨[], .nil, k⟩
  | _, _, P, W, .cons h t, k => by
    obtain ⟨d, h1, k1⟩ := s.der h (ok_bind.mp k)
    obtain ⟨ds, h2, k2⟩ := s.ders t (ok_bind.mp k1)
    exact ⟨d :: ds, .cons h1 h2, k2⟩
end

/-! ### the readings of this language -/
section
variable (K : PySem.W.Frag) (mg : Str → Option Value) (W : WX)
/-- what is wanted of an exception -/
def WE (F : Hp) (B : List (Nat × Addr)) (G : Hp) : Exn → En → Prop := fun x e' => ∀ C v dx σ' H' G', mg x.name = some (.ref C) → SR K F B σ' H' e' G' → Same G G' → H' dx = some (.xd [(Str.ofString "value", v)]) → Rp K G' v x.arg → W (.ref C) (some dx) σ' H'
def tV (m : M RV) : TE := fun σ H Q => ∃ e G F B, SR K F B σ H e G ∧ Ok m e (fun r e' => ∀ v H' G', SR K F B σ H' e' G' → Same G G' → RR K F σ H' e' G' v r → Q v H') (WE K mg W F B G)
def tO (m : M OV) : TE := fun σ H Q => ∃ e G F B, SR K F B σ H e G ∧ Ok m e (fun r e' => ∀ v H' G', SR K F B σ H' e' G' → Same G G' → OR K σ G' v r → Q v H') (WE K mg W F B G)
def tOs (m : M (List OV)) : TA := fun σ H Q => ∃ e G F B, SR K F B σ H e G ∧ Ok m e (fun r e' => ∀ vs H' G', SR K F B σ H' e' G' → Same G G' → ORs K σ G' vs r → Q vs H') (WE K mg W F B G)
def tBo (m : M Bool) : TT := fun σ H Q => ∃ e G F B, SR K F B σ H e G ∧ Ok m e (fun b e' => ∀ H' G', SR K F B σ H' e' G' → Same G G' → Q b H') (WE K mg W F B G)
end
section
variable {K : PySem.W.Frag} {mg : Str → Option Value} {W : WX} {F : Hp} {B : List (Nat × Addr)} {G G' : Hp} {x : Exn} {e : En}
theorem WE.up (h : WE K mg W F B G x e) (s : Same G G') : WE K mg W F B G' x e := fun C v dx σ' H' G2 a b c d f => h C v dx σ' H' G2 a b (s.trans c) d f
end
abbrev SV (X : Cx) (W : WX) (e : Expr) (m : M RV) : Prop := PE X e (tV X.K X.mg W m)
abbrev SO (X : Cx) (W : WX) (e : Expr) (m : M OV) : Prop := PE X e (tO X.K X.mg W m)
abbrev SB (X : Cx) (W : WX) (e : Expr) (m : M Bool) : Prop := PT X e (tBo X.K X.mg W m)
abbrev SA (X : Cx) (W : WX) (es : List Expr) (m : M (List OV)) : Prop := PA X es (tOs X.K X.mg W m)
theorem weakE {X : Cx} {e : Expr} {t t' : TE} (h : PE X e t) (k : ∀ σ H Q, t' σ H Q → t σ H Q) : PE X e t' := ⟨fun p s σ H Q I q => h.run p s σ H Q I (k σ H Q q)⟩
theorem weakT {X : Cx} {e : Expr} {t t' : TT} (h : PT X e t) (k : ∀ σ H Q, t' σ H Q → t σ H Q) : PT X e t' := ⟨fun p s σ H Q I q => h.run p s σ H Q I (k σ H Q q)⟩
theorem weakA {X : Cx} {e : List Expr} {t t' : TA} (h : PA X e t) (k : ∀ σ H Q, t' σ H Q → t σ H Q) : PA X e t' := ⟨fun pos p s σ H Q I q => h.run pos p s σ H Q I (k σ H Q q)⟩
theorem weakS {X : Cx} {e : Stmt} {t t' : TS} (h : PS X e t) (k : ∀ D σ H, t' D σ H → t D σ H) : PS X e t' := ⟨fun p s σ H D I q => h.run p s σ H D I (k D σ H q)⟩
theorem weakSs {X : Cx} {e : List Stmt} {t t' : TS} (h : PSs X e t) (k : ∀ D σ H, t' D σ H → t D σ H) : PSs X e t' := ⟨fun p s σ H D I q => h.run p s σ H D I (k D σ H q)⟩
theorem orE {X : Cx} {e : Expr} {t u : TE} (h : PE X e t) (k : PE X e u) : PE X e (fun σ H Q => t σ H Q ∨ u σ H Q) := ⟨fun p s σ H Q I q => q.elim (h.run p s σ H Q I) (k.run p s σ H Q I)⟩
theorem orI {X : Cx} {tg e : Expr} {t u : TI} (h : PI X tg e t) (k : PI X tg e u) : PI X tg e (fun σ H R => t σ H R ∨ u σ H R) := ⟨fun p s σ H R I q => q.elim (h.run p s σ H R I) (k.run p s σ H R I)⟩
theorem weakI {X : Cx} {tg e : Expr} {t t' : TI} (h : PI X tg e t) (k : ∀ σ H R, t' σ H R → t σ H R) : PI X tg e t' := ⟨fun p s σ H R I q => h.run p s σ H R I (k σ H R q)⟩

section
variable {X : Cx} {W : WX} {e : Expr}
/-- names, constants -/
theorem sv_var {i : Nat} (h : PE X e (tVar i)) : SV X W e (readV i) := weakE h fun σ H Q ⟨en, G, F, B, s, k⟩ => by
  unfold Ok readV at k
  cases q : en[i]? with
  | none => rw [q] at k; exact k.elim
  | some x =>
    rw [q] at k
    cases x with
    | un => exact k.elim
    | vl d =>
      obtain ⟨v, h1, h2⟩ := s.vls i d q
      exact ⟨v, h1, k v H G s (.refl _) h2⟩
    | ow b ds =>
      cases b with
      | true => exact k.elim
      | false =>
        obtain ⟨p, vs, h1, h2, h3, h4, h5, h6⟩ := s.ows i false ds q
        have hi : i < en.length := by
          rcases Nat.lt_or_ge i en.length with z | z
          · exact z
          · rw [List.getElem?_eq_none_iff.mpr z] at q; cases q
        have old : ∀ (j : Nat) (b : Bool) (es : List PyData), (en.set i (.vl (.list ds)))[j]? = some (.ow b es) → j ≠ i ∧ en[j]? = some (.ow b es) := fun j b es r => by
          by_cases hj : j = i
          · subst hj
            rw [List.getElem?_set_self hi] at r
            cases r
          · rw [List.getElem?_set_ne (Ne.symm hj)] at r
            exact ⟨hj, r⟩
        have s1 : SR X.K F B σ H (en.set i (.vl (.list ds))) (upd G p (.lst vs)) := by
          have sm := same_upd (o := HO.lst vs) h2
          refine ⟨by simpa using s.len, fun b u r => ?_, s.frm, fun a u r => ?_, fun j d r => ?_, fun j b es r => ?_, fun j l b c es fs p' r1 r2 => s.dis j l b c es fs p' (old _ _ _ r1).2 (old _ _ _ r2).2⟩
          · by_cases hb : b = p
            · subst hb; rw [upd_same] at r; rw [← r]; exact h4
            · rw [upd_ne hb] at r; exact s.sub b u r
          · rw [upd_ne (ne_of_none r h3)]
            exact s.dsj a u r
          · by_cases hj : j = i
            · subst hj
              rw [List.getElem?_set_self hi] at r
              cases r
              exact ⟨_, h1, .lst (.of upd_same) (h5.up sm)⟩
            · rw [List.getElem?_set_ne (Ne.symm hj)] at r
              obtain ⟨v, k1, k2⟩ := s.vls j d r
              exact ⟨v, k1, k2.up sm⟩
          · obtain ⟨hj, r'⟩ := old _ _ _ r
            obtain ⟨p', ws, k1, k2, k3, k4, k5, k6⟩ := s.ows j b es r'
            have ne : p' ≠ p := fun z => hj (s.dis j i b false es ds p r' q (by rw [k1, z]) h1)
            exact ⟨p', ws, k1, by rw [upd_ne ne]; exact k2, k3, k4, k5.up sm, k6⟩
        exact ⟨_, h1, k _ H _ s1 (same_upd h2) (show Rp X.K _ _ _ from .lst (.of upd_same) (h5.up (same_upd h2)))⟩
theorem so_var {i : Nat} (h : PE X e (tVar i)) : SO X W e (readO i) := weakE h fun σ H Q ⟨en, G, F, B, s, k⟩ => by
  unfold Ok readO at k
  cases q : en[i]? with
  | none => rw [q] at k; exact k.elim
  | some x =>
    rw [q] at k
    cases x with
    | un => exact k.elim
    | vl d =>
      obtain ⟨v, h1, h2⟩ := s.vls i d q
      exact ⟨v, h1, k v H G s (.refl _) h2⟩
    | ow b ds =>
      obtain ⟨p, vs, h1, _⟩ := s.ows i b ds q
      exact ⟨_, h1, k _ H G s (.refl _) h1⟩
theorem so_of {m : M RV} (h : SV X W e m) : SO X W e (toO m) := weakE h fun σ H Q ⟨en, G, F, B, s, k⟩ => by
  refine ⟨en, G, F, B, s, (ok_bind.mp k).imp (fun r e' k1 v H' G' s1 sm rr => ?_) fun _ _ x => x⟩
  obtain ⟨G2, s2, sm2, dp⟩ := rr.freeze s1
  exact k1 v H' G2 s2 (sm.trans sm2) dp
theorem sv_const {v : V} {d : PyData} (h : PE X e (tC v)) (r : ∀ G, Rp X.K G v d) : SV X W e (pure ⟨d, false⟩) := weakE h fun σ H Q ⟨en, G, F, B, s, k⟩ => k v H G s (.refl _) (r G)
/-- operand lists -/
theorem sa_nil : SA X W [] (pure []) := weakA pa_nil fun σ H Q ⟨en, G, F, B, s, k⟩ => k [] H G s (.refl _) .nil
theorem sa_cons {es : List Expr} {m : M OV} {ms : M (List OV)} (h : SO X W e m) (hs : SA X W es ms) (hst : starEach (e :: es) X.env = (false, eval e X.env) :: starEach es X.env) :
    SA X W (e :: es) (do let o ← m; let os ← ms; pure (o :: os)) := weakA (pa_cons h hs hst) fun σ H Q ⟨en, G, F, B, s, k⟩ => by
  refine ⟨en, G, F, B, s, (ok_bind.mp k).imp (fun o e1 k1 v H1 G1 s1 m1 r1 => ?_) fun _ _ x => x⟩
  refine ⟨e1, G1, F, B, s1, (ok_bind.mp k1).imp (fun os e2 k2 vs H2 G2 s2 m2 r2 => ?_) fun _ _ x => x.up m1⟩
  exact k2 (v :: vs) H2 G2 s2 (m1.trans m2) (.cons (r1.up m2) r2)
/-- tests -/
theorem sb_val {m : M RV} (h : SV X W e m) (he : ∀ whole, isTrue e X.env whole = (do let v ← whole; standAt e.pos; holding [v] (truthy v))) : SB X W e (asB m) := weakT (pt_val h he) fun σ H Q ⟨en, G, F, B, s, k⟩ => by
  refine ⟨en, G, F, B, s, (ok_bind.mp k).imp (fun r e1 k1 v H1 G1 s1 m1 r1 => ?_) fun _ _ x => x⟩
  obtain ⟨b, hb, k2⟩ := ok_liftO.mp k1
  obtain ⟨d, fr⟩ := r
  cases d <;> try cases hb
  unfold RR at r1
  cases fr with
  | true => obtain ⟨_, _, _, _, z, _⟩ := r1; cases z
  | false => cases r1; exact ⟨_, rfl, k2 H1 G1 s1 m1⟩
end
end Ev

set_option Elab.async false
set_option linter.all false
set_option maxRecDepth 100000
set_option maxHeartbeats 2000000
/-! EvC: operators by data. -/
namespace Ev
open PySem PySem.Spec L2

/-- the most items of a made list, signs of a made text -/
abbrev most : Nat := 1000000
theorem most_line {n : Nat} (h : n ≤ most) : n ≤ sizeLine := Nat.le_trans h (by decide)

/-! ### what the operators give -/
inductive Bop where | add | sub | mul | fdiv | mod | pow | shl
inductive Cop where | eq | ne | lt | le | gt | ge | isin | notin | isN | isnotN | isB | isnotB
deriving DecidableEq
@[simp] abbrev lit (d : PyData) : Option RV := some ⟨d, false⟩
def addD : PyData → PyData → Option RV
  | .int i, .int j => lit (.int (i + j))
  | .str x, .str y => if x.length + y.length ≤ most then lit (.str (x ++ y)) else none
  | .list xs, .list ys => if xs.length + ys.length ≤ most then some ⟨.list (xs ++ ys), true⟩ else none
  | .tuple xs, .tuple ys => if xs.length + ys.length ≤ most then lit (.tuple (xs ++ ys)) else none
  | _, _ => none
def subD : PyData → PyData → Option RV
  | .int i, .int j => lit (.int (i - j))
  | _, _ => none
def mulD : PyData → PyData → Option RV
  | .int i, .int j => if i.natAbs.log2 + j.natAbs.log2 < 1000000 then lit (.int (i * j)) else none
  | .list xs, .int k => if k < 1000000 ∧ -1000000 < k ∧ xs.length * k.toNat ≤ most then some ⟨.list (List.replicate k.toNat xs).flatten, true⟩ else none
  | _, _ => none
def fdivD : PyData → PyData → Option RV
  | .int i, .int j => if (j ≠ 0 ∧ j.natAbs < 1073741824) ∨ (0 < j ∧ j.natAbs.log2 < 9000) then lit (.int (i.fdiv j)) else none
  | _, _ => none
def modD : PyData → PyData → Option RV
  | .int i, .int j => if j ≠ 0 then lit (.int (i.fmod j)) else none
  | _, _ => none
def powD : PyData → PyData → Option RV
  | .int i, .int j => if 0 ≤ j ∧ j ≤ 1000000 ∧ i.natAbs < 2 ^ 64 then lit (.int (i ^ j.toNat)) else none
  | _, _ => none
def shlD : PyData → PyData → Option RV
  | .int i, .int j => if 0 ≤ j ∧ j ≤ 1000000 ∧ i.natAbs < 2 ^ 64 then lit (.int (i * 2 ^ j.toNat)) else none
  | _, _ => none
def binD : Bop → PyData → PyData → Option RV
  | .add => addD | .sub => subD | .mul => mulD | .fdiv => fdivD | .mod => modD | .pow => powD | .shl => shlD
def eqS : PyData → PyData → Option Bool
  | .str a, .str b => some (decide (a = b))
  | _, _ => none
def eqD (d e : PyData) : Option Bool := if SeqAt.shaped d = true ∧ SeqAt.shaped e = true then some (PyData.eqv d e) else eqS d e
def ltD : PyData → PyData → Option Bool
  | .int i, .int j => some (decide (i < j))
  | .tuple xs, .tuple ys => if PySem.W.alikeAll xs ys = true ∧ PyData.depthAll xs ≤ 60 then some (PySem.W.dataLt (.tuple xs) (.tuple ys)) else none
  | _, _ => none
def leD : PyData → PyData → Option Bool
  | .int i, .int j => some (decide (i ≤ j))
  | _, _ => none
def gtD : PyData → PyData → Option Bool
  | .int i, .int j => some (decide (j < i))
  | _, _ => none
def geD : PyData → PyData → Option Bool
  | .int i, .int j => some (decide (j ≤ i))
  | _, _ => none
def inD (d : PyData) : PyData → Option Bool
  | .list ds => if SeqAt.shaped d = true ∧ SeqAt.shaped (.list ds) = true then some (ds.any fun z => PyData.eqv z d) else none
  | .tuple ds => if SeqAt.shaped d = true ∧ SeqAt.shaped (.tuple ds) = true then some (ds.any fun z => PyData.eqv z d) else none
  | _ => none
def isND : PyData → PyData → Option Bool
  | .none, .none => some true
  | _, .none => some false
  | _, _ => none
def isBD : PyData → PyData → Option Bool
  | .bool a, .bool b => some (decide (a = b))
  | _, _ => none
@[simp] def cmpB : Cop → PyData → PyData → Option Bool
  | .eq, d, e => eqD d e
  | .ne, d, e => (eqD d e).map (!·)
  | .lt, d, e => ltD d e
  | .le, d, e => leD d e
  | .gt, d, e => gtD d e
  | .ge, d, e => geD d e
  | .isin, d, e => inD d e
  | .notin, d, e => (inD d e).map (!·)
  | .isN, d, e => isND d e
  | .isnotN, d, e => (isND d e).map (!·)
  | .isB, d, e => isBD d e
  | .isnotB, d, e => (isBD d e).map (!·)
@[simp] def bRV (b : Bool) : RV := ⟨.bool b, false⟩
@[simp] def cmpD (o : Cop) (d e : PyData) : Option RV := (cmpB o d e).map bRV
def idxD : PyData → PyData → Option RV
  | .list ds, .int i => (atI ds i).map fun d => ⟨d, false⟩
  | .tuple ds, .int i => (atI ds i).map fun d => ⟨d, false⟩
  | .str z, .int i => if z.length ≤ most then (atI z.cps.toList i).map fun c => ⟨.str ⟨#[c]⟩, false⟩ else none
  | _, _ => none
def cutD (xs : List PyData) (lo hi : Option Int) : List PyData := (xs.drop (HT.sIx xs.length 0 lo)).take (HT.sIx xs.length xs.length hi - HT.sIx xs.length 0 lo)
def slcD (lo hi : Option Int) : PyData → Option RV
  | .list ds => some ⟨.list (cutD ds lo hi), true⟩
  | .tuple ds => lit (.tuple (cutD ds lo hi))
  | .str z => if z.length ≤ most then lit (.str (cutS z lo hi)) else none
  | _ => none

/-! ### results -/
/-- what a rule by values owes -/
def Post (K : PySem.W.Frag) (F : Hp) (B : List (Nat × Addr)) (σ : St) (e : En) (G : Hp) (r : RV) (Q : VK) : Prop := ∀ v H' G', SR K F B σ H' e G' → Same G G' → RR K F σ H' e G' v r → Q v H'
section
variable {K : PySem.W.Frag} {F : Hp} {B : List (Nat × Addr)} {σ : St} {H : Hp} {e : En} {G : Hp} {Q : VK}
theorem Post.rp {v : V} {d : PyData} (k : Post K F B σ e G ⟨d, false⟩ Q) (s : SR K F B σ H e G) (h : Rp K G v d) : Q v H := k v H G s (.refl _) h
theorem Post.lst {vs : List V} {ds : List PyData} (k : Post K F B σ e G ⟨.list ds, true⟩ Q) (s : SR K F B σ H e G) (h : RpAll K G vs ds) {p : Addr} (hp : H p = none) : Q (.ref p) (upd H p (.lst vs)) :=
  k _ _ G (s.new hp) (.refl _) ⟨p, vs, ds, rfl, rfl, s.newG hp, s.newF hp, upd_same, h, s.newO hp⟩
theorem SR.tup (s : SR K F B σ H e G) {vs : List V} {ds : List PyData} (h : RpAll K G vs ds) {p : Addr} {o : Obj} (hp : H p = none) (ho : o.dict = none) :
    SR K F B σ (upd H p (.frz o (.tup vs))) e (upd G p (.frz o (.tup vs))) ∧ Same G (upd G p (.frz o (.tup vs))) ∧ Rp K (upd G p (.frz o (.tup vs))) (.ref p) (.tuple ds) := by
  have sm := same_upd (o := HO.frz o (.tup vs)) (s.newG hp)
  exact ⟨(s.new hp).freeze upd_same (s.newG hp) (s.newF hp) (s.newO hp), sm, .tup (.inl ⟨o, upd_same, ho⟩) (h.up sm)⟩
/-- a datum that a loop's turn hands out: pr: a pair, to be taken apart -/
def RpP (K : PySem.W.Frag) (pr : Bool) (G : Hp) (v : V) (d : PyData) : Prop := match pr with
  | true => ∃ a xs ds, v = .ref a ∧ d = .tuple ds ∧ SqT K G a xs ∧ RpAll K G xs ds
  | false => Rp K G v d
theorem SR.pair (s : SR K F B σ H e G) {vs : List V} {ds : List PyData} (h : RpAll K G vs ds) {p : Addr} (hp : H p = none) :
    SR K F B σ (upd H p (.tup vs)) e (upd G p (.tup vs)) ∧ Same G (upd G p (.tup vs)) ∧ RpP K true (upd G p (.tup vs)) (.ref p) (.tuple ds) := by
  have sm := same_upd (o := HO.tup vs) (s.newG hp)
  exact ⟨(s.new hp).freeze upd_same (s.newG hp) (s.newF hp) (s.newO hp), sm, p, vs, ds, rfl, rfl, .of upd_same, h.up sm⟩
theorem Post.tup {vs : List V} {ds : List PyData} (k : Post K F B σ e G ⟨.tuple ds, false⟩ Q) (s : SR K F B σ H e G) (h : RpAll K G vs ds) : NewT vs H Q := fun p o hp ho => by
  obtain ⟨s', sm, r⟩ := s.tup h hp ho
  exact k _ _ _ s' sm r
end
def R2ok (K : PySem.W.Frag) (r : R2) (f : PyData → PyData → Option RV) : Prop := ∀ {F : Hp} {B : List (Nat × Addr)} {σ : St} {H : Hp} {e : En} {G : Hp} {x y : V} {dx dy : PyData} {res : RV} {Q : VK},
  SR K F B σ H e G → Dw K G H x dx → Dw K G H y dy → f dx dy = some res → Post K F B σ e G res Q → r x y H Q

/-! ### rules that HandS has not in this form -/
section
variable {X : Cx} {pins : List (Addr × Obj)} {σ : St} {H : Hp} {s : Shared}
theorem lstR (I : Inv X pins σ H s) {l : Addr} {xs : List V} (h : LsR X.K H l xs) : xs.length ≤ sizeLine ∧ ∃ (its : List Value) (n : Nat), Vals xs its ∧ s.heap.get? l = some { cls := .type "list", data := .seq its.toArray n } := by
  rcases h with h | ⟨its, n, h1, h2, h3⟩
  · have q := h.ok I.hok
    obtain ⟨z, its, n, r, e⟩ := q
    exact ⟨z, its, n, r, e⟩
  · exact ⟨h3, its, n, h2, I.kIn _ _ h1⟩
/-- lists added -/
def rCatR (K : PySem.W.Frag) : R2 := fun x y H Q => ∃ l b xs zs, x = .ref l ∧ y = .ref b ∧ LsR K H l xs ∧ LsR K H b zs ∧ xs.length + zs.length ≤ sizeLine ∧ ∀ p, H p = none → Q (.ref p) (upd H p (.lst (xs ++ zs)))
theorem op_catR : OpR X (binaryOp .Add) (rCatR X.K) := by
  intro pins s σ H x y v u Q I rx ry ⟨l, b, xs, zs, ex, ey, h1, h2, hz, q⟩
  subst ex ey
  cases rx
  cases ry
  obtain ⟨z1, its1, n1, r1, e1⟩ := lstR I h1
  obtain ⟨z2, its2, n2, r2, e2⟩ := lstR I h2
  have l1 := r1.length
  have l2 := r2.length
  refine PySem.P.add_list e1 e2 ?_ (by simp only [List.size_toArray]; omega)
  rw [show its1.toArray ++ its2.toArray = (its1 ++ its2).toArray from List.append_toArray ..]
  refine ⟨.ref _, _, I.lnew (t' := s.toks) (r1.append r2) (by simp only [List.length_append]; omega), rfl, ?_⟩
  exact q _ I.fresh
/-- a list taken so many times -/
def rRepR (K : PySem.W.Frag) : R2 := fun x y H Q => ∃ l k xs, x = .ref l ∧ y = .int k ∧ LsR K H l xs ∧ -1000000 < k ∧ k < 1000000 ∧ xs.length * k.toNat ≤ most ∧ ∀ p, H p = none → Q (.ref p) (upd H p (.lst (List.replicate k.toNat xs).flatten))
theorem op_repR : OpR X (binaryOp .Mult) (rRepR X.K) := by
  intro pins s σ H x y v u Q I rx ry ⟨l, k, xs, ex, ey, h1, k1, k2, hz, q⟩
  subst ex ey
  cases rx
  obtain ⟨t, rfl⟩ := ry
  obtain ⟨z, its, n, r, e⟩ := lstR I h1
  have l1 := r.length
  have sz : its.toArray.size * k.toNat ≤ sizeLine := by
    rw [List.size_toArray, ← l1]
    exact most_line hz
  have c1 : ¬ its.toArray.size * k.toNat > (2 ^ 63 - 1) / 8 := by
    have : (sizeLine : Nat) ≤ (2 ^ 63 - 1) / 8 := by decide
    omega
  have c2 : ¬ (!Builtin.List.listFitsIndex k) = true := by
    rw [fitsIndex_both (by omega) (by omega)]
    simp
  have c3 : ¬ Builtin.List.listTooLong (its.toArray.size * k.toNat) = true := by
    rw [notLongL sz]
    simp
  have same : List.foldl (fun a b => a ++ b) #[] (List.replicate (if its.toArray.isEmpty = true then 0 else k.toNat) its.toArray) = (List.replicate k.toNat its).flatten.toArray := by
    have z0 : ∀ m : Nat, List.foldl (fun a b => a ++ b) #[] (List.replicate m its.toArray) = (List.replicate m its).flatten.toArray := fun m => by
      have w := foldl_rep its m []
      simpa using w
    rw [z0]
    cases its with
    | nil => simp
    | cons a r' => simp
  refine wpAny_binaryOp_repeat_ref (T := "list") (U := "int") (by decide) ⟨_, e, rfl⟩ (fun s' => typeIs_int s' k t) noFill_list_mul PySem.F.fills_int_mul PySem.F.slot_int_rmul repeat_list PySem.F.slot_int_index.lookup ?_
  refine call_meets PySem.F.slot_int_rmul (typeIs_int s k t) PySem.F.entry_int_rmul (PySem.F.args_int_rmul_2 _ _) (int___rmul___int_list k t l its.toArray n) ⟨e, rfl, ⟨_, e, rfl⟩, ?_⟩
  refine call_meets PySem.F.slot_list_mul ⟨_, e, rfl⟩ PySem.F.entry_list_mul (PySem.F.args_list_mul_2 _ _) (AutoListH.list___mul___list_int_3 l its.toArray n k t c2 c1 c3) ⟨e, ?_⟩
  rw [same]
  refine ⟨.ref _, _, I.lnew (t' := s.toks) (r.rep k.toNat) ?_, rfl, q _ I.fresh⟩
  rw [PyProof.Rows.lm_len_rep_flat, Nat.mul_comm]
  exact most_line hz
/-- tuples compared -/
def rLtD (K : PySem.W.Frag) : R2 := fun x y H Q => ∃ ds es, L2.Dp K H x (.tuple ds) ∧ L2.Dp K H y (.tuple es) ∧ PySem.W.alikeAll ds es = true ∧ PyData.depthAll ds ≤ 60 ∧ Q (.bl (PySem.W.dataLt (.tuple ds) (.tuple es))) H
theorem op_ltD (hu : X.A.units + 100 < cLine) : OpR X (compareOp .Lt) (rLtD X.K) := by
  intro pins s σ H x y v u Q I rx ry ⟨ds, es, hx, hy, al, dp, q⟩
  obtain ⟨as, r1⟩ := Dp.reads I _ x v hx rx
  obtain ⟨bs, r2⟩ := Dp.reads I _ y u hy ry
  have room : X.A.units + min (PyData.depth (.tuple ds)) (PyData.depth (.tuple es)) < cLine := by
    have : PyData.depth (.tuple ds) = PyData.depthAll ds + 1 := by simp only [PyData.depth]
    omega
  exact PySem.W.rcLt_alike _ _ X.A s v u as bs r1 r2 (by simpa [PySem.W.alike] using al) (by simp) room X.prog X.w X.xe _ ⟨.bl _, H, I, rfl, q⟩
/-- in a tuple -/
def rInT (K : PySem.W.Frag) (neg : Bool) : R2 := fun x y H Q => ∃ d ds, L2.Dp K H x d ∧ L2.Dp K H y (.tuple ds) ∧ SeqAt.shaped d = true ∧ SeqAt.shaped (.tuple ds) = true ∧ Q (.bl (if neg then !ds.any fun z => PyData.eqv z d else ds.any fun z => PyData.eqv z d)) H
theorem shaped_room {d c : PyData} (hd : SeqAt.shaped d = true) {n : Nat} (hu : n + 65 < cLine) {k : Nat} : n + 1 + min k d.depth < cLine := by
  have := SeqAt.depth_of_shaped hd
  have := Nat.min_le_right k d.depth
  omega
theorem op_inT (hu : X.A.units + 65 < cLine) : OpR X (compareOp .In) (rInT X.K false) := by
  intro pins s σ H x y v u Q I rx ry ⟨d, ds, hx, hy, sd, se, q⟩
  obtain ⟨as, r1⟩ := Dp.reads I _ x v hx rx
  obtain ⟨bs, r2⟩ := Dp.reads I _ y u hy ry
  exact SeqAt.in_tuple_reads r2 r1 (SeqAt.canLay_of_shaped se) (SeqAt.canLay_of_shaped sd) (shaped_room (c := d) sd hu) ⟨.bl _, H, I, rfl, q⟩
theorem op_notInT (hu : X.A.units + 65 < cLine) : OpR X (compareOp .NotIn) (rInT X.K true) := by
  intro pins s σ H x y v u Q I rx ry ⟨d, ds, hx, hy, sd, se, q⟩
  obtain ⟨as, r1⟩ := Dp.reads I _ x v hx rx
  obtain ⟨bs, r2⟩ := Dp.reads I _ y u hy ry
  exact SeqAt.notIn_tuple_reads r2 r1 (SeqAt.canLay_of_shaped se) (SeqAt.canLay_of_shaped sd) (shaped_room (c := d) sd hu) ⟨.bl _, H, I, rfl, q⟩
end
end Ev

set_option Elab.async false
set_option linter.all false
set_option maxRecDepth 100000
set_option maxHeartbeats 2000000
/-! EvD: operators of this language, over HandS. -/
namespace Ev
open PySem PySem.Spec L2

section
variable {K : PySem.W.Frag}
theorem r2_or1 {r r' : R2} {f : PyData → PyData → Option RV} (h : R2ok K r f) : R2ok K (fun x y H Q => r x y H Q ∨ r' x y H Q) f := fun s a b c d => .inl (h s a b c d)
/-- the ways of + -/
def rAdd (K : PySem.W.Frag) : R2 := fun x y H Q => rI0 (fun i j => .int (i + j)) x y H Q ∨ (fun x y H Q => ∃ i j, x = .str i ∧ y = .str j ∧ i.length + j.length ≤ sizeLine ∧ Q (.str (i ++ j)) H) x y H Q ∨ rCatR K x y H Q ∨ rCatZ K x y H Q
theorem op_addA {X : Cx} : OpR X (binaryOp .Add) (rAdd X.K) := op_add.or (op_add_str.or (op_catR.or op_catZ))
theorem ok_add : R2ok K (rAdd K) addD := by
  intro F B σ H e G x y dx dy res Q s hx hy h k
  unfold addD at h
  split at h
  · cases h
    cases hx.int; cases hy.int
    exact .inl ⟨_, _, rfl, rfl, k.rp s (.int _)⟩
  · split at h
    · rename_i z
      cases h
      cases hx.str; cases hy.str
      exact .inr (.inl ⟨_, _, rfl, rfl, most_line z, k.rp s (.str _)⟩)
    · cases h
  · split at h
    · rename_i z
      cases h
      obtain ⟨p, vs, rfl, h1, h2⟩ := hx.lst s.sub
      obtain ⟨p', vs', rfl, h1', h2'⟩ := hy.lst s.sub
      exact .inr (.inr (.inl ⟨_, _, _, _, rfl, rfl, h1, h1', by rw [h2.len, h2'.len]; exact most_line z, fun q hq => k.lst s (h2.app h2') hq⟩))
    · cases h
  · split at h
    · rename_i xs ys z
      cases h
      obtain ⟨p, vs, rfl, h1, h2⟩ := hx.tup s.sub
      obtain ⟨p', vs', rfl, h1', h2'⟩ := hy.tup s.sub
      have n1 := h2.len
      have n2 := h2'.len
      have rx : Rp K H (.ref p) (.tuple xs) := .tup h1 (h2.up s.sub)
      refine .inr (.inr (.inr ⟨_, _, _, _, rfl, rfl, h1.sqT, h1'.sqT, by rw [n1, n2]; exact most_line z, fun z1 => ?_, fun _ z1 => ?_, fun _ _ => k.tup s (h2.app h2')⟩))
      · subst z1
        cases xs with
        | cons _ _ => cases n1
        | nil =>
          rcases hy with hy | ⟨_, _, _, _, z2, _⟩
          · exact k.rp s hy
          · cases z2
      · subst z1
        cases ys with
        | cons _ _ => cases n2
        | nil =>
          rcases hx with hx | ⟨_, _, _, _, z2, _⟩
          · exact k.rp s (by rw [List.append_nil]; exact hx)
          · cases z2
    · cases h
  · cases h
theorem ok_sub : R2ok K (rI0 fun i j => .int (i - j)) subD := by
  intro F B σ H e G x y dx dy res Q s hx hy h k
  unfold subD at h
  split at h
  · cases h
    cases hx.int; cases hy.int
    exact ⟨_, _, rfl, rfl, k.rp s (.int _)⟩
  · cases h
def rMul (K : PySem.W.Frag) : R2 := fun x y H Q => rI CMulW (fun i j => .int (i * j)) x y H Q ∨ rRepR K x y H Q
theorem op_mulA {X : Cx} : OpR X (binaryOp .Mult) (rMul X.K) := op_mulW.or op_repR
theorem ok_mul : R2ok K (rMul K) mulD := by
  intro F B σ H e G x y dx dy res Q s hx hy h k
  unfold mulD at h
  split at h
  · split at h
    · rename_i z
      cases h
      cases hx.int; cases hy.int
      exact .inl ⟨_, _, rfl, rfl, z, k.rp s (.int _)⟩
    · cases h
  · split at h
    · rename_i xs n z
      cases h
      cases hy.int
      obtain ⟨p, vs, rfl, h1, h2⟩ := hx.lst s.sub
      refine .inr ⟨_, _, _, rfl, rfl, h1, z.2.1, z.1, by rw [h2.len]; exact z.2.2, fun q hq => k.lst s ?_ hq⟩
      have rep : ∀ m : Nat, RpAll K G (List.replicate m vs).flatten (List.replicate m xs).flatten := fun m => by
        induction m with
        | zero => exact .nil
        | succ m ih => rw [List.replicate_succ, List.replicate_succ, List.flatten_cons, List.flatten_cons]; exact h2.app ih
      exact rep _
    · cases h
  · cases h
def rFdiv : R2 := fun x y H Q => rI CDivN (fun i j => .int (i.fdiv j)) x y H Q ∨ rI CDivW (fun i j => .int (i / j)) x y H Q
theorem op_fdivA {X : Cx} : OpR X (binaryOp .FloorDiv) rFdiv := op_fdivN.or op_fdivW
theorem ok_fdiv : R2ok K rFdiv fdivD := by
  intro F B σ H e G x y dx dy res Q s hx hy h k
  unfold fdivD at h
  split at h
  · split at h
    · rename_i i j z
      cases h
      cases hx.int; cases hy.int
      rcases z with z | z
      · exact .inl ⟨_, _, rfl, rfl, z, k.rp s (.int _)⟩
      · refine .inr ⟨_, _, rfl, rfl, z, ?_⟩
        have := k.rp s (.int _)
        rwa [Int.fdiv_eq_ediv_of_nonneg _ (by omega)] at this
    · cases h
  · cases h
theorem ok_mod : R2ok K (rI (fun _ j => j ≠ 0) fun i j => .int (i.fmod j)) modD := by
  intro F B σ H e G x y dx dy res Q s hx hy h k
  unfold modD at h
  split at h
  · split at h
    · rename_i z
      cases h
      cases hx.int; cases hy.int
      exact ⟨_, _, rfl, rfl, z, k.rp s (.int _)⟩
    · cases h
  · cases h
theorem ok_pow : R2ok K (rI CPow fun i j => .int (i ^ j.toNat)) powD := by
  intro F B σ H e G x y dx dy res Q s hx hy h k
  unfold powD at h
  split at h
  · split at h
    · rename_i z
      cases h
      cases hx.int; cases hy.int
      exact ⟨_, _, rfl, rfl, z, k.rp s (.int _)⟩
    · cases h
  · cases h
theorem ok_shl : R2ok K (rI CPow fun i j => .int (i * 2 ^ j.toNat)) shlD := by
  intro F B σ H e G x y dx dy res Q s hx hy h k
  unfold shlD at h
  split at h
  · split at h
    · rename_i z
      cases h
      cases hx.int; cases hy.int
      exact ⟨_, _, rfl, rfl, z, k.rp s (.int _)⟩
    · cases h
  · cases h
/-! comparisons -/
theorem cmp_some {o : Cop} {d e : PyData} {r : RV} (h : cmpD o d e = some r) : ∃ b, cmpB o d e = some b ∧ r = bRV b := by
  unfold cmpD at h
  cases q : cmpB o d e with
  | none => rw [q] at h; cases h
  | some b => rw [q] at h; cases h; exact ⟨b, rfl, rfl⟩
theorem map_not {o : Option Bool} {b : Bool} (h : o.map (!·) = some b) : o = some (!b) := by
  cases o with
  | none => cases h
  | some c => cases h; simp
def rEqA (K : PySem.W.Frag) : R2 := fun x y H Q => rEq x y H Q ∨ rEqD K x y H Q
theorem op_eqA {X : Cx} (hu : X.A.units + 64 < cLine) : OpR X (compareOp .Eq) (rEqA X.K) := op_eq.or (op_eqD hu)
def rNeA (K : PySem.W.Frag) : R2 := fun x y H Q => rNe x y H Q ∨ rNeD K x y H Q
theorem op_neA {X : Cx} (hu : X.A.units + 64 < cLine) : OpR X (compareOp .NotEq) (rNeA X.K) := op_ne.or (op_neD hu)
theorem eqS_some {d e : PyData} {b : Bool} (h : eqS d e = some b) : ∃ s t : Str, d = .str s ∧ e = .str t ∧ b = decide (s = t) := by
  unfold eqS at h
  split at h
  · cases h; exact ⟨_, _, rfl, rfl, rfl⟩
  · cases h
theorem dec_strV {i j : Str} : decide (V.str i = V.str j) = decide (i = j) := by
  rw [Bool.eq_iff_iff]
  simp
theorem ok_eq : R2ok K (rEqA K) (cmpD .eq) := by
  intro F B σ H e G x y dx dy res Q s hx hy h k
  obtain ⟨b, hb, rfl⟩ := cmp_some h
  have hb : eqD dx dy = some b := hb
  unfold eqD at hb
  split at hb
  · rename_i z
    cases hb
    exact .inr ⟨dx, dy, rp_dp _ _ (hx.rp s.sub), rp_dp _ _ (hy.rp s.sub), z.1, z.2, k.rp s (.bl _)⟩
  · obtain ⟨a, c, rfl, rfl, rfl⟩ := eqS_some hb
    cases hx.str; cases hy.str
    refine .inl ⟨rfl, ?_⟩
    rw [dec_strV]
    exact k.rp s (.bl _)
theorem ok_ne : R2ok K (rNeA K) (cmpD .ne) := by
  intro F B σ H e G x y dx dy res Q s hx hy h k
  obtain ⟨b, hb, rfl⟩ := cmp_some h
  have hb : eqD dx dy = some (!b) := map_not hb
  unfold eqD at hb
  split at hb
  · rename_i z
    refine .inr ⟨dx, dy, rp_dp _ _ (hx.rp s.sub), rp_dp _ _ (hy.rp s.sub), z.1, z.2, ?_⟩
    have e2 : b = !PyData.eqv dx dy := by
      have := Option.some.inj hb
      rw [this]; simp
    rw [← e2]
    exact k.rp s (.bl _)
  · obtain ⟨a, c, rfl, rfl, e2⟩ := eqS_some hb
    cases hx.str; cases hy.str
    refine .inl ⟨rfl, ?_⟩
    rw [dec_strV, ← e2]
    have : (!!b) = b := by simp
    rw [this]
    exact k.rp s (.bl _)
def rLt (K : PySem.W.Frag) : R2 := fun x y H Q => rI0 (fun i j => .bl (decide (i < j))) x y H Q ∨ rLtD K x y H Q
theorem op_ltA {X : Cx} (hu : X.A.units + 100 < cLine) : OpR X (compareOp .Lt) (rLt X.K) := op_lt.or (op_ltD hu)
theorem ok_lt : R2ok K (rLt K) (cmpD .lt) := by
  intro F B σ H e G x y dx dy res Q s hx hy h k
  obtain ⟨b, hb, rfl⟩ := cmp_some h
  have hb : ltD dx dy = some b := hb
  unfold ltD at hb
  split at hb
  · cases hb
    cases hx.int; cases hy.int
    exact .inl ⟨_, _, rfl, rfl, k.rp s (.bl _)⟩
  · split at hb
    · rename_i z
      cases hb
      exact .inr ⟨_, _, rp_dp _ _ (hx.rp s.sub), rp_dp _ _ (hy.rp s.sub), z.1, z.2, k.rp s (.bl _)⟩
    · cases hb
  · cases hb
theorem ok_le : R2ok K (rI0 fun i j => .bl (decide (i ≤ j))) (cmpD .le) := by
  intro F B σ H e G x y dx dy res Q s hx hy h k
  obtain ⟨b, hb, rfl⟩ := cmp_some h
  have hb : leD dx dy = some b := hb
  unfold leD at hb
  split at hb
  · cases hb
    cases hx.int; cases hy.int
    exact ⟨_, _, rfl, rfl, k.rp s (.bl _)⟩
  · cases hb
theorem ok_gt : R2ok K (rI0 fun i j => .bl (decide (j < i))) (cmpD .gt) := by
  intro F B σ H e G x y dx dy res Q s hx hy h k
  obtain ⟨b, hb, rfl⟩ := cmp_some h
  have hb : gtD dx dy = some b := hb
  unfold gtD at hb
  split at hb
  · cases hb
    cases hx.int; cases hy.int
    exact ⟨_, _, rfl, rfl, k.rp s (.bl _)⟩
  · cases hb
theorem ok_ge : R2ok K (rI0 fun i j => .bl (decide (j ≤ i))) (cmpD .ge) := by
  intro F B σ H e G x y dx dy res Q s hx hy h k
  obtain ⟨b, hb, rfl⟩ := cmp_some h
  have hb : geD dx dy = some b := hb
  unfold geD at hb
  split at hb
  · cases hb
    cases hx.int; cases hy.int
    exact ⟨_, _, rfl, rfl, k.rp s (.bl _)⟩
  · cases hb
def rInA (K : PySem.W.Frag) : R2 := fun x y H Q => rInD K x y H Q ∨ rInT K false x y H Q
def rNotInA (K : PySem.W.Frag) : R2 := fun x y H Q => rNotInD K x y H Q ∨ rInT K true x y H Q
theorem op_inA {X : Cx} (hu : X.A.units + 65 < cLine) : OpR X (compareOp .In) (rInA X.K) := (op_inD hu).or (op_inT hu)
theorem op_notInA {X : Cx} (hu : X.A.units + 65 < cLine) : OpR X (compareOp .NotIn) (rNotInA X.K) := (op_notInD hu).or (op_notInT hu)
theorem ok_in : R2ok K (rInA K) (cmpD .isin) := by
  intro F B σ H e G x y dx dy res Q s hx hy h k
  obtain ⟨b, hb, rfl⟩ := cmp_some h
  have hb : inD dx dy = some b := hb
  unfold inD at hb
  split at hb
  · split at hb
    · rename_i z
      cases hb
      exact .inl ⟨_, _, rp_dp _ _ (hx.rp s.sub), rp_dp _ _ (hy.rp s.sub), z.1, z.2, k.rp s (.bl _)⟩
    · cases hb
  · split at hb
    · rename_i z
      cases hb
      exact .inr ⟨_, _, rp_dp _ _ (hx.rp s.sub), rp_dp _ _ (hy.rp s.sub), z.1, z.2, k.rp s (.bl _)⟩
    · cases hb
  · cases hb
theorem ok_notin : R2ok K (rNotInA K) (cmpD .notin) := by
  intro F B σ H e G x y dx dy res Q s hx hy h k
  obtain ⟨b, hb, rfl⟩ := cmp_some h
  have hb : inD dx dy = some (!b) := map_not hb
  unfold inD at hb
  split at hb
  · split at hb
    · rename_i ds z
      refine .inl ⟨_, _, rp_dp _ _ (hx.rp s.sub), rp_dp _ _ (hy.rp s.sub), z.1, z.2, ?_⟩
      rw [Option.some.inj hb]
      simp only [Bool.not_not]
      exact k.rp s (.bl _)
    · cases hb
  · split at hb
    · rename_i ds z
      refine .inr ⟨_, _, rp_dp _ _ (hx.rp s.sub), rp_dp _ _ (hy.rp s.sub), z.1, z.2, ?_⟩
      rw [Option.some.inj hb]
      simp only [Bool.not_not]
      exact k.rp s (.bl _)
    · cases hb
  · cases hb
theorem Dw.ne_non {G H : Hp} {x : V} {d : PyData} (h : Dw K G H x d) (n : d ≠ .none) : x ≠ .non := by
  rcases h with h | ⟨_, _, _, rfl, _⟩
  · cases h <;> simp_all
  · simp
theorem isND_some {d e : PyData} {b : Bool} (h : isND d e = some b) {G H : Hp} {x y : V} (hx : Dw K G H x d) (hy : Dw K G H y e) : y = .non ∧ b = decide (x = .non) := by
  unfold isND at h
  split at h
  · cases h
    cases hx.non
    exact ⟨hy.non, rfl⟩
  · rename_i n
    cases h
    refine ⟨hy.non, ?_⟩
    rw [decide_eq_false (hx.ne_non fun z => by subst z; exact n rfl)]
  · cases h
theorem ok_isN : R2ok K (fun x y H Q => y = .non ∧ Q (.bl (decide (x = .non))) H) (cmpD .isN) := by
  intro F B σ H e G x y dx dy res Q s hx hy h k
  obtain ⟨b, hb, rfl⟩ := cmp_some h
  obtain ⟨h1, h2⟩ := isND_some hb hx hy
  exact ⟨h1, by rw [← h2]; exact k.rp s (.bl _)⟩
theorem ok_isnotN : R2ok K (fun x y H Q => y = .non ∧ Q (.bl (!decide (x = .non))) H) (cmpD .isnotN) := by
  intro F B σ H e G x y dx dy res Q s hx hy h k
  obtain ⟨b, hb, rfl⟩ := cmp_some h
  obtain ⟨h1, h2⟩ := isND_some (map_not hb) hx hy
  exact ⟨h1, by rw [← h2, Bool.not_not]; exact k.rp s (.bl _)⟩
theorem ok_isB : R2ok K (fun x y H Q => ∃ a b, x = .bl a ∧ y = .bl b ∧ Q (.bl (decide (a = b))) H) (cmpD .isB) := by
  intro F B σ H e G x y dx dy res Q s hx hy h k
  obtain ⟨b, hb, rfl⟩ := cmp_some h
  have hb : isBD dx dy = some b := hb
  unfold isBD at hb
  split at hb
  · cases hb
    cases hx.bl; cases hy.bl
    exact ⟨_, _, rfl, rfl, k.rp s (.bl _)⟩
  · cases hb
theorem ok_isnotB : R2ok K (fun x y H Q => ∃ a b, x = .bl a ∧ y = .bl b ∧ Q (.bl (!decide (a = b))) H) (cmpD .isnotB) := by
  intro F B σ H e G x y dx dy res Q s hx hy h k
  obtain ⟨b, hb, rfl⟩ := cmp_some h
  have hb : isBD dx dy = some (!b) := map_not hb
  unfold isBD at hb
  split at hb
  · rename_i a c
    cases hx.bl; cases hy.bl
    refine ⟨_, _, rfl, rfl, ?_⟩
    rw [Option.some.inj hb, Bool.not_not]
    exact k.rp s (.bl _)
  · cases hb
theorem ixN_get {n : Nat} {i : Int} {j : Nat} (h : ixN n i = some j) : j < n := (ixN_seq h).2.1
theorem atI_rp {G : Hp} {vs : List V} {ds : List PyData} {i : Int} {d : PyData} (h : RpAll K G vs ds) (e : atI ds i = some d) : ∃ v, atI vs i = some v ∧ Rp K G v d := by
  unfold atI at e ⊢
  rw [h.len]
  cases q : ixN ds.length i with
  | none => rw [q] at e; cases e
  | some j =>
    rw [q] at e
    exact h.get e
theorem ok_idx : R2ok K (rIx K) idxD := by
  intro F B σ H e G x y dx dy res Q s hx hy h k
  unfold idxD at h
  split at h
  · rename_i ds i
    cases q : atI ds i with
    | none => rw [q] at h; cases h
    | some d =>
      rw [q] at h; cases h
      cases hy.int
      obtain ⟨p, vs, rfl, h1, h2⟩ := hx.lst s.sub
      obtain ⟨v, h3, h4⟩ := atI_rp h2 q
      exact .inl ⟨_, _, _, _, rfl, rfl, h1.sqL, h3, k.rp s h4⟩
  · rename_i ds i
    cases q : atI ds i with
    | none => rw [q] at h; cases h
    | some d =>
      rw [q] at h; cases h
      cases hy.int
      obtain ⟨p, vs, rfl, h1, h2⟩ := hx.tup s.sub
      obtain ⟨v, h3, h4⟩ := atI_rp h2 q
      exact .inr (.inl ⟨_, _, _, _, rfl, rfl, h1.sqT, h3, k.rp s h4⟩)
  · rename_i z i
    split at h
    · rename_i zl
      cases q : atI z.cps.toList i with
      | none => rw [q] at h; cases h
      | some d =>
        rw [q] at h; cases h
        cases hy.int
        cases hx.str
        exact .inr (.inr ⟨_, _, _, rfl, rfl, most_line zl, q, k.rp s (.str _)⟩)
    · cases h
  · cases h
end

/-! ### operators on operands -/
@[simp] def op2 (f : PyData → PyData → Option RV) (ma mb : M OV) : M RV := do
  let x ← ma
  let y ← mb
  let d ← der x
  let e ← der y
  liftO (f d e)
section
variable {X : Cx} {W : WX} {a b c : Expr} {ma mb mc : M OV} {pos : Pos}
theorem t_op2 {r : R2} {f : PyData → PyData → Option RV} (h : R2ok X.K r f) {σ : St} {H : Hp} {Q : VK} (q : tV X.K X.mg W (op2 f ma mb) σ H Q) : tOp r (tO X.K X.mg W ma) (tO X.K X.mg W mb) σ H Q := by
  obtain ⟨e, G, F, B, s, k⟩ := q
  refine ⟨e, G, F, B, s, (ok_bind.mp k).imp (fun ox e1 k1 x H1 G1 s1 m1 r1 => ?_) fun _ _ w => w⟩
  refine ⟨e1, G1, F, B, s1, (ok_bind.mp k1).imp (fun oy e2 k2 y H2 G2 s2 m2 r2 => ?_) fun _ _ w => w.up m1⟩
  obtain ⟨dx, hx, k3⟩ := s2.der (r1.up m2) (ok_bind.mp k2)
  obtain ⟨dy, hy, k4⟩ := s2.der r2 (ok_bind.mp k3)
  obtain ⟨res, hr, k5⟩ := ok_liftO.mp k4
  exact h s2 hx hy hr fun v H' G' s' m' rr => k5 v H' G' s' ((m1.trans m2).trans m') rr
theorem sv_bin {op : Operator} {r : R2} {f : PyData → PyData → Option RV} (ho : OpR X (binaryOp op) r) (h : R2ok X.K r f) (ha : SO X W a ma) (hb : SO X W b mb) : SV X W (.BinOp a op b pos) (op2 f ma mb) :=
  weakE (pe_op ho ha hb) fun σ H Q q => t_op2 h q
theorem sv_cmp {op : CmpOp} {r : R2} {f : PyData → PyData → Option RV} (ho : OpR X (compareOp op) r) (h : R2ok X.K r f) (ha : SO X W a ma) (hb : SO X W b mb) (hm : behindInMarks op b = false) : SV X W (.Compare a [op] [b] pos) (op2 f ma mb) :=
  weakE (pe_cmpR ho ha hb hm) fun σ H Q q => t_op2 h q
theorem sv_idx (ha : SO X W a ma) (hb : SO X W b mb) (hs : PlainIx b) : SV X W (.Subscript a b pos) (op2 idxD ma mb) :=
  weakE (pe_ix ix_seq ha hb hs) fun σ H Q q => t_op2 ok_idx q
/-- a test by its value, for comparisons -/
theorem tB_of {t : TE} {m : M RV} (h : ∀ σ H Q, tV X.K X.mg W m σ H Q → t σ H Q) {σ : St} {H : Hp} {Q : Bool → Hp → Prop} (q : tBo X.K X.mg W (asB m) σ H Q) : tB t σ H Q := by
  obtain ⟨e, G, F, B, s, k⟩ := q
  refine h σ H _ ⟨e, G, F, B, s, (ok_bind.mp k).imp (fun r e1 k1 v H1 G1 s1 m1 r1 => ?_) fun _ _ w => w⟩
  obtain ⟨b, hb, k2⟩ := ok_liftO.mp k1
  obtain ⟨d, fr⟩ := r
  cases d <;> try cases hb
  unfold RR at r1
  cases fr with
  | true => obtain ⟨_, _, _, _, z, _⟩ := r1; cases z
  | false => cases r1; exact ⟨_, rfl, k2 H1 G1 s1 m1⟩
theorem sb_cmp {op : CmpOp} {r : R2} {f : PyData → PyData → Option RV} (ho : OpR X (compareOp op) r) (h : R2ok X.K r f) (ha : SO X W a ma) (hb : SO X W b mb) (hm : behindInMarks op b = false) : SB X W (.Compare a [op] [b] pos) (asB (op2 f ma mb)) :=
  weakT (pt_cmpR ho ha hb hm) fun σ H Q q => tB_of (fun σ H Q q => t_op2 h q) q
/-- a < b < c -/
@[simp] def op3 (f g : PyData → PyData → Option RV) (ma mb mc : M OV) : M RV := do
  let x ← ma
  let y ← mb
  let d ← der x
  let e ← der y
  let r ← liftO (f d e)
  let t ← liftO (isB r.d)
  if t then do
    let z ← mc
    let e' ← der y
    let c ← der z
    liftO (g e' c)
  else pure ⟨.bool false, false⟩
theorem t_op3 {r r' : R2} {f g : PyData → PyData → Option RV} (h : R2ok X.K r f) (h' : R2ok X.K r' g) {σ : St} {H : Hp} {Q : VK} (q : tV X.K X.mg W (op3 f g ma mb mc) σ H Q) :
    tChain r r' (tO X.K X.mg W ma) (tO X.K X.mg W mb) (tO X.K X.mg W mc) σ H Q := by
  obtain ⟨e, G, F, B, s, k⟩ := q
  refine ⟨e, G, F, B, s, (ok_bind.mp k).imp (fun ox e1 k1 x H1 G1 s1 m1 r1 => ?_) fun _ _ w => w⟩
  refine ⟨e1, G1, F, B, s1, (ok_bind.mp k1).imp (fun oy e2 k2 y H2 G2 s2 m2 r2 => ?_) fun _ _ w => w.up m1⟩
  obtain ⟨dx, hx, k3⟩ := s2.der (r1.up m2) (ok_bind.mp k2)
  obtain ⟨dy, hy, k4⟩ := s2.der r2 (ok_bind.mp k3)
  obtain ⟨res, hr, k5⟩ := ok_liftO.mp (ok_bind.mp k4)
  obtain ⟨t, ht, k6⟩ := ok_liftO.mp (ok_bind.mp k5)
  refine h s2 hx hy hr fun v H3 G3 s3 m3 rr => ?_
  obtain ⟨d, fr⟩ := res
  cases d <;> try cases ht
  unfold RR at rr
  cases fr with
  | true => obtain ⟨_, _, _, _, z, _⟩ := rr; cases z
  | false =>
    cases rr
    refine ⟨t, rfl, ?_⟩
    have m123 := (m1.trans m2).trans m3
    cases t with
    | false => exact k6 _ H3 G3 s3 m123 (.bl _)
    | true =>
      refine ⟨e2, G3, F, B, s3, (ok_bind.mp k6).imp (fun oz e3 k7 z H4 G4 s4 m4 r4 => ?_) fun _ _ w => w.up m123⟩
      obtain ⟨dy', hy', k8⟩ := s4.der (r2.up (m3.trans m4)) (ok_bind.mp k7)
      obtain ⟨dz, hz, k9⟩ := s4.der r4 (ok_bind.mp k8)
      obtain ⟨res', hr', k10⟩ := ok_liftO.mp k9
      exact h' s4 hy' hz hr' fun v H' G' s' m' rr => k10 v H' G' s' ((m123.trans m4).trans m') rr
theorem sv_chain {op op' : CmpOp} {r r' : R2} {f g : PyData → PyData → Option RV} (ho : OpR X (compareOp op) r) (ho' : OpR X (compareOp op') r') (h : R2ok X.K r f) (h' : R2ok X.K r' g) (ha : SO X W a ma) (hb : SO X W b mb) (hc : SO X W c mc)
    (hm : lastMarks [op, op'] [b, c] = false) : SV X W (.Compare a [op, op'] [b, c] pos) (op3 f g ma mb mc) :=
  weakE (pe_chain ho ho' ha hb hc hm) fun σ H Q q => t_op3 h h' q
theorem sb_chain {op op' : CmpOp} {r r' : R2} {f g : PyData → PyData → Option RV} (ho : OpR X (compareOp op) r) (ho' : OpR X (compareOp op') r') (h : R2ok X.K r f) (h' : R2ok X.K r' g) (ha : SO X W a ma) (hb : SO X W b mb) (hc : SO X W c mc)
    (hm : lastMarks [op, op'] [b, c] = false) : SB X W (.Compare a [op, op'] [b, c] pos) (asB (op3 f g ma mb mc)) :=
  weakT (pt_chain ho ho' ha hb hc hm) fun σ H Q q => tB_of (fun σ H Q q => t_op3 h h' q) q
/-! and, or, not, if -/
@[simp] def andM (ma mb : M Bool) : M Bool := do
  let b ← ma
  if b then mb else pure false
@[simp] def orM (ma mb : M Bool) : M Bool := do
  let b ← ma
  if b then pure true else mb
@[simp] def notM (ma : M Bool) : M Bool := do
  let b ← ma
  pure (!b)
@[simp] def ofB (m : M Bool) : M RV := do
  let b ← m
  pure ⟨.bool b, false⟩
@[simp] def iteM {α : Type} (mc : M Bool) (ma mb : M α) : M α := do
  let b ← mc
  if b then ma else mb
variable {na nb nc : M Bool} {va vb : M RV} {rest : List Expr}
theorem t_and {σ : St} {H : Hp} {Q : Bool → Hp → Prop} (q : tBo X.K X.mg W (andM na nb) σ H Q) : tAnd (tBo X.K X.mg W na) (tBo X.K X.mg W nb) σ H Q := by
  obtain ⟨e, G, F, B, s, k⟩ := q
  refine ⟨e, G, F, B, s, (ok_bind.mp k).imp (fun b e1 k1 H1 G1 s1 m1 => ?_) fun _ _ w => w⟩
  cases b with
  | true => exact iteT ⟨e1, G1, F, B, s1, Ok.imp (show Ok nb e1 _ _ from k1) (fun b e2 k2 H2 G2 s2 m2 => k2 H2 G2 s2 (m1.trans m2)) fun _ _ w => w.up m1⟩
  | false => exact iteF (k1 H1 G1 s1 m1)
theorem t_or {σ : St} {H : Hp} {Q : Bool → Hp → Prop} (q : tBo X.K X.mg W (orM na nb) σ H Q) : tOr (tBo X.K X.mg W na) (tBo X.K X.mg W nb) σ H Q := by
  obtain ⟨e, G, F, B, s, k⟩ := q
  refine ⟨e, G, F, B, s, (ok_bind.mp k).imp (fun b e1 k1 H1 G1 s1 m1 => ?_) fun _ _ w => w⟩
  cases b with
  | false => exact iteF ⟨e1, G1, F, B, s1, Ok.imp (show Ok nb e1 _ _ from k1) (fun b e2 k2 H2 G2 s2 m2 => k2 H2 G2 s2 (m1.trans m2)) fun _ _ w => w.up m1⟩
  | true => exact iteT (k1 H1 G1 s1 m1)
theorem sb_not (ha : SB X W a na) : SB X W (.UnaryOp .Not a pos) (notM na) := weakT (pt_not ha) fun σ H Q ⟨e, G, F, B, s, k⟩ =>
  ⟨e, G, F, B, s, (ok_bind.mp k).imp (fun b e1 k1 H1 G1 s1 m1 => k1 H1 G1 s1 m1) fun _ _ w => w⟩
/-- a test whatever its whole is -/
abbrev SW (X : Cx) (W : WX) (e : Expr) (m : M Bool) : Prop := PW X e (tBo X.K X.mg W m)
theorem weakW {e : Expr} {t t' : TT} (h : PW X e t) (k : ∀ σ H Q, t' σ H Q → t σ H Q) : PW X e t' := ⟨fun wh p s σ H Q I q => h.run wh p s σ H Q I (k σ H Q q)⟩
theorem sw_and (ha : SB X W a na) (hb : SW X W (.BoolOp .And (b :: rest) pos) nb) : SW X W (.BoolOp .And (a :: b :: rest) pos) (andM na nb) := weakW (pw_and ha hb) fun _ _ _ q => t_and q
theorem sw_or (ha : SB X W a na) (hb : SW X W (.BoolOp .Or (b :: rest) pos) nb) : SW X W (.BoolOp .Or (a :: b :: rest) pos) (orM na nb) := weakW (pw_or ha hb) fun _ _ _ q => t_or q
/-- as values -/
theorem bl_of {m : M Bool} {σ : St} {H : Hp} {Q : VK} (q : tV X.K X.mg W (ofB m) σ H Q) : ∃ e G F B, SR X.K F B σ H e G ∧ Ok m e (fun b e' => ∀ H' G', SR X.K F B σ H' e' G' → Same G G' → Q (.bl b) H') (WE X.K X.mg W F B G) := by
  obtain ⟨e, G, F, B, s, k⟩ := q
  exact ⟨e, G, F, B, s, (ok_bind.mp k).imp (fun b e1 k1 H1 G1 s1 m1 => k1 _ H1 G1 s1 m1 (.bl b)) fun _ _ w => w⟩
theorem sv_and (ha : SV X W a (ofB na)) (hb : SV X W (.BoolOp .And (b :: rest) pos) (ofB nb)) : SV X W (.BoolOp .And (a :: b :: rest) pos) (ofB (andM na nb)) := weakE (pe_and ha hb) fun σ H Q q => by
  obtain ⟨e, G, F, B, s, k⟩ := bl_of q
  refine ⟨e, G, F, B, s, ok_bind.mpr ((ok_bind.mp k).imp (fun b e1 k1 v H1 G1 s1 m1 rr => ?_) fun _ _ w => w)⟩
  cases rr
  refine ⟨_, rfl, ?_⟩
  cases b with
  | false => exact iteF (k1 H1 G1 s1 m1)
  | true => exact iteT ⟨e1, G1, F, B, s1, ok_bind.mpr (Ok.imp (show Ok nb e1 _ _ from k1) (fun b e2 k2 v H2 G2 s2 m2 rr => by cases rr; exact k2 H2 G2 s2 (m1.trans m2)) fun _ _ w => w.up m1)⟩
theorem sv_or (ha : SV X W a (ofB na)) (hb : SV X W (.BoolOp .Or (b :: rest) pos) (ofB nb)) : SV X W (.BoolOp .Or (a :: b :: rest) pos) (ofB (orM na nb)) := weakE (pe_or ha hb) fun σ H Q q => by
  obtain ⟨e, G, F, B, s, k⟩ := bl_of q
  refine ⟨e, G, F, B, s, ok_bind.mpr ((ok_bind.mp k).imp (fun b e1 k1 v H1 G1 s1 m1 rr => ?_) fun _ _ w => w)⟩
  cases rr
  refine ⟨_, rfl, ?_⟩
  cases b with
  | true => exact iteT (k1 H1 G1 s1 m1)
  | false => exact iteF ⟨e1, G1, F, B, s1, ok_bind.mpr (Ok.imp (show Ok nb e1 _ _ from k1) (fun b e2 k2 v H2 G2 s2 m2 rr => by cases rr; exact k2 H2 G2 s2 (m1.trans m2)) fun _ _ w => w.up m1)⟩
theorem sv_not (ha : SV X W a (ofB na)) : SV X W (.UnaryOp .Not a pos) (ofB (notM na)) := weakE (pe_not ha) fun σ H Q q => by
  obtain ⟨e, G, F, B, s, k⟩ := bl_of q
  refine ⟨e, G, F, B, s, ok_bind.mpr ((ok_bind.mp k).imp (fun b e1 k1 v H1 G1 s1 m1 rr => ?_) fun _ _ w => w)⟩
  cases rr
  exact ⟨_, rfl, k1 H1 G1 s1 m1⟩
theorem sv_asB {m : M RV} (h : SV X W a m) : SV X W a (ofB (asB m)) := weakE h fun σ H Q q => by
  obtain ⟨e, G, F, B, s, k⟩ := bl_of q
  refine ⟨e, G, F, B, s, (ok_bind.mp k).imp (fun r e1 k1 v H1 G1 s1 m1 rr => ?_) fun _ _ w => w⟩
  obtain ⟨b, hb, k2⟩ := ok_liftO.mp k1
  obtain ⟨d, fr⟩ := r
  cases d <;> try cases hb
  unfold RR at rr
  cases fr with
  | true => obtain ⟨_, _, _, _, z, _⟩ := rr; cases z
  | false => cases rr; exact k2 H1 G1 s1 m1
theorem sv_ite (hc : SB X W c nc) (ha : SV X W a va) (hb : SV X W b vb) : SV X W (.IfExp c a b pos) (iteM nc va vb) := weakE (pe_ifExp hc ha hb) fun σ H Q ⟨e, G, F, B, s, k⟩ => by
  refine ⟨e, G, F, B, s, (ok_bind.mp k).imp (fun b e1 k1 H1 G1 s1 m1 => ?_) fun _ _ w => w⟩
  cases b with
  | true => exact iteT ⟨e1, G1, F, B, s1, Ok.imp (show Ok va e1 _ _ from k1) (fun r e2 k2 v H2 G2 s2 m2 rr => k2 v H2 G2 s2 (m1.trans m2) rr) fun _ _ w => w.up m1⟩
  | false => exact iteF ⟨e1, G1, F, B, s1, Ok.imp (show Ok vb e1 _ _ from k1) (fun r e2 k2 v H2 G2 s2 m2 rr => k2 v H2 G2 s2 (m1.trans m2) rr) fun _ _ w => w.up m1⟩
/-- -a -/
def negD : PyData → Option RV
  | .int i => lit (.int (-i))
  | _ => none
@[simp] def op1 (f : PyData → Option RV) (ma : M OV) : M RV := do
  let x ← ma
  let d ← der x
  liftO (f d)
theorem sv_neg (ha : SO X W a ma) : SV X W (.UnaryOp .USub a pos) (op1 negD ma) := weakE (pe_un un_neg ha) fun σ H Q ⟨e, G, F, B, s, k⟩ => by
  refine ⟨e, G, F, B, s, (ok_bind.mp k).imp (fun ox e1 k1 x H1 G1 s1 m1 r1 => ?_) fun _ _ w => w⟩
  obtain ⟨dx, hx, k3⟩ := s1.der r1 (ok_bind.mp k1)
  obtain ⟨res, hr, k5⟩ := ok_liftO.mp k3
  unfold negD at hr
  split at hr
  · cases hr
    cases hx.int
    exact ⟨_, rfl, k5 _ H1 G1 s1 m1 (.int _)⟩
  · cases hr
end
end Ev

set_option Elab.async false
set_option linter.all false
set_option maxRecDepth 100000
set_option maxHeartbeats 2000000
/-! EvE: displays, built-in functions. -/
namespace Ev
open PySem PySem.Spec L2

/-! ### rows of values that are given away -/
def tVs (K : PySem.W.Frag) (mg : Str → Option Value) (W : WX) (m : M (List PyData)) : TA := fun σ H Q => ∃ e G F B, SR K F B σ H e G ∧ Ok m e (fun ds e' => ∀ vs H' G', SR K F B σ H' e' G' → Same G G' → RpAll K G' vs ds → Q vs H') (WE K mg W F B G)
abbrev SVs (X : Cx) (W : WX) (es : List Expr) (m : M (List PyData)) : Prop := PA X es (tVs X.K X.mg W m)
@[simp] def valM (m : M RV) : M PyData := do
  let r ← m
  pure r.d
section
variable {X : Cx} {W : WX} {e : Expr} {es : List Expr} {pos : Pos}
theorem svs_nil : SVs X W [] (pure []) := weakA pa_nil fun σ H Q ⟨en, G, F, B, s, k⟩ => k [] H G s (.refl _) .nil
theorem svs_cons {m : M RV} {ms : M (List PyData)} (h : SV X W e m) (hs : SVs X W es ms) (hst : starEach (e :: es) X.env = (false, eval e X.env) :: starEach es X.env) :
    SVs X W (e :: es) (do let d ← valM m; let ds ← ms; pure (d :: ds)) := weakA (pa_cons h hs hst) fun σ H Q ⟨en, G, F, B, s, k⟩ => by
  refine ⟨en, G, F, B, s, (ok_bind.mp (ok_bind.mp k)).imp (fun r e1 k1 v H1 G1 s1 m1 r1 => ?_) fun _ _ x => x⟩
  obtain ⟨G2, s2, m2, r2⟩ := r1.freeze s1
  refine ⟨e1, G2, F, B, s2, (ok_bind.mp k1).imp (fun os e2 k2 vs H3 G3 s3 m3 r3 => ?_) fun _ _ x => x.up (m1.trans m2)⟩
  exact k2 (v :: vs) H3 G3 s3 ((m1.trans m2).trans m3) (.cons (r2.up m3) r3)
@[simp] def tupM (ms : M (List PyData)) : M RV := do
  let ds ← ms
  liftO (if ds.length ≤ most then lit (.tuple ds) else none)
@[simp] def lstM (ms : M (List PyData)) : M RV := do
  let ds ← ms
  liftO (if ds.length ≤ most then some ⟨.list ds, true⟩ else none)
theorem sv_tup {k : Nat} {ms : M (List PyData)} (h : SVs X W es ms) : SV X W (.Tuple es k pos) (tupM ms) := weakE (pe_tupZ h) fun σ H Q ⟨en, G, F, B, s, k⟩ => by
  refine ⟨en, G, F, B, s, (ok_bind.mp k).imp (fun ds e1 k1 vs H1 G1 s1 m1 r1 => ?_) fun _ _ x => x⟩
  obtain ⟨res, hr, k2⟩ := ok_liftO.mp k1
  split at hr
  · rename_i z
    cases hr
    refine ⟨by rw [r1.len]; exact most_line z, fun p o hp ho => ?_⟩
    obtain ⟨s2, m2, r2⟩ := s1.tup r1 hp ho
    exact k2 _ _ _ s2 (m1.trans m2) r2
  · cases hr
theorem sv_lst {ms : M (List PyData)} (h : SVs X W es ms) : SV X W (.List es pos) (lstM ms) := weakE (pe_lst h) fun σ H Q ⟨en, G, F, B, s, k⟩ => by
  refine ⟨en, G, F, B, s, (ok_bind.mp k).imp (fun ds e1 k1 vs H1 G1 s1 m1 r1 => ?_) fun _ _ x => x⟩
  obtain ⟨res, hr, k2⟩ := ok_liftO.mp k1
  split at hr
  · rename_i z
    cases hr
    refine ⟨by rw [r1.len]; exact most_line z, fun p hp => ?_⟩
    exact k2 _ _ G1 (s1.new hp) m1 ⟨p, vs, ds, rfl, rfl, s1.newG hp, s1.newF hp, upd_same, r1, s1.newO hp⟩
  · cases hr
end

/-! ### built-in functions, by values -/
def RLok (K : PySem.W.Frag) (r : List V → Hp → VK → Prop) (f : List PyData → Option RV) : Prop := ∀ {F : Hp} {B : List (Nat × Addr)} {σ : St} {H : Hp} {e : En} {G : Hp} {xs : List V} {ds : List PyData} {res : RV} {Q : VK},
  SR K F B σ H e G → Dws K G H xs ds → f ds = some res → Post K F B σ e G res Q → r xs H Q
@[simp] def opL (f : List PyData → Option RV) (ms : M (List OV)) : M RV := do
  let os ← ms
  let ds ← ders os
  liftO (f ds)
section
variable {X : Cx} {W : WX} {e : Expr} {es : List Expr} {pos p : Pos} {x : Str} {id T : String}
theorem t_opL {r : List V → Hp → VK → Prop} {f : List PyData → Option RV} {ms : M (List OV)} (h : RLok X.K r f) {σ : St} {H : Hp} {Q : VK} (q : tV X.K X.mg W (opL f ms) σ H Q) : tCB r (tOs X.K X.mg W ms) σ H Q := by
  obtain ⟨en, G, F, B, s, k⟩ := q
  refine ⟨en, G, F, B, s, (ok_bind.mp k).imp (fun os e1 k1 vs H1 G1 s1 m1 r1 => ?_) fun _ _ w => w⟩
  obtain ⟨ds, hd, k2⟩ := s1.ders r1 (ok_bind.mp k1)
  obtain ⟨res, hr, k3⟩ := ok_liftO.mp k2
  exact h s1 hd hr fun v H' G' s' m' rr => k3 v H' G' s' (m1.trans m') rr
theorem sv_callB {r : List V → Hp → VK → Prop} {f : List PyData → Option RV} {ms : M (List OV)} (h : RLok X.K r f) (hc : CallR X (.builtin id) r) (hg : Gl X x) (hm : X.mg x = none) (hv : bootBuiltins x = some (.builtin id)) (ha : SA X W (e :: es) ms)
    (hn : x ≠ "__name__") (hdb : (x == ("__debug__" : Str)) = false) (he : starEach (e :: es) X.env = (false, eval e X.env) :: starEach es X.env) (hpl : (backTo pos (starEach es X.env)).any (·.1) = false) :
    SV X W (.Call (.Name x p) (e :: es) [] pos) (opL f ms) := weakE (pe_callB hc hg hm hv ha hn hdb he hpl) fun σ H Q q => t_opL h q
theorem sv_callT {r : List V → Hp → VK → Prop} {f : List PyData → Option RV} {ms : M (List OV)} (h : RLok X.K r f) (hc : CallR X (.type T) r) (hg : Gl X x) (hm : X.mg x = none) (hv : bootBuiltins x = some (.type T)) (ha : SA X W (e :: es) ms)
    (hn : x ≠ "__name__") (hdb : (x == ("__debug__" : Str)) = false) (he : starEach (e :: es) X.env = (false, eval e X.env) :: starEach es X.env) (hpl : (backTo pos (starEach es X.env)).any (·.1) = false) :
    SV X W (.Call (.Name x p) (e :: es) [] pos) (opL f ms) := weakE (pe_callTy hc hg hm hv ha hn hdb he hpl) fun σ H Q q => t_opL h q
end
theorem dws1 {K : PySem.W.Frag} {G H : Hp} {xs : List V} {d : PyData} (h : Dws K G H xs [d]) : ∃ x, xs = [x] ∧ Dw K G H x d := by
  cases h with
  | cons h t => cases t; exact ⟨_, rfl, h⟩
theorem dws2 {K : PySem.W.Frag} {G H : Hp} {xs : List V} {d e : PyData} (h : Dws K G H xs [d, e]) : ∃ x y, xs = [x, y] ∧ Dw K G H x d ∧ Dw K G H y e := by
  cases h with
  | cons h t =>
    obtain ⟨y, rfl, hy⟩ := dws1 t
    exact ⟨_, y, rfl, h, hy⟩
def boolsOf : List PyData → Option (List Bool)
  | [] => some []
  | .bool b :: ds => (boolsOf ds).map (b :: ·)
  | _ => none
def intsOf : List PyData → Option (List Int)
  | [] => some []
  | .int b :: ds => (intsOf ds).map (b :: ·)
  | _ => none
theorem boolsOf_map : ∀ bs : List Bool, boolsOf (bs.map PyData.bool) = some bs
  | [] => rfl
  | b :: bs => by simp [boolsOf, boolsOf_map bs]
theorem intsOf_map : ∀ bs : List Int, intsOf (bs.map PyData.int) = some bs
  | [] => rfl
  | b :: bs => by simp [intsOf, intsOf_map bs]
theorem boolsOf_eq : ∀ {ds : List PyData} {bs : List Bool}, boolsOf ds = some bs → ds = bs.map PyData.bool
  | [], bs, h => by cases h; rfl
  | d :: ds, bs, h => by
    cases d <;> try cases h
    rename_i b
    cases q : boolsOf ds with
    | none => simp [boolsOf, q] at h
    | some cs =>
      simp [boolsOf, q] at h
      subst h
      rw [boolsOf_eq q, List.map_cons]
theorem intsOf_eq : ∀ {ds : List PyData} {bs : List Int}, intsOf ds = some bs → ds = bs.map PyData.int
  | [], bs, h => by cases h; rfl
  | d :: ds, bs, h => by
    cases d <;> try cases h
    rename_i b
    cases q : intsOf ds with
    | none => simp [intsOf, q] at h
    | some cs =>
      simp [intsOf, q] at h
      subst h
      rw [intsOf_eq q, List.map_cons]
def lenF : List PyData → Option RV
  | [.list ds] => lit (.int ds.length)
  | [.tuple ds] => lit (.int ds.length)
  | [.str z] => if z.length ≤ most then lit (.int z.length) else none
  | _ => none
def absF : List PyData → Option RV
  | [.int i] => lit (.int (if i < 0 then -i else i))
  | _ => none
def maxOf : List Int → Int → Int
  | [], m => m
  | n :: ns, m => maxOf ns (if n > m then n else m)
def minOf : List Int → Int → Int
  | [], m => m
  | n :: ns, m => minOf ns (if n < m then n else m)
def maxF : List PyData → Option RV
  | [.int i, .int j] => lit (.int (if j > i then j else i))
  | [.list ds] => match intsOf ds with
    | some (n :: ns) => lit (.int (maxOf ns n))
    | _ => none
  | _ => none
def minF : List PyData → Option RV
  | [.int i, .int j] => lit (.int (if j < i then j else i))
  | [.list ds] => match intsOf ds with
    | some (n :: ns) => lit (.int (minOf ns n))
    | _ => none
  | _ => none
def tupleF : List PyData → Option RV
  | [.list ds] => lit (.tuple ds)
  | [.tuple ds] => lit (.tuple ds)
  | _ => none
def listF : List PyData → Option RV
  | [.list ds] => some ⟨.list ds, true⟩
  | [.tuple ds] => some ⟨.list ds, true⟩
  | _ => none
def anyF : List PyData → Option RV
  | [.list ds] => (boolsOf ds).map fun bs => ⟨.bool (bs.any id), false⟩
  | _ => none
def allF : List PyData → Option RV
  | [.list ds] => (boolsOf ds).map fun bs => ⟨.bool (bs.all id), false⟩
  | _ => none
def sumF : List PyData → Option RV
  | [.list ds] => (intsOf ds).map fun ns => ⟨.int ns.sum, false⟩
  | _ => none
def intF : List PyData → Option RV
  | [.int i] => lit (.int i)
  | [.bool b] => lit (.int (if b then 1 else 0))
  | _ => none
def reprF : List PyData → Option RV
  | [d] => if d.showable = true ∧ d.depth ≤ 60 ∧ d.shown.length ≤ most then lit (.str d.shown) else none
  | _ => none
def alikeL (ds : List PyData) : Bool := ds.all fun d => ds.all fun e => PySem.W.alike d e
def sortL (ds : List PyData) : List PyData := ds.mergeSort (PySem.W.dataLe false id)
def notBare : PyData → Bool
  | .none => false
  | .tuple [] => false
  | .tuple _ => true
  | _ => true
def isTupD : PyData → Bool
  | .tuple _ => true
  | _ => false
def sortable (ds : List PyData) : Bool := ds.all notBare && (ds.all isTupD || ds.all (!isTupD ·))
def sortedF : List PyData → Option RV
  | [.list ds] => if alikeL ds = true ∧ sortable ds = true ∧ ds.length ≤ most ∧ PyData.depthAll ds ≤ 60 then some ⟨.list (sortL ds), true⟩ else none
  | _ => none
section
variable {K : PySem.W.Frag}
theorem ok_len : RLok K (fun xs H Q => (∃ p ys, xs = [.ref p] ∧ (SqL K H p ys ∨ SqT K H p ys) ∧ Q (.int ys.length) H) ∨ (∃ z, xs = [.str z] ∧ z.length ≤ sizeLine ∧ Q (.int z.length) H)) lenF := by
  intro F B σ H e G xs ds res Q s hd h k
  unfold lenF at h
  split at h
  · cases h
    obtain ⟨x, rfl, hx⟩ := dws1 hd
    obtain ⟨p, vs, rfl, h1, h2⟩ := hx.lst s.sub
    exact .inl ⟨p, vs, rfl, .inl h1.sqL, by rw [h2.len]; exact k.rp s (.int _)⟩
  · cases h
    obtain ⟨x, rfl, hx⟩ := dws1 hd
    obtain ⟨p, vs, rfl, h1, h2⟩ := hx.tup s.sub
    exact .inl ⟨p, vs, rfl, .inr h1.sqT, by rw [h2.len]; exact k.rp s (.int _)⟩
  · split at h
    · rename_i zl
      cases h
      obtain ⟨x, rfl, hx⟩ := dws1 hd
      cases hx.str
      exact .inr ⟨_, rfl, most_line zl, k.rp s (.int _)⟩
    · cases h
  · cases h
theorem ok_abs : RLok K (fun xs H Q => ∃ i, xs = [.int i] ∧ Q (.int (if i < 0 then -i else i)) H) absF := by
  intro F B σ H e G xs ds res Q s hd h k
  unfold absF at h
  split at h
  · cases h
    obtain ⟨x, rfl, hx⟩ := dws1 hd
    cases hx.int
    exact ⟨_, rfl, k.rp s (.int _)⟩
  · cases h
theorem maxOf_mem : ∀ (ns : List Int) (m : Int), (maxOf ns m = m ∨ maxOf ns m ∈ ns) ∧ m ≤ maxOf ns m ∧ ∀ y ∈ ns, y ≤ maxOf ns m
  | [], m => ⟨.inl rfl, Int.le_refl _, by simp⟩
  | n :: ns, m => by
    obtain ⟨h1, h2, h3⟩ := maxOf_mem ns (if n > m then n else m)
    unfold maxOf
    refine ⟨?_, ?_, fun y hy => ?_⟩
    · rcases h1 with h1 | h1
      · rw [h1]; split <;> simp
      · exact .inr (List.mem_cons_of_mem _ h1)
    · refine Int.le_trans ?_ h2
      split <;> omega
    · rcases List.mem_cons.mp hy with rfl | hy
      · refine Int.le_trans ?_ h2
        split <;> omega
      · exact h3 y hy
theorem minOf_mem : ∀ (ns : List Int) (m : Int), (minOf ns m = m ∨ minOf ns m ∈ ns) ∧ minOf ns m ≤ m ∧ ∀ y ∈ ns, minOf ns m ≤ y
  | [], m => ⟨.inl rfl, Int.le_refl _, by simp⟩
  | n :: ns, m => by
    obtain ⟨h1, h2, h3⟩ := minOf_mem ns (if n < m then n else m)
    unfold minOf
    refine ⟨?_, ?_, fun y hy => ?_⟩
    · rcases h1 with h1 | h1
      · rw [h1]; split <;> simp
      · exact .inr (List.mem_cons_of_mem _ h1)
    · refine Int.le_trans h2 ?_
      split <;> omega
    · rcases List.mem_cons.mp hy with rfl | hy
      · refine Int.le_trans h2 ?_
        split <;> omega
      · exact h3 y hy
theorem ok_max : RLok K (fun xs H Q => (∃ i j, xs = [.int i, .int j] ∧ Q (.int (if j > i then j else i)) H) ∨ rMax K xs H Q) maxF := by
  intro F B σ H e G xs ds res Q s hd h k
  unfold maxF at h
  split at h
  · cases h
    obtain ⟨x, y, rfl, hx, hy⟩ := dws2 hd
    cases hx.int; cases hy.int
    exact .inl ⟨_, _, rfl, k.rp s (.int _)⟩
  · split at h
    · rename_i n ns q
      cases h
      obtain ⟨x, rfl, hx⟩ := dws1 hd
      obtain ⟨p, vs, rfl, h1, h2⟩ := hx.lst s.sub
      have e1 := intsOf_eq q
      subst e1
      have e2 := h2.ints
      subst e2
      refine .inr ⟨p, _, rfl, h1.sqL, by simp, fun m hm hmax => ?_⟩
      have q2 := maxOf_mem ns n
      have : m = maxOf ns n := by
        have a1 : m ≤ maxOf ns n := by
          rcases List.mem_cons.mp hm with rfl | hm
          · exact q2.2.1
          · exact q2.2.2 m hm
        have a2 : maxOf ns n ≤ m := by
          rcases q2.1 with z | z
          · rw [z]; exact hmax n List.mem_cons_self
          · exact hmax _ (List.mem_cons_of_mem _ z)
        omega
      subst this
      exact k.rp s (.int _)
    · cases h
  · cases h
theorem ok_min : RLok K (fun xs H Q => (∃ i j, xs = [.int i, .int j] ∧ Q (.int (if j < i then j else i)) H) ∨ rMin K xs H Q) minF := by
  intro F B σ H e G xs ds res Q s hd h k
  unfold minF at h
  split at h
  · cases h
    obtain ⟨x, y, rfl, hx, hy⟩ := dws2 hd
    cases hx.int; cases hy.int
    exact .inl ⟨_, _, rfl, k.rp s (.int _)⟩
  · split at h
    · rename_i n ns q
      cases h
      obtain ⟨x, rfl, hx⟩ := dws1 hd
      obtain ⟨p, vs, rfl, h1, h2⟩ := hx.lst s.sub
      have e1 := intsOf_eq q
      subst e1
      have e2 := h2.ints
      subst e2
      refine .inr ⟨p, _, rfl, h1.sqL, by simp, fun m hm hmin => ?_⟩
      have q2 := minOf_mem ns n
      have : m = minOf ns n := by
        have a1 : minOf ns n ≤ m := by
          rcases List.mem_cons.mp hm with rfl | hm
          · exact q2.2.1
          · exact q2.2.2 m hm
        have a2 : m ≤ minOf ns n := by
          rcases q2.1 with z | z
          · rw [z]; exact hmin n List.mem_cons_self
          · exact hmin _ (List.mem_cons_of_mem _ z)
        omega
      subst this
      exact k.rp s (.int _)
    · cases h
  · cases h
theorem ok_tuple : RLok K (rTupleZ K) tupleF := by
  intro F B σ H e G xs ds res Q s hd h k
  unfold tupleF at h
  split at h
  · cases h
    obtain ⟨x, rfl, hx⟩ := dws1 hd
    obtain ⟨p, vs, rfl, h1, h2⟩ := hx.lst s.sub
    exact ⟨p, vs, rfl, .inl ⟨h1.sqL, k.tup s h2⟩⟩
  · cases h
    obtain ⟨x, rfl, hx⟩ := dws1 hd
    rcases hx with hx | ⟨_, _, _, _, z, _⟩
    · cases hx with
      | tup h1 h2 => exact ⟨_, _, rfl, .inr ⟨(h1.same s.sub).sqT, k.rp s (.tup h1 h2)⟩⟩
    · cases z
  · cases h
theorem ok_list : RLok K (fun xs H Q => ∃ p ys, xs = [.ref p] ∧ (SqL K H p ys ∨ SqT K H p ys) ∧ ∀ l, H l = none → Q (.ref l) (upd H l (.lst ys))) listF := by
  intro F B σ H e G xs ds res Q s hd h k
  unfold listF at h
  split at h
  · cases h
    obtain ⟨x, rfl, hx⟩ := dws1 hd
    obtain ⟨p, vs, rfl, h1, h2⟩ := hx.lst s.sub
    exact ⟨p, vs, rfl, .inl h1.sqL, fun l hl => k.lst s h2 hl⟩
  · cases h
    obtain ⟨x, rfl, hx⟩ := dws1 hd
    obtain ⟨p, vs, rfl, h1, h2⟩ := hx.tup s.sub
    exact ⟨p, vs, rfl, .inr h1.sqT, fun l hl => k.lst s h2 hl⟩
  · cases h
theorem ok_any : RLok K (rAny K) anyF := by
  intro F B σ H e G xs ds res Q s hd h k
  unfold anyF at h
  split at h
  · rename_i ds
    cases q : boolsOf ds with
    | none => rw [q] at h; cases h
    | some bs =>
      rw [q] at h; cases h
      obtain ⟨x, rfl, hx⟩ := dws1 hd
      obtain ⟨p, vs, rfl, h1, h2⟩ := hx.lst s.sub
      have e1 := boolsOf_eq q
      subst e1
      have e2 := h2.bls
      subst e2
      exact ⟨p, bs, rfl, h1.sqL, k.rp s (.bl _)⟩
  · cases h
theorem ok_all : RLok K (rAll K) allF := by
  intro F B σ H e G xs ds res Q s hd h k
  unfold allF at h
  split at h
  · rename_i ds
    cases q : boolsOf ds with
    | none => rw [q] at h; cases h
    | some bs =>
      rw [q] at h; cases h
      obtain ⟨x, rfl, hx⟩ := dws1 hd
      obtain ⟨p, vs, rfl, h1, h2⟩ := hx.lst s.sub
      have e1 := boolsOf_eq q
      subst e1
      have e2 := h2.bls
      subst e2
      exact ⟨p, bs, rfl, h1.sqL, k.rp s (.bl _)⟩
  · cases h
theorem ok_sum : RLok K (rSum K) sumF := by
  intro F B σ H e G xs ds res Q s hd h k
  unfold sumF at h
  split at h
  · rename_i ds
    cases q : intsOf ds with
    | none => rw [q] at h; cases h
    | some bs =>
      rw [q] at h; cases h
      obtain ⟨x, rfl, hx⟩ := dws1 hd
      obtain ⟨p, vs, rfl, h1, h2⟩ := hx.lst s.sub
      have e1 := intsOf_eq q
      subst e1
      have e2 := h2.ints
      subst e2
      exact ⟨p, bs, rfl, h1.sqL, k.rp s (.int _)⟩
  · cases h
theorem ok_int : RLok K (fun xs H Q => (∃ i, xs = [.int i] ∧ Q (.int i) H) ∨ ∃ k, xs = [.bl k] ∧ Q (.int (if k then 1 else 0)) H) intF := by
  intro F B σ H e G xs ds res Q s hd h k
  unfold intF at h
  split at h
  · cases h
    obtain ⟨x, rfl, hx⟩ := dws1 hd
    cases hx.int
    exact .inl ⟨_, rfl, k.rp s (.int _)⟩
  · cases h
    obtain ⟨x, rfl, hx⟩ := dws1 hd
    cases hx.bl
    exact .inr ⟨_, rfl, k.rp s (.int _)⟩
  · cases h
/-- repr of data -/
def rRepr (K : PySem.W.Frag) : List V → Hp → VK → Prop := fun xs H Q => ∃ x d, xs = [x] ∧ L2.Dp K H x d ∧ d.showable = true ∧ d.depth ≤ 60 ∧ d.shown.length ≤ sizeLine ∧ Q (.str d.shown) H
theorem noDict_dp {H : Hp} : ∀ (d : PyData) (v : V), L2.Dp K H v d → d.hasDict = false
  | .none, _, _ => rfl
  | .bool _, _, _ => rfl
  | .int _, _, _ => rfl
  | .str _, _, _ => rfl
  | .list ds, _, h => by
    cases h with
    | lst _ ha => exact all _ _ ha
  | .tuple ds, _, h => by
    cases h with
    | tup _ ha => exact all _ _ ha
  | .dict _, _, h => by cases h
where all {H : Hp} : ∀ (ds : List PyData) (vs : List V), L2.DpAll K H vs ds → PyData.hasDictAll ds = false
  | [], _, _ => rfl
  | d :: ds, _, h => by
    cases h with
    | cons h1 h2 =>
      simp only [PyData.hasDictAll, noDict_dp d _ h1, all ds _ h2, Bool.or_self]
theorem ok_repr : RLok K (rRepr K) reprF := by
  intro F B σ H e G xs ds res Q s hd h k
  unfold reprF at h
  split at h
  · split at h
    · rename_i z
      cases h
      obtain ⟨x, rfl, hx⟩ := dws1 hd
      exact ⟨x, _, rfl, rp_dp _ _ (hx.rp s.sub), z.1, z.2.1, most_line z.2.2, k.rp s (.str _)⟩
    · cases h
  · cases h
end
section
variable {X : Cx}
theorem cr_repr (hg : X.A.guards = some []) (hu : X.A.units + 100 < cLine) : CallR X (.builtin "repr") (rRepr X.K) := by
  intro pins s σ H xs us Q I r ⟨x, d, ex, hd, h1, h2, h3, q⟩
  subst ex
  obtain ⟨u, rfl, ru⟩ := Vals.one r
  cases hd with
  | non => cases ru; exact PySem.P.repr_of_none ⟨.str _, H, I.tok _, ⟨_, rfl⟩, q⟩
  | bl b =>
    cases ru
    refine PySem.P.repr_of_bool ⟨.str _, H, I.tok _, ⟨_, rfl⟩, ?_⟩
    simpa [PyData.shown] using q
  | int i =>
    obtain ⟨t, rfl⟩ := ru
    exact PySem.P.repr_of_int (by simpa [PyData.showable] using h1) ⟨.str _, H, I.tok _, ⟨_, rfl⟩, q⟩
  | str z =>
    obtain ⟨t, rfl⟩ := ru
    exact PySem.P.repr_of_str ⟨.str _, H, I.tok _, ⟨_, rfl⟩, q⟩ h3
  | lst hs ha =>
    have hd : L2.Dp X.K H _ _ := .lst hs ha
    have nd := noDict_dp _ _ hd
    obtain ⟨as, rd⟩ := Dp.reads I _ _ u hd ru
    cases ru
    exact repr_of_reads' rd h1 (PyData.noDict_hsm nd) hg (by omega) (fun _ _ z => z) (fun h' u tk hk => ⟨.str _, H, I.kept hk, ⟨_, rfl⟩, q⟩) h3
  | tup hs ha =>
    have hd : L2.Dp X.K H _ _ := .tup hs ha
    have nd := noDict_dp _ _ hd
    obtain ⟨as, rd⟩ := Dp.reads I _ _ u hd ru
    cases ru
    exact repr_of_reads' rd h1 (PyData.noDict_hsm nd) hg (by omega) (fun _ _ z => z) (fun h' u tk hk => ⟨.str _, H, I.kept hk, ⟨_, rfl⟩, q⟩) h3
/-- isinstance -/
def rIsA (K : PySem.W.Frag) (T : String) (f : PyData → Bool) : List V → Hp → VK → Prop := fun xs H Q => ∃ x d, xs = [x, .ty T] ∧ L2.Dp K H x d ∧ Q (.bl (f d)) H
theorem cr_isA {T : String} {f : PyData → Bool} (h : ∀ {prog : Program} {w : World} {A : Around} {E : Value → Shared → Prop} {s : Shared} {v : Value} {d : PyData} {as : List Addr} {Q : Value → Shared → Prop}, Reads s.heap v d as →
      (∀ tk, s.toks ≤ tk → Q (.bool (f d)) { s with toks := tk }) → wpAny (model prog w) A (call (.builtin "isinstance") [v, .type T]) Q E s) : CallR X (.builtin "isinstance") (rIsA X.K T f) := by
  intro pins s σ H xs us Q I r ⟨x, d, ex, hd, q⟩
  subst ex
  obtain ⟨u, u2, rfl, ru, ru2⟩ := Vals.two r
  cases ru2
  obtain ⟨as, rd⟩ := Dp.reads I _ _ u hd ru
  exact h rd fun tk _ => ⟨.bl _, H, I.tok _, rfl, q⟩
end
end Ev

set_option Elab.async false
set_option linter.all false
set_option maxRecDepth 100000
set_option maxHeartbeats 2000000
/-! EvF: sorted, slices, isinstance. -/
namespace Ev
open PySem PySem.Spec L2

/-! ### sorted -/
def leP (a b : V × PyData) : Bool := PySem.W.dataLe false (fun p : V × PyData => p.2) a b
def rSortA (K : PySem.W.Frag) : List V → Hp → VK → Prop := fun xs H Q => ∃ p vs ds, xs = [.ref p] ∧ LsR K H p vs ∧ L2.DpAll K H vs ds ∧ PySem.W.AllAlike ds ∧ PySem.W.Sortable ds ∧ ds.length ≤ sizeLine ∧ PyData.depthAll ds ≤ 60 ∧
  ∀ l, H l = none → Q (.ref l) (upd H l (.lst (((vs.zip ds).mergeSort leP).map (·.1))))
theorem depthAll_mem : ∀ {ds : List PyData} {d : PyData}, d ∈ ds → d.depth ≤ PyData.depthAll ds
  | [], _, h => by cases h
  | x :: xs, d, h => by
    simp only [PyData.depthAll]
    rcases List.mem_cons.mp h with rfl | h
    · exact Nat.le_max_left _ _
    · exact Nat.le_trans (depthAll_mem h) (Nat.le_max_right _ _)
theorem dpAll_len {K : PySem.W.Frag} {H : Hp} : ∀ {vs : List V} {ds : List PyData}, L2.DpAll K H vs ds → vs.length = ds.length
  | _, _, .nil => rfl
  | _, _, .cons _ t => by simp [dpAll_len t]
theorem zip_snd {α β : Type} : ∀ {vs : List α} {ds : List β}, vs.length = ds.length → (vs.zip ds).map (·.2) = ds
  | [], [], _ => rfl
  | _ :: _, [], h => by cases h
  | [], _ :: _, h => by cases h
  | _ :: vs, _ :: ds, h => by simp [zip_snd (vs := vs) (ds := ds) (by simpa using h)]
section
variable {X : Cx}
theorem each_vals {K : PySem.W.Frag} {H : Hp} : ∀ {vs : List V} {ds : List PyData} {us : List Value}, L2.DpAll K H vs ds → Vals vs us → PySem.W.EachIs (fun (v : Value) (b : V × PyData) => RelV b.1 v) us (vs.zip ds)
  | _, _, _, .nil, .nil => .nil
  | _, _, _, .cons _ t, .cons r rs => .cons r (each_vals t rs)
theorem each_reads {pins : List (Addr × Obj)} {σ : St} {H : Hp} {s : Shared} (I : Inv X pins σ H s) : ∀ {vs : List V} {ds : List PyData} {us : List Value}, L2.DpAll X.K H vs ds → Vals vs us →
    PySem.W.EachIs (fun (v : Value) (b : V × PyData) => ∃ as, Reads s.heap v b.2 as) us (vs.zip ds)
  | _, _, _, .nil, .nil => .nil
  | _, _, _, .cons h t, .cons r rs => .cons (Dp.reads I _ _ _ h r) (each_reads I t rs)
theorem each_back : ∀ {out : List Value} {bs : List (V × PyData)}, PySem.W.EachIs (fun (v : Value) (b : V × PyData) => RelV b.1 v) out bs → Vals (bs.map (·.1)) out
  | _, _, .nil => .nil
  | _, _, .cons h t => .cons h (each_back t)
theorem cr_sortA (hu : X.A.units + 100 < cLine) : CallR X (.builtin "sorted") (rSortA X.K) := by
  intro pins s σ H xs us Q I r ⟨p, vs, ds, ex, hp, hd, al, so, hl, dp, q⟩
  subst ex
  rw [Vals.ref1 r]
  obtain ⟨z, its, n, rv, e⟩ := lstR I hp
  have ln := dpAll_len hd
  have es : (vs.zip ds).map (fun p : V × PyData => p.2) = ds := zip_snd ln
  have lz : (vs.zip ds).length = ds.length := by rw [List.length_zip, ln, Nat.min_self]
  have pl : s.heap.IsList p its.toArray := ⟨_, e, rfl, n, rfl⟩
  refine PySem.W.sorted_data (enc := fun p : V × PyData => p.2) pl (each_vals hd rv) (each_reads I hd rv) (by rw [es]; exact al) (by rw [es]; exact so) (by rw [lz]; exact hl) (fun b hb => ?_) fun out ho eo => ?_
  · have : b.2 ∈ ds := by rw [← es]; exact List.mem_map_of_mem hb
    have := depthAll_mem this
    omega
  · obtain ⟨ep, at1⟩ := PyProof.Rows.sortedAll_at s.heap its out.toArray
    have rv2 := each_back eo
    have len2 : (((vs.zip ds).mergeSort leP).map (·.1)).length ≤ sizeLine := by
      rw [List.length_map, List.length_mergeSort, lz]
      exact hl
    refine ⟨.ref _, upd H (s.heap.objs.size + 1) (.lst (((vs.zip ds).mergeSort leP).map (·.1))), I.laid (t' := s.toks) (fun _ _ => PyProof.Rows.sortedAll_old) (Nat.le_succ _) ⟨len2, out, ep, rv2, at1⟩, rfl, ?_⟩
    exact q _ (I.hok.fresh (Nat.le_succ _))
end
theorem alikeL_ok {ds : List PyData} (h : alikeL ds = true) : PySem.W.AllAlike ds := fun d hd e he => by
  unfold alikeL at h
  exact List.all_eq_true.mp (List.all_eq_true.mp h d hd) e he
theorem sortable_ok {ds : List PyData} (h : sortable ds = true) : PySem.W.Sortable ds := by
  unfold sortable at h
  obtain ⟨h1, h2⟩ := Bool.and_eq_true_iff.mp h
  rcases Bool.or_eq_true_iff.mp h2 with h2 | h2
  · refine .inl fun d hd => ?_
    have a := List.all_eq_true.mp h1 d hd
    have b := List.all_eq_true.mp h2 d hd
    cases d <;> simp [isTupD] at b
    rename_i l
    cases l with
    | nil => simp [notBare] at a
    | cons x r => exact ⟨x, r, rfl⟩
  · refine .inr fun d hd => ?_
    have a := List.all_eq_true.mp h1 d hd
    have b := List.all_eq_true.mp h2 d hd
    cases d <;> simp_all [isTupD, notBare]
theorem rpAll_of {K : PySem.W.Frag} {G : Hp} : ∀ {zs : List (V × PyData)}, (∀ z ∈ zs, Rp K G z.1 z.2) → RpAll K G (zs.map (·.1)) (zs.map (·.2))
  | [], _ => .nil
  | z :: zs, h => .cons (h z List.mem_cons_self) (rpAll_of fun y hy => h y (List.mem_cons_of_mem _ hy))
theorem rpAll_zip {K : PySem.W.Frag} {G : Hp} : ∀ {vs : List V} {ds : List PyData}, RpAll K G vs ds → ∀ z ∈ vs.zip ds, Rp K G z.1 z.2
  | _, _, .nil, z, h => by cases h
  | _, _, .cons h t, z, hz => by
    rcases List.mem_cons.mp hz with rfl | hz
    · exact h
    · exact rpAll_zip t z hz
theorem ok_sorted {K : PySem.W.Frag} : RLok K (rSortA K) sortedF := by
  intro F B σ H e G xs ds res Q s hd h k
  unfold sortedF at h
  split at h
  · rename_i ds
    split at h
    · rename_i z
      cases h
      obtain ⟨x, rfl, hx⟩ := dws1 hd
      obtain ⟨p, vs, rfl, h1, h2⟩ := hx.lst s.sub
      have hm : (((vs.zip ds).mergeSort leP).map (·.2)) = sortL ds := by
        have es : (vs.zip ds).map (fun p : V × PyData => p.2) = ds := zip_snd h2.len
        have := PySem.W.sort_maps (r := leP) (s := PySem.W.dataLe false id) (fun p : V × PyData => p.2) (l := vs.zip ds) (fun _ _ _ _ => rfl)
        rw [this, es]
        rfl
      refine ⟨p, vs, ds, rfl, h1, rps_dp _ _ (h2.up s.sub), alikeL_ok z.1, sortable_ok z.2.1, most_line z.2.2.1, z.2.2.2, fun l hl => ?_⟩
      rw [← hm] at k
      refine k.lst s (rpAll_of fun y hy => rpAll_zip h2 y ?_) hl
      exact (List.mergeSort_perm _ _).mem_iff.mp hy
    · cases h
  · cases h

/-! ### isinstance with a built-in class -/
def isiF : String → PyData → Option Bool
  | "int", d => some d.isInt
  | "bool", d => some d.isBool
  | "str", d => some d.isStr
  | "tuple", d => some d.isTuple
  | "list", d => some d.isList
  | _, _ => none
def isiD (T : String) (d : PyData) : Option RV := (isiF T d).map bRV
def tyE (T : String) : TE := tC (.ty T)
section
variable {X : Cx} {W : WX} {a b : Expr} {ma : M OV} {pos p : Pos}
theorem sv_isi {T : String} {f : PyData → Bool} (hc : CallR X (.builtin "isinstance") (rIsA X.K T f)) (hf : ∀ d, isiF T d = some (f d)) (hg : Gl X "isinstance") (hm : X.mg "isinstance" = none) (ha : SO X W a ma) (hb : PE X b (tC (.ty T)))
    (h1 : starEach [a, b] X.env = (false, eval a X.env) :: starEach [b] X.env) (h2 : starEach [b] X.env = (false, eval b X.env) :: starEach [] X.env) (hpl : (backTo pos (starEach [b] X.env)).any (·.1) = false) :
    SV X W (.Call (.Name "isinstance" p) [a, b] [] pos) (op1 (isiD T) ma) :=
  weakE (pe_callB hc hg hm (by decide +kernel) (pa_cons ha (pa_cons hb pa_nil h2) h1) (by decide) (by decide) h1 hpl) fun σ H Q ⟨en, G, F, B, s, k⟩ => by
    refine ⟨en, G, F, B, s, (ok_bind.mp k).imp (fun ox e1 k1 x H1 G1 s1 m1 r1 => ?_) fun _ _ w => w⟩
    obtain ⟨dx, hx, k3⟩ := s1.der r1 (ok_bind.mp k1)
    obtain ⟨res, hr, k5⟩ := ok_liftO.mp k3
    unfold isiD at hr
    rw [hf] at hr
    cases hr
    exact ⟨x, dx, rfl, rp_dp _ _ (hx.rp s1.sub), k5 _ H1 G1 s1 m1 (.bl _)⟩
end

/-! ### slices -/
def partM : Option (M OV) → M (Option Int)
  | none => pure none
  | some m => do
    let o ← m
    let d ← der o
    let i ← liftO (match d with
      | .int i => some i
      | _ => none)
    pure (some i)
def tPr (K : PySem.W.Frag) (mg : Str → Option Value) (W : WX) (m : M (Option Int)) : TO := fun σ H Q => ∃ e G F B, SR K F B σ H e G ∧ Ok m e (fun i e' => ∀ H' G', SR K F B σ H' e' G' → Same G G' → Q i H') (WE K mg W F B G)
def slcM (ma : M OV) (ml mh : M (Option Int)) : M RV := do
  let x ← ma
  let lo ← ml
  let hi ← mh
  let d ← der x
  liftO (slcD lo hi d)
theorem weakO {X : Cx} {e : Option Expr} {t t' : TO} (h : PO X e t) (k : ∀ σ H Q, t' σ H Q → t σ H Q) : PO X e t' := ⟨fun p s σ H Q I q => h.run p s σ H Q I (k σ H Q q)⟩
section
variable {X : Cx} {W : WX} {a b : Expr} {lo hi : Option Expr} {ma : M OV} {ml mh : M (Option Int)} {pos p2 : Pos}
theorem sp_none : PO X none (tPr X.K X.mg W (partM none)) := weakO po_none fun σ H Q ⟨en, G, F, B, s, k⟩ => k H G s (.refl _)
theorem sp_some (h : SO X W a ma) : PO X (some a) (tPr X.K X.mg W (partM (some ma))) := weakO (po_some h) fun σ H Q ⟨en, G, F, B, s, k⟩ => by
  refine ⟨en, G, F, B, s, (ok_bind.mp (show Ok (do let o ← ma; let d ← der o; let i ← liftO (match d with | .int i => some i | _ => none); pure (some i)) en _ _ from k)).imp (fun o e1 k1 v H1 G1 s1 m1 r1 => ?_) fun _ _ w => w⟩
  obtain ⟨d, hd, k2⟩ := s1.der r1 (ok_bind.mp k1)
  obtain ⟨i, hi, k3⟩ := ok_liftO.mp (ok_bind.mp k2)
  split at hi
  · cases hi
    cases hd.int
    exact ⟨_, rfl, k3 H1 G1 s1 m1⟩
  · cases hi
def rSlD (K : PySem.W.Frag) : V → Option Int → Option Int → Hp → VK → Prop := fun x lo hi H Q => rSlL K x lo hi H Q ∨ rSlZ K x lo hi H Q ∨ rSlS x lo hi H Q
theorem cut_rp {K : PySem.W.Frag} {G : Hp} {vs : List V} {ds : List PyData} (h : RpAll K G vs ds) (lo hi : Option Int) : RpAll K G (cutV vs lo hi) (cutD ds lo hi) := by
  unfold cutV cutD
  rw [h.len]
  exact (h.drop _).take _
theorem sv_slc (ha : SO X W a ma) (hl : PO X lo (tPr X.K X.mg W ml)) (hh : PO X hi (tPr X.K X.mg W mh)) : SV X W (.Subscript a (.Slice lo hi none p2) pos) (slcM ma ml mh) :=
  weakE (pe_slice (sl_list.or (sl_tupZ.or sl_str)) ha hl hh) fun σ H Q ⟨en, G, F, B, s, k⟩ => by
    refine ⟨en, G, F, B, s, (ok_bind.mp k).imp (fun ox e1 k1 x H1 G1 s1 m1 r1 => ?_) fun _ _ w => w⟩
    refine ⟨e1, G1, F, B, s1, (ok_bind.mp k1).imp (fun l e2 k2 H2 G2 s2 m2 => ?_) fun _ _ w => w.up m1⟩
    refine ⟨e2, G2, F, B, s2, (ok_bind.mp k2).imp (fun h e3 k3 H3 G3 s3 m3 => ?_) fun _ _ w => w.up (m1.trans m2)⟩
    have m12 := m1.trans m2
    have m13 := m12.trans m3
    obtain ⟨d, hd, k4⟩ := s3.der (r1.up (m2.trans m3)) (ok_bind.mp k3)
    obtain ⟨res, hr, k5⟩ := ok_liftO.mp k4
    have po : Post X.K F B σ e3 G3 res Q := fun v H' G' s' m' rr => k5 v H' G' s' (m13.trans m') rr
    unfold slcD at hr
    split at hr
    · cases hr
      obtain ⟨p, vs, rfl, h1, h2⟩ := hd.lst s3.sub
      exact .inl ⟨p, vs, rfl, h1.sqL, fun q hq => po.lst s3 (cut_rp h2 _ _) hq⟩
    · rename_i ds
      cases hr
      rcases hd with hd | ⟨_, _, _, _, z, _⟩
      · cases hd with
        | tup h1 h2 =>
          rename_i p vs
          refine .inr (.inl ⟨p, vs, rfl, (h1.same s3.sub).sqT, fun z => ?_, fun _ => po.tup s3 (cut_rp h2 _ _)⟩)
          have e0 : cutD ds l h = ds := by
            have := h2.len
            unfold cutD
            rw [← this, z.1, z.2, this]
            simp
          rw [e0] at po
          exact po.rp s3 (.tup h1 h2)
      · cases z
    · split at hr
      · rename_i z zl
        cases hr
        cases hd.str
        exact .inr (.inr ⟨_, rfl, most_line zl, po.rp s3 (.str _)⟩)
      · cases hr
    · cases hr
end
end Ev

set_option Elab.async false
set_option linter.all false
set_option maxRecDepth 100000
set_option maxHeartbeats 4000000
/-! EvG: enumerate and zip over lists and tuples in any mix. -/
namespace Ev
open PySem PySem.Spec L2

/-- a list or a tuple at a -/
def SqA (K : PySem.W.Frag) (t : Bool) (H : Hp) (a : Addr) (xs : List V) : Prop := if t = true then SqT K H a xs else SqL K H a xs
def ItA (t : Bool) (h : Heap) (it a : Addr) (i : Nat) : Prop := if t = true then h.IsTupleIter it a i else h.IsListIter it a i
def IsA (t : Bool) (h : Heap) (a : Addr) (items : Array Value) : Prop := if t = true then h.IsTuple a items else h.IsList a items
def objA (t : Bool) (a : Addr) : Obj := if t = true then { cls := .type "tuple_iterator", data := .fields #[.ref a, .int 0 0] } else { cls := .type "list_iterator", data := .fields #[.ref a, .int 0 0] }
theorem drawsA {prog : Program} {w : World} {A : Around} (hh : A.handled = none) (t : Bool) (it l : Addr) (hne : l ≠ it) (items : Array Value) :
    Draws prog w A it [it, l] items.size (fun i v => items[i]? = some v) (fun i h => ItA t h it l i ∧ IsA t h l items) := by
  cases t
  · exact Draws.list hh it l hne items
  · exact Draws.tuple hh it l hne items
theorem beginsA (t : Bool) (a : Addr) (items : Array Value) : Begins (.ref a) (objA t a) fun h => IsA t h a items := by
  cases t
  · exact begins_list a items
  · exact begins_tuple a items
theorem itA_new {t : Bool} {h : Heap} {it a : Addr} (e : h.get? it = some (objA t a)) : ItA t h it a 0 := by
  cases t
  · exact ⟨_, e, rfl, rfl⟩
  · exact ⟨_, e, rfl, rfl⟩
theorem itA_obj {t : Bool} {h : Heap} {it a : Addr} {i : Nat} (e : ItA t h it a i) : ∃ o, h.get? it = some o ∧ ∀ v, o.data ≠ .cell v := by
  cases t
  · obtain ⟨o, e, _, d⟩ := e
    exact ⟨o, e, fun v z => by rw [d] at z; cases z⟩
  · obtain ⟨o, e, _, d⟩ := e
    exact ⟨o, e, fun v z => by rw [d] at z; cases z⟩
theorem itA_at {t : Bool} {h h' : Heap} {it a : Addr} {i : Nat} (e : ItA t h it a i) (k : ∀ o, h.get? it = some o → h'.get? it = some o) : ItA t h' it a i := by
  cases t
  · exact Heap.IsListIter.at e k
  · exact Heap.IsTupleIter.at e k
section
variable {X : Cx} {pins : List (Addr × Obj)} {σ : St} {H : Hp} {s : Shared} {a : Addr} {xs ys : List V}
theorem seqA (I : Inv X pins σ H s) {t : Bool} (h : SqA X.K t H a xs) : ∃ its : List Value, Vals xs its ∧ IsA t s.heap a its.toArray := by
  cases t
  · obtain ⟨its, r, p, _⟩ := I.list h
    exact ⟨its, r, p.isList⟩
  · obtain ⟨its, r, p, _⟩ := I.tuple h
    exact ⟨its, r, p⟩
theorem seqA_lt (I : Inv X pins σ H s) {t : Bool} (h : SqA X.K t H a xs) : a < s.heap.objs.size := by
  cases t
  · obtain ⟨its, r, p, _⟩ := I.list h
    exact p.lt
  · obtain ⟨its, r, ⟨o, e, _⟩, _⟩ := I.tuple h
    exact Heap.lt_size e
theorem seqA_inj (I : Inv X pins σ H s) {t : Bool} (h : SqA X.K t H a xs) (h' : SqA X.K t H a ys) : xs = ys := by
  cases t
  · exact I.list_inj h h'
  · exact I.tuple_inj h h'
theorem seqA_ne (I : Inv X pins σ H s) {t t' : Bool} {it b : Addr} {i : Nat} (h : SqA X.K t H a xs) (hi : ItA t' s.heap it b i) (f : H it = none) : a ≠ it := fun z => by
  have cls : ∃ o2, s.heap.get? it = some o2 ∧ (o2.cls = .type "list_iterator" ∨ o2.cls = .type "tuple_iterator") := by
    cases t'
    · obtain ⟨o, e, c, _⟩ := hi
      exact ⟨o, e, .inl c⟩
    · obtain ⟨o, e, c, _⟩ := hi
      exact ⟨o, e, .inr c⟩
  obtain ⟨o2, h2, c2⟩ := cls
  cases t
  · have q : SqL X.K H a xs := h
    rcases q with (q | ⟨o, q⟩) | ⟨o, its', n, q, c, _⟩
    · rw [z, f] at q; cases q
    · rw [z, f] at q; cases q
    · rw [← z] at h2
      rw [I.kIn a o q] at h2
      cases h2
      rw [c] at c2
      rcases c2 with c2 | c2 <;> exact absurd (Value.type.inj c2) (by decide)
  · have q : SqT X.K H a xs := h
    rcases q with (q | ⟨o, q⟩) | ⟨o, its', n, q, c, _⟩
    · rw [z, f] at q; cases q
    · rw [z, f] at q; cases q
    · rw [← z] at h2
      rw [I.kIn a o q] at h2
      cases h2
      rw [c] at c2
      rcases c2 with c2 | c2 <;> exact absurd (Value.type.inj c2) (by decide)
end
theorem vals_at {xs : List V} {its : List Value} (r : Vals xs its) {i : Nat} {u : Value} (h : its.toArray[i]? = some u) : ∃ x, xs[i]? = some x ∧ RelV x u := by
  have hu : its[i]? = some u := by simpa using h
  cases q : xs[i]? with
  | none =>
    rw [r.none_of q] at hu
    cases hu
  | some x =>
    obtain ⟨u', h1, h2⟩ := r.get q
    rw [h1] at hu
    cases hu
    exact ⟨x, rfl, h2⟩

/-! ### pairs -/
/-- n turns, at each a new pair of xs i and ys i -/
def ItP (n : Nat) (G : Hp → Prop) (xs ys : Nat → Option V) : It :=
  ⟨fun i H => i < n ∧ G H, fun i H v H' => ∃ T x y, v = .ref T ∧ H T = none ∧ H' = upd H T (.tup [x, y]) ∧ xs i = some x ∧ ys i = some y, fun i H => i = n ∧ G H⟩
/-- enumerate -/
theorem turn_enumA {P : Program} {w : World} {K : PySem.W.Frag} {elts : List Expr} {kk : Nat} {tpos : Pos} (t : Bool) (a e it : Addr) (xs : List V) :
    Turn P w K (.Tuple elts kk tpos) (ItP xs.length (fun H => SqA K t H a xs) (fun i => some (.int (i : Nat))) fun i => xs[i]?) [e, it] e (fun i h => (∃ old, IsEnum h e it ((0 : Int) + (i : Int)) old) ∧ ItA t h it a i ∧ e ≠ it) where
  mem := by simp
  obj := fun i h st b hb => by
    obtain ⟨⟨old, he⟩, hi, _⟩ := st
    rcases (by simpa using hb : b = e ∨ b = it) with z | z
    · rw [z]; exact ⟨_, he, fun v q => nomatch q⟩
    · rw [z]; exact itA_obj hi
  keep := fun i h h' st k => let ⟨⟨old, he⟩, hi, hne⟩ := st; ⟨⟨old, k e (by simp) _ he⟩, itA_at hi fun o q => k it (by simp) o q, hne⟩
  item := by
    intro X hP hw hK hc i pins s σ H E I hf st hg
    subst hP hw hK
    obtain ⟨⟨old, he⟩, hit, hne⟩ := st
    obtain ⟨hi, hq⟩ := hg
    obtain ⟨its, rv, p⟩ := seqA I hq
    have lv := rv.length
    have hal := seqA_lt I hq
    obtain ⟨oi, hio, _⟩ := itA_obj hit
    have hil : it < s.heap.objs.size := Heap.lt_size hio
    have hel : e < s.heap.objs.size := Heap.lt_size he
    have hai : a ≠ it := seqA_ne I hq hit (hf it (by simp)).1
    have hae : a ≠ e := fun z => by
      cases t
      · obtain ⟨o, q, c, _⟩ := (show s.heap.IsList a its.toArray from p)
        rw [z] at q
        have he' := q.symm.trans he
        cases he'
        exact absurd (Value.type.inj c) (by decide)
      · obtain ⟨o, q, c, _⟩ := (show s.heap.IsTuple a its.toArray from p)
        rw [z] at q
        have he' := q.symm.trans he
        cases he'
        exact absurd (Value.type.inj c) (by decide)
    have W := GoesN.enumFrom (prog := X.prog) (w := X.w) (A := X.A) (elts := elts) (x1 := kk) (pos := tpos) 0 (drawsA (prog := X.prog) (w := X.w) (A := X.A.in1) (I.ok.hd hc) t it a hai its.toArray) e hne (by simp; exact ⟨hne, Ne.symm hae⟩) (by simp)
    refine W.goes i s _ E (by simp; omega) ⟨⟨old, he⟩, hit, p⟩ fun v h' tk hy st' hk htk => ?_
    obtain ⟨T, tt, x, rfl, hT, hx, hTt⟩ := hy
    obtain ⟨xv, hxv, rx⟩ := vals_at rv hx
    obtain ⟨oT, qT, cT, nT, dT⟩ := hTt
    have new : ObjOk X.prog X.w (upd H T (.tup [.int (i : Nat), xv])) h' T (.tup [.int (i : Nat), xv]) :=
      ⟨by show 2 ≤ sizeLine; decide, [.int ((0 : Int) + (i : Int)) tt, x], .cons ⟨tt, by simp⟩ (.cons rx .nil), ⟨oT, qT, cT, nT, dT⟩⟩
    have I1 := I.turnedNew (t' := tk) (ch := [e, it]) (fun b o hb q => hk b o hb q) hf hT new
    refine ⟨.ref T, _, I1, rfl, ⟨T, _, xv, rfl, I.hok.fresh hT, rfl, rfl, hxv⟩, ⟨st'.1, st'.2.1, hne⟩, fun b hb => ?_⟩
    have hb' : b < s.heap.objs.size := by
      rcases (by simpa using hb : b = e ∨ b = it) with z | z
      · rw [z]; exact hel
      · rw [z]; exact hil
    rw [upd_ne (Nat.ne_of_lt (Nat.lt_of_lt_of_le hb' hT))]
    exact (hf b hb).1
  done := by
    intro X hP hw hK hc i pins s σ H E I hf st hg
    subst hP hw hK
    obtain ⟨⟨old, he⟩, hit, hne⟩ := st
    obtain ⟨hi, hq⟩ := hg
    obtain ⟨its, rv, p⟩ := seqA I hq
    have lv := rv.length
    obtain ⟨oi, hio, _⟩ := itA_obj hit
    obtain ⟨f0, f1, f2, f3, f4, f5⟩ := hf it (by simp)
    have hai : a ≠ it := seqA_ne I hq hit f0
    refine wpAny_pyNext_enum_endD (drawsA (prog := X.prog) (w := X.w) (A := X.A.in1) (I.ok.hd hc) t it a hai its.toArray) he ?_ fun h' eb => ⟨rfl, I.turned (t' := s.toks) (fun b o hb q => eb b o hb q) f0 f1 f3 f4 f5⟩
    have e1 : its.toArray.size = i := by simp; omega
    rw [e1]
    exact ⟨hit, p⟩
  self := fun A i s Q E st h => let ⟨⟨_, he⟩, _⟩ := st; wpAny_pyIter_enum he h
end Ev

set_option Elab.async false
set_option linter.all false
set_option maxRecDepth 100000
set_option maxHeartbeats 4000000
/-! EvH: zip's turn; the iterables. -/
namespace Ev
open PySem PySem.Spec L2
theorem min_le_split {a b i : Nat} (h : i < min a b) : i < a ∧ i < b := by omega
/-- zip -/
theorem turn_zipA {P : Program} {w : World} {K : PySem.W.Frag} {elts : List Expr} {kk : Nat} {tpos : Pos} (t1 t2 : Bool) (a b z TI TO i1 i2 : Addr) (xs ys : List V) (hd : TI ≠ z ∧ TO ≠ z ∧ TI ≠ TO ∧ TI ≠ i1 ∧ TI ≠ i2 ∧ i1 ≠ z ∧ i2 ≠ z ∧ i1 ≠ TO ∧ i2 ≠ TO ∧ i1 ≠ i2 ∧ a ≠ z ∧ b ≠ z ∧ a ≠ TO ∧ b ≠ TO ∧ a ≠ i1 ∧ a ≠ i2 ∧ b ≠ i1 ∧ b ≠ i2) :
    Turn P w K (.Tuple elts kk tpos) (ItP (min xs.length ys.length) (fun H => SqA K t1 H a xs ∧ SqA K t2 H b ys) (fun i => xs[i]?) fun i => ys[i]?) [z, TI, TO, i1, i2] z
      (fun i h => IsZip h z TI TO .none ∧ IsTupOf2 h TI (.ref i1) (.ref i2) ∧ (∃ x y, IsTupOf2 h TO x y) ∧ ItA t1 h i1 a i ∧ ItA t2 h i2 b i) where
  mem := by simp
  obj := fun i h st c hc => by
    obtain ⟨hz, hTI, ⟨x, y, hTO⟩, h1, h2⟩ := st
    rcases (by simpa using hc : c = z ∨ c = TI ∨ c = TO ∨ c = i1 ∨ c = i2) with q | q | q | q | q
    · rw [q]; exact ⟨_, hz, fun v q => nomatch q⟩
    · rw [q]; exact ⟨_, hTI, fun v q => nomatch q⟩
    · rw [q]; exact ⟨_, hTO, fun v q => nomatch q⟩
    · rw [q]; exact itA_obj h1
    · rw [q]; exact itA_obj h2
  keep := fun i h h' st k => by
    obtain ⟨hz, hTI, ⟨x, y, hTO⟩, h1, h2⟩ := st
    exact ⟨k z (by simp) _ hz, k TI (by simp) _ hTI, ⟨x, y, k TO (by simp) _ hTO⟩, itA_at h1 fun o q => k i1 (by simp) o q, itA_at h2 fun o q => k i2 (by simp) o q⟩
  item := by
    intro X hP hw hK hc i pins s σ H E I hf st hg
    subst hP hw hK
    obtain ⟨hz, hTI, hTO, h1, h2⟩ := st
    obtain ⟨hi, hqx, hqy⟩ := hg
    obtain ⟨its, rv, p⟩ := seqA I hqx
    obtain ⟨its2, rv2, p2⟩ := seqA I hqy
    have l1 := rv.length
    have l2 := rv2.length
    obtain ⟨d1, d2, d3, d4, d5, d6, d7, d8, d9, d10, d11, d12, d13, d14, d15, d16, d17, d18⟩ := hd
    have W := GoesN.zip2 (prog := X.prog) (w := X.w) (A := X.A) (elts := elts) (x1 := kk) (pos := tpos) (z := z) (TI := TI) (TO := TO) (i1 := i1) (i2 := i2) (fp1 := [i1, a]) (fp2 := [i2, b])
      { TIz := d1, TOz := d2, TITO := d3, TIi1 := d4, mem1 := by simp, zf1 := by simp; exact ⟨d6.symm, d11.symm⟩, Tf1 := by simp; exact ⟨d8.symm, d13.symm⟩, TIi2 := d5, mem2 := by simp, zf2 := by simp; exact ⟨d7.symm, d12.symm⟩, Tf2 := by simp; exact ⟨d9.symm, d14.symm⟩, sep1_2 := by simp; exact ⟨d10, d17.symm⟩, sep2_1 := by simp; exact ⟨d10.symm, d16.symm⟩ }
      (drawsA (prog := X.prog) (w := X.w) (A := X.A.in1) (I.ok.hd hc) t1 i1 a d15 its.toArray) (drawsA (prog := X.prog) (w := X.w) (A := X.A.in1) (I.ok.hd hc) t2 i2 b d18 its2.toArray)
    refine W.goes i s _ E (by simp only [List.size_toArray]; omega) ⟨hz, hTI, hTO, ⟨h1, p⟩, ⟨h2, p2⟩⟩ fun v h' tk hy st' hk htk => ?_
    obtain ⟨T, x, y, rfl, hT, hx, hy, hTt⟩ := hy
    obtain ⟨xv, hxv, rx⟩ := vals_at rv hx
    obtain ⟨yv, hyv, ry⟩ := vals_at rv2 hy
    obtain ⟨oT, qT, cT, nT, dT⟩ := hTt
    have new : ObjOk X.prog X.w (upd H T (.tup [xv, yv])) h' T (.tup [xv, yv]) := ⟨by show 2 ≤ sizeLine; decide, [x, y], .cons rx (.cons ry .nil), ⟨oT, qT, cT, nT, dT⟩⟩
    have I1 := I.turnedNew (t' := tk) (ch := [z, TI, TO, i1, i2]) (fun c o hb q => hk c o (fun m => hb (by simp at m ⊢; rcases m with m | m | m | m <;> simp [m])) q) hf hT new
    refine ⟨.ref T, _, I1, rfl, ⟨T, xv, yv, rfl, I.hok.fresh hT, rfl, hxv, hyv⟩, ⟨st'.1, st'.2.1, st'.2.2.1, st'.2.2.2.1.1, st'.2.2.2.2.1⟩, fun c hcm => ?_⟩
    have hlt : c < s.heap.objs.size := by
      obtain ⟨x0, y0, hTO⟩ := hTO
      obtain ⟨o1, e1, _⟩ := itA_obj h1
      obtain ⟨o2, e2, _⟩ := itA_obj h2
      rcases (by simpa using hcm : c = z ∨ c = TI ∨ c = TO ∨ c = i1 ∨ c = i2) with q | q | q | q | q
      · rw [q]; exact Heap.lt_size hz
      · rw [q]; exact Heap.lt_size hTI
      · rw [q]; exact Heap.lt_size hTO
      · rw [q]; exact Heap.lt_size e1
      · rw [q]; exact Heap.lt_size e2
    rw [upd_ne (Nat.ne_of_lt (Nat.lt_of_lt_of_le hlt hT))]
    exact (hf c hcm).1
  done := by
    intro X hP hw hK hc i pins s σ H E I hf st hg
    subst hP hw hK
    obtain ⟨hz, hTI, hTO, h1, h2⟩ := st
    obtain ⟨hi, hqx, hqy⟩ := hg
    obtain ⟨its, rv, p⟩ := seqA I hqx
    obtain ⟨its2, rv2, p2⟩ := seqA I hqy
    have l1 := rv.length
    have l2 := rv2.length
    obtain ⟨d1, d2, d3, d4, d5, d6, d7, d8, d9, d10, d11, d12, d13, d14, d15, d16, d17, d18⟩ := hd
    have W := GoesN.zip2 (prog := X.prog) (w := X.w) (A := X.A) (elts := elts) (x1 := kk) (pos := tpos) (z := z) (TI := TI) (TO := TO) (i1 := i1) (i2 := i2) (fp1 := [i1, a]) (fp2 := [i2, b])
      { TIz := d1, TOz := d2, TITO := d3, TIi1 := d4, mem1 := by simp, zf1 := by simp; exact ⟨d6.symm, d11.symm⟩, Tf1 := by simp; exact ⟨d8.symm, d13.symm⟩, TIi2 := d5, mem2 := by simp, zf2 := by simp; exact ⟨d7.symm, d12.symm⟩, Tf2 := by simp; exact ⟨d9.symm, d14.symm⟩, sep1_2 := by simp; exact ⟨d10, d17.symm⟩, sep2_1 := by simp; exact ⟨d10.symm, d16.symm⟩ }
      (drawsA (prog := X.prog) (w := X.w) (A := X.A.in1) (I.ok.hd hc) t1 i1 a d15 its.toArray) (drawsA (prog := X.prog) (w := X.w) (A := X.A.in1) (I.ok.hd hc) t2 i2 b d18 its2.toArray)
    have en : min its.toArray.size its2.toArray.size = i := by simp only [List.size_toArray]; omega
    rw [en] at W
    refine W.stops s (fun s1 => Inv X pins σ H s1) E ⟨hz, hTI, hTO, ⟨h1, p⟩, ⟨h2, p2⟩⟩ fun h' tk hk htk => ?_
    exact I.turnedL (t' := tk) (ch := [z, TI, TO, i1, i2]) (fun c o hb q => hk c o (fun m => hb (by simp at m ⊢; rcases m with m | m | m | m <;> simp [m])) q) hf
  self := fun A i s Q E st h => wpAny_pyIter_zip st.1 h

/-! ### the calls -/
theorem meets_enum1 {v : Value} {o : Obj} {H : Heap → Prop} (B : Begins v o H) : Meets (Builtin.«enumerate.__new__» ⟨[.type "enumerate", v], []⟩) (fun _ R s => H s.heap ∧
    R (.ok (.ret (.ref (s.heap.push o).objs.size))) { s with heap := (s.heap.push o).push { cls := .type "enumerate", data := .fields #[.none, .bool false, .ref s.heap.objs.size, rawInt 0, .none, .none] } }) :=
  .of_wp fun prog w A R s h => by
    obtain ⟨hp, g, d, tk, os⟩ := s
    obtain ⟨h1, h⟩ := h
    have hsub := sub_enumerate
    have it1 : ∀ {A' : Around} {E : Value → Shared → Prop} {Q : Value → Shared → Prop}, Q (.ref hp.objs.size) ⟨hp.push o, g, d, tk, os⟩ → wpAny (model prog w) A' (pyIter v) Q E ⟨hp, g, d, tk, os⟩ :=
      fun q => B.iter prog w _ _ ⟨hp, g, d, tk, os⟩ _ h1 q
    wp_walk using it1
    refine wpAny_stack_any fun st => wpAny_pure ?_
    split
    · rename_i c _ _ _ _ _
      cases (c == Value.type "enumerate")
      · wp_walk using it1
        exact ⟨_, rfl, h⟩
      · wp_walk using it1
        exact ⟨_, rfl, h⟩
    · wp_walk using it1
      exact ⟨_, rfl, h⟩
section
variable {prog : Program} {w : World} {A : Around} {E : Value → Shared → Prop} {s : Shared}
theorem call_enum1 {v : Value} {o : Obj} {H : Heap → Prop} {Q : Value → Shared → Prop} (B : Begins v o H) (h1 : H s.heap)
    (h : ∀ h', IsEnum h' (s.heap.objs.size + 1) s.heap.objs.size 0 .none → h'.get? s.heap.objs.size = some o → (∀ b o, s.heap.get? b = some o → h'.get? b = some o) → Q (.ref (s.heap.objs.size + 1)) { s with heap := h' }) :
    wpAny (model prog w) A (call (.type "enumerate") [v]) Q E s := by
  refine callType_new PySem.F.called_enumerate (by decide) (PySem.F.typeCall_enumerate_1 _) (PySem.F.newCall_enumerate_1 _) (fun obj => PySem.F.args_object_init_2 obj _) PySem.F.entry_enumerate_new (meets_enum1 B) ⟨h1, ?_⟩
  have z1 : (s.heap.push o).objs.size = s.heap.objs.size + 1 := Heap.size_push ..
  show _ ∧ _
  rw [z1]
  have he : IsEnum ((s.heap.push o).push { cls := .type "enumerate", data := .fields #[.none, .bool false, .ref s.heap.objs.size, rawInt 0, .none, .none] }) (s.heap.objs.size + 1) s.heap.objs.size 0 .none := by
    have q := Heap.get?_push_size (s.heap.push o) (o := { cls := .type "enumerate", data := .fields #[.none, .bool false, .ref s.heap.objs.size, rawInt 0, .none, .none] }) rfl
    rw [z1] at q
    exact q
  refine ⟨⟨_, he, rfl⟩, h _ he (Heap.get?_push_of_some _ (Heap.get?_push_size _ B.free)) fun b o x => Heap.get?_push_of_some _ (Heap.get?_push_of_some _ x)⟩
end
section
variable {X : Cx} {tg : Expr}
def iEnumA (K : PySem.W.Frag) (ta : TA) : TI := fun σ H R => ta σ H fun vs H1 => ∃ t a xs, vs = [.ref a] ∧ SqA K t H1 a xs ∧ R (ItP xs.length (fun H => SqA K t H a xs) (fun i => some (.int (i : Nat))) fun i => xs[i]?) H1
theorem pi_enumA {e : Expr} {ta : TA} {p pos tpos : Pos} {elts : List Expr} {kk : Nat} (hg : Gl X "enumerate") (hm : X.mg "enumerate" = none) (ha : PA X [e] ta) (hs : starEach [e] X.env = [(false, eval e X.env)]) :
    PI X (.Tuple elts kk tpos) (.Call (.Name "enumerate" p) [e] [] pos) (iEnumA X.K ta) := by
  refine ⟨fun pins s σ H R I h => ?_⟩
  refine PyProof.Rows.Call_ (ld_blt I hg hm PyProof.Rows.boot_enumerate (PyProof.Rows.callWith_type1 (thn (ha.run pos pins s σ H _ I h) fun us s1 ⟨vs, H1, I1, r1, q1⟩ => ?_) hs rfl))
  obtain ⟨t, a, xs, ex, hq, q⟩ := q1
  subst ex
  cases r1 with
  | cons r rr =>
    cases rr
    cases r
    obtain ⟨its, rv, p⟩ := seqA I1 hq
    refine call_enum1 (beginsA t a its.toArray) p fun h' he hit hk => wpAny_pyIter_enum he ?_
    have I2 : Inv X pins σ H1 { s1 with heap := h' } := I1.kept (t' := s1.toks) hk
    refine ⟨s1.heap.objs.size + 1, [s1.heap.objs.size + 1, s1.heap.objs.size], _, _, H1, rfl, I2, turn_enumA t a (s1.heap.objs.size + 1) s1.heap.objs.size xs, ⟨⟨.none, by simpa using he⟩, itA_new hit, Nat.succ_ne_self _⟩, fun b hb => ?_, q⟩
    have hle : s1.heap.objs.size ≤ b := by
      rcases (by simpa using hb : b = s1.heap.objs.size + 1 ∨ b = s1.heap.objs.size) with z | z
      · rw [z]; exact Nat.le_add_right _ _
      · rw [z]; exact Nat.le_refl _
    exact I1.fpOk hle (I1.hok.fresh hle)
def iZipB (K : PySem.W.Frag) (ta : TA) : TI := fun σ H R => ta σ H fun vs H1 => ∃ t1 t2 a b xs ys, vs = [.ref a, .ref b] ∧ SqA K t1 H1 a xs ∧ SqA K t2 H1 b ys ∧
  R (ItP (min xs.length ys.length) (fun H => SqA K t1 H a xs ∧ SqA K t2 H b ys) (fun i => xs[i]?) fun i => ys[i]?) H1
theorem ne_add {n a b : Nat} (h : a ≠ b) : n + a ≠ n + b := by omega
theorem ne_new {n a k : Nat} (h : a < n) : a ≠ n + k := by omega
theorem pi_zipB {e e2 : Expr} {ta : TA} {p pos tpos : Pos} {elts : List Expr} {kk : Nat} (hg : Gl X "zip") (hm : X.mg "zip" = none) (ha : PA X [e, e2] ta)
    (hs : starEach [e, e2] X.env = (false, eval e X.env) :: starEach [e2] X.env) (hpl : (backTo pos (starEach [e2] X.env)).any (·.1) = false) :
    PI X (.Tuple elts kk tpos) (.Call (.Name "zip" p) [e, e2] [] pos) (iZipB X.K ta) := by
  refine ⟨fun pins s σ H R I h => ?_⟩
  refine PyProof.Rows.Call_ (ld_blt I hg hm PyProof.Rows.boot_zip (PyProof.Rows.callWith_type1 (thn (ha.run pos pins s σ H _ I h) fun us s1 ⟨vs, H1, I1, r1, q1⟩ => ?_) hs hpl))
  obtain ⟨t1, t2, a, b, xs, ys, ex, hqx, hqy, q⟩ := q1
  subst ex
  obtain ⟨u, u2, rfl, ru, ru2⟩ := Vals.two r1
  cases ru
  cases ru2
  obtain ⟨its, rv, p1⟩ := seqA I1 hqx
  obtain ⟨its2, rv2, p2⟩ := seqA I1 hqy
  have la : a < s1.heap.objs.size := seqA_lt I1 hqx
  have lb : b < s1.heap.objs.size := seqA_lt I1 hqy
  refine zip_begins2 (beginsA t1 a its.toArray) (beginsA t2 b its2.toArray) p1 p2 fun h' hz hTI hTO h1 h2 hsz hk => wpAny_pyIter_zip hz ?_
  have I2 : Inv X pins σ H1 { s1 with heap := h' } := I1.kept (t' := s1.toks) hk
  have n0 : ∀ {c : Nat} (k : Nat), c < s1.heap.objs.size → c ≠ s1.heap.objs.size + k := fun k h => ne_new h
  refine ⟨s1.heap.objs.size + 4, [s1.heap.objs.size + 4, s1.heap.objs.size + 2, s1.heap.objs.size + 3, s1.heap.objs.size, s1.heap.objs.size + 1], _, _, H1, rfl, I2,
    turn_zipA t1 t2 a b (s1.heap.objs.size + 4) (s1.heap.objs.size + 2) (s1.heap.objs.size + 3) s1.heap.objs.size (s1.heap.objs.size + 1) xs ys
      ⟨ne_add (by decide), ne_add (by decide), ne_add (by decide), ne_add (b := 0) (by decide), ne_add (by decide), ne_add (a := 0) (by decide), ne_add (by decide), ne_add (a := 0) (by decide), ne_add (by decide), ne_add (a := 0) (by decide), n0 4 la, n0 4 lb, n0 3 la, n0 3 lb, n0 0 la, n0 1 la, n0 0 lb, n0 1 lb⟩,
    ⟨hz, hTI, ⟨_, _, hTO⟩, itA_new h1, itA_new h2⟩, fun c hcm => ?_, q⟩
  have hle : s1.heap.objs.size ≤ c := by
    rcases (by simpa using hcm : c = s1.heap.objs.size + 4 ∨ c = s1.heap.objs.size + 2 ∨ c = s1.heap.objs.size + 3 ∨ c = s1.heap.objs.size ∨ c = s1.heap.objs.size + 1) with z | z | z | z | z
    · rw [z]; exact Nat.le_add_right _ _
    · rw [z]; exact Nat.le_add_right _ _
    · rw [z]; exact Nat.le_add_right _ _
    · rw [z]; exact Nat.le_refl _
    · rw [z]; exact Nat.le_add_right _ _
  exact I1.fpOk hle (I1.hok.fresh hle)
end

/-! ### items -/
structure ItOk (K : PySem.W.Frag) (pr : Bool) (J : It) (G : Hp) (items : List PyData) : Prop where
  stop : ∀ H, Same G H → J.stop items.length H
  go : ∀ i H, i < items.length → Same G H → J.go i H
  yld : ∀ i H x H', i < items.length → Same G H → J.yld i H x H' → ∃ d, items[i]? = some d ∧ ((pr = false ∧ H' = H ∧ Rp K G x d) ∨ ∃ p vs ds, pr = true ∧ H p = none ∧ H' = upd H p (.tup vs) ∧ x = .ref p ∧ d = .tuple ds ∧ RpAll K G vs ds)
def tI (K : PySem.W.Frag) (mg : Str → Option Value) (W : WX) (pr : Bool) (m : M (List PyData)) : TI := fun σ H R => ∃ e G F B, SR K F B σ H e G ∧ Ok m e (fun items e' => ∀ J H' G', SR K F B σ H' e' G' → Same G G' → ItOk K pr J G' items → R J H') (WE K mg W F B G)
abbrev SI (X : Cx) (W : WX) (pr : Bool) (tg it : Expr) (m : M (List PyData)) : Prop := PI X tg it (tI X.K X.mg W pr m)
def itemsOf : PyData → Option (List PyData)
  | .list ds => some ds
  | .tuple ds => some ds
  | _ => none
def seqM (m : M RV) : M (List PyData) := do
  let r ← m
  liftO (itemsOf r.d)
def rngI (lo : Int) (n : Nat) : List PyData := (List.range n).map fun (k : Nat) => PyData.int (lo + (k : Int))
def rngD : List PyData → Option (List PyData)
  | [.int j] => if -1000000 < j ∧ j < 1000000 then some (rngI 0 j.toNat) else none
  | [.int i, .int j] => if -1000000 < i ∧ i < 1000000 ∧ -1000000 < j ∧ j < 1000000 then some (rngI i (j - i).toNat) else none
  | _ => none
def rng1M (m : M OV) : M (List PyData) := do
  let o ← m
  let d ← der o
  liftO (rngD [d])
def rng2M (m n : M OV) : M (List PyData) := do
  let o ← m
  let p ← n
  let d ← der o
  let e ← der p
  liftO (rngD [d, e])
def enumM (m : M RV) : M (List PyData) := do
  let ds ← seqM m
  pure (ds.mapIdx fun i d => .tuple [.int (i : Nat), d])
def zipM (m n : M RV) : M (List PyData) := do
  let r ← m
  let t ← n
  let ds ← liftO (itemsOf r.d)
  let es ← liftO (itemsOf t.d)
  pure (List.zipWith (fun d e => .tuple [d, e]) ds es)
section
variable {K : PySem.W.Frag} {G : Hp}
theorem itl_ok {a : Addr} {vs : List V} {ds : List PyData} (h : LsR K G a vs) (r : RpAll K G vs ds) : ItOk K false (Itl K a) G ds where
  stop := fun H s => ⟨vs, (h.same s).sqL, by rw [r.len]; exact Nat.le_refl _⟩
  go := fun i H hi s => ⟨vs, vs[i]'(by rw [r.len]; exact hi), (h.same s).sqL, by simp [r.len, hi]⟩
  yld := fun i H x H' hi s ⟨e1, e2⟩ => by
    obtain ⟨d, h1, h2⟩ := r.getV (e2 vs ((h.same s).sqL))
    exact ⟨d, h1, .inl ⟨rfl, e1, h2⟩⟩
theorem itt_ok {a : Addr} {vs : List V} {ds : List PyData} (h : SqT K G a vs) (r : RpAll K G vs ds) : ItOk K false (Itt K a) G ds where
  stop := fun H s => ⟨vs, sqT_same s h, by rw [r.len]; exact Nat.le_refl _⟩
  go := fun i H hi s => ⟨vs, vs[i]'(by rw [r.len]; exact hi), sqT_same s h, by simp [r.len, hi]⟩
  yld := fun i H x H' hi s ⟨e1, e2⟩ => by
    obtain ⟨d, h1, h2⟩ := r.getV (e2 vs (sqT_same s h))
    exact ⟨d, h1, .inl ⟨rfl, e1, h2⟩⟩
theorem itr_ok {lo : Int} {n : Nat} : ItOk K false (Itr lo n) G (rngI lo n) where
  stop := fun H s => by show n ≤ _; simp [rngI]
  go := fun i H hi s => by show i < n; simpa [rngI] using hi
  yld := fun i H x H' hi s ⟨e1, e2⟩ => by
    subst e1 e2
    refine ⟨.int (lo + (i : Int)), ?_, .inl ⟨rfl, rfl, .int _⟩⟩
    have hi : i < n := by simpa [rngI] using hi
    simp [rngI, hi]
theorem itp_ok {n : Nat} {P : Hp → Prop} {xs ys : Nat → Option V} {ds : List PyData} (hn : ds.length = n) (hp : ∀ H, Same G H → P H) (r : ∀ i x y, xs i = some x → ys i = some y → ∃ d e, ds[i]? = some (.tuple [d, e]) ∧ Rp K G x d ∧ Rp K G y e) : ItOk K true (ItP n P xs ys) G ds where
  stop := fun H s => ⟨hn, hp H s⟩
  go := fun i H hi s => ⟨by omega, hp H s⟩
  yld := fun i H v H' hi s ⟨T, x, y, e1, e2, e3, e4, e5⟩ => by
    obtain ⟨d, e, h1, h2, h3⟩ := r i x y e4 e5
    exact ⟨_, h1, .inr ⟨T, _, _, rfl, e2, e3, e1, rfl, .cons h2 (.cons h3 .nil)⟩⟩
theorem sqA_rp {v : V} {d : PyData} {ds : List PyData} (h : Rp K G v d) (e : itemsOf d = some ds) : ∃ t a vs, v = .ref a ∧ SqA K t G a vs ∧ RpAll K G vs ds := by
  cases h <;> try cases e
  · rename_i a xs h1 h2
    exact ⟨false, a, xs, rfl, h1.sqL, h2⟩
  · rename_i a xs h1 h2
    exact ⟨true, a, xs, rfl, h1.sqT, h2⟩
theorem sqA_same {t : Bool} {G' : Hp} {a : Addr} {vs : List V} (h : SqA K t G a vs) (s : Same G G') : SqA K t G' a vs := by
  cases t
  · exact Same.seq s h
  · exact sqT_same s h
end
section
variable {X : Cx} {W : WX} {tg e e2 : Expr} {pos p tpos : Pos} {elts : List Expr} {kk : Nat}
theorem si_seq {m : M RV} (h : SV X W e m) : SI X W false tg e (seqM m) := weakI (orI (pi_list h) (pi_tup h)) fun σ H R ⟨en, G, F, B, s, k⟩ => by
  have k := ok_bind.mp k
  have step : ∀ r e1, m en = some (.ok r e1) → ∃ items, itemsOf r.d = some items ∧ (∀ J H' G', SR X.K F B σ H' e1 G' → Same G G' → ItOk X.K false J G' items → R J H') := fun r e1 q => by
    unfold Ok at k
    rw [q] at k
    exact ok_liftO.mp k
  have left : (∀ r e1, m en = some (.ok r e1) → ∃ ds, r.d = .list ds) → iList X.K (tV X.K X.mg W m) σ H R := fun hl => by
    refine ⟨en, G, F, B, s, ?_⟩
    unfold Ok at k ⊢
    split at k
    · exact k
    · rename_i r e1 q
      obtain ⟨ds, ed⟩ := hl r e1 q
      obtain ⟨items, hi, k2⟩ := step r e1 q
      intro v H1 G1 s1 m1 rr
      obtain ⟨G2, s2, m2, rp⟩ := rr.freeze s1
      rw [ed] at rp hi
      cases hi
      cases rp with
      | lst h1 h2 => exact ⟨_, rfl, ⟨_, (h1.same s2.sub).sqL⟩, k2 _ H1 G2 s2 (m1.trans m2) (itl_ok h1 h2)⟩
    · exact k
  have right : (∀ r e1, m en = some (.ok r e1) → ∃ ds, r.d = .tuple ds) → iTup X.K (tV X.K X.mg W m) σ H R := fun hl => by
    refine ⟨en, G, F, B, s, ?_⟩
    unfold Ok at k ⊢
    split at k
    · exact k
    · rename_i r e1 q
      obtain ⟨ds, ed⟩ := hl r e1 q
      obtain ⟨items, hi, k2⟩ := step r e1 q
      intro v H1 G1 s1 m1 rr
      obtain ⟨G2, s2, m2, rp⟩ := rr.freeze s1
      rw [ed] at rp hi
      cases hi
      cases rp with
      | tup h1 h2 => exact ⟨_, rfl, ⟨_, sqT_same s2.sub h1.sqT⟩, k2 _ H1 G2 s2 (m1.trans m2) (itt_ok h1.sqT h2)⟩
    · exact k
  cases q : m en with
  | none =>
    refine .inl (left fun r e1 q' => ?_)
    rw [q] at q'; cases q'
  | some rs =>
    cases rs with
    | ex x e1 =>
      refine .inl (left fun r e1 q' => ?_)
      rw [q] at q'; cases q'
    | ok r e1 =>
      obtain ⟨items, hi, _⟩ := step r e1 q
      obtain ⟨d, fr⟩ := r
      cases d <;> try cases hi
      · refine .inl (left fun r e1 q' => ?_)
        rw [q] at q'; cases q'
        exact ⟨_, rfl⟩
      · refine .inr (right fun r e1 q' => ?_)
        rw [q] at q'; cases q'
        exact ⟨_, rfl⟩
theorem si_rng1 {m : M OV} (hg : Gl X "range") (hm : X.mg "range" = none) (h : SO X W e m) (h1 : starEach [e] X.env = (false, eval e X.env) :: starEach [] X.env) (hs : starEach [e] X.env = [(false, eval e X.env)]) : SI X W false tg (.Call (.Name "range" p) [e] [] pos) (rng1M m) :=
  weakI (pi_range1 hg hm (pa_cons h pa_nil h1) hs) fun σ H R ⟨en, G, F, B, s, k⟩ => by
    refine ⟨en, G, F, B, s, (ok_bind.mp k).imp (fun o e1 k1 v H1 G1 s1 m1 r1 => ?_) fun _ _ w => w⟩
    obtain ⟨d, hd, k2⟩ := s1.der r1 (ok_bind.mp k1)
    obtain ⟨items, hi, k3⟩ := ok_liftO.mp k2
    unfold rngD at hi
    split at hi
    · rename_i j ej
      injection ej with ej _
      subst ej
      split at hi
      · rename_i z
        cases hi
        cases hd.int
        exact ⟨j, rfl, by omega, by omega, k3 _ H1 G1 s1 m1 itr_ok⟩
      · cases hi
    · rename_i ej
      cases ej
    · cases hi
theorem si_rng2 {m n : M OV} (hg : Gl X "range") (hm : X.mg "range" = none) (h : SO X W e m) (h' : SO X W e2 n) (h1 : starEach [e, e2] X.env = (false, eval e X.env) :: starEach [e2] X.env) (h2 : starEach [e2] X.env = (false, eval e2 X.env) :: starEach [] X.env)
    (hs : starEach [e, e2] X.env = [(false, eval e X.env), (false, eval e2 X.env)]) (hs2 : starEach [e2] X.env = [(false, eval e2 X.env)]) : SI X W false tg (.Call (.Name "range" p) [e, e2] [] pos) (rng2M m n) :=
  weakI (pi_range2 hg hm (pa_cons h (pa_cons h' pa_nil h2) h1) hs hs2) fun σ H R ⟨en, G, F, B, s, k⟩ => by
    refine ⟨en, G, F, B, s, (ok_bind.mp k).imp (fun o e1 k1 v H1 G1 s1 m1 r1 => ?_) fun _ _ w => w⟩
    refine ⟨e1, G1, F, B, s1, (ok_bind.mp k1).imp (fun o2 e2 k2 v2 H2 G2 s2 m2 r2 => ?_) fun _ _ w => w.up m1⟩
    obtain ⟨d, hd, k3⟩ := s2.der (r1.up m2) (ok_bind.mp k2)
    obtain ⟨d2, hd2, k4⟩ := s2.der r2 (ok_bind.mp k3)
    obtain ⟨items, hi, k5⟩ := ok_liftO.mp k4
    unfold rngD at hi
    split at hi
    · rename_i ej
      cases ej
    · rename_i i j ej
      injection ej with ej ej2
      injection ej2 with ej2 _
      subst ej ej2
      split at hi
      · rename_i z
        cases hi
        cases hd.int
        cases hd2.int
        exact ⟨i, j, rfl, ⟨by omega, by omega, by omega, by omega⟩, k5 _ H2 G2 s2 (m1.trans m2) itr_ok⟩
      · cases hi
    · cases hi
theorem mapIdx_get {ds : List PyData} {i : Nat} {d : PyData} (h : ds[i]? = some d) : (ds.mapIdx fun i d => PyData.tuple [.int (i : Nat), d])[i]? = some (.tuple [.int (i : Nat), d]) := by
  simp [h]
theorem si_enm {m : M RV} (hg : Gl X "enumerate") (hm : X.mg "enumerate" = none) (h : SV X W e m) (h1 : starEach [e] X.env = (false, eval e X.env) :: starEach [] X.env) (hs : starEach [e] X.env = [(false, eval e X.env)]) :
    SI X W true (.Tuple elts kk tpos) (.Call (.Name "enumerate" p) [e] [] pos) (enumM m) := weakI (pi_enumA hg hm (pa_cons h pa_nil h1) hs) fun σ H R ⟨en, G, F, B, s, k⟩ => by
  refine ⟨en, G, F, B, s, (ok_bind.mp (ok_bind.mp k)).imp (fun r e1 k1 v H1 G1 s1 m1 rr => ?_) fun _ _ w => w⟩
  obtain ⟨ds, hd, k2⟩ := ok_liftO.mp k1
  obtain ⟨G2, s2, m2, rp⟩ := rr.freeze s1
  obtain ⟨t, a, vs, rfl, h1, h2⟩ := sqA_rp rp hd
  refine ⟨t, a, vs, rfl, sqA_same h1 s2.sub, k2 _ H1 G2 s2 (m1.trans m2) (itp_ok (by simp [h2.len]) (fun H sm => sqA_same h1 sm) fun i x y hx hy => ?_)⟩
  cases hx
  obtain ⟨d, q1, q2⟩ := h2.getV hy
  exact ⟨_, d, mapIdx_get q1, .int _, q2⟩
theorem si_zip {m n : M RV} (hg : Gl X "zip") (hm : X.mg "zip" = none) (h : SV X W e m) (h' : SV X W e2 n) (h1 : starEach [e, e2] X.env = (false, eval e X.env) :: starEach [e2] X.env) (h2 : starEach [e2] X.env = (false, eval e2 X.env) :: starEach [] X.env)
    (hpl : (backTo pos (starEach [e2] X.env)).any (·.1) = false) : SI X W true (.Tuple elts kk tpos) (.Call (.Name "zip" p) [e, e2] [] pos) (zipM m n) := weakI (pi_zipB hg hm (pa_cons h (pa_cons h' pa_nil h2) h1) h1 hpl) fun σ H R ⟨en, G, F, B, s, k⟩ => by
  refine ⟨en, G, F, B, s, (ok_bind.mp k).imp (fun r e1 k1 v H1 G1 s1 m1 rr => ?_) fun _ _ w => w⟩
  obtain ⟨G2, s2, m2, rp⟩ := rr.freeze s1
  refine ⟨e1, G2, F, B, s2, (ok_bind.mp k1).imp (fun r' e2 k2 v' H3 G3 s3 m3 rr' => ?_) fun _ _ w => w.up (m1.trans m2)⟩
  obtain ⟨G4, s4, m4, rp'⟩ := rr'.freeze s3
  obtain ⟨ds, hd, k3⟩ := ok_liftO.mp (ok_bind.mp k2)
  obtain ⟨es, he, k4⟩ := ok_liftO.mp (ok_bind.mp k3)
  obtain ⟨t, a, vs, rfl, q1, q2⟩ := sqA_rp (rp.up (m3.trans m4)) hd
  obtain ⟨t', a', vs', rfl, q1', q2'⟩ := sqA_rp rp' he
  refine ⟨t, t', a, a', vs, vs', rfl, sqA_same q1 s4.sub, sqA_same q1' s4.sub, k4 _ H3 G4 s4 (((m1.trans m2).trans m3).trans m4) (itp_ok (by simp [q2.len, q2'.len]) (fun H sm => ⟨sqA_same q1 sm, sqA_same q1' sm⟩) fun i x y hx hy => ?_)⟩
  obtain ⟨d, z1, z2⟩ := q2.getV hx
  obtain ⟨e, z3, z4⟩ := q2'.getV hy
  exact ⟨d, e, by simp [List.getElem?_zipWith, z1, z3], z2, z4⟩
end
end Ev

set_option Elab.async false
set_option linter.all false
set_option maxRecDepth 100000
set_option maxHeartbeats 4000000
/-! EvI: targets, list comprehensions. -/
namespace Ev
open PySem PySem.Spec L2
open Classical in
/-! ### slots set, wiped, put back -/
theorem set_get {α : Type} {l : List α} {i j : Nat} {a b : α} (h : (l.set i a)[j]? = some b) : (j = i ∧ b = a) ∨ (j ≠ i ∧ l[j]? = some b) := by
  by_cases e : j = i
  · subst e
    by_cases hj : j < l.length
    · rw [List.getElem?_set_self hj] at h
      exact .inl ⟨rfl, (Option.some.inj h).symm⟩
    · rw [List.getElem?_eq_none (by simpa using hj)] at h
      cases h
  · rw [List.getElem?_set_ne (Ne.symm e)] at h
    exact .inr ⟨e, h⟩
section
variable {K : PySem.W.Frag} {F : Hp} {B : List (Nat × Addr)} {σ : St} {H : Hp} {e : En} {G : Hp}
theorem SR.set (s : SR K F B σ H e G) {i : Nat} {v : V} {d : PyData} (h : Rp K G v d) : SR K F B (σ.set i (some v)) H (e.set i (.vl d)) G := by
  refine ⟨by simp [s.len], s.sub, s.frm, s.dsj, fun j d' q => ?_, fun j b ds q => ?_, fun j l b c ds es p q1 q2 q3 q4 => ?_⟩
  · rcases set_get q with ⟨rfl, q'⟩ | ⟨ne, q'⟩
    · cases q'
      have hj : j < σ.length := by
        rw [← s.len]
        by_cases hj : j < e.length
        · exact hj
        · rw [List.getElem?_eq_none (by simpa using hj)] at q
          cases q
      exact ⟨v, List.getElem?_set_self hj, h⟩
    · obtain ⟨w, h1, h2⟩ := s.vls j d' q'
      exact ⟨w, by rw [List.getElem?_set_ne (Ne.symm ne)]; exact h1, h2⟩
  · rcases set_get q with ⟨rfl, q'⟩ | ⟨ne, q'⟩
    · cases q'
    · obtain ⟨p, vs, h1, r⟩ := s.ows j b ds q'
      exact ⟨p, vs, by rw [List.getElem?_set_ne (Ne.symm ne)]; exact h1, r⟩
  · rcases set_get q1 with ⟨rfl, q'⟩ | ⟨ne, q1'⟩
    · cases q'
    · rcases set_get q2 with ⟨rfl, q'⟩ | ⟨ne2, q2'⟩
      · cases q'
      · rw [List.getElem?_set_ne (Ne.symm ne)] at q3
        rw [List.getElem?_set_ne (Ne.symm ne2)] at q4
        exact s.dis j l b c ds es p q1' q2' q3 q4
theorem SR.setOw (s : SR K F B σ H e G) {i : Nat} {p : Addr} {vs : List V} {ds : List PyData} (h1 : G p = none) (h2 : F p = none) (h3 : H p = some (.lst vs)) (h4 : RpAll K G vs ds) (no : ∀ (i : Nat) (b : Bool) (es : List PyData), e[i]? = some (.ow b es) → σ[i]? ≠ some (some (.ref p))) :
    SR K F B (σ.set i (some (.ref p))) H (e.set i (.ow false ds)) G := by
  have isl : i < e.length → i < σ.length := fun h => by rw [← s.len]; exact h
  have lt_of : ∀ {x : Sl}, (e.set i (.ow false ds))[i]? = some x → i < e.length := fun q => by
    by_cases hj : i < e.length
    · exact hj
    · rw [List.getElem?_eq_none (by simpa using hj)] at q
      cases q
  refine ⟨by simp [s.len], s.sub, s.frm, s.dsj, fun j d' q => ?_, fun j b es q => ?_, fun j l b c es fs p' q1 q2 q3 q4 => ?_⟩
  · rcases set_get q with ⟨rfl, q'⟩ | ⟨ne, q'⟩
    · cases q'
    · obtain ⟨w, h1, h2⟩ := s.vls j d' q'
      exact ⟨w, by rw [List.getElem?_set_ne (Ne.symm ne)]; exact h1, h2⟩
  · rcases set_get q with ⟨rfl, q'⟩ | ⟨ne, q'⟩
    · cases q'
      exact ⟨p, vs, List.getElem?_set_self (isl (lt_of q)), h1, h2, h3, h4, fun z => by cases z⟩
    · obtain ⟨p', vs', k1, r⟩ := s.ows j b es q'
      exact ⟨p', vs', by rw [List.getElem?_set_ne (Ne.symm ne)]; exact k1, r⟩
  · rcases set_get q1 with ⟨rfl, q'⟩ | ⟨ne, q1'⟩
    · rcases set_get q2 with ⟨rfl, q'⟩ | ⟨ne2, q2'⟩
      · rfl
      · rw [List.getElem?_set_self (isl (lt_of q1))] at q3
        cases q3
        rw [List.getElem?_set_ne (Ne.symm ne2)] at q4
        exact absurd q4 (no l c fs q2')
    · rcases set_get q2 with ⟨rfl, q'⟩ | ⟨ne2, q2'⟩
      · rw [List.getElem?_set_self (isl (lt_of q2))] at q4
        cases q4
        rw [List.getElem?_set_ne (Ne.symm ne)] at q3
        exact absurd q3 (no j b es q1')
      · rw [List.getElem?_set_ne (Ne.symm ne)] at q3
        rw [List.getElem?_set_ne (Ne.symm ne2)] at q4
        exact s.dis j l b c es fs p' q1' q2' q3 q4
/-- a result stored -/
theorem SR.store (s : SR K F B σ H e G) {i : Nat} {v : V} {r : RV} (h : RR K F σ H e G v r) : SR K F B (σ.set i (some v)) H (e.set i (.of r)) G := by
  obtain ⟨d, fr⟩ := r
  unfold RR at h
  cases fr with
  | true =>
    obtain ⟨p, vs, ds, rfl, e1, h1, h2, h3, h4, h5⟩ := h
    have e1 : d = .list ds := e1
    subst e1
    exact s.setOw h1 h2 h3 h4 h5
  | false =>
    have : Sl.of ⟨d, false⟩ = .vl d := by cases d <;> rfl
    rw [this]
    exact s.set h
end

/-! ### targets -/
def tG (K : PySem.W.Frag) (mg : Str → Option Value) (W : WX) (pr : Bool) (sl : List Nat) (b : PyData → M Unit) : TG := fun v σ H Q => ∃ d e G F B, SR K F B σ H e G ∧ RpP K pr G v d ∧ Ok (b d) e (fun _ e' => ∀ σ' H' G', SR K F B σ' H' e' G' → Same G G' → σ'.length = σ.length ∧ (∀ i, i ∉ sl → σ'[i]? = σ[i]?) → Q σ' H') (WE K mg W F B G)
def tGs (K : PySem.W.Frag) (mg : Str → Option Value) (W : WX) (sl : List Nat) (b : List PyData → M Unit) : TGs := fun vs σ H Q => ∃ ds e G F B, SR K F B σ H e G ∧ RpAll K G vs ds ∧ Ok (b ds) e (fun _ e' => ∀ σ' H' G', SR K F B σ' H' e' G' → Same G G' → σ'.length = σ.length ∧ (∀ i, i ∉ sl → σ'[i]? = σ[i]?) → Q σ' H') (WE K mg W F B G)
@[simp] def nameM (i : Nat) (d : PyData) : M Unit := store i ⟨d, false⟩
@[simp] def nilM : List PyData → M Unit
  | [] => pure ()
  | _ => liftO none
@[simp] def consM (b : PyData → M Unit) (bs : List PyData → M Unit) : List PyData → M Unit
  | d :: ds => do
    b d
    bs ds
  | [] => liftO none
@[simp] def tupT (n : Nat) (bs : List PyData → M Unit) : PyData → M Unit
  | .tuple ds => if ds.length = n then bs ds else liftO none
  | _ => liftO none
theorem not_none {α : Type} {e : En} {P : α → En → Prop} {W : Exn → En → Prop} (h : Ok (liftO (none : Option α)) e P W) : False := by
  obtain ⟨_, z, _⟩ := ok_liftO.mp h
  cases z
theorem ok_store {i : Nat} {r : RV} {e : En} {P : Unit → En → Prop} {W : Exn → En → Prop} (h : Ok (store i r) e P W) : i < e.length ∧ P () (e.set i (.of r)) := by
  unfold Ok Ev.store at h
  by_cases q : i < e.length
  · rw [if_pos q] at h; exact ⟨q, h⟩
  · rw [if_neg q] at h; exact h.elim
abbrev SG (X : Cx) (W : WX) (pr : Bool) (tg : Expr) (sl : List Nat) (b : PyData → M Unit) : Prop := PG X tg (tG X.K X.mg W pr sl b)
abbrev SGs (X : Cx) (W : WX) (tg : List Expr) (sl : List Nat) (b : List PyData → M Unit) : Prop := PGs X tg (tGs X.K X.mg W sl b)
section
variable {X : Cx} {W : WX} {tg : Expr} {tgs : List Expr} {pos : Pos}
theorem weakG {t t' : TG} (h : PG X tg t) (k : ∀ v σ H Q, t' v σ H Q → t v σ H Q) : PG X tg t' := ⟨fun p s σ H v u Q I r q => h.run p s σ H v u Q I r (k v σ H Q q)⟩
theorem weakGs {t t' : TGs} (h : PGs X tgs t) (k : ∀ v σ H Q, t' v σ H Q → t v σ H Q) : PGs X tgs t' := ⟨fun p s σ H v u Q I r q => h.run p s σ H v u Q I r (k v σ H Q q)⟩
theorem sg_name {i : Nat} (h : PG X tg (gName i)) : SG X W false tg [i] (nameM i) := weakG h fun v σ H Q ⟨d, e, G, F, B, s, r, k⟩ => by
  obtain ⟨hi, k⟩ := ok_store k
  have sl : Sl.of ⟨d, false⟩ = .vl d := by cases d <;> rfl
  rw [sl] at k
  refine k _ H G (s.set r) (.refl _) ⟨by simp, fun j hj => ?_⟩
  exact List.getElem?_set_ne (fun z => hj (by simp [z]))
theorem sgs_nil : SGs X W [] [] nilM := weakGs pgs_nil fun vs σ H Q ⟨ds, e, G, F, B, s, r, k⟩ => by
  cases r with
  | nil => exact ⟨rfl, k σ H G s (.refl _) ⟨rfl, fun _ _ => rfl⟩⟩
  | cons _ _ => exact (not_none k).elim
theorem sgs_cons {sl sl' : List Nat} {b : PyData → M Unit} {bs : List PyData → M Unit} (h : SG X W false tg sl b) (hs : SGs X W tgs sl' bs) (he : (assignEach (tg :: tgs) X.env).map (·.2) = assign tg X.env :: (assignEach tgs X.env).map (·.2)) :
    SGs X W (tg :: tgs) (sl ++ sl') (consM b bs) := weakGs (pgs_cons h hs he) fun vs σ H Q ⟨ds, e, G, F, B, s, r, k⟩ => by
  cases r with
  | nil => exact (not_none k).elim
  | cons r rs =>
    refine ⟨_, _, rfl, _, e, G, F, B, s, r, (ok_bind.mp k).imp (fun _ e1 k1 σ1 H1 G1 s1 m1 n1 => ?_) fun _ _ w => w⟩
    refine ⟨_, e1, G1, F, B, s1, rs.up m1, k1.imp (fun _ e2 k2 σ2 H2 G2 s2 m2 n2 => ?_) fun x e' w => w.up m1⟩
    exact k2 σ2 H2 G2 s2 (m1.trans m2) ⟨n2.1.trans n1.1, fun i hi => (n2.2 i fun z => hi (List.mem_append_right _ z)).trans (n1.2 i fun z => hi (List.mem_append_left _ z))⟩
end
end Ev

set_option Elab.async false
set_option linter.all false
set_option maxRecDepth 100000
set_option maxHeartbeats 4000000
/-! EvJ: tuple targets, list comprehensions. -/
namespace Ev
open PySem PySem.Spec L2
section
variable {X : Cx} {W : WX} {tg : Expr} {tgs : List Expr} {pos : Pos}
theorem sg_tup {pr : Bool} {sl : List Nat} {bs : List PyData → M Unit} {k n : Nat} (hc : X.calm = true) (h : SGs X W tgs sl bs) (hn : (assignEach tgs X.env).length = n) (hst : (assignEach tgs X.env).findIdx? (·.1) = none) : SG X W pr (.Tuple tgs k pos) sl (tupT n bs) :=
  weakG (pg_tup hc h hn hst) fun v σ H Q ⟨d, e, G, F, B, s, r, kk⟩ => by
    obtain ⟨ds, rfl⟩ : ∃ ds, d = .tuple ds := by
      cases d with
      | tuple ds => exact ⟨ds, rfl⟩
      | _ => exact (not_none kk).elim
    obtain ⟨a, xs, rfl, h1, h2⟩ : ∃ a xs, v = .ref a ∧ SqT X.K G a xs ∧ RpAll X.K G xs ds := by
      cases pr with
      | true =>
        obtain ⟨a, xs, ds', rfl, e1, h1, h2⟩ := r
        cases e1
        exact ⟨a, xs, rfl, h1, h2⟩
      | false =>
        have r : Rp X.K G v (.tuple ds) := r
        cases r with
        | tup h1 h2 => exact ⟨_, _, rfl, h1.sqT, h2⟩
    have kk : Ok (if ds.length = n then bs ds else liftO none) e _ _ := kk
    split at kk
    · rename_i z
      exact ⟨a, xs, rfl, sqT_same s.sub h1, by rw [h2.len]; exact z, ds, e, G, F, B, s, h2, kk⟩
    · exact (not_none kk).elim
end

/-! ### slots wiped -/
theorem wipeE_len (e : En) : ∀ vs : List Nat, (wipeE e vs).length = e.length
  | [] => rfl
  | v :: vs => by unfold wipeE; rw [List.length_set, wipeE_len e vs]
theorem wipeE_out {e : En} {i : Nat} : ∀ {vs : List Nat}, i ∉ vs → (wipeE e vs)[i]? = e[i]?
  | [], _ => rfl
  | v :: vs, h => by
    unfold wipeE
    rw [List.getElem?_set_ne (fun z => h (by simp [z]))]
    exact wipeE_out fun z => h (List.mem_cons_of_mem _ z)
theorem wipeE_in {e : En} {i : Nat} {x : Sl} : ∀ {vs : List Nat}, (wipeE e vs)[i]? = some x → (i ∈ vs ∧ x = .un) ∨ (i ∉ vs ∧ e[i]? = some x)
  | [], h => .inr ⟨by simp, h⟩
  | v :: vs, h => by
    unfold wipeE at h
    rcases set_get h with ⟨rfl, q⟩ | ⟨ne, q⟩
    · exact .inl ⟨List.mem_cons_self, q⟩
    · rcases wipeE_in q with ⟨m, z⟩ | ⟨m, z⟩
      · exact .inl ⟨List.mem_cons_of_mem _ m, z⟩
      · exact .inr ⟨by simp [ne, m], z⟩
theorem backE_len (e0 e1 : En) : ∀ vs : List Nat, (backE e0 e1 vs).length = e1.length
  | [] => rfl
  | v :: vs => by unfold backE; rw [List.length_set, backE_len e0 e1 vs]
theorem backE_in {e0 e1 : En} {i : Nat} {x : Sl} : ∀ {vs : List Nat}, (backE e0 e1 vs)[i]? = some x → (i ∈ vs ∧ x = e0.getD i .un) ∨ (i ∉ vs ∧ e1[i]? = some x)
  | [], h => .inr ⟨by simp, h⟩
  | v :: vs, h => by
    unfold backE at h
    rcases set_get h with ⟨rfl, q⟩ | ⟨ne, q⟩
    · exact .inl ⟨List.mem_cons_self, q⟩
    · rcases backE_in q with ⟨m, z⟩ | ⟨m, z⟩
      · exact .inl ⟨List.mem_cons_of_mem _ m, z⟩
      · exact .inr ⟨by simp [ne, m], z⟩
theorem wipe_out' {σ : St} {i : Nat} : ∀ {vs : List Nat}, i ∉ vs → (wipe σ vs)[i]? = σ[i]?
  | [], _ => rfl
  | v :: vs, h => by
    unfold wipe
    rw [List.getElem?_set_ne (fun z => h (by simp [z]))]
    exact wipe_out' fun z => h (List.mem_cons_of_mem _ z)
theorem wipe_at {σ : St} {i : Nat} : ∀ {vs : List Nat}, i ∈ vs → i < σ.length → (wipe σ vs)[i]? = some none
  | [], h, _ => by cases h
  | v :: vs, h, l => by
    unfold wipe
    by_cases e : i = v
    · subst e
      exact List.getElem?_set_self (by rw [wipe_length]; exact l)
    · rw [List.getElem?_set_ne (Ne.symm e)]
      exact wipe_at ((List.mem_cons.mp h).resolve_left e) l
theorem wipe_same {σ τ : St} {vs : List Nat} (hl : σ.length = τ.length) (h : ∀ i, i ∉ vs → σ[i]? = τ[i]?) : wipe σ vs = wipe τ vs := by
  apply List.ext_getElem?
  intro i
  by_cases m : i ∈ vs
  · by_cases l : i < σ.length
    · rw [wipe_at m l, wipe_at m (hl ▸ l)]
    · rw [List.getElem?_eq_none (by rw [wipe_length]; omega), List.getElem?_eq_none (by rw [wipe_length]; omega)]
  · rw [wipe_out' m, wipe_out' m]
    exact h i m
theorem wipe_wipe {σ : St} {vs : List Nat} : wipe (wipe σ vs) vs = wipe σ vs := wipe_same (wipe_length σ vs) fun i hi => wipe_out' hi

section
variable {K : PySem.W.Frag} {F : Hp} {B : List (Nat × Addr)} {σ : St} {H : Hp} {e : En} {G : Hp}
/-- the block's own names forgotten -/
theorem SR.drop (s : SR K F B σ H e G) (vs : List Nat) : SR K F B (wipe σ vs) H (wipeE e vs) G := by
  refine ⟨by rw [wipeE_len, wipe_length]; exact s.len, s.sub, s.frm, s.dsj, fun i d q => ?_, fun i b ds q => ?_, fun i j b c ds es p q1 q2 q3 q4 => ?_⟩
  · rcases wipeE_in q with ⟨_, z⟩ | ⟨m, z⟩
    · cases z
    · obtain ⟨v, h1, h2⟩ := s.vls i d z
      exact ⟨v, by rw [wipe_out' m]; exact h1, h2⟩
  · rcases wipeE_in q with ⟨_, z⟩ | ⟨m, z⟩
    · cases z
    · obtain ⟨p, ws, h1, r⟩ := s.ows i b ds z
      exact ⟨p, ws, by rw [wipe_out' m]; exact h1, r⟩
  · rcases wipeE_in q1 with ⟨_, z⟩ | ⟨m, z1⟩
    · cases z
    · rcases wipeE_in q2 with ⟨_, z⟩ | ⟨m2, z2⟩
      · cases z
      · rw [wipe_out' m] at q3
        rw [wipe_out' m2] at q4
        exact s.dis i j b c ds es p z1 z2 q3 q4
/-- the lists of one's own under the block's names -/
def Hid (σ : St) (e : En) (vs : List Nat) (a : Addr) : Prop := ∃ i, i ∈ vs ∧ ∃ b ds, e[i]? = some (.ow b ds) ∧ σ[i]? = some (some (.ref a))
open Classical in
noncomputable def hidF (F : Hp) (σ : St) (H : Hp) (e : En) (vs : List Nat) : Hp := fun a => if Hid σ e vs a then H a else F a
theorem SR.hide (s : SR K F B σ H e G) (vs : List Nat) : SR K (hidF F σ H e vs) B (wipe σ vs) H (wipeE e vs) G := by
  have d := s.drop vs
  refine ⟨d.len, d.sub, fun a o q => ?_, fun a o q => ?_, d.vls, fun i b ds q => ?_, d.dis⟩
  · unfold hidF at q
    split at q
    · exact q
    · exact s.frm a o q
  · unfold hidF at q
    split at q
    · rename_i hh
      obtain ⟨i, _, b, ds, h1, h2⟩ := hh
      obtain ⟨p, ws, k1, k2, _⟩ := s.ows i b ds h1
      rw [h2] at k1
      cases k1
      exact k2
    · exact s.dsj a o q
  · obtain ⟨p, ws, h1, h2, h3, r⟩ := d.ows i b ds q
    refine ⟨p, ws, h1, h2, ?_, r⟩
    unfold hidF
    rcases wipeE_in q with ⟨_, z⟩ | ⟨m, z⟩
    · cases z
    · rw [if_neg]
      · exact h3
      · rintro ⟨j, mj, c, es, k1, k2⟩
        rw [wipe_out' m] at h1
        have := s.dis i j b c ds es p z k1 h1 k2
        exact m (this ▸ mj)
/-- a cell of the frame written -/
theorem SR.frame {D : Addr} {o o' : HO} (s : SR K (upd F D o) B σ H e G) : SR K (upd F D o') B σ (upd H D o') e G := by
  have gD : G D = none := s.dsj D o upd_same
  refine ⟨s.len, fun a u q => ?_, fun a u q => ?_, fun a u q => ?_, s.vls, fun i b ds q => ?_, s.dis⟩
  · rw [upd_ne (ne_of_none q gD)]
    exact s.sub a u q
  · by_cases h : a = D
    · subst h; rw [upd_same] at q ⊢; exact q
    · rw [upd_ne h] at q ⊢
      exact s.frm a u (by rw [upd_ne h]; exact q)
  · by_cases h : a = D
    · subst h; exact gD
    · rw [upd_ne h] at q
      exact s.dsj a u (by rw [upd_ne h]; exact q)
  · obtain ⟨p, ws, h1, h2, h3, h4, r⟩ := s.ows i b ds q
    have ne : p ≠ D := fun z => by rw [z, upd_same] at h3; cases h3
    exact ⟨p, ws, h1, h2, by rw [upd_ne ne] at h3 ⊢; exact h3, by rw [upd_ne ne]; exact h4, r⟩
/-- a new cell into the frame -/
theorem SR.newFr (s : SR K F B σ H e G) {D : Addr} {o : HO} (h : H D = none) : SR K (upd F D o) B σ (upd H D o) e G := by
  have n := s.new (o := o) h
  refine ⟨n.len, n.sub, fun a u q => ?_, fun a u q => ?_, n.vls, fun i b ds q => ?_, n.dis⟩
  · by_cases e : a = D
    · subst e; rw [upd_same] at q ⊢; exact q
    · rw [upd_ne e] at q ⊢; exact s.frm a u q
  · by_cases e : a = D
    · subst e; exact s.newG h
    · rw [upd_ne e] at q; exact s.dsj a u q
  · obtain ⟨p, ws, h1, h2, h3, h4, r⟩ := n.ows i b ds q
    have ne : p ≠ D := fun z => by
      obtain ⟨p', ws', k1, _, _, k4, _⟩ := s.ows i b ds q
      rw [h1] at k1
      cases k1
      rw [z, h] at k4
      cases k4
    exact ⟨p, ws, h1, h2, by rw [upd_ne ne]; exact h3, h4, r⟩
/-- back from a block -/
theorem SR.back {H1 : Hp} {e1 : En} {G1 : Hp} {vs : List Nat} {D : Addr} {o : HO} (s : SR K F B σ H1 e1 G1) (s' : SR K (upd (hidF F σ H1 e1 vs) D o) B (wipe σ vs) H e G) (m : Same G1 G) (hD : H1 D = none) : SR K F B σ H (backE e1 e vs) G := by
  have fD : ∀ a u, a ≠ D → hidF F σ H1 e1 vs a = some u → upd (hidF F σ H1 e1 vs) D o a = some u := fun a u n q => by rw [upd_ne n]; exact q
  have neD : ∀ a u, F a = some u → a ≠ D := fun a u q z => by
    have := s.frm a u q
    rw [z, hD] at this
    cases this
  have inF : ∀ a u, F a = some u → upd (hidF F σ H1 e1 vs) D o a = some u := fun a u q => by
    refine fD a u (neD a u q) ?_
    unfold hidF
    rw [if_neg]
    · exact q
    · rintro ⟨i, _, b, ds, h1, h2⟩
      obtain ⟨p, ws, k1, _, k3, _⟩ := s.ows i b ds h1
      rw [h2] at k1
      cases k1
      rw [k3] at q
      cases q
  have hid : ∀ i b ds, i ∈ vs → e1[i]? = some (.ow b ds) → ∃ p ws, σ[i]? = some (some (.ref p)) ∧ F p = none ∧ p ≠ D ∧ upd (hidF F σ H1 e1 vs) D o p = some (.lst ws) ∧ RpAll K G1 ws ds ∧ (b = true → (i, p) ∈ B) := fun i b ds mi q => by
    obtain ⟨p, ws, k1, k2, k3, k4, k5, k6⟩ := s.ows i b ds q
    have ne : p ≠ D := fun z => by rw [z, hD] at k4; cases k4
    refine ⟨p, ws, k1, k3, ne, fD p _ ne ?_, k5, k6⟩
    unfold hidF
    rw [if_pos ⟨i, mi, b, ds, q, k1⟩]
    exact k4
  have cases_ : ∀ i x, (backE e1 e vs)[i]? = some x → (i ∈ vs ∧ (x = .un ∨ e1[i]? = some x)) ∨ (i ∉ vs ∧ e[i]? = some x) := fun i x q => by
    rcases backE_in q with ⟨mi, z⟩ | z
    · refine .inl ⟨mi, ?_⟩
      rw [List.getD_eq_getElem?_getD] at z
      cases w : e1[i]? with
      | none => rw [w] at z; exact .inl z
      | some y => rw [w] at z; exact .inr (by rw [z]; rfl)
    · exact .inr z
  refine ⟨by rw [backE_len, s'.len, wipe_length], s'.sub, fun a u q => s'.frm a u (inF a u q), fun a u q => s'.dsj a u (inF a u q), fun i d q => ?_, fun i b ds q => ?_, fun i j b c ds es p q1 q2 q3 q4 => ?_⟩
  · rcases cases_ i _ q with ⟨mi, z | z⟩ | ⟨mi, z⟩
    · cases z
    · obtain ⟨v, h1, h2⟩ := s.vls i d z
      exact ⟨v, h1, h2.up m⟩
    · obtain ⟨v, h1, h2⟩ := s'.vls i d z
      exact ⟨v, by rw [wipe_out' mi] at h1; exact h1, h2⟩
  · rcases cases_ i _ q with ⟨mi, z | z⟩ | ⟨mi, z⟩
    · cases z
    · obtain ⟨p, ws, h1, h2, h3, h4, h5, h6⟩ := hid i b ds mi z
      exact ⟨p, ws, h1, s'.dsj p _ h4, h2, s'.frm p _ h4, h5.up m, h6⟩
    · obtain ⟨p, ws, h1, h2, h3, h4, h5, h6⟩ := s'.ows i b ds z
      rw [wipe_out' mi] at h1
      refine ⟨p, ws, h1, h2, ?_, h4, h5, h6⟩
      cases w : F p with
      | none => rfl
      | some u => rw [inF p u w] at h3; cases h3
  · rcases cases_ i _ q1 with ⟨mi, z | z⟩ | ⟨mi, z⟩
    · cases z
    · rcases cases_ j _ q2 with ⟨mj, w | w⟩ | ⟨mj, w⟩
      · cases w
      · exact s.dis i j b c ds es p z w q3 q4
      · obtain ⟨p', ws, h1, _, h3, h4, _⟩ := hid i b ds mi z
        rw [q3] at h1
        cases h1
        obtain ⟨p'', ws', k1, _, k3, _⟩ := s'.ows j c es w
        rw [wipe_out' mj, q4] at k1
        cases k1
        rw [k3] at h4
        cases h4
    · rcases cases_ j _ q2 with ⟨mj, w | w⟩ | ⟨mj, w⟩
      · cases w
      · obtain ⟨p', ws, h1, _, h3, h4, _⟩ := hid j c es mj w
        rw [q4] at h1
        cases h1
        obtain ⟨p'', ws', k1, _, k3, _⟩ := s'.ows i b ds z
        rw [wipe_out' mi, q3] at k1
        cases k1
        rw [k3] at h4
        cases h4
      · exact s'.dis i j b c ds es p z w (by rw [wipe_out' mi]; exact q3) (by rw [wipe_out' mj]; exact q4)
end

/-! ### list comprehensions -/
def W0 : WX := fun _ _ _ _ => False
/-- one turn: what it gives, if anything -/
def turnM (bt : PyData → M Unit) (mc : M Bool) (me : M RV) (d : PyData) : M (Option PyData) := do
  bt d
  let b ← mc
  if b then do
    let r ← me
    pure (some r.d)
  else pure none
def lcGo (own : List Nat) (step : PyData → M (Option PyData)) : List PyData → En → List PyData → Option (List PyData × En)
  | [], e, acc => some (acc, e)
  | d :: ds, e, acc => match step d e with
    | some (.ok none e') => lcGo own step ds (wipeE e' own) acc
    | some (.ok (some y) e') => if acc.length < most then lcGo own step ds (wipeE e' own) (acc ++ [y]) else none
    | _ => none
def lcRun (own : List Nat) (step : PyData → M (Option PyData)) (items : List PyData) : M RV := fun e => (lcGo own step items (wipeE e own) []).map fun p => .ok ⟨.list p.1, true⟩ (backE e p.2 own)
theorem ok_lcRun {own : List Nat} {step : PyData → M (Option PyData)} {items : List PyData} {e : En} {P : RV → En → Prop} {W : Exn → En → Prop} (h : Ok (lcRun own step items) e P W) : ∃ ds e2, lcGo own step items (wipeE e own) [] = some (ds, e2) ∧ P ⟨.list ds, true⟩ (backE e e2 own) := by
  unfold Ok lcRun at h
  cases z : lcGo own step items (wipeE e own) [] with
  | none => simp [z] at h
  | some r => simp [z] at h; exact ⟨r.1, r.2, rfl, h⟩
def lcM (own : List Nat) (mi : M (List PyData)) (step : PyData → M (Option PyData)) : M RV := do
  let items ← mi
  lcRun own step items
section
variable {X : Cx} {W : WX}
theorem we0 {K : PySem.W.Frag} {mg : Str → Option Value} {F : Hp} {B : List (Nat × Addr)} {G : Hp} {x : Exn} {e : En} : True := trivial
/-- a run that does not raise -/
theorem ok_of {α : Type} {m : M α} {e e' : En} {a : α} {P : α → En → Prop} {Wx : Exn → En → Prop} (q : m e = some (.ok a e')) (h : P a e') : Ok m e P Wx := by
  unfold Ok
  rw [q]
  exact h
theorem bind_some {α β : Type} {m : M α} {f : α → M β} {e e' : En} {b : β} (h : (m >>= f) e = some (.ok b e')) : ∃ a e1, m e = some (.ok a e1) ∧ f a e1 = some (.ok b e') := by
  have h : M.bnd m f e = some (.ok b e') := h
  unfold M.bnd at h
  split at h
  · cases h
  · rename_i a e1 q
    exact ⟨a, e1, q, h⟩
  · cases h
theorem t_lc {pr : Bool} {own sl : List Nat} {mi : M (List PyData)} {bt : PyData → M Unit} {mc : M Bool} {me : M RV} (hsl : ∀ i ∈ sl, i ∈ own) {σ : St} {H : Hp} {Q : VK} (q : tV X.K X.mg W (lcM own mi (turnM bt mc me)) σ H Q) :
    tLc (tI X.K X.mg W pr mi) (tG X.K X.mg W0 pr sl bt) (tBo X.K X.mg W0 mc) (tV X.K X.mg W0 me) own σ H Q := by
  obtain ⟨e0, G0, F, B, s0, k⟩ := q
  refine ⟨e0, G0, F, B, s0, (ok_bind.mp k).imp (fun items e1 k1 J H1 G1 s1 m1 it => ?_) fun _ _ w => w⟩
  intro D hD
  obtain ⟨ds, e2, hgo, kP⟩ := ok_lcRun k1
  let Pv : Nat → Hp → Prop := fun i H => ∃ e G acc accD, SR X.K (upd (hidF F σ H1 e1 own) D (.lst acc)) B (wipe σ own) H e G ∧ Same G1 G ∧ RpAll X.K G acc accD ∧ lcGo own (turnM bt mc me) (items.drop i) e accD = some (ds, e2)
  refine ⟨fun i m H => m = items.length - i ∧ i ≤ items.length ∧ Pv i H, ⟨_, rfl, Nat.zero_le _, wipeE e1 own, G1, [], [], (s1.hide own).newFr hD, .refl _, .nil, hgo⟩, ?_⟩
  rintro i m H ⟨rfl, hi, e, G, acc, accD, s, sm, ra, go⟩
  by_cases hlt : i < items.length
  · refine .inr ⟨it.go i H hlt (sm.trans s.sub), fun H => Pv (i + 1) H, fun H' p => ⟨_, by omega, rfl, hlt, p⟩, fun x H' y => ?_⟩
    obtain ⟨d, hd, hy⟩ := it.yld i H x H' hlt (sm.trans s.sub) y
    have hx : ∃ G', SR X.K (upd (hidF F σ H1 e1 own) D (.lst acc)) B (wipe σ own) H' e G' ∧ Same G G' ∧ RpP X.K pr G' x d := by
      rcases hy with ⟨rfl, rfl, r⟩ | ⟨p, vs, es, rfl, hp, rfl, rfl, rfl, r⟩
      · exact ⟨G, s, .refl _, r.up sm⟩
      · obtain ⟨s', m', r'⟩ := s.pair (r.up sm) hp
        exact ⟨_, s', m', r'⟩
    obtain ⟨G', s', m', r'⟩ := hx
    have dr : items.drop i = d :: items.drop (i + 1) := by
      rw [List.drop_eq_getElem_cons hlt]
      congr 1
      rw [List.getElem?_eq_getElem hlt] at hd
      exact Option.some.inj hd
    rw [dr] at go
    unfold lcGo at go
    cases st : turnM bt mc me d e with
    | none => rw [st] at go; cases go
    | some rs =>
      cases rs with
      | ex x e' => rw [st] at go; cases go
      | ok o e5 =>
        rw [st] at go
        obtain ⟨_, e3, q1, q2⟩ := bind_some (m := bt d) st
        obtain ⟨b, e4, q3, q4⟩ := bind_some (m := mc) q2
        refine ⟨d, e, G', _, B, s', r', ok_of q1 fun σ2 H2 G2 s2 m2 n2 => ⟨?_, e3, G2, _, B, s2, ok_of q3 fun H3 G3 s3 m3 => ?_⟩⟩
        · rw [wipe_same (σ := σ2) (τ := wipe σ own) n2.1 fun i hi => n2.2 i fun z => hi (hsl i z)]
          exact wipe_wipe
        · have wσ : wipe σ2 own = wipe σ own := by
            rw [wipe_same (σ := σ2) (τ := wipe σ own) n2.1 fun i hi => n2.2 i fun z => hi (hsl i z)]
            exact wipe_wipe
          have m03 : Same G1 G3 := (((sm.trans m').trans m2).trans m3)
          have fin : ∀ {H6 : Hp} {e6 : En} {G6 : Hp} {acc' : List V}, SR X.K (upd (hidF F σ H1 e1 own) D (.lst acc')) B σ2 H6 e6 G6 → SR X.K (upd (hidF F σ H1 e1 own) D (.lst acc')) B (wipe σ own) H6 (wipeE e6 own) G6 := fun s6 => by
            rw [← wσ]
            exact s6.drop own
          cases b with
          | false =>
            have q4 : (pure none : M (Option PyData)) e4 = some (.ok o e5) := q4
            cases q4
            exact iteF ⟨_, G3, acc, accD, fin s3, m03, ra.up ((m'.trans m2).trans m3), go⟩
          | true =>
            obtain ⟨r, e6, q5, q6⟩ := bind_some (m := me) q4
            cases q6
            have go : (if accD.length < most then lcGo own (turnM bt mc me) (items.drop (i + 1)) (wipeE e5 own) (accD ++ [r.d]) else none) = some (ds, e2) := go
            split at go
            · rename_i hz
              refine iteT ⟨e4, G3, _, B, s3, ok_of q5 fun y H4 G4 s4 m4 rr => ?_⟩
              obtain ⟨G5, s5, m5, r5⟩ := rr.freeze s4
              refine ⟨acc, s5.frm D _ upd_same, ?_, ?_⟩
              · rw [ra.len]
                exact Nat.lt_of_lt_of_le hz (by decide)
              · exact ⟨_, G5, acc ++ [y], accD ++ [r.d], (fin s5).frame, (m03.trans m4).trans m5, (ra.up ((((m'.trans m2).trans m3).trans m4).trans m5)).app (.cons r5 .nil), go⟩
            · cases go
  · have hin : i = items.length := by omega
    subst hin
    rw [List.drop_length] at go
    have go : some (accD, e) = some (ds, e2) := go
    cases go
    have sb := s1.back s sm hD
    refine .inl ⟨it.stop H (sm.trans s.sub), kP _ H G sb (m1.trans sm) ⟨D, acc, ds, rfl, rfl, s.dsj D _ upd_same, s1.newF hD, s.frm D _ upd_same, ra, fun j b es q z => ?_⟩⟩
    obtain ⟨p, ws, h1, h2, h3, h4, _⟩ := sb.ows j b es q
    rw [z] at h1
    cases h1
    rcases backE_in q with ⟨mj, w⟩ | ⟨mj, w⟩
    · rw [List.getD_eq_getElem?_getD] at w
      cases w1 : e1[j]? with
      | none => rw [w1] at w; cases w
      | some x =>
        rw [w1] at w
        have w : x = .ow b es := w.symm
        subst w
        obtain ⟨p, ws, k1, k2, k3, k4, _⟩ := s1.ows j b es w1
        rw [z] at k1
        cases k1
        rw [hD] at k4
        cases k4
    · obtain ⟨p, ws, k1, k2, k3, _⟩ := s.ows j b es w
      rw [wipe_out' mj, z] at k1
      cases k1
      rw [upd_same] at k3
      cases k3
end
end Ev

set_option Elab.async false
set_option linter.all false
set_option maxRecDepth 100000
set_option maxHeartbeats 4000000
/-! EvK: methods of values (index), mutating methods, statements. -/
namespace Ev
open PySem PySem.Spec L2

/-! ### x.index(y) -/
section
variable {X : Cx} {W : WX}
/-- a method of a value whose type is told by the datum -/
def TyD (K : PySem.W.Frag) (T : String) (x : V) (H : Hp) : Prop := tyV K T x H ∨ (T = "tuple" ∧ ∃ a xs, x = .ref a ∧ TupR K H a xs)
theorem tyD_is {pins : List (Addr × Obj)} {σ : St} {H : Hp} {s : Shared} {T : String} {x : V} {v : Value} (I : Inv X pins σ H s) (r : RelV x v) (ty : TyD X.K T x H) :
    s.TypeIs v T ∧ ∀ a, v = .ref a → ∃ ob, s.heap.get? a = some ob ∧ ob.dict = none := by
  rcases ty with ty | ⟨rfl, a, xs, rfl, h⟩
  · exact tyV_is I r ty
  · cases r
    rcases h with ⟨o, h, d⟩ | ⟨o, its, n, h1, h2, d, _⟩
    · obtain ⟨e, _, _, _, o', e', c, _⟩ := I.hok a _ h
      rw [e] at e'
      cases e'
      exact ⟨⟨o, e, c⟩, fun b z => by cases z; exact ⟨o, e, d⟩⟩
    · exact ⟨⟨o, I.kIn a o h1, h2⟩, fun b z => by cases z; exact ⟨o, I.kIn _ o h1, d⟩⟩
def tMD (K : PySem.W.Frag) (T : String) (r : V → List V → Hp → VK → Prop) (to : TE) (t : TA) : TE := fun σ H Q => to σ H fun x H1 => TyD K T x H1 ∧ t σ H1 fun xs H2 => r x xs H2 Q
variable {o e : Expr} {es : List Expr} {to : TE} {t : TA} {name : Str} {apos cpos : Pos} {T id : String} {r : V → List V → Hp → VK → Prop}
/-- what the call of a method asks of its text -/
structure MOk (X : Cx) (o : Expr) (name : Str) (e : Expr) (es : List Expr) (apos cpos : Pos) : Prop where
  base : attributeBase o name X.env (eval o X.env) = eval o X.env
  few : ((backTo cpos (starEach (e :: es) X.env)).all (fun x => !x.1) && (backToKw cpos (keywordEach [] X.env)).all (fun x => x.1.isSome) && decide ((e :: es).length + ([] : List Keyword).length + (if ([] : List Keyword).isEmpty then 0 else 1) < 30)) = true
  line : (apos.endLine == cpos.line) = true
  star : starEach (e :: es) X.env = (false, eval e X.env) :: starEach es X.env
  plain : (backTo cpos (starEach es X.env)).any (·.1) = false
theorem pe_md (pa : PlainAttrs T) (slot : Slot T name id) (hty : typeOf (.builtin id) = pure (.type "method_descriptor")) (hm : MtR X id r) (ho : PE X o to) (ha : PA X (e :: es) t) (k : MOk X o name e es apos cpos) :
    PE X (.Call (.Attribute o name apos) (e :: es) [] cpos) (tMD X.K T r to t) := by
  refine ⟨fun pins s σ H Q I h => ?_⟩
  refine wpAny_Call_method_late k.base k.few k.line rfl (thn (ho.run pins s σ H _ I h) fun v s1 ⟨x, H1, I1, r1, ty, q1⟩ => ?_)
  obtain ⟨h1, h2⟩ := tyD_is I1 r1 ty
  refine ⟨T, id, pa, slot, hty, h1, h2, ?_⟩
  have hA := ha.run cpos pins s1 σ H1 _ I1 q1
  have hs := k.star
  rw [hs] at hA ⊢
  refine Calls.callWith_builtin ?_ (Calls.evalArgs_plain ?_)
  · show (false || (backTo cpos (starEach es X.env)).any (·.1)) = false
    rw [k.plain]
    rfl
  · exact thn hA fun us s2 ⟨vs, H2, I2, r2, q2⟩ => hm pins s2 σ H2 x vs v us Q I2 r1 r2 q2
/-- t.index(y), ints -/
def rIndexT (K : PySem.W.Frag) : V → List V → Hp → VK → Prop := fun x xs H Q => ∃ (a : Addr) (ns : List Int) (k : Int), x = .ref a ∧ xs = [.int k] ∧ SqT K H a (ns.map V.int) ∧ k ∈ ns ∧ Q (.int (ns.idxOf k : Nat)) H
theorem mt_indexT : MtR X "tuple.index" (rIndexT X.K) := by
  intro pins s σ H x xs v us Q I rx rxs ⟨a, ns, k, ex, exs, hs, hk, q⟩
  subst ex exs
  cases rx
  obtain ⟨u, rfl, t, rfl⟩ := Vals.one rxs
  obtain ⟨its, rv, p, _⟩ := I.tuple hs
  exact SeqAt.call_tuple_index p (SeqAt.ItemsEq.ints rv.ints) hk ⟨.int _, H, I.tok _, ⟨_, rfl⟩, q⟩
/-- the same name, a method of two types -/
def tMD2 (K : PySem.W.Frag) (T T' : String) (r r' : V → List V → Hp → VK → Prop) (to : TE) (t : TA) : TE := fun σ H Q => to σ H fun x H1 => (TyD K T x H1 ∧ t σ H1 fun xs H2 => r x xs H2 Q) ∨ (TyD K T' x H1 ∧ t σ H1 fun xs H2 => r' x xs H2 Q)
theorem pe_md2 {T' id' : String} {r' : V → List V → Hp → VK → Prop} (pa : PlainAttrs T) (slot : Slot T name id) (hty : typeOf (.builtin id) = pure (.type "method_descriptor")) (hm : MtR X id r) (pa' : PlainAttrs T') (slot' : Slot T' name id') (hty' : typeOf (.builtin id') = pure (.type "method_descriptor")) (hm' : MtR X id' r')
    (ho : PE X o to) (ha : PA X (e :: es) t) (k : MOk X o name e es apos cpos) : PE X (.Call (.Attribute o name apos) (e :: es) [] cpos) (tMD2 X.K T T' r r' to t) := by
  refine ⟨fun pins s σ H Q I h => ?_⟩
  refine wpAny_Call_method_late k.base k.few k.line rfl (thn (ho.run pins s σ H _ I h) fun v s1 ⟨x, H1, I1, r1, alt⟩ => ?_)
  have hs := k.star
  have hp : (false || (backTo cpos (starEach es X.env)).any (·.1)) = false := by
    rw [k.plain]
    rfl
  rcases alt with ⟨ty, q1⟩ | ⟨ty, q1⟩
  · obtain ⟨h1, h2⟩ := tyD_is I1 r1 ty
    refine ⟨T, id, pa, slot, hty, h1, h2, ?_⟩
    have hA := ha.run cpos pins s1 σ H1 _ I1 q1
    rw [hs] at hA ⊢
    exact Calls.callWith_builtin hp (Calls.evalArgs_plain (thn hA fun us s2 ⟨vs, H2, I2, r2, q2⟩ => hm pins s2 σ H2 x vs v us Q I2 r1 r2 q2))
  · obtain ⟨h1, h2⟩ := tyD_is I1 r1 ty
    refine ⟨T', id', pa', slot', hty', h1, h2, ?_⟩
    have hA := ha.run cpos pins s1 σ H1 _ I1 q1
    rw [hs] at hA ⊢
    exact Calls.callWith_builtin hp (Calls.evalArgs_plain (thn hA fun us s2 ⟨vs, H2, I2, r2, q2⟩ => hm' pins s2 σ H2 x vs v us Q I2 r1 r2 q2))
def idxOfD (d : PyData) : List PyData → Nat → Option Nat
  | [], _ => none
  | x :: xs, j => if PyData.eqv x d = true then some j else idxOfD d xs (j + 1)
def isLst : PyData → Bool
  | .list _ => true
  | _ => false
def indexD : PyData → PyData → Option RV
  | .list ds, d => if SeqAt.shaped (.list ds) = true ∧ SeqAt.shaped d = true then (idxOfD d ds 0).map fun j => ⟨.int (j : Nat), false⟩ else none
  | .tuple ds, .int k => match intsOf ds with
    | some ns => if k ∈ ns then lit (.int (ns.idxOf k : Nat)) else none
    | none => none
  | _, _ => none
theorem idxOfD_some {d : PyData} : ∀ {ds : List PyData} {n j : Nat}, idxOfD d ds n = some j → ∃ i z, j = n + i ∧ ds[i]? = some z ∧ PyData.eqv z d = true ∧ ∀ (m : Nat) (z' : PyData), m < i → ds[m]? = some z' → PyData.eqv z' d = false
  | [], _, _, h => by cases h
  | x :: xs, n, j, h => by
    unfold idxOfD at h
    split at h
    · rename_i q
      cases h
      exact ⟨0, x, rfl, rfl, q, fun m z' hm => by omega⟩
    · rename_i q
      obtain ⟨i, z, e1, e2, e3, e4⟩ := idxOfD_some h
      refine ⟨i + 1, z, by omega, by simpa using e2, e3, fun m z' hm hz => ?_⟩
      cases m with
      | zero => simp at hz; subst hz; simpa using q
      | succ m => exact e4 m z' (by omega) (by simpa using hz)
def indexM (ma mb : M OV) : M RV := do
  let x ← ma
  let d0 ← der x
  let _ ← liftO (if isLst d0 = true ∨ d0.isTuple = true then some () else none)
  let y ← mb
  let d ← der x
  let e ← der y
  liftO (if isLst d0 = isLst d ∧ d0.isTuple = d.isTuple then indexD d e else none)
theorem sv_index {a b : Expr} {ma mb : M OV} (hu : X.A.units + 100 < cLine) (ha : SO X W a ma) (hb : SO X W b mb) (k : MOk X a "index" b [] apos cpos) (h1 : starEach [b] X.env = (false, eval b X.env) :: starEach [] X.env) :
    SV X W (.Call (.Attribute a "index" apos) [b] [] cpos) (indexM ma mb) :=
  weakE (pe_md2 PySem.F.plainAttrs_list PySem.F.slot_list_index PySem.F.type_list_index (mt_indexD (by omega)) PySem.F.plainAttrs_tuple PySem.F.slot_tuple_index PySem.F.type_tuple_index mt_indexT ha (pa_cons hb pa_nil h1) k) fun σ H Q ⟨en, G, F, B, s, kk⟩ => by
    refine ⟨en, G, F, B, s, (ok_bind.mp kk).imp (fun ox e1 k1 x H1 G1 s1 m1 r1 => ?_) fun _ _ w => w⟩
    obtain ⟨d0, hd0, k2⟩ := s1.der r1 (ok_bind.mp k1)
    obtain ⟨_, kind, k2⟩ := ok_liftO.mp (ok_bind.mp k2)
    have kind : isLst d0 = true ∨ d0.isTuple = true := by
      split at kind
      · assumption
      · cases kind
    have rest : ∀ (P : V → V → Hp → Prop), (∀ y H2 e2 G2 d e res, SR X.K F B σ H2 e2 G2 → Dw X.K G2 H2 x d → Dw X.K G2 H2 y e → isLst d0 = isLst d → d0.isTuple = d.isTuple → indexD d e = some res → Post X.K F B σ e2 G2 res Q → P x y H2) → tO X.K X.mg W mb σ H1 fun y H2 => P x y H2 := fun P hP => by
      refine ⟨e1, G1, F, B, s1, (ok_bind.mp k2).imp (fun oy e2 k3 y H2 G2 s2 m2 r2 => ?_) fun _ _ w => w.up m1⟩
      obtain ⟨d, hd, k4⟩ := s2.der (r1.up m2) (ok_bind.mp k3)
      obtain ⟨e, he, k5⟩ := s2.der r2 (ok_bind.mp k4)
      obtain ⟨res, hr, k6⟩ := ok_liftO.mp k5
      split at hr
      · rename_i z
        exact hP y H2 e2 G2 d e res s2 hd he z.1 z.2 hr fun v H' G' s' m' rr => k6 v H' G' s' ((m1.trans m2).trans m') rr
      · cases hr
    by_cases hl : isLst d0 = true
    · refine .inl ⟨?_, ?_⟩
      · cases d0 <;> try cases hl
        obtain ⟨p, vs, rfl, q1, q2⟩ := hd0.lst s1.sub
        exact .inl (.inl ⟨rfl, vs, q1.sqL⟩)
      · refine rest (fun x y H2 => rIndexD X.K x [y] H2 Q) fun y H2 e2 G2 d e res s2 hd he z1 z2 hr po => ?_
        rw [hl] at z1
        cases d <;> try cases z1
        rename_i ds
        have hr : (if SeqAt.shaped (.list ds) = true ∧ SeqAt.shaped e = true then (idxOfD e ds 0).map fun j => (⟨.int (j : Nat), false⟩ : RV) else none) = some res := hr
        split at hr
        · rename_i z
          cases w : idxOfD e ds 0 with
          | none => rw [w] at hr; cases hr
          | some j =>
            rw [w] at hr
            cases hr
            obtain ⟨i, z', e1', e2', e3', e4'⟩ := idxOfD_some w
            obtain rfl : j = i := by omega
            obtain ⟨p, vs, rfl, q1, q2⟩ := hd.lst s2.sub
            exact ⟨p, y, e, ds, j, z', rfl, rfl, rp_dp _ _ (hd.rp s2.sub), rp_dp _ _ (he.rp s2.sub), z.1, z.2, e2', e3', e4', po.rp s2 (.int _)⟩
        · cases hr
    · by_cases ht : d0.isTuple = true
      · refine .inr ⟨?_, ?_⟩
        · cases d0 <;> try cases ht
          obtain ⟨p, vs, rfl, q1, q2⟩ := hd0.tup s1.sub
          exact .inr ⟨rfl, p, vs, rfl, q1⟩
        · refine rest (fun x y H2 => rIndexT X.K x [y] H2 Q) fun y H2 e2 G2 d e res s2 hd he z1 z2 hr po => ?_
          rw [ht] at z2
          cases d <;> try cases z2
          rename_i ds
          cases e <;> try cases hr
          rename_i kk
          have hr : (match intsOf ds with | some ns => if kk ∈ ns then lit (.int (ns.idxOf kk : Nat)) else none | none => none) = some res := hr
          split at hr
          · rename_i ns w
            split at hr
            · rename_i hm
              cases hr
              cases he.int
              have e1 := intsOf_eq w
              subst e1
              obtain ⟨p, vs, rfl, q1, q2⟩ := hd.tup s2.sub
              have e2 := q2.ints
              subst e2
              exact ⟨p, ns, kk, rfl, rfl, q1.sqT, hm, po.rp s2 (.int _)⟩
            · cases hr
          · cases hr
      · exact (kind.elim hl ht).elim
end
end Ev

set_option Elab.async false
set_option linter.all false
set_option maxRecDepth 100000
set_option maxHeartbeats 4000000
/-! EvL: statements. -/
namespace Ev
open PySem PySem.Spec L2

inductive Fl where
  | nx | rt (r : RV) | bk | ct
def FlP (K : PySem.W.Frag) (F : Hp) (B : List (Nat × Addr)) (G : Hp) (D : Ends) : Fl → En → Prop
  | .nx, e' => ∀ σ' H' G', SR K F B σ' H' e' G' → Same G G' → D.nx σ' H'
  | .rt r, e' => ∀ v σ' H' G', SR K F B σ' H' e' G' → Same G G' → RR K F σ' H' e' G' v r → D.rt v H'
  | .bk, e' => ∀ σ' H' G', SR K F B σ' H' e' G' → Same G G' → D.bk σ' H'
  | .ct, e' => ∀ σ' H' G', SR K F B σ' H' e' G' → Same G G' → D.ct σ' H'
theorem FlP.up {K : PySem.W.Frag} {F : Hp} {B : List (Nat × Addr)} {G G' : Hp} {D : Ends} (s : Same G G') : ∀ {f : Fl} {e : En}, FlP K F B G D f e → FlP K F B G' D f e
  | .nx, _, h => fun σ' H' G2 a b => h σ' H' G2 a (s.trans b)
  | .rt r, _, h => fun v σ' H' G2 a b c => h v σ' H' G2 a (s.trans b) c
  | .bk, _, h => fun σ' H' G2 a b => h σ' H' G2 a (s.trans b)
  | .ct, _, h => fun σ' H' G2 a b => h σ' H' G2 a (s.trans b)
def tS (K : PySem.W.Frag) (mg : Str → Option Value) (W : WX) (m : M Fl) : TS := fun D σ H => ∃ e G F B, SR K F B σ H e G ∧ Ok m e (FlP K F B G D) (WE K mg W F B G)
abbrev SS (X : Cx) (W : WX) (st : Stmt) (m : M Fl) : Prop := PS X st (tS X.K X.mg W m)
abbrev SSs (X : Cx) (W : WX) (st : List Stmt) (m : M Fl) : Prop := PSs X st (tS X.K X.mg W m)
@[simp] def thenM (m : M Fl) (ms : M Fl) : M Fl := do
  let f ← m
  match f with
  | .nx => ms
  | f => pure f
section
variable {X : Cx} {W : WX} {st : Stmt} {sts a b : List Stmt} {e c : Expr} {pos : Pos}
theorem ss_nil : SSs X W [] (pure .nx) := weakSs pss_nil fun D σ H ⟨en, G, F, B, s, k⟩ => k σ H G s (.refl _)
theorem ss_cons {m ms : M Fl} (h : SS X W st m) (hs : SSs X W sts ms) : SSs X W (st :: sts) (thenM m ms) := weakSs (pss_cons h hs) fun D σ H ⟨en, G, F, B, s, k⟩ => by
  refine ⟨en, G, F, B, s, (ok_bind.mp k).imp (fun f e1 k1 => ?_) fun _ _ w => w⟩
  cases f with
  | nx => exact fun σ1 H1 G1 s1 m1 => ⟨e1, G1, F, B, s1, Ok.imp (show Ok ms e1 _ _ from k1) (fun f e2 k2 => k2.up m1) fun _ _ w => w.up m1⟩
  | rt r => exact k1
  | bk => exact k1
  | ct => exact k1
@[simp] def passM : M Fl := pure .nx
theorem ss_pass : SS X W (.Pass pos) passM := weakS ps_pass fun D σ H ⟨en, G, F, B, s, k⟩ => k σ H G s (.refl _)
theorem ss_break : SS X W (.Break pos) (pure .bk) := weakS ps_break fun D σ H ⟨en, G, F, B, s, k⟩ => k σ H G s (.refl _)
theorem ss_cont : SS X W (.Continue pos) (pure .ct) := weakS ps_continue fun D σ H ⟨en, G, F, B, s, k⟩ => k σ H G s (.refl _)
@[simp] def retM (m : M RV) : M Fl := do
  let r ← m
  pure (.rt r)
theorem ss_ret {m : M RV} (h : SV X W e m) : SS X W (.Return (some e) pos) (retM m) := weakS (ps_ret h) fun D σ H ⟨en, G, F, B, s, k⟩ =>
  ⟨en, G, F, B, s, (ok_bind.mp k).imp (fun r e1 k1 v H1 G1 s1 m1 rr => k1 v σ H1 G1 s1 m1 rr) fun _ _ w => w⟩
/-- a name returned -/
theorem ss_retv {i : Nat} (h : PE X e (tVar i)) : SS X W (.Return (some e) pos) (retM (readR i)) := weakS (ps_ret h) fun D σ H ⟨en, G, F, B, s, k⟩ => by
  have k := ok_bind.mp k
  unfold Ok readR at k
  cases q : en[i]? with
  | none => rw [q] at k; exact k.elim
  | some x =>
    rw [q] at k
    cases x with
    | un => exact k.elim
    | vl d =>
      obtain ⟨v, h1, h2⟩ := s.vls i d q
      exact ⟨v, h1, k v σ H G s (.refl _) h2⟩
    | ow b ds =>
      cases b with
      | true => exact k.elim
      | false =>
        obtain ⟨p, vs, h1, h2, h3, h4, h5, h6⟩ := s.ows i false ds q
        have lost : SR X.K F B σ H (en.set i .un) G := by
          refine ⟨by simpa using s.len, s.sub, s.frm, s.dsj, fun j d r => ?_, fun j c es r => ?_, fun j l c c' es fs p' r1 r2 r3 r4 => ?_⟩
          · rcases set_get r with ⟨_, z⟩ | ⟨_, z⟩
            · cases z
            · exact s.vls j d z
          · rcases set_get r with ⟨_, z⟩ | ⟨_, z⟩
            · cases z
            · exact s.ows j c es z
          · rcases set_get r1 with ⟨_, z⟩ | ⟨_, z⟩
            · cases z
            · rcases set_get r2 with ⟨_, z'⟩ | ⟨_, z'⟩
              · cases z'
              · exact s.dis j l c c' es fs p' z z' r3 r4
        refine ⟨_, h1, k _ σ H G lost (.refl _) ⟨p, vs, ds, rfl, rfl, h2, h3, h4, h5, fun j c es r z => ?_⟩⟩
        rcases set_get r with ⟨_, w⟩ | ⟨ne, w⟩
        · cases w
        · exact ne (s.dis j i c false es ds p w q z h1)
@[simp] def retN : M Fl := pure (.rt ⟨.none, false⟩)
theorem ss_retN : SS X W (.Return none pos) retN := weakS ps_retN fun D σ H ⟨en, G, F, B, s, k⟩ => k .non σ H G s (.refl _) .non
@[simp] def dropM (m : M RV) : M Fl := do
  let _ ← m
  pure .nx
theorem ss_expr {m : M RV} (h : SV X W e m) (hs : swapsWith e none pos.line X.env = pure false) : SS X W (.Expr e pos) (dropM m) := weakS (ps_expr h hs) fun D σ H ⟨en, G, F, B, s, k⟩ =>
  ⟨en, G, F, B, s, (ok_bind.mp k).imp (fun r e1 k1 v H1 G1 s1 m1 rr => k1 σ H1 G1 s1 m1) fun _ _ w => w⟩
@[simp] def ifM (mc : M Bool) (ma mb : M Fl) : M Fl := do
  let b ← mc
  if b then ma else mb
theorem ss_if {mc : M Bool} {ma mb : M Fl} (hc : SB X W c mc) (ha : SSs X W a ma) (hb : SSs X W b mb) : SS X W (.If c a b pos) (ifM mc ma mb) := weakS (ps_if hc ha hb) fun D σ H ⟨en, G, F, B, s, k⟩ => by
  refine ⟨en, G, F, B, s, (ok_bind.mp k).imp (fun b e1 k1 H1 G1 s1 m1 => ?_) fun _ _ w => w⟩
  cases b with
  | true => exact iteT ⟨e1, G1, F, B, s1, Ok.imp (show Ok ma e1 _ _ from k1) (fun f e2 k2 => k2.up m1) fun _ _ w => w.up m1⟩
  | false => exact iteF ⟨e1, G1, F, B, s1, Ok.imp (show Ok mb e1 _ _ from k1) (fun f e2 k2 => k2.up m1) fun _ _ w => w.up m1⟩
/-! assignments -/
@[simp] def setM (i : Nat) (m : M RV) : M Fl := do
  let r ← m
  store i r
  pure .nx
theorem t_set {i : Nat} {m : M RV} {t : TE} (ht : ∀ σ H Q, tV X.K X.mg W m σ H Q → t σ H Q) {D : Ends} {σ : St} {H : Hp} (q : tS X.K X.mg W (setM i m) D σ H) : tAsg t (gName i) D σ H := by
  obtain ⟨en, G, F, B, s, k⟩ := q
  refine ht σ H _ ⟨en, G, F, B, s, (ok_bind.mp k).imp (fun r e1 k1 v H1 G1 s1 m1 rr => ?_) fun _ _ w => w⟩
  obtain ⟨_, k2⟩ := ok_store (ok_bind.mp k1)
  exact k2 _ H1 G1 (s1.store rr) m1
theorem ss_set {i : Nat} {x : Str} {m : M RV} {pos' : Pos} (hN : X.N.Nodup) (hi : X.N[i]? = some x) (hx : Loc X.env.scope x) (h : SV X W e m) (hs : swapsWith e (some (.Name x pos')) pos.line X.env = pure false) (hf : X.fn x = true ∨ X.env.scope.names.lookup x = some .local) :
    SS X W (.Assign [.Name x pos'] e pos) (setM i m) := weakS (ps_set hN hi hx h hs hf) fun D σ H q => t_set (fun _ _ _ q => q) q
@[simp] def bindM (m : M RV) (b : PyData → M Unit) : M Fl := do
  let r ← m
  b r.d
  pure .nx
theorem ss_bind {tg : Expr} {sl : List Nat} {m : M RV} {b : PyData → M Unit} (h : SV X W e m) (hg : SG X W false tg sl b) (hs : swapsWithSole [tg] e pos.line X.env = pure false) (hw : swappedStores [tg] e X.env = pure none) (h1 : (assignEach [tg] X.env).map (·.2) = [assign tg X.env]) :
    SS X W (.Assign [tg] e pos) (bindM m b) := weakS (ps_asg h hg hs hw h1) fun D σ H ⟨en, G, F, B, s, k⟩ => by
  refine ⟨en, G, F, B, s, (ok_bind.mp k).imp (fun r e1 k1 v H1 G1 s1 m1 rr => ?_) fun _ _ w => w⟩
  obtain ⟨G2, s2, m2, r2⟩ := rr.freeze s1
  have m12 := m1.trans m2
  exact ⟨r.d, e1, G2, F, B, s2, r2, (ok_bind.mp k1).imp (fun _ e2 k2 σ3 H3 G3 s3 m3 _ => k2 σ3 H3 G3 s3 (m12.trans m3)) fun _ _ w => w.up m12⟩
/-- a, b = x, y -/
@[simp] def parM (i j : Nat) (m n : M RV) : M Fl := do
  let r ← m
  let t ← n
  store i r
  store j t
  pure .nx
theorem unfr {K : PySem.W.Frag} {F : Hp} {B : List (Nat × Addr)} {σ : St} {H : Hp} {en : En} {G : Hp} {p : Addr} {o : HO} (s : SR K (upd F p o) B σ H en G) (h : F p = none) : SR K F B σ H en G := by
  have k : ∀ a u, F a = some u → upd F p o a = some u := fun a u q => by rw [upd_ne (ne_of_none q h)]; exact q
  refine ⟨s.len, s.sub, fun a u q => s.frm a u (k a u q), fun a u q => s.dsj a u (k a u q), s.vls, fun i b ds q => ?_, s.dis⟩
  obtain ⟨p', ws, h1, h2, h3, r⟩ := s.ows i b ds q
  refine ⟨p', ws, h1, h2, ?_, r⟩
  cases w : F p' with
  | none => rfl
  | some u => rw [k p' u w] at h3; cases h3
theorem infr {K : PySem.W.Frag} {F : Hp} {B : List (Nat × Addr)} {σ : St} {H : Hp} {en : En} {G : Hp} {p : Addr} {o : HO} (s : SR K F B σ H en G) (hp : H p = some o) (hg : G p = none) (no : ∀ (i : Nat) (b : Bool) (es : List PyData), en[i]? = some (.ow b es) → σ[i]? ≠ some (some (.ref p))) : SR K (upd F p o) B σ H en G := by
  refine ⟨s.len, s.sub, fun a u q => ?_, fun a u q => ?_, s.vls, fun i b ds q => ?_, s.dis⟩
  · by_cases e : a = p
    · subst e; rw [upd_same] at q; rw [← q]; exact hp
    · rw [upd_ne e] at q; exact s.frm a u q
  · by_cases e : a = p
    · subst e; exact hg
    · rw [upd_ne e] at q; exact s.dsj a u q
  · obtain ⟨p', ws, h1, h2, h3, r⟩ := s.ows i b ds q
    refine ⟨p', ws, h1, h2, ?_, r⟩
    rw [upd_ne fun z => no i b ds q (by rw [h1, z])]
    exact h3
theorem ss_par {i j : Nat} {x y : Str} {e1 e2 : Expr} {m n : M RV} {px py pt : Pos} {kt k2 pt2} (hc : X.calm = true) (hN : X.N.Nodup) (hi : X.N[i]? = some x) (hj : X.N[j]? = some y) (hij : i ≠ j)
    (hx : X.env.scope.names.lookup x = some .local) (hy : X.env.scope.names.lookup y = some .local) (h1 : SV X W e1 m) (h2 : SV X W e2 n) (s1 : starEach [e1, e2] X.env = (false, eval e1 X.env) :: starEach [e2] X.env) (s2 : starEach [e2] X.env = (false, eval e2 X.env) :: starEach [] X.env)
    (hw : swappedStores [.Tuple [.Name x px, .Name y py] kt pt] (.Tuple [e1, e2] k2 pt2) X.env = pure (some [x, y])) (hs : swapsWithSole [.Tuple [.Name x px, .Name y py] kt pt] (.Tuple [e1, e2] k2 pt2) pos.line X.env = pure false) :
    SS X W (.Assign [.Tuple [.Name x px, .Name y py] kt pt] (.Tuple [e1, e2] k2 pt2) pos) (parM i j m n) :=
  weakS (ps_par hc hN hi hj hij hx hy (pa_cons h1 (pa_cons h2 pa_nil s2) s1) hw hs) fun D σ H ⟨en, G, F, B, s, k⟩ => by
    refine ⟨en, G, F, B, s, (ok_bind.mp k).imp (fun r e1 k1 v H1 G1 s1 m1 rr => ?_) fun _ _ w => w⟩
    have fin : ∀ {t : RV} {e2 : En} {H2 : Hp} {G2 : Hp} {w : V}, SR X.K F B σ H2 e2 G2 → Same G G2 → RR X.K F σ H2 e2 G2 v r → RR X.K F σ H2 e2 G2 w t → (∀ p p' : Addr, r.fr = true → t.fr = true → v = .ref p → w = .ref p' → p ≠ p') →
        Ok (do store i r; store j t; pure Fl.nx) e2 (FlP X.K F B G D) (WE X.K X.mg W F B G) → D.nx ((σ.set i (some v)).set j (some w)) H2 := fun {t e2 H2 G2 w} s2 m2 rv rw_ apart k3 => by
      obtain ⟨li, k4⟩ := ok_store (ok_bind.mp k3)
      obtain ⟨lj, k5⟩ := ok_store (ok_bind.mp k4)
      have sa := s2.store (i := i) rv
      refine k5 _ H2 G2 (sa.store ?_) m2
      unfold RR at rw_ ⊢
      cases hf : t.fr with
      | false => rw [hf] at rw_; exact rw_
      | true =>
        rw [hf] at rw_
        obtain ⟨p, vs, ds, rfl, z1, z2, z3, z4, z5, z6⟩ := rw_
        refine ⟨p, vs, ds, rfl, z1, z2, z3, z4, z5, fun l b es q z => ?_⟩
        rcases set_get q with ⟨rfl, w1⟩ | ⟨ne, w1⟩
        · rw [List.getElem?_set_self (by rw [← s2.len]; exact li)] at z
          cases z
          obtain ⟨d, fr⟩ := r
          cases fr with
          | false => cases d <;> cases w1
          | true =>
            exact apart p p rfl hf rfl rfl rfl
        · rw [List.getElem?_set_ne (Ne.symm ne)] at z
          exact z6 l b es w1 z
    cases hf : r.fr with
    | false =>
      refine ⟨e1, G1, F, B, s1, (ok_bind.mp k1).imp (fun t e2 k2 w H2 G2 s2 m2 rw_ => ?_) fun _ _ w => w.up m1⟩
      refine ⟨v, w, rfl, fin s2 (m1.trans m2) ?_ rw_ (fun _ _ z => by rw [hf] at z; cases z) k2⟩
      unfold RR at rr ⊢
      rw [hf] at rr ⊢
      exact Rp.up rr m2
    | true =>
      have rr' := rr
      unfold RR at rr
      rw [hf] at rr
      obtain ⟨p, vs, ds, rfl, z1, z2, z3, z4, z5, z6⟩ := rr
      refine ⟨e1, G1, upd F p (.lst vs), B, infr s1 z4 z2 z6, (ok_bind.mp k1).imp (fun t e2 k2 w H2 G2 s2 m2 rw_ => ?_) fun x e' wx => ?_⟩
      · have s2' := unfr s2 z3
        have gp : G2 p = none := s2.dsj p _ upd_same
        have rv : RR X.K F σ H2 e2 G2 (.ref p) r := by
          unfold RR
          rw [hf]
          refine ⟨p, vs, ds, rfl, z1, gp, z3, s2.frm p _ upd_same, z5.up m2, fun l b es q z => ?_⟩
          obtain ⟨p', ws, y1, _, y3, _⟩ := s2.ows l b es q
          rw [z] at y1
          cases y1
          rw [upd_same] at y3
          cases y3
        have rw2 : RR X.K F σ H2 e2 G2 w t := by
          unfold RR at rw_ ⊢
          cases ht : t.fr with
          | false => rw [ht] at rw_; exact rw_
          | true =>
            rw [ht] at rw_
            obtain ⟨p2, vs2, ds2, rfl, y1, y2, y3, y4⟩ := rw_
            refine ⟨p2, vs2, ds2, rfl, y1, y2, ?_, y4⟩
            cases q : F p2 with
            | none => rfl
            | some u => rw [upd_ne (ne_of_none q z3)] at y3; rw [q] at y3; cases y3
        refine ⟨.ref p, w, rfl, fin s2' (m1.trans m2) rv rw2 (fun a b _ ht ea eb => ?_) k2⟩
        cases ea
        unfold RR at rw_
        rw [ht] at rw_
        obtain ⟨p2, vs2, ds2, e2', y1, y2, y3, y4⟩ := rw_
        rw [eb] at e2'
        cases e2'
        intro z
        rw [← z, upd_same] at y3
        cases y3
      · exact fun C v dx σ' H' G' a b c d f => wx.up m1 C v dx σ' H' G' a (unfr b z3) c d f
end
end Ev

set_option Elab.async false
set_option linter.all false
set_option maxRecDepth 100000
set_option maxHeartbeats 4000000
/-! EvM: comprehensions as values, lists of one's own written, loops. -/
namespace Ev
open PySem PySem.Spec L2

section
variable {X : Cx} {W : WX} {elt tg iter c e : Expr} {scope : Scope} {own : List (Str × Nat)} {pos spos : Pos} {pr : Bool} {sl : List Nat} {mi : M (List PyData)} {bt : PyData → M Unit} {mc : M Bool} {me : M RV} {ifs : List Expr}
abbrev SPs (X : Cx) (W : WX) (ifs : List Expr) (m : M Bool) : Prop := PTs X ifs (tBo X.K X.mg W m)
theorem weakPs {t t' : TT} (h : PTs X ifs t) (k : ∀ σ H Q, t' σ H Q → t σ H Q) : PTs X ifs t' := ⟨fun p s σ H Q I q => h.run p s σ H Q I (k σ H Q q)⟩
theorem sps_nil : SPs X W [] (pure true) := weakPs pts_nil fun σ H Q ⟨en, G, F, B, s, k⟩ => k H G s (.refl _)
theorem sps_one (h : SB X W c mc) : SPs X W [c] mc := pts_one h
theorem sv_lc (hsl : ∀ i ∈ sl, i ∈ own.map (·.2)) (hc : X.calm = true) (hN : X.N.Nodup) (hi : SI X W pr tg iter mi) (ok : BlkOk X.N X.env.scope scope own)
    (hg : ∀ (s : Shared) (H : Hp) (C : Addr) (cl : List (Str × Addr)) (fp : List Addr), SG (X.blk s H scope (compEnvC scope cl C X.env) fp) W0 pr tg sl bt)
    (ht : ∀ (s : Shared) (H : Hp) (C : Addr) (cl : List (Str × Addr)) (fp : List Addr), SPs (X.blk s H scope (compEnvC scope cl C X.env) fp) W0 ifs mc)
    (he : ∀ (s : Shared) (H : Hp) (C : Addr) (cl : List (Str × Addr)) (fp : List Addr), SV (X.blk s H scope (compEnvC scope cl C X.env) fp) W0 elt me) (hs : ∀ x, foldedSetIterable iter X.env x = pure x) :
    SV X W (.ListComp elt [⟨tg, iter, ifs, 0⟩] scope pos) (lcM (own.map (·.2)) mi (turnM bt mc me)) :=
  weakE (pe_lc hc hN hi ok hg ht he hs) fun _ _ _ q => t_lc hsl q
/-- name = [..] on one line -/
theorem ss_setLc {i : Nat} {y : Str} {py : Pos} (hsl : ∀ i ∈ sl, i ∈ own.map (·.2)) (hc : X.calm = true) (hN : X.N.Nodup) (hy : X.N[i]? = some y) (hyl : X.env.scope.names.lookup y = some .local)
    (hsw : swapsWith (.ListComp elt [⟨tg, iter, ifs, 0⟩] scope pos) (some (.Name y py)) spos.line X.env = pure true) (hi : SI X W pr tg iter mi) (ok : BlkOk X.N X.env.scope scope own)
    (hg : ∀ (s : Shared) (H : Hp) (C : Addr) (cl : List (Str × Addr)) (fp : List Addr), SG (X.blk s H scope (compEnvC scope cl C X.env) fp) W0 pr tg sl bt)
    (ht : ∀ (s : Shared) (H : Hp) (C : Addr) (cl : List (Str × Addr)) (fp : List Addr), SPs (X.blk s H scope (compEnvC scope cl C X.env) fp) W0 ifs mc)
    (he : ∀ (s : Shared) (H : Hp) (C : Addr) (cl : List (Str × Addr)) (fp : List Addr), SV (X.blk s H scope (compEnvC scope cl C X.env) fp) W0 elt me) (hs : ∀ x, foldedSetIterable iter X.env x = pure x) :
    SS X W (.Assign [.Name y py] (.ListComp elt [⟨tg, iter, ifs, 0⟩] scope pos) spos) (setM i (lcM (own.map (·.2)) mi (turnM bt mc me))) :=
  weakS (ps_setLc hc hN hy hyl hsw hi ok hg ht he hs) fun _ _ _ q => t_set (fun _ _ _ q => t_lc hsl q) q
end

/-! ### a list of one's own is written -/
section
variable {K : PySem.W.Frag} {F : Hp} {B : List (Nat × Addr)} {σ : St} {H : Hp} {e : En} {G : Hp}
theorem SR.write (s : SR K F B σ H e G) {i : Nat} {b : Bool} {ds ds' : List PyData} {p : Addr} {vs' : List V} (q : e[i]? = some (.ow b ds)) (hp : σ[i]? = some (some (.ref p))) (r : RpAll K G vs' ds') :
    SR K F B σ (upd H p (.lst vs')) (e.set i (.ow b ds')) G := by
  obtain ⟨p', vs, h1, h2, h3, h4, h5, h6⟩ := s.ows i b ds q
  rw [hp] at h1
  cases h1
  have hi : i < e.length := by
    rcases Nat.lt_or_ge i e.length with z | z
    · exact z
    · rw [List.getElem?_eq_none z] at q; cases q
  have old : ∀ {j : Nat} {c : Bool} {es : List PyData}, (e.set i (.ow b ds'))[j]? = some (.ow c es) → ∃ es', e[j]? = some (.ow c es') := fun {j c es} z => by
    rcases set_get z with ⟨rfl, w⟩ | ⟨_, w⟩
    · cases w; exact ⟨_, q⟩
    · exact ⟨_, w⟩
  refine ⟨by simp [s.len], fun a u z => ?_, fun a u z => ?_, s.dsj, fun j d z => ?_, fun j c es z => ?_, fun j l c c' es fs p2 z1 z2 z3 z4 => ?_⟩
  · rw [upd_ne (ne_of_none z h2)]; exact s.sub a u z
  · rw [upd_ne (ne_of_none z h3)]; exact s.frm a u z
  · rcases set_get z with ⟨rfl, w⟩ | ⟨_, w⟩
    · cases w
    · exact s.vls j d w
  · rcases set_get z with ⟨rfl, w⟩ | ⟨ne, w⟩
    · cases w
      exact ⟨p, vs', hp, h2, h3, upd_same, r, h6⟩
    · obtain ⟨p2, ws, k1, k2, k3, k4, k5, k6⟩ := s.ows j c es w
      have np : p2 ≠ p := fun w' => ne (s.dis j i c b es ds p w q (by rw [k1, w']) hp)
      exact ⟨p2, ws, k1, k2, k3, by rw [upd_ne np]; exact k4, k5, k6⟩
  · obtain ⟨es', w1⟩ := old z1
    obtain ⟨fs', w2⟩ := old z2
    exact s.dis j l c c' es' fs' p2 w1 w2 z3 z4
end
/-- slot i, a list of one's own, becomes what f makes of it -/
def writeM (i : Nat) (f : List PyData → Option (List PyData)) : M Unit := fun e => match e[i]? with
  | some (.ow b ds) => (f ds).map fun ds' => .ok () (e.set i (.ow b ds'))
  | _ => none
theorem ok_write {i : Nat} {f : List PyData → Option (List PyData)} {e : En} {P : Unit → En → Prop} {W : Exn → En → Prop} (h : Ok (writeM i f) e P W) : ∃ b ds ds', e[i]? = some (.ow b ds) ∧ f ds = some ds' ∧ P () (e.set i (.ow b ds')) := by
  unfold Ok writeM at h
  split at h
  · exact h.elim
  · rename_i a e' q
    split at q
    · rename_i b ds w
      cases z : f ds with
      | none => rw [z] at q; cases q
      | some ds' =>
        rw [z] at q
        cases q
        exact ⟨b, ds, ds', w, z, h⟩
    · cases q
  · rename_i x e' q
    split at q
    · rename_i b ds w
      cases z : f ds with
      | none => rw [z] at q; cases q
      | some ds' => rw [z] at q; cases q
    · cases q
/-- slot i is a list of one's own now -/
def ownM (i : Nat) : M Unit := fun e => match e[i]? with
  | some (.ow _ _) => some (.ok () e)
  | _ => none
theorem ok_own {i : Nat} {e : En} {P : Unit → En → Prop} {W : Exn → En → Prop} (h : Ok (ownM i) e P W) : (∃ b ds, e[i]? = some (.ow b ds)) ∧ P () e := by
  unfold Ok ownM at h
  split at h
  · exact h.elim
  · rename_i a e' q
    split at q
    · rename_i b ds w
      cases q
      exact ⟨⟨b, ds, w⟩, h⟩
    · cases q
  · rename_i x e' q
    split at q <;> cases q
def appM (i : Nat) (m : M RV) : M Fl := do
  ownM i
  let d ← valM m
  writeM i fun ds => if ds.length < most then some (ds ++ [d]) else none
  pure .nx
def itL : PyData → Option (List PyData)
  | .list ds => some ds
  | _ => none
def extM (i : Nat) (m : M RV) : M Fl := do
  ownM i
  let d ← valM m
  let es ← liftO (itL d)
  writeM i fun ds => if ds.length + es.length ≤ most then some (ds ++ es) else none
  pure .nx
section
variable {X : Cx} {W : WX} {o e : Expr} {apos cpos pos : Pos} {i : Nat} {m : M RV}
/-- the list at a known place -/
theorem SR.at {K : PySem.W.Frag} {F : Hp} {B : List (Nat × Addr)} {σ : St} {H : Hp} {e : En} {G : Hp} (s : SR K F B σ H e G) {i : Nat} {b : Bool} {ds : List PyData} {p : Addr} (q : e[i]? = some (.ow b ds)) (hp : σ[i]? = some (some (.ref p))) : ∃ vs, H p = some (.lst vs) ∧ RpAll K G vs ds ∧ G p = none := by
  obtain ⟨p', vs, h1, h2, h3, h4, h5, h6⟩ := s.ows i b ds q
  rw [hp] at h1
  cases h1
  exact ⟨vs, h4, h5, h2⟩
theorem mt_extendR : MtR X "list.extend" (fun x vs H Q => ∃ l b xs zs, x = .ref l ∧ vs = [.ref b] ∧ H l = some (.lst xs) ∧ LsR X.K H b zs ∧ xs.length + zs.length ≤ sizeLine ∧ Q .non (upd H l (.lst (xs ++ zs)))) := by
  rintro pins s σ H x vs v us Q I rx rv ⟨l, b, xs, zs, ex, ev, hH, hB, hz, q⟩
  subst ex ev
  cases rx
  obtain ⟨u, rfl, ru⟩ := rv.one
  cases ru
  obtain ⟨z, a1, n, r, hl, k1⟩ := I.lstM hH
  obtain ⟨z2, a2, n2, r2, k2⟩ := lstR I hB
  have len2 := r2.length
  have room : a1.toArray.size + a2.toArray.size ≤ sizeLine := by rw [List.size_toArray, List.size_toArray]; omega
  have fits : ¬ (!a1.toArray.isEmpty && Builtin.List.listTooLong (a1.toArray.size + a2.toArray.size)) = true := by
    rw [notLongL room, Bool.and_false]
    simp
  refine call_meets F.slot_list_extend ⟨_, k1, rfl⟩ F.entry_list_extend (F.args_list_extend_2 _ _) (AutoSeq1.list_extend_list_list_0 l a1.toArray n b a2.toArray n2 fits (by rw [List.size_toArray]; omega) (by omega)) ⟨k1, k2, ?_⟩
  exact ⟨.non, _, I.lset (its' := a1 ++ a2) hH k1 (by simp) (r.append r2) (by rw [List.length_append]; omega), rfl, q⟩
theorem ss_app (pa : PlainAttrs "list") (slot : Slot "list" "append" "list.append") (hty : typeOf (.builtin "list.append") = pure (.type "method_descriptor")) (ho : PE X o (tVar i)) (h : SV X W e m) (k : MOk X o "append" e [] apos cpos)
    (hs : swapsWith (.Call (.Attribute o "append" apos) [e] [] cpos) none pos.line X.env = pure false) : SS X W (.Expr (.Call (.Attribute o "append" apos) [e] [] cpos) pos) (appM i m) :=
  weakS (ps_expr (pe_bm pa slot hty mt_append ho (pa_cons h pa_nil k.star) k.base k.few k.line k.star k.plain) hs) fun D σ H ⟨en, G, F, B, s, k⟩ => by
    obtain ⟨⟨b, ds, q⟩, k1⟩ := ok_own (ok_bind.mp k)
    obtain ⟨p, vs, h1, h2, h3, h4, h5, h6⟩ := s.ows i b ds q
    refine ⟨_, h1, .inl ⟨rfl, vs, .inl (.of h4)⟩, en, G, F, B, s, (ok_bind.mp (ok_bind.mp k1)).imp (fun r e1 k2 y H1 G1 s1 m1 rr => ?_) fun _ _ w => w⟩
    obtain ⟨G2, s2, m2, r2⟩ := rr.freeze s1
    obtain ⟨b', ds', es', q', hf, k3⟩ := ok_write (ok_bind.mp k2)
    split at hf
    · rename_i z
      cases hf
      obtain ⟨ws, w1, w2, w3⟩ := s2.at q' h1
      refine ⟨p, ws, y, rfl, rfl, w1, by rw [w2.len]; exact Nat.lt_of_lt_of_le z (by decide), ?_⟩
      exact k3 σ _ G2 (s2.write q' h1 (w2.app (.cons r2 .nil))) (m1.trans m2)
    · cases hf
theorem ss_ext (pa : PlainAttrs "list") (slot : Slot "list" "extend" "list.extend") (hty : typeOf (.builtin "list.extend") = pure (.type "method_descriptor")) (ho : PE X o (tVar i)) (h : SV X W e m) (k : MOk X o "extend" e [] apos cpos)
    (hs : swapsWith (.Call (.Attribute o "extend" apos) [e] [] cpos) none pos.line X.env = pure false) : SS X W (.Expr (.Call (.Attribute o "extend" apos) [e] [] cpos) pos) (extM i m) :=
  weakS (ps_expr (pe_bm pa slot hty mt_extendR ho (pa_cons h pa_nil k.star) k.base k.few k.line k.star k.plain) hs) fun D σ H ⟨en, G, F, B, s, k⟩ => by
    obtain ⟨⟨b, ds, q⟩, k1⟩ := ok_own (ok_bind.mp k)
    obtain ⟨p, vs, h1, h2, h3, h4, h5, h6⟩ := s.ows i b ds q
    refine ⟨_, h1, .inl ⟨rfl, vs, .inl (.of h4)⟩, en, G, F, B, s, (ok_bind.mp (ok_bind.mp k1)).imp (fun r e1 k2 y H1 G1 s1 m1 rr => ?_) fun _ _ w => w⟩
    obtain ⟨G2, s2, m2, r2⟩ := rr.freeze s1
    have k2 : Ok (do let es ← liftO (itL r.d); writeM i (fun ds => if ds.length + es.length ≤ most then some (ds ++ es) else none); pure Fl.nx) e1 (FlP X.K F B G D) (WE X.K X.mg W F B G) := k2
    obtain ⟨es, hes, k2⟩ := ok_liftO.mp (ok_bind.mp k2)
    have hd : r.d = .list es := by
      obtain ⟨d, fr⟩ := r
      cases d <;> try cases hes
      rfl
    rw [hd] at r2
    obtain ⟨b', ds', es', q', hf, k3⟩ := ok_write (ok_bind.mp k2)
    split at hf
    · rename_i z
      cases hf
      obtain ⟨ws, w1, w2, w3⟩ := s2.at q' h1
      cases r2 with
      | lst l1 l2 =>
        rename_i a zs
        refine ⟨p, a, ws, zs, rfl, rfl, w1, l1.same s2.sub, by rw [w2.len, l2.len]; exact most_line z, ?_⟩
        exact k3 σ _ G2 (s2.write q' h1 (w2.app l2)) (m1.trans m2)
    · cases hf
def intO : PyData → Option Int
  | .int k => some k
  | _ => none
/-- x[j] = .., x a list of one's own -/
def subT (i : Nat) (mj : M OV) (d : PyData) : M Unit := do
  ownM i
  let o ← mj
  let j ← der o
  let k ← liftO (intO j)
  writeM i fun ds => (ixN ds.length k).map fun n => ds.set n d
theorem intO_some {d : PyData} {k : Int} (h : intO d = some k) : d = .int k := by
  cases d <;> try cases h
  rfl
theorem sg_sub {mj : M OV} (ho : PE X o (tVar i)) (hj : SO X W e mj)
    (ha : ∀ v, assign (.Subscript o e pos) X.env v = (do
      let ov ← holding [v] (eval o X.env)
      let iv ← holding [v, ov] (eval e X.env)
      standAt pos
      holding [v, ov, iv] (setItem ov iv v)
      release [v, ov, iv] [])) : SG X W false (.Subscript o e pos) [] (subT i mj) :=
  weakG (pg_sub ho hj set_list ha) fun v σ H Q ⟨d, en, G, F, B, s, r, k⟩ => by
    obtain ⟨⟨b, ds, q⟩, k1⟩ := ok_own (ok_bind.mp k)
    obtain ⟨p, vs, h1, _⟩ := s.ows i b ds q
    refine ⟨_, h1, en, G, F, B, s, (ok_bind.mp k1).imp (fun oj e1 k2 y H1 G1 s1 m1 r1 => ?_) fun _ _ w => w⟩
    obtain ⟨dj, hj, k3⟩ := s1.der r1 (ok_bind.mp k2)
    obtain ⟨kk, hk, k4⟩ := ok_liftO.mp (ok_bind.mp k3)
    obtain rfl := intO_some hk
    cases hj.int
    obtain ⟨b', ds', es', q', hf, k5⟩ := ok_write k4
    obtain ⟨ws, w1, w2, w3⟩ := s1.at q' h1
    cases hn : ixN ds'.length kk with
    | none => rw [hn] at hf; cases hf
    | some n =>
      rw [hn] at hf
      cases hf
      refine ⟨p, ws, kk, n, rfl, rfl, w1, by rw [w2.len]; exact hn, ?_⟩
      exact k5 σ _ G1 (s1.write q' h1 (w2.set (r.up m1) n)) m1 ⟨rfl, fun _ _ => rfl⟩
end

/-! ### for -/
def forGo (step : PyData → M Fl) : List PyData → M Fl
  | [] => pure .nx
  | d :: ds => do
    let f ← step d
    match f with
    | .nx => forGo step ds
    | .ct => forGo step ds
    | .bk => pure .nx
    | .rt r => pure (.rt r)
def bodyM (bt : PyData → M Unit) (mb : M Fl) (d : PyData) : M Fl := do
  bt d
  mb
def forM (mi : M (List PyData)) (step : PyData → M Fl) : M Fl := do
  let items ← mi
  forGo step items
section
variable {X : Cx} {W : WX} {tg iter : Expr} {body : List Stmt} {pos : Pos} {pr : Bool} {sl : List Nat} {mi : M (List PyData)} {bt : PyData → M Unit} {mb : M Fl}
theorem ss_for (hp : PassesOwn (model X.prog X.w) X.A X.env X.xe) (hc : X.calm = true) (hi : SI X W pr tg iter mi) (hg : SG X W pr tg sl bt) (hb : SSs X W body mb) (hs : ∀ x, foldedSetIterable iter X.env x = pure x) :
    SS X W (.For tg iter body [] pos) (forM mi (bodyM bt mb)) := weakS (ps_for hp hc hi hg hb hs) fun D σ H ⟨e0, G0, F, B, s0, k⟩ => by
  refine ⟨e0, G0, F, B, s0, (ok_bind.mp k).imp (fun items e1 k1 J H1 G1 s1 m1 it => ?_) fun _ _ w => w⟩
  refine ⟨fun i m σ H => m = items.length - i ∧ i ≤ items.length ∧ ∃ e G, SR X.K F B σ H e G ∧ Same G1 G ∧ Ok (forGo (bodyM bt mb) (items.drop i)) e (FlP X.K F B G D) (WE X.K X.mg W F B G), ⟨_, rfl, Nat.zero_le _, e1, G1, s1, .refl _, k1.imp (fun _ _ z => z.up m1) fun _ _ z => z.up m1⟩, ?_⟩
  rintro i m σ H ⟨rfl, hi, e, G, s, sm, go⟩
  by_cases hlt : i < items.length
  · refine .inr ⟨it.go i H hlt (sm.trans s.sub), fun σ' H' => items.length - (i + 1) = items.length - (i + 1) ∧ i + 1 ≤ items.length ∧ ∃ e G, SR X.K F B σ' H' e G ∧ Same G1 G ∧ Ok (forGo (bodyM bt mb) (items.drop (i + 1))) e (FlP X.K F B G D) (WE X.K X.mg W F B G), fun σ' H' p => ⟨_, by omega, p⟩, fun x H' y => ?_⟩
    obtain ⟨d, hd, hy⟩ := it.yld i H x H' hlt (sm.trans s.sub) y
    have hx : ∃ G', SR X.K F B σ H' e G' ∧ Same G G' ∧ RpP X.K pr G' x d := by
      rcases hy with ⟨rfl, rfl, r⟩ | ⟨p, vs, es, rfl, hp, rfl, rfl, rfl, r⟩
      · exact ⟨G, s, .refl _, r.up sm⟩
      · obtain ⟨s', m', r'⟩ := s.pair (r.up sm) hp
        exact ⟨_, s', m', r'⟩
    obtain ⟨G', s', m', r'⟩ := hx
    have dr : items.drop i = d :: items.drop (i + 1) := by
      rw [List.drop_eq_getElem_cons hlt]
      congr 1
      rw [List.getElem?_eq_getElem hlt] at hd
      exact Option.some.inj hd
    rw [dr] at go
    have go : Ok (do let f ← (do bt d; mb); match f with | .nx => forGo (bodyM bt mb) (items.drop (i + 1)) | .ct => forGo (bodyM bt mb) (items.drop (i + 1)) | .bk => pure .nx | .rt r => pure (.rt r)) e (FlP X.K F B G D) (WE X.K X.mg W F B G) := go
    refine ⟨d, e, G', F, B, s', r', (ok_bind.mp (ok_bind.mp go)).imp (fun _ e2 k2 σ2 H2 G2 s2 m2 _ => ?_) fun _ _ z => z.up m'⟩
    have m02 := m'.trans m2
    refine ⟨e2, G2, F, B, s2, k2.imp (fun f e3 k3 => ?_) fun _ _ z => z.up m02⟩
    cases f with
    | nx => exact fun σ3 H3 G3 s3 m3 => ⟨rfl, hlt, e3, G3, s3, sm.trans (m02.trans m3), Ok.imp (show Ok (forGo (bodyM bt mb) (items.drop (i + 1))) e3 _ _ from k3) (fun _ _ z => z.up (m02.trans m3)) fun _ _ z => z.up (m02.trans m3)⟩
    | ct => exact fun σ3 H3 G3 s3 m3 => ⟨rfl, hlt, e3, G3, s3, sm.trans (m02.trans m3), Ok.imp (show Ok (forGo (bodyM bt mb) (items.drop (i + 1))) e3 _ _ from k3) (fun _ _ z => z.up (m02.trans m3)) fun _ _ z => z.up (m02.trans m3)⟩
    | bk =>
      have k3 : FlP X.K F B G D .nx e3 := k3
      exact fun σ3 H3 G3 s3 m3 => k3 σ3 H3 G3 s3 (m02.trans m3)
    | rt r =>
      have k3 : FlP X.K F B G D (.rt r) e3 := k3
      exact fun v σ3 H3 G3 s3 m3 rr => k3 v σ3 H3 G3 s3 (m02.trans m3) rr
  · obtain rfl : i = items.length := by omega
    rw [List.drop_length] at go
    have go : FlP X.K F B G D .nx e := go
    exact .inl ⟨it.stop H (sm.trans s.sub), go σ H G s (.refl _)⟩
/-- code that is never reached -/
theorem ss_never {st : Stmt} : SS X W st (liftO none) := weakS ps_never fun D σ H ⟨e0, G0, F, B, s0, k⟩ => not_none k
theorem sss_never {st : List Stmt} : SSs X W st (liftO none) := weakSs pss_never fun D σ H ⟨e0, G0, F, B, s0, k⟩ => not_none k
end
end Ev

set_option Elab.async false
set_option linter.all false
set_option maxRecDepth 100000
set_option maxHeartbeats 4000000
/-! EvN: defs that call one another, no exception leaving, no guard about. -/
namespace Ev
open PySem PySem.Spec L2
abbrev SpG := List V → Hp → VK → Prop
def cx0 : CXT := fun _ _ _ _ _ _ => False
def e0 : XK := fun _ _ _ => False
/-- what a def promises where no guard is about -/
structure FnG (P : Program) (w : World) (K : PySem.W.Frag) (mg : Str → Option Value) (base : Heap) (k : Nat) (f : Addr) (fd : FuncData) (ps : List Str) (sp : SpG) : Prop where
  cnt : ∀ {vs : List V} {H : Hp} {Q : VK}, sp vs H Q → vs.length = ps.length
  go : ∀ {A : Around} {out : List Env} {s : Shared} {H : Hp} {args : Args} {us : List Value} {vs : List V} {Q : VK}, Room k A → A.guards = some [] → Env0 P w K mg base A out s H → BindsTo s fd args (ps.zip us) → Vals vs us → sp vs H Q →
    codeAny (model P w) A (.call (.ref f) args) (CR cx0 out P w H s Q e0) s
theorem FnG.more {P : Program} {w : World} {K : PySem.W.Frag} {mg : Str → Option Value} {base : Heap} {j k : Nat} {f : Addr} {fd : FuncData} {ps : List Str} {sp : SpG} (F : FnG P w K mg base j f fd ps sp) (h : j ≤ k) : FnG P w K mg base k f fd ps sp :=
  ⟨F.cnt, fun r => F.go (r.mono h)⟩
theorem FnG.less {P : Program} {w : World} {K : PySem.W.Frag} {mg : Str → Option Value} {base : Heap} {k : Nat} {f : Addr} {fd : FuncData} {ps : List Str} {sp sp' : SpG} (F : FnG P w K mg base k f fd ps sp) (h : ∀ vs H Q, sp' vs H Q → sp vs H Q) : FnG P w K mg base k f fd ps sp' :=
  ⟨fun q => F.cnt (h _ _ _ q), fun r g e b v q => F.go r g e b v (h _ _ _ q)⟩
section
variable {P : Program} {w : World} {K : PySem.W.Frag} {mg : Str → Option Value} {base : Heap} {x qual : Str} {params : Arguments} {body : List Stmt} {sc : Scope} {f : Addr} {fd : FuncData}
/-- a def by its body -/
theorem FnG.of {dvs : List V} {kws : List (Str × V)} {N ps : List Str} {k : Nat} {sp : SpG} (D : FunD K x qual params body sc dvs kws f fd) (S : FnScope N ps sc) (cnt : ∀ {vs : List V} {H : Hp} {Q : VK}, sp vs H Q → vs.length = ps.length)
    (hb : ∀ (cdv : Value) (A : Around) (out : List Env) (s : Shared) (H : Hp), Room k (A.deeper (PyProof.Rows.envOfC qual sc s.heap.objs.size f cdv)) → A.guards = some [] →
      ∃ t, PSs (cxOf cx0 P w K mg base N qual sc f cdv A out s H e0).nox body t ∧ ∀ vs Q, sp vs H Q → t { nx := fun _ H' => Q .non H', rt := Q } (start N vs) H) : FnG P w K mg base (k + 1) f fd ps sp := by
  obtain ⟨oc, od, dV, kV, doc, pm, an, cdv, ct, osl, efd, look, code, _, _⟩ := D.ex
  subst efd
  refine ⟨cnt, fun {A out s H args us vs Q} room gd en bi rv q => ?_⟩
  have cn := cnt q
  have inK : K.In s.heap := en.mod.kin.keeps fun a o z => (en.bs a o z).1
  have nolim : s.heap.NoLimit := en.mod.nolimit.keeps fun a o z => (en.bs a o z).1
  have bound : ∀ y ∈ ps.zip us, sc.names.lookup y.1 = some .local ∨ (sc.names.lookup y.1 = some .cell ∧ ((cellsFrom (s.heap.objs.size + 1) sc.names []).lookup y.1).isSome = true) := fun y my => by
    obtain ⟨n, u⟩ := y
    exact (S.par n (List.of_mem_zip my).1).elim .inl fun z => .inr ⟨z, PySem.W.cellsFrom_some _ _ _ (.inl z)⟩
  refine codeAny_call_function room.depth (inK _ _ look) rfl S.co S.gen rfl (PySem.W.codeRec_of inK code) (bi _ _ _ _ ?_)
  refine wpAny_newFunctionEnv_cells S.kind bound fun env ee s1 inc => ?_
  subst ee
  obtain ⟨t, ht, hq⟩ := hb cdv A out s H (room.deeper _) gd
  have I := inv_start (CX := cx0) (E := e0) (mg := mg) (base := base) (cd := cdv) S room.hd en cn rv inc
  refine ⟨nolim.keeps inc.toInCall.keep, codeAny_func ?_⟩
  refine wpAny_mono (ht.nox.run [] s1 _ H _ I (hq vs Q q)) (fun fl s2 out => ?_) fun _ _ z => z
  cases fl with
  | next => exact out.elim fun σ' o => o.elim fun H' o => ⟨.non, H', o.1.os, o.1.bare, o.1.base, o.1.hok, rfl, o.2⟩
  | ret u => exact out.elim fun v o => o.elim fun σ' o => o.elim fun H' o => ⟨v, H', o.1.os, o.1.bare, o.1.base, o.1.hok, o.2.1, o.2.2⟩
  | brk => exact out.elim fun σ' o => o.elim fun H' o => (show False from o.2).elim
  | cont => exact out.elim fun σ' o => o.elim fun H' o => (show False from o.2).elim
end
section
variable {X : Cx} {k : Nat} {f : Addr} {fd : FuncData} {ps ks : List Str} {sp : SpG} {x : Str} {p pos : Pos} {e : Expr} {es : List Expr} {kws : List Keyword} {t tk : TA}
theorem FnG.calls {pins : List (Addr × Obj)} {σ : St} {H : Hp} {s : Shared} {Q : VK} {args : Args} {us : List Value} {vs : List V} (F : FnG X.prog X.w X.K X.mg X.base k f fd ps sp) (room : Room k X.A) (gd : X.A.guards = some []) (bi : BindsTo s fd args (ps.zip us))
    (I : Inv X pins σ H s) (r : Vals vs us) (h : sp vs H Q) : wpAny (model X.prog X.w) X.A (call (.ref f) args.pos args.kw) (EP X pins σ Q) X.xe s := by
  refine wpAny_call (codeAny_mono (F.go room gd I.env0 bi r h) fun res s' out => ?_)
  cases res with
  | error err => exact False.elim out
  | ok fl =>
    cases fl with
    | next => exact False.elim out
    | ret u => exact I.after out
    | brk => exact False.elim out
    | cont => exact False.elim out
def tCG (sp : SpG) (t : TA) : TE := fun σ H Q => t σ H fun vs H1 => sp vs H1 Q
theorem pe_callG (F : FnG X.prog X.w X.K X.mg X.base k f fd ps sp) (room : Room k X.A) (gd : X.A.guards = some []) (hg : Gl X x) (hm : X.mg x = some (.ref f)) (hk : PySem.W.keepIn X.K (.ref f) = true) (bi : Binds X.K fd ps []) (ha : PA X (e :: es) t)
    (hdb : (x == ("__debug__" : Str)) = false) (he : starEach (e :: es) X.env = (false, eval e X.env) :: starEach es X.env) (hpl : (backTo pos (starEach es X.env)).any (·.1) = false) : PE X (.Call (.Name x p) (e :: es) [] pos) (tCG sp t) := by
  refine ⟨fun pins s σ H Q I h => wpAny_Call_Name_kw (ld_glob I hg hm ?_ hdb)⟩
  refine PySem.W.callWith_K (h₀ := X.base) I.ok.mod.kin hk (thn (ha.run pos pins s σ H _ I h) fun us s1 ⟨vs, H1, I1, r, q⟩ => ⟨I1.kIn, ?_⟩) he hpl
  have len : (us ++ []).length = ps.length := by rw [List.append_nil, ← r.length]; exact F.cnt q
  have b := bi s1 us I1.kIn len
  rw [List.append_nil] at b
  exact F.calls (args := ⟨us, []⟩) room gd b I1 r q
/-- keywords alone -/
def tCK (sp : SpG) (g : List V → List V) (t : TA) : TE := fun σ H Q => t σ H fun vs H1 => sp (g vs) H1 Q
/-- keywords without positional arguments -/
theorem pe_callGK {g : List Value → List Value → List Value} {gV : List V → List V → List V} (F : FnG X.prog X.w X.K X.mg X.base k f fd ps sp) (room : Room k X.A) (gd : X.A.guards = some []) (hg : Gl X x) (hm : X.mg x = some (.ref f)) (hk : PySem.W.keepIn X.K (.ref f) = true) (bi : KBinds X.K fd ps ks g gV) (hkw : PK X kws tk)
    (hall : (backToKw pos (keywordEach kws X.env)).all (·.1.isSome) = true) (hks : (backToKw pos (keywordEach kws X.env)).filterMap (·.1) = ks) (hdb : (x == ("__debug__" : Str)) = false)
    (hpl : ((backTo pos (starEach [] X.env)).any (·.1) || (backToKw pos (keywordEach kws X.env)).any (·.1.isNone)) = false) : PE X (.Call (.Name x p) [] kws pos) (tCK sp (gV []) tk) := by
  refine ⟨fun pins s σ H Q I h => wpAny_Call_Name_kw (ld_glob I hg hm ?_ hdb)⟩
  refine PySem.W.callWith_KW0 (h₀ := X.base) I.ok.mod.kin hk hall (thn (hkw.run pos pins s σ H _ I h) fun us s1 ⟨vs, H1, I1, r, q⟩ => ⟨I1.kIn, ?_⟩) hpl
  rw [hks]
  have r2 : Vals (gV [] vs) (g [] us) := bi.rel .nil r
  have b := bi.to s1 [] us I1.kIn (by rw [← r2.length]; exact F.cnt q)
  exact F.calls (args := ⟨[], ks.zip us⟩) room gd b I1 r2 q
end
end Ev

set_option Elab.async false
set_option linter.all false
set_option maxRecDepth 100000
set_option maxHeartbeats 4000000
/-! EvO: defs called by mirrors. -/
namespace Ev
open PySem PySem.Spec L2
/-- the promise of a def whose mirror is m -/
def spM (K : PySem.W.Frag) (mg : Str → Option Value) (N : List Str) (np : Nat) (m : M Fl) : SpG := fun vs H Q => vs.length = np ∧ tS K mg W0 m { nx := fun _ H' => Q .non H', rt := Q } (L2.start N vs) H
abbrev FnM (P : Program) (w : World) (K : PySem.W.Frag) (mg : Str → Option Value) (base : Heap) (k : Nat) (f : Addr) (fd : FuncData) (ps N : List Str) (m : M Fl) : Prop := FnG P w K mg base k f fd ps (spM K mg N ps.length m)
section
variable {P : Program} {w : World} {K : PySem.W.Frag} {mg : Str → Option Value} {base : Heap} {x qual : Str} {params : Arguments} {body : List Stmt} {sc : Scope} {f : Addr} {fd : FuncData}
theorem FnM.of {dvs : List V} {kws : List (Str × V)} {N ps : List Str} {k : Nat} {m : M Fl} (D : FunD K x qual params body sc dvs kws f fd) (S : FnScope N ps sc)
    (hb : ∀ (cdv : Value) (A : Around) (out : List Env) (s : Shared) (H : Hp), Room k (A.deeper (PyProof.Rows.envOfC qual sc s.heap.objs.size f cdv)) → (A.deeper (PyProof.Rows.envOfC qual sc s.heap.objs.size f cdv)).guards = some [] →
      SSs (cxOf cx0 P w K mg base N qual sc f cdv A out s H e0).nox W0 body m) : FnM P w K mg base (k + 1) f fd ps N m :=
  FnG.of D S (fun q => q.1) fun cdv A out s H room gd => ⟨_, hb cdv A out s H room gd, fun vs Q q => q.2⟩
end
section
variable {K : PySem.W.Frag} {F : Hp} {B : List (Nat × Addr)} {σ : St} {H : Hp} {e : En} {G : Hp}
theorem hid_of {vs : List Nat} {i : Nat} {b : Bool} {ds : List PyData} {p : Addr} (hi : i ∈ vs) (q : e[i]? = some (.ow b ds)) (hp : σ[i]? = some (some (.ref p))) : hidF F σ H e vs p = H p := by
  unfold hidF
  exact if_pos ⟨i, hi, b, ds, q, hp⟩
theorem hid_F {vs : List Nat} {a : Addr} {o : HO} (s : SR K F B σ H e G) (h : F a = some o) : hidF F σ H e vs a = some o := by
  unfold hidF
  split
  · exact s.frm a o h
  · exact h
theorem lt_of_get {α : Type} {l : List α} {i : Nat} {x : α} (h : l[i]? = some x) : i < l.length := by
  rcases Nat.lt_or_ge i l.length with z | z
  · exact z
  · rw [List.getElem?_eq_none z] at h; cases h
/-- behind a call: the caller's state again -/
theorem SR.ret {B2 : List (Nat × Addr)} {σ2 : St} {H2 : Hp} {e2 : En} {G2 : Hp} (s : SR K F B σ H e G) (s2 : SR K (hidF F σ H e (List.range e.length)) B2 σ2 H2 e2 G2) (m : Same G G2) :
    SR K F B σ H2 e G2 ∧ ∀ v r, RR K (hidF F σ H e (List.range e.length)) σ2 H2 e2 G2 v r → RR K F σ H2 e G2 v r := by
  refine ⟨⟨s.len, s2.sub, fun a o h => s2.frm a o (hid_F s h), fun a o h => s2.dsj a o (hid_F s h), fun i d q => ?_, fun i b ds q => ?_, s.dis⟩, fun v r h => ?_⟩
  · obtain ⟨v, h1, h2⟩ := s.vls i d q
    exact ⟨v, h1, h2.up m⟩
  · obtain ⟨p, vs, h1, h2, h3, h4, h5, h6⟩ := s.ows i b ds q
    have hf : hidF F σ H e (List.range e.length) p = some (.lst vs) := by rw [hid_of (List.mem_range.mpr (lt_of_get q)) q h1]; exact h4
    exact ⟨p, vs, h1, s2.dsj p _ hf, h3, s2.frm p _ hf, h5.up m, h6⟩
  · unfold RR at h ⊢
    cases hr : r.fr with
    | false => rw [hr] at h; exact h
    | true =>
      rw [hr] at h
      obtain ⟨p, vs, ds, rfl, z1, z2, z3, z4, z5, z6⟩ := h
      have nF : F p = none := by
        cases q : F p with
        | none => rfl
        | some o => rw [hid_F s q] at z3; cases z3
      refine ⟨p, vs, ds, rfl, z1, z2, nF, z4, z5, fun i b es q z => ?_⟩
      obtain ⟨p', ws, k1, k2, k3, k4, _⟩ := s.ows i b es q
      rw [z] at k1
      cases k1
      rw [hid_of (List.mem_range.mpr (lt_of_get q)) q z, k4] at z3
      cases z3
theorem get_app_vl {ds : List PyData} {k i : Nat} {x : Sl} (h : (ds.map Sl.vl ++ List.replicate k Sl.un)[i]? = some x) : (∃ d, ds[i]? = some d ∧ x = .vl d) ∨ x = .un := by
  rcases Nat.lt_or_ge i ds.length with z | z
  · rw [List.getElem?_append_left (by simpa using z), List.getElem?_map] at h
    cases q : ds[i]? with
    | none => rw [q] at h; cases h
    | some d => rw [q] at h; cases h; exact .inl ⟨d, rfl, rfl⟩
  · rw [List.getElem?_append_right (by simpa using z)] at h
    exact .inr (List.eq_of_mem_replicate (List.mem_of_getElem? h))
theorem SR.callee (s : SR K F B σ H e G) {vs : List V} {ds : List PyData} (r : RpAll K G vs ds) (k : Nat) : SR K (hidF F σ H e (List.range e.length)) [] (vs.map some ++ List.replicate k none) H (ds.map Sl.vl ++ List.replicate k Sl.un) G := by
  have hs := s.hide (List.range e.length)
  refine ⟨by simp [r.len], s.sub, hs.frm, hs.dsj, fun i d q => ?_, fun i b es q => ?_, fun i j b c es fs p q _ _ _ => ?_⟩
  · rcases get_app_vl q with ⟨d', h1, h2⟩ | h2
    · cases h2
      obtain ⟨v, k1, k2⟩ := r.get h1
      refine ⟨v, ?_, k2⟩
      rw [List.getElem?_append_left (by simpa using lt_of_get k1), List.getElem?_map, k1]
      rfl
    · cases h2
  · rcases get_app_vl q with ⟨d', h1, h2⟩ | h2 <;> cases h2
  · rcases get_app_vl q with ⟨d', h1, h2⟩ | h2 <;> cases h2
end
/-- the mirror of a call -/
def runM (n np : Nat) (m : M Fl) (ds : List PyData) : M RV := fun e => if ds.length = np then match m (ds.map Sl.vl ++ List.replicate (n - np) Sl.un) with
  | some (.ok (.rt r) _) => some (.ok r e)
  | some (.ok .nx _) => some (.ok ⟨.none, false⟩ e)
  | _ => none
  else none
@[simp] def callM (n np : Nat) (m : M Fl) (ms : M (List PyData)) : M RV := do
  let ds ← ms
  runM n np m ds
theorem sp_run {K : PySem.W.Frag} {mg : Str → Option Value} {F : Hp} {B : List (Nat × Addr)} {σ : St} {H : Hp} {e : En} {G : Hp} {N : List Str} {np : Nat} {m : M Fl} {vs : List V} {ds : List PyData} {Q : VK} {Wx : Exn → En → Prop} (s : SR K F B σ H e G) (r : RpAll K G vs ds)
    (k : Ok (runM N.length np m ds) e (fun r e' => ∀ v H' G', SR K F B σ H' e' G' → Same G G' → RR K F σ H' e' G' v r → Q v H') Wx) : spM K mg N np m vs H Q := by
  unfold Ok runM at k
  split at k
  · exact k.elim
  · rename_i a e' q
    split at q
    · rename_i hl
      have sc := s.callee r (N.length - np)
      have st : L2.start N vs = vs.map some ++ List.replicate (N.length - np) none := by unfold L2.start; rw [r.len, hl]
      refine ⟨by rw [r.len]; exact hl, _, G, _, [], by rw [st]; exact sc, ?_⟩
      unfold Ok
      split at q
      · rename_i r2 e2 q2
        cases q
        rw [q2]
        intro v σ2 H2 G2 s2 m2 rr
        obtain ⟨s3, f3⟩ := s.ret s2 m2
        exact k v H2 G2 s3 m2 (f3 _ _ rr)
      · rename_i e2 q2
        cases q
        rw [q2]
        intro σ2 H2 G2 s2 m2
        obtain ⟨s3, f3⟩ := s.ret s2 m2
        exact k .non H2 G2 s3 m2 (show Rp K G2 .non .none from .non)
      · cases q
    · cases q
  · rename_i x e' q
    split at q
    · split at q <;> cases q
    · cases q
section
variable {X : Cx} {W : WX} {k : Nat} {f : Addr} {fd : FuncData} {ps N ks : List Str} {m : M Fl} {x : Str} {p pos : Pos} {e : Expr} {es : List Expr} {kws : List Keyword} {ms : M (List PyData)}
theorem sv_call (Fn : FnM X.prog X.w X.K X.mg X.base k f fd ps N m) (room : Room k X.A) (gd : X.A.guards = some []) (hg : Gl X x) (hm : X.mg x = some (.ref f)) (hk : PySem.W.keepIn X.K (.ref f) = true) (bi : Binds X.K fd ps []) (ha : SVs X W (e :: es) ms)
    (hdb : (x == ("__debug__" : Str)) = false) (he : starEach (e :: es) X.env = (false, eval e X.env) :: starEach es X.env) (hpl : (backTo pos (starEach es X.env)).any (·.1) = false) : SV X W (.Call (.Name x p) (e :: es) [] pos) (callM N.length ps.length m ms) :=
  weakE (pe_callG Fn room gd hg hm hk bi ha hdb he hpl) fun σ H Q ⟨en, G, F, B, s, q⟩ =>
    ⟨en, G, F, B, s, (ok_bind.mp q).imp (fun ds e1 k1 vs H1 G1 s1 m1 r1 => sp_run s1 r1 (k1.imp (fun _ _ z v H' G' a b c => z v H' G' a (m1.trans b) c) fun _ _ z => z)) fun _ _ z => z⟩
/-! keywords -/
abbrev SK (X : Cx) (W : WX) (kws : List Keyword) (m : M (List PyData)) : Prop := PK X kws (tVs X.K X.mg W m)
theorem weakK {t t' : TA} (h : PK X kws t) (k : ∀ σ H Q, t' σ H Q → t σ H Q) : PK X kws t' := ⟨fun pos p s σ H Q I q => h.run pos p s σ H Q I (k σ H Q q)⟩
theorem sk_nil : SK X W [] (pure []) := weakK pk_nil fun σ H Q ⟨en, G, F, B, s, k⟩ => k [] H G s (.refl _) .nil
theorem sk_cons {nm : Option Str} {kp : Pos} {m1 : M RV} (h : SV X W e m1) (hs : SK X W kws ms) : SK X W (⟨nm, e, kp⟩ :: kws) (do let d ← valM m1; let ds ← ms; pure (d :: ds)) := weakK (pk_cons h hs) fun σ H Q ⟨en, G, F, B, s, k⟩ => by
  refine ⟨en, G, F, B, s, (ok_bind.mp (ok_bind.mp k)).imp (fun r e1 k1 v H1 G1 s1 m1 r1 => ?_) fun _ _ x => x⟩
  obtain ⟨G2, s2, m2, r2⟩ := r1.freeze s1
  refine ⟨e1, G2, F, B, s2, (ok_bind.mp k1).imp (fun os e2 k2 vs H3 G3 s3 m3 r3 => ?_) fun _ _ x => x.up (m1.trans m2)⟩
  exact k2 (v :: vs) H3 G3 s3 ((m1.trans m2).trans m3) (.cons (r2.up m3) r3)
def mixL {α : Type} (ix : List Nat) (l : List α) : List α := ix.filterMap fun i => l[i]?
theorem mix_rp {K : PySem.W.Frag} {G : Hp} {vs : List V} {ds : List PyData} (r : RpAll K G vs ds) : ∀ ix : List Nat, RpAll K G (mixL ix vs) (mixL ix ds)
  | [] => .nil
  | i :: ix => by
    unfold mixL
    rw [List.filterMap_cons, List.filterMap_cons]
    cases q : ds[i]? with
    | none =>
      have : vs[i]? = none := by
        rw [List.getElem?_eq_none_iff] at q ⊢
        rw [r.len]; exact q
      rw [this]
      exact mix_rp r ix
    | some d =>
      obtain ⟨v, h1, h2⟩ := r.get q
      rw [h1]
      exact .cons h2 (mix_rp r ix)
theorem mix_vals {vs : List V} {us : List Value} (r : Vals vs us) : ∀ ix : List Nat, Vals (mixL ix vs) (mixL ix us)
  | [] => .nil
  | i :: ix => by
    unfold mixL
    rw [List.filterMap_cons, List.filterMap_cons]
    cases q : vs[i]? with
    | none =>
      have : us[i]? = none := by
        rw [List.getElem?_eq_none_iff] at q ⊢
        rw [← r.length]; exact q
      rw [this]
      exact mix_vals r ix
    | some d =>
      obtain ⟨v, h1, h2⟩ := r.get q
      rw [h1]
      exact .cons h2 (mix_vals r ix)
def mixK {α : Type} (ix : List Nat) (us ws : List α) : List α := match us with
  | [] => mixL ix ws
  | _ => []
theorem kb_mix {K : PySem.W.Frag} {fd : FuncData} {ps ks : List Str} {ix : List Nat} (hp : ps.length ≠ 0) (h : ∀ (s : Shared) (ws : List Value), (mixL ix ws).length = ps.length → BindsTo s fd ⟨[], ks.zip ws⟩ (ps.zip (mixL ix ws))) : KBinds K fd ps ks (mixK ix) (mixK ix) := by
  refine ⟨fun s us ws _ hl => ?_, fun {vs us zs ws} r1 r2 => ?_⟩
  · cases us with
    | nil => exact h s ws hl
    | cons u us => exact absurd hl.symm hp
  · cases r1 with
    | nil => exact mix_vals r2 ix
    | cons _ _ => exact .nil
@[simp] def callKM (ix : List Nat) (n np : Nat) (m : M Fl) (ms : M (List PyData)) : M RV := do
  let ds ← ms
  runM n np m (mixL ix ds)
theorem sv_callK {ix : List Nat} (Fn : FnM X.prog X.w X.K X.mg X.base k f fd ps N m) (room : Room k X.A) (gd : X.A.guards = some []) (hg : Gl X x) (hm : X.mg x = some (.ref f)) (hk : PySem.W.keepIn X.K (.ref f) = true) (bi : KBinds X.K fd ps ks (mixK ix) (mixK ix)) (ha : SK X W kws ms)
    (hall : (backToKw pos (keywordEach kws X.env)).all (·.1.isSome) = true) (hks : (backToKw pos (keywordEach kws X.env)).filterMap (·.1) = ks) (hdb : (x == ("__debug__" : Str)) = false)
    (hpl : ((backTo pos (starEach [] X.env)).any (·.1) || (backToKw pos (keywordEach kws X.env)).any (·.1.isNone)) = false) : SV X W (.Call (.Name x p) [] kws pos) (callKM ix N.length ps.length m ms) :=
  weakE (pe_callGK Fn room gd hg hm hk bi ha hall hks hdb hpl) fun σ H Q ⟨en, G, F, B, s, q⟩ =>
    ⟨en, G, F, B, s, (ok_bind.mp q).imp (fun ds e1 k1 vs H1 G1 s1 m1 r1 => sp_run s1 (mix_rp r1 ix) (k1.imp (fun _ _ z v H' G' a b c => z v H' G' a (m1.trans b) c) fun _ _ z => z)) fun _ _ z => z⟩
end

/-! ### the first argument is lent -/
section
variable {K : PySem.W.Frag} {F : Hp} {B : List (Nat × Addr)} {σ : St} {H : Hp} {e : En} {G : Hp}
/-- all slots but one -/
def others (n i : Nat) : List Nat := (List.range n).filter (· != i)
theorem mem_others {n i j : Nat} (h : j < n) (ne : j ≠ i) : j ∈ others n i := List.mem_filter.mpr ⟨List.mem_range.mpr h, by simpa using ne⟩
theorem not_others {n i : Nat} : i ∉ others n i := fun h => by simpa using (List.mem_filter.mp h).2
theorem SR.retP {i : Nat} {b : Bool} {ds0 ds1 : List PyData} {p : Addr} {σ2 : St} {H2 : Hp} {e2 : En} {G2 : Hp} (s : SR K F B σ H e G) (qi : e[i]? = some (.ow b ds0)) (hp : σ[i]? = some (some (.ref p)))
    (s2 : SR K (hidF F σ H e (others e.length i)) [(0, p)] σ2 H2 e2 G2) (q2 : e2[(0 : Nat)]? = some (.ow true ds1)) (m : Same G G2) :
    SR K F B σ H2 (e.set i (.ow b ds1)) G2 ∧ ∀ v r, RR K (hidF F σ H e (others e.length i)) σ2 H2 e2 G2 v r → RR K F σ H2 (e.set i (.ow b ds1)) G2 v r := by
  obtain ⟨p0, vs0, k1, k2, k3, k4, k5, k6⟩ := s.ows i b ds0 qi
  rw [hp] at k1
  cases k1
  obtain ⟨p2, vs2, l1, l2, l3, l4, l5, l6⟩ := s2.ows 0 true ds1 q2
  have pp : p2 = p := by
    have := l6 rfl
    simp at this
    exact this
  subst pp
  have hf : ∀ {j : Nat} {c : Bool} {es : List PyData} {a : Addr}, j ≠ i → e[j]? = some (.ow c es) → σ[j]? = some (some (.ref a)) → hidF F σ H e (others e.length i) a = H a := fun ne q z => hid_of (mem_others (lt_of_get q) ne) q z
  have old : ∀ {j : Nat} {c : Bool} {es : List PyData}, (e.set i (.ow b ds1))[j]? = some (.ow c es) → ∃ es', e[j]? = some (.ow c es') := fun {j c es} z => by
    rcases set_get z with ⟨rfl, w⟩ | ⟨_, w⟩
    · cases w; exact ⟨_, qi⟩
    · exact ⟨_, w⟩
  refine ⟨⟨by simp [s.len], s2.sub, fun a o h => s2.frm a o (hid_F s h), fun a o h => s2.dsj a o (hid_F s h), fun j d q => ?_, fun j c es q => ?_, fun j l c c' es fs p' z1 z2 z3 z4 => ?_⟩, fun v r h => ?_⟩
  · rcases set_get q with ⟨_, w⟩ | ⟨_, w⟩
    · cases w
    · obtain ⟨v, h1, h2⟩ := s.vls j d w
      exact ⟨v, h1, h2.up m⟩
  · rcases set_get q with ⟨rfl, w⟩ | ⟨ne, w⟩
    · cases w
      exact ⟨p2, vs2, hp, l2, k3, l4, l5, k6⟩
    · obtain ⟨pj, vs, h1, h2, h3, h4, h5, h6⟩ := s.ows j c es w
      have z : hidF F σ H e (others e.length i) pj = some (.lst vs) := by rw [hf ne w h1]; exact h4
      exact ⟨pj, vs, h1, s2.dsj pj _ z, h3, s2.frm pj _ z, h5.up m, h6⟩
  · obtain ⟨es', w1⟩ := old z1
    obtain ⟨fs', w2⟩ := old z2
    exact s.dis j l c c' es' fs' p' w1 w2 z3 z4
  · unfold RR at h ⊢
    cases hr : r.fr with
    | false => rw [hr] at h; exact h
    | true =>
      rw [hr] at h
      obtain ⟨a, vs, ds, rfl, z1, z2, z3, z4, z5, z6⟩ := h
      have nF : F a = none := by
        cases q : F a with
        | none => rfl
        | some o => rw [hid_F s q] at z3; cases z3
      refine ⟨a, vs, ds, rfl, z1, z2, nF, z4, z5, fun j c es q z => ?_⟩
      rcases set_get q with ⟨rfl, w⟩ | ⟨ne, w⟩
      · rw [hp] at z
        cases z
        exact z6 0 true ds1 q2 l1
      · obtain ⟨p', ws, y1, _, _, y4, _⟩ := s.ows j c es w
        rw [z] at y1
        cases y1
        rw [hf ne w z, y4] at z3
        cases z3
theorem SR.calleeP (s : SR K F B σ H e G) {i : Nat} {b : Bool} {ds0 : List PyData} {p : Addr} (qi : e[i]? = some (.ow b ds0)) (hp : σ[i]? = some (some (.ref p))) {vs : List V} {ds : List PyData} (r : RpAll K G vs ds) (k : Nat) :
    SR K (hidF F σ H e (others e.length i)) [(0, p)] (some (.ref p) :: (vs.map some ++ List.replicate k none)) H (.ow true ds0 :: (ds.map Sl.vl ++ List.replicate k Sl.un)) G := by
  have hs := s.hide (others e.length i)
  obtain ⟨p0, vs0, k1, k2, k3, k4, k5, k6⟩ := s.ows i b ds0 qi
  rw [hp] at k1
  cases k1
  refine ⟨by simp [r.len], s.sub, hs.frm, hs.dsj, fun j d q => ?_, fun j c es q => ?_, fun j l c c' es fs a q1 q2 _ _ => ?_⟩
  · cases j with
    | zero => cases q
    | succ j =>
      rcases get_app_vl (i := j) (by simpa using q) with ⟨d', h1, h2⟩ | h2
      · cases h2
        obtain ⟨v, k1, k2⟩ := r.get h1
        refine ⟨v, ?_, k2⟩
        rw [List.getElem?_cons_succ, List.getElem?_append_left (by simpa using lt_of_get k1), List.getElem?_map, k1]
        rfl
      · cases h2
  · cases j with
    | zero =>
      cases q
      refine ⟨p, vs0, rfl, k2, ?_, k4, k5, fun _ => by simp⟩
      unfold hidF
      rw [if_neg]
      · exact k3
      · rintro ⟨j, mj, c, es, z1, z2⟩
        obtain rfl := s.dis i j b c ds0 es p qi z1 hp z2
        exact not_others mj
    | succ j => rcases get_app_vl (i := j) (by simpa using q) with ⟨d', h1, h2⟩ | h2 <;> cases h2
  · cases j with
    | zero =>
      cases l with
      | zero => rfl
      | succ l => rcases get_app_vl (i := l) (by simpa using q2) with ⟨d', h1, h2⟩ | h2 <;> cases h2
    | succ j => rcases get_app_vl (i := j) (by simpa using q1) with ⟨d', h1, h2⟩ | h2 <;> cases h2
end
def lentD (e2 : En) : Option (List PyData) := match e2[(0 : Nat)]? with
  | some (.ow true ds1) => some ds1
  | _ => none
theorem lentD_some {e2 : En} {ds1 : List PyData} (h : lentD e2 = some ds1) : e2[(0 : Nat)]? = some (.ow true ds1) := by
  unfold lentD at h
  split at h
  · rename_i z; cases h; exact z
  · cases h
def runPM (i n np : Nat) (m : M Fl) (ds : List PyData) : M RV := fun e => match e[i]? with
  | some (.ow b ds0) => if ds.length + 1 = np then match m (.ow true ds0 :: (ds.map Sl.vl ++ List.replicate (n - np) Sl.un)) with
    | some (.ok (.rt r) e2) => (lentD e2).map fun ds1 => .ok r (e.set i (.ow b ds1))
    | some (.ok .nx e2) => (lentD e2).map fun ds1 => .ok ⟨.none, false⟩ (e.set i (.ow b ds1))
    | _ => none
    else none
  | _ => none
theorem map_ok {α β : Type} {o : Option α} {f : α → β} {b : β} (h : o.map f = some b) : ∃ a, o = some a ∧ f a = b := by
  cases o with
  | none => cases h
  | some a => exact ⟨a, rfl, Option.some.inj h⟩
@[simp] def callPM (i n np : Nat) (m : M Fl) (ms : M (List PyData)) : M RV := do
  ownM i
  let ds ← ms
  runPM i n np m ds
theorem sp_runP {K : PySem.W.Frag} {mg : Str → Option Value} {F : Hp} {B : List (Nat × Addr)} {σ : St} {H : Hp} {e : En} {G : Hp} {N : List Str} {np i : Nat} {m : M Fl} {v0 : V} {vs : List V} {ds : List PyData} {Q : VK} {Wx : Exn → En → Prop} (s : SR K F B σ H e G) (hv : σ[i]? = some (some v0)) (r : RpAll K G vs ds)
    (k : Ok (runPM i N.length np m ds) e (fun r e' => ∀ v H' G', SR K F B σ H' e' G' → Same G G' → RR K F σ H' e' G' v r → Q v H') Wx) : spM K mg N np m (v0 :: vs) H Q := by
  unfold Ok at k
  split at k
  · exact k.elim
  · rename_i a e' q
    unfold runPM at q
    split at q
    · rename_i b ds0 qi
      obtain ⟨p, vs0, h1, h2, h3, h4, h5, h6⟩ := s.ows i b ds0 qi
      rw [hv] at h1
      cases h1
      split at q
      · rename_i hl
        have sc := s.calleeP qi hv r (N.length - np)
        have st : L2.start N (.ref p :: vs) = some (.ref p) :: (vs.map some ++ List.replicate (N.length - np) none) := by
          unfold L2.start
          rw [List.length_cons, r.len, hl]
          rfl
        refine ⟨by rw [List.length_cons, r.len]; exact hl, _, G, _, _, by rw [st]; exact sc, ?_⟩
        unfold Ok
        split at q
        · rename_i r2 e2 q2
          obtain ⟨ds1, q3, q4⟩ := map_ok q
          cases q4
          rw [q2]
          intro v σ2 H2 G2 s2 m2 rr
          obtain ⟨s3, f3⟩ := s.retP qi hv s2 (lentD_some q3) m2
          exact k v H2 G2 s3 m2 (f3 _ _ rr)
        · rename_i e2 q2
          obtain ⟨ds1, q3, q4⟩ := map_ok q
          cases q4
          rw [q2]
          intro σ2 H2 G2 s2 m2
          obtain ⟨s3, f3⟩ := s.retP qi hv s2 (lentD_some q3) m2
          exact k .non H2 G2 s3 m2 (show Rp K G2 .non .none from .non)
        · cases q
      · cases q
    · cases q
  · rename_i x e' q
    unfold runPM at q
    split at q
    · split at q
      · split at q
        · obtain ⟨_, _, z⟩ := map_ok q; cases z
        · obtain ⟨_, _, z⟩ := map_ok q; cases z
        · cases q
      · cases q
    · cases q
section
variable {X : Cx} {W : WX} {k i : Nat} {f : Addr} {fd : FuncData} {ps N ks : List Str} {m : M Fl} {x : Str} {p pos : Pos} {e : Expr} {es : List Expr} {ms : M (List PyData)}
theorem sv_callP (Fn : FnM X.prog X.w X.K X.mg X.base k f fd ps N m) (room : Room k X.A) (gd : X.A.guards = some []) (hg : Gl X x) (hm : X.mg x = some (.ref f)) (hk : PySem.W.keepIn X.K (.ref f) = true) (bi : Binds X.K fd ps []) (h0 : PE X e (tVar i)) (ha : SVs X W es ms)
    (hdb : (x == ("__debug__" : Str)) = false) (he : starEach (e :: es) X.env = (false, eval e X.env) :: starEach es X.env) (hpl : (backTo pos (starEach es X.env)).any (·.1) = false) : SV X W (.Call (.Name x p) (e :: es) [] pos) (callPM i N.length ps.length m ms) :=
  weakE (pe_callG Fn room gd hg hm hk bi (pa_cons h0 ha he) hdb he hpl) fun σ H Q ⟨en, G, F, B, s, q⟩ => by
    obtain ⟨⟨b, ds0, qi⟩, q⟩ := ok_own (ok_bind.mp q)
    obtain ⟨pp, vs0, h1, _⟩ := s.ows i b ds0 qi
    exact ⟨_, h1, en, G, F, B, s, (ok_bind.mp q).imp (fun ds e1 k1 vs H1 G1 s1 m1 r1 => sp_runP s1 h1 r1 (k1.imp (fun _ _ z v H' G' a b c => z v H' G' a (m1.trans b) c) fun _ _ z => z)) fun _ _ z => z⟩
end
end Ev

set_option Elab.async false
set_option linter.all false
set_option maxRecDepth 100000
set_option maxHeartbeats 4000000
/-! EvP: the law's end. -/
namespace Ev
open PySem PySem.Spec PyProof.Rows L2
section
variable {P : Program} {w : World} {K : PySem.W.Frag} {mg mb : Str → Option Value} {k : Nat} {fa a : Addr} {fd : FuncData} {x : Str} {sp : SpG} {s1 : Shared} {us : List Value} {nums : List Int}
/-- how the script is tracked: at most its own object -/
structure Scr (K : PySem.W.Frag) (P : Program) (w : World) (s1 : Shared) (a : Addr) (H : Hp) : Prop where
  one : ∀ b u, H b = some u → b = a ∧ (∃ o zs, u = .frz o (.lst zs)) ∧ K.lookup b = none
  fine : HOk P w H s1.heap
theorem run_core (inK : K.In s1.heap) (gl : s1.heap.Ns mainGlobals mg) (bl : s1.heap.Ns builtinsNs mb) (bb : ∀ y : Str, y ≠ "__name__" → mb y = bootBuiltins y) (nolim : s1.heap.NoLimit) (gens : s1.gens = #[])
    (ob : s1.heap.get? a = some { cls := .type "list", data := .seq us.toArray }) (room : Room k callerA)
    (F : ∀ base : Heap, K.In base → base.Ns mainGlobals mg → FnG P w K mg base k fa fd [x] sp) (bi : ∀ (s : Shared) (u : Value), BindsTo s fd ⟨[u], []⟩ [(x, u)])
    {H : Hp} (sc : Scr K P w s1 a H) (hsp : sp [.ref a] H fun v _ => v = .bl true) :
    codeAny (model P w) callerA (.call (.ref fa) ⟨[.ref a], []⟩) (fun r s' => r = .ok (.ret (.bool true)) ∧ OldK s1.heap s'.heap ∧ s'.os = s1.os ∧ AllBare s'.gens) s1 := by
  have dict : ∀ {b : Addr} {o : Obj} {es : Array DictEntry} {ep : Nat}, s1.heap.get? b = some o → o.data = .dict es ep → H b = none := fun {b o es ep} z d => by
    cases q : H b with
    | none => rfl
    | some u =>
      obtain ⟨rfl, _⟩ := sc.one b u q
      rw [ob] at z
      cases z
      cases (show Data.seq us.toArray _ = Data.dict es ep from d)
  have names : ∀ {b : Addr} {m : Str → Option Value}, s1.heap.Ns b m → (hidT s1.heap H).Ns b m := fun {b m} z => by
    obtain ⟨o, es, ep, z1, z2, z3⟩ := z
    exact ⟨o, es, ep, hidT_get z1 (dict z1 z2), z2, z3⟩
  have inB : K.In (hidT s1.heap H) := fun b o z => hidT_get (inK b o z) (by
    cases q : H b with
    | none => rfl
    | some u =>
      obtain ⟨_, _, z'⟩ := sc.one b u q
      rw [z] at z'
      cases z')
  obtain ⟨mc, n1, n2⟩ := nolim
  have en : Env0 P w K mg (hidT s1.heap H) callerA [] s1 H :=
    { frames := rfl, mod := ⟨inB, names gl, ⟨mb, names bl, bb⟩, mc, names n1, n2⟩, bs := fun _ _ z => of_hidT z, bsz := Nat.le_of_eq (hidT_size _ _), funs := trivial, frf := fun _ z => by simp [frs] at z, hok := sc.fine, bare := .of_eq gens }
  have G := (F _ inB (names gl)).go (out := []) (args := ⟨[.ref a], []⟩) (us := [.ref a]) room rfl en (bi s1 (.ref a)) (vs := [V.ref a]) (.cons rfl .nil) hsp
  refine codeAny_mono G fun r s' z => ?_
  cases r with
  | error err => exact False.elim z
  | ok fl =>
    cases fl with
    | next => exact False.elim z
    | brk => exact False.elim z
    | cont => exact False.elim z
    | ret u =>
      obtain ⟨v, H', o1, o2, un, ok2, rv, q⟩ := z
      have q : v = .bl true := q
      subst q
      have eu : u = Value.bool true := rv
      subst eu
      refine ⟨rfl, OldK.of_keep fun b o z => ?_, o1, o2⟩
      cases q : H b with
      | none => exact un.keep b o z q (by simp [frs]) (by simp)
      | some y =>
        obtain ⟨_, ⟨oo, zs, rfl⟩, _⟩ := sc.one b y q
        have y1 := sc.fine b _ q
        have y2 := ok2 b _ (un.frzs b oo _ q)
        rw [y1.1] at z
        cases z
        exact y2.1
theorem run_lawG (inK : K.In s1.heap) (gl : s1.heap.Ns mainGlobals mg) (bl : s1.heap.Ns builtinsNs mb) (bb : ∀ y : Str, y ≠ "__name__" → mb y = bootBuiltins y) (nolim : s1.heap.NoLimit) (gens : s1.gens = #[])
    (ob : s1.heap.get? a = some { cls := .type "list", data := .seq us.toArray }) (wh : IntsAre us nums) (len : nums.length ≤ sizeLine) (room : Room k callerA)
    (F : ∀ base : Heap, K.In base → base.Ns mainGlobals mg → FnG P w K mg base k fa fd [x] sp) (bi : ∀ (s : Shared) (u : Value), BindsTo s fd ⟨[u], []⟩ [(x, u)])
    (hsp : ∀ H : Hp, Only H → LsR K H a (nums.map V.int) → sp [.ref a] H fun v _ => v = .bl true) :
    codeAny (model P w) callerA (.call (.ref fa) ⟨[.ref a], []⟩) (fun r s' => r = .ok (.ret (.bool true)) ∧ OldK s1.heap s'.heap ∧ s'.os = s1.os ∧ AllBare s'.gens) s1 := by
  have rv := vals_ints wh
  have lv := wh.length
  cases hk : K.lookup a with
  | some o =>
    have z := inK a o hk
    rw [ob] at z
    cases z
    refine run_core inK gl bl bb nolim gens ob room F bi (H := fun _ => none) ⟨fun b u z => (by cases z), fun b u z => (by cases z)⟩ (hsp _ (fun _ => .inl rfl) (.inr ⟨us, _, hk, rv, by rw [List.length_map]; exact len⟩))
  | none =>
    let H : Hp := upd (fun _ => none) a (.frz { cls := .type "list", data := .seq us.toArray } (.lst (nums.map V.int)))
    have at_a : H a = some (.frz { cls := .type "list", data := .seq us.toArray } (.lst (nums.map V.int))) := upd_same
    have only : ∀ b u, H b = some u → b = a ∧ u = .frz { cls := .type "list", data := .seq us.toArray } (.lst (nums.map V.int)) := fun b u z => by
      by_cases e : b = a
      · subst e
        rw [at_a] at z
        cases z
        exact ⟨rfl, rfl⟩
      · rw [show H b = none from upd_ne e] at z
        cases z
    refine run_core inK gl bl bb nolim gens ob room F bi (H := H) ⟨fun b u z => ?_, fun b u z => ?_⟩ (hsp H (fun b => ?_) (.inl (.inr ⟨_, at_a⟩)))
    · obtain ⟨rfl, rfl⟩ := only b u z
      exact ⟨rfl, ⟨_, _, rfl⟩, hk⟩
    · obtain ⟨rfl, rfl⟩ := only b u z
      exact ⟨ob, by rw [List.length_map]; exact len, us, _, rv, ob⟩
    · cases q : H b with
      | none => exact .inl rfl
      | some u =>
        obtain ⟨rfl, rfl⟩ := only b u q
        exact .inr ⟨_, _, rfl⟩
end
/-- the goal that a head leaves, from the promise of the law's def -/
theorem walk_G {l : PySem.W.OpenLaw} {n k : Nat} {q : Program} {loose : List Str} {XP : (Str → Option Value) → Heap → Prop} {YP : World → Heap → Prop} {d : DefRec} {x : Str} (hn : l.most = some n) (hn2 : n ≤ sizeLine) (hdf : d.params.defaults = []) (room : Room k callerA)
    (F : ∀ (w : World) (mg : Str → Option Value) (fa : Addr) (h : Heap), YP w h → h.Ns mainGlobals mg → mg d.name = some (.ref fa) → ∃ (K : PySem.W.Frag) (fd : FuncData) (sp : SpG), K.In h ∧ (∀ (s : Shared) (u : Value), BindsTo s fd ⟨[u], []⟩ [(x, u)]) ∧
      (∀ (H : Hp) (a : Addr) (nums : List Int), nums.length ≤ n → Only H → LsR K H a (nums.map V.int) → sp [.ref a] H fun v _ => v = .bl true) ∧ ∀ base : Heap, K.In base → base.Ns mainGlobals mg → FnG l.prog w K mg base k fa fd [x] sp) :
    PySem.W.WalkO q loose XP YP l.row.toRowW d [] (fun f vs => PySem.call f vs) := by
  refine Att.attach_call hn hdf fun w s0 s1 mg mb fa o pm cd doc a us nums G Y ho hd hcd hmg ob wh len gens => ?_
  obtain ⟨K, fd, sp, inK, bi, hsp, hF⟩ := F w mg fa _ Y G.T.g hmg
  exact run_lawG inK G.T.g G.T.b G.T.builtins G.T.nolimit gens ob wh (Nat.le_trans len hn2) room hF bi fun H ho hS => hsp H a nums len ho hS
/-- the law's def by its mirror -/
theorem law_sp {K : PySem.W.Frag} {mg : Str → Option Value} {N : List Str} {m : M Fl} {H : Hp} {a : Addr} {nums : List Int} {e2 : En} (hS : LsR K H a (nums.map V.int)) (hm : m (.vl (.list (nums.map PyData.int)) :: List.replicate (N.length - 1) .un) = some (.ok (.rt ⟨.bool true, false⟩) e2)) :
    spM K mg N 1 m [.ref a] H fun v _ => v = .bl true := by
  have g1 : ∀ {α : Type} {x y : α} {k i : Nat} {z : α}, (x :: List.replicate k y)[i]? = some z → (i = 0 ∧ z = x) ∨ z = y := fun {α x y k i z} q => by
    cases i with
    | zero => cases q; exact .inl ⟨rfl, rfl⟩
    | succ i => exact .inr (List.eq_of_mem_replicate (List.mem_of_getElem? q))
  refine ⟨rfl, .vl (.list (nums.map PyData.int)) :: List.replicate (N.length - 1) .un, H, fun _ => none, [], ⟨?_, .refl _, fun _ _ z => (by cases z), fun _ _ z => (by cases z), fun i d q => ?_, fun i b ds q => ?_, fun i j b c ds es p q _ _ _ => ?_⟩, ?_⟩
  · unfold L2.start; simp
  · rcases g1 q with ⟨rfl, z⟩ | z
    · cases z
      exact ⟨_, rfl, .lst hS (rps_ints nums)⟩
    · cases z
  · rcases g1 q with ⟨rfl, z⟩ | z <;> cases z
  · rcases g1 q with ⟨rfl, z⟩ | z <;> cases z
  · unfold Ok
    rw [hm]
    intro v σ' H' G' s m rr
    have rr : Rp K G' v (.bool true) := rr
    cases rr
    rfl
end Ev

set_option Elab.async false
set_option linter.all false
set_option maxRecDepth 100000
set_option maxHeartbeats 4000000
/-! EvQ: min of data, sets of numbers. -/
namespace Ev
open PySem PySem.Spec L2
/-! ### min of alike data -/
def notNone : PyData → Bool
  | .none => false
  | _ => true
theorem notNone_ok {ds : List PyData} (h : ds.all notNone = true) : ∀ x ∈ ds, x ≠ .none := fun x hx z => by
  have := List.all_eq_true.mp h x hx
  subst z
  cases this
def minA : List PyData → Option RV
  | [.list (d :: ds)] => if alikeL (d :: ds) = true ∧ (d :: ds).all notNone = true ∧ PyData.depthAll (d :: ds) ≤ 60 then lit (PySem.W.minD d ds) else none
  | _ => none
def rMinA (K : PySem.W.Frag) : List V → Hp → VK → Prop := fun xs H Q => ∃ p vs d ds, xs = [.ref p] ∧ LsR K H p vs ∧ L2.DpAll K H vs (d :: ds) ∧ PySem.W.AlikeAll (d :: ds) ∧ PyData.depthAll (d :: ds) ≤ 60 ∧
  ∀ (i : Nat) (v : V), vs[i]? = some v → L2.Dp K H v (PySem.W.minD d ds) → (d :: ds)[i]? = some (PySem.W.minD d ds) → Q v H
theorem dpAll_get {K : PySem.W.Frag} {H : Hp} : ∀ {vs : List V} {ds : List PyData} {i : Nat} {v : V}, L2.DpAll K H vs ds → vs[i]? = some v → ∃ d, ds[i]? = some d ∧ L2.Dp K H v d
  | _, _, _, _, .nil, q => by simp at q
  | _, _, 0, _, .cons h _, q => by simp at q; subst q; exact ⟨_, rfl, h⟩
  | _, _, i + 1, _, .cons _ t, q => by
    obtain ⟨d, h1, h2⟩ := dpAll_get (i := i) t (by simpa using q)
    exact ⟨d, by simpa using h1, h2⟩
section
variable {X : Cx}
theorem cr_minA (hc : X.calm = true) (hu : X.A.units + 100 < cLine) : CallR X (.builtin "min") (rMinA X.K) := by
  intro pins s σ H xs us Q I r ⟨p, vs, d, ds, ex, hp, hd, al, dp, q⟩
  subst ex
  rw [Vals.ref1 r]
  obtain ⟨z, its, n, rv, e⟩ := lstR I hp
  obtain ⟨as, rd⟩ := Dp.readsAll I _ _ _ hd rv
  refine PySem.W.min_list_data (I.ok.hd hc) ⟨_, e, rfl, n, rfl⟩ (x := d) (xs := ds) (by simpa using rd) al (by omega) fun i v h' tk bs gi gr kp => ?_
  have I' := I.kept (t' := tk) kp
  have gi : its[i]? = some v := by simpa using gi
  obtain ⟨x, h1, h2⟩ := vals_at rv (i := i) (u := v) (by simpa using gi)
  obtain ⟨dx, h3, h4⟩ := dpAll_get hd h1
  obtain ⟨as2, r2⟩ := Dp.reads I' _ _ _ h4 h2
  have e2 := (Reads.unique r2 _ _ gr).1
  subst e2
  exact ⟨x, H, I', h2, q i x h1 h4 h3⟩
end
theorem ok_minA {K : PySem.W.Frag} : RLok K (rMinA K) minA := by
  intro F B σ H e G xs ds res Q s hd h k
  unfold minA at h
  split at h
  · rename_i d ds
    split at h
    · rename_i z
      cases h
      obtain ⟨x, rfl, hx⟩ := dws1 hd
      obtain ⟨p, vs, rfl, h1, h2⟩ := hx.lst s.sub
      refine ⟨p, vs, d, ds, rfl, h1, rps_dp _ _ (h2.up s.sub), ⟨alikeL_ok z.1, notNone_ok z.2.1⟩, z.2.2, fun i v hv _ hm => ?_⟩
      obtain ⟨dv, g1, g2⟩ := h2.getV hv
      rw [hm] at g1
      cases g1
      exact k.rp s g2
    · cases h
  · cases h

/-! ### len(set(..)), sorted(set(..)) -/
def distL (ns : List Int) : List Int := ns.foldl PyProof.Rows.step_dedup []
theorem step_any (acc : List Int) (x : Int) : PyProof.Rows.step_dedup acc x = if acc.any (· == x) then acc else acc ++ [x] := rfl
theorem dist_go : ∀ (ns acc : List Int), acc.Nodup → (ns.foldl PyProof.Rows.step_dedup acc).Nodup ∧ ∀ k, k ∈ ns.foldl PyProof.Rows.step_dedup acc ↔ k ∈ acc ∨ k ∈ ns
  | [], acc, h => ⟨h, fun k => by simp⟩
  | n :: ns, acc, h => by
    rw [List.foldl_cons, step_any]
    by_cases hn : n ∈ acc
    · have e : acc.any (· == n) = true := List.any_eq_true.mpr ⟨n, hn, beq_self_eq_true n⟩
      rw [if_pos e]
      obtain ⟨h1, h2⟩ := dist_go ns acc h
      refine ⟨h1, fun k => (h2 k).trans ⟨fun z => z.imp id (List.mem_cons_of_mem _), fun z => z.elim .inl fun z => ?_⟩⟩
      rcases List.mem_cons.mp z with rfl | z
      · exact .inl hn
      · exact .inr z
    · have e : ¬ acc.any (· == n) = true := fun z => by
        obtain ⟨y, hy, ey⟩ := List.any_eq_true.mp z
        exact hn (eq_of_beq ey ▸ hy)
      rw [if_neg e]
      have nd : (acc ++ [n]).Nodup := List.nodup_append.mpr ⟨h, by simp, fun a ha b hb z => by
        rw [List.mem_singleton] at hb
        exact hn (by rw [← hb, ← z]; exact ha)⟩
      obtain ⟨h1, h2⟩ := dist_go ns (acc ++ [n]) nd
      refine ⟨h1, fun k => (h2 k).trans ?_⟩
      simp [or_assoc]
theorem dist_nodup (ns : List Int) : (distL ns).Nodup := (dist_go ns [] List.nodup_nil).1
theorem mem_dist {ns : List Int} {k : Int} : k ∈ distL ns ↔ k ∈ ns := ((dist_go ns [] List.nodup_nil).2 k).trans (by simp)
theorem range_getD (ns : List Int) : (List.range ns.length).map (fun i => ns.getD i 0) = ns := by
  refine List.ext_getElem (by simp) fun i h1 h2 => ?_
  rw [List.getElem_map, List.getElem_range, List.getD_eq_getElem?_getD, List.getElem?_eq_getElem h2]
  rfl
theorem firstMet_dist {ns : List Int} {n : Nat} (h : n = ns.length) : PyProof.Rows.firstMet (fun i => ns.getD i 0) n = distL ns := by
  subst h
  unfold PyProof.Rows.firstMet
  rw [range_getD]
  rfl
def numsOf (d : PyData) : Option (List Int) := (itemsOf d).bind intsOf
def lenSetD (d : PyData) : Option RV := (numsOf d).bind fun ns => if ns.length ≤ 1000 then lit (.int (distL ns).length) else none
def sortN (ns : List Int) : List Int := ns.mergeSort fun a b => decide (a ≤ b)
def sortSetD (d : PyData) : Option RV := match d with
  | .tuple ds => (intsOf ds).bind fun ns => if ns.length ≤ 60 then some ⟨.list ((sortN (distL ns)).map .int), true⟩ else none
  | _ => none
theorem lt_ext : ∀ {xs ys : List Int}, xs.Pairwise (· < ·) → ys.Pairwise (· < ·) → (∀ k, k ∈ xs ↔ k ∈ ys) → xs = ys
  | [], [], _, _, _ => rfl
  | [], y :: ys, _, _, h => absurd ((h y).mpr List.mem_cons_self) (by simp)
  | x :: xs, [], _, _, h => absurd ((h x).mp List.mem_cons_self) (by simp)
  | x :: xs, y :: ys, h1, h2, h => by
    obtain ⟨a1, b1⟩ := List.pairwise_cons.mp h1
    obtain ⟨a2, b2⟩ := List.pairwise_cons.mp h2
    have e : x = y := by
      rcases List.mem_cons.mp ((h x).mp List.mem_cons_self) with e | e
      · exact e
      · rcases List.mem_cons.mp ((h y).mpr List.mem_cons_self) with e' | e'
        · exact e'.symm
        · have p := a2 x e
          have q := a1 y e'
          omega
    subst e
    rw [lt_ext b1 b2 fun k => ⟨fun z => ?_, fun z => ?_⟩]
    · rcases List.mem_cons.mp ((h k).mp (List.mem_cons_of_mem _ z)) with e | e
      · subst e
        exact absurd (a1 k z) (by omega)
      · exact e
    · rcases List.mem_cons.mp ((h k).mpr (List.mem_cons_of_mem _ z)) with e | e
      · subst e
        exact absurd (a2 k z) (by omega)
      · exact e
theorem sortN_lt {ns : List Int} (h : ns.Nodup) : (sortN ns).Pairwise (· < ·) := by
  have p : (sortN ns).Pairwise fun a b => decide (a ≤ b) = true := List.pairwise_mergeSort (fun a b c h1 h2 => by simp at h1 h2 ⊢; omega) (fun a b => by simp; omega) ns
  have nd : (sortN ns).Nodup := (List.mergeSort_perm ns _).nodup_iff.mpr h
  exact L2.lt_of_le_nodup _ (p.imp fun h => by simpa using h) nd
section
variable {X : Cx} {W : WX} {a : Expr} {ma : M OV} {p p2 q pos : Pos}
/-- set of a list or tuple of numbers -/
theorem set_made {pins : List (Addr × Obj)} {σ : St} {H : Hp} {s : Shared} {t : Bool} {l : Addr} {ns : List Int} {E : Value → Shared → Prop} {Q : Value → Shared → Prop} (hc : X.calm = true) (I : Inv X pins σ H s) (hq : SqA X.K t H l (ns.map V.int)) (hl : ns.length ≤ 1000)
    (k : ∀ (h' : Heap) (tk : Nat) (o : Obj) (es : Array (Int × Value)) (ep : Nat) (tb : SetTable), h'.get? s.heap.objs.size = some o → o.ExactSet → o.data = .set es ep tb → tb.fits es.size = true → es.size = (distL ns).length → Inv X pins σ H { s with heap := h', toks := tk } → Q (.ref s.heap.objs.size) { s with heap := h', toks := tk }) :
    wpAny (model X.prog X.w) X.A (call (.type "set") [.ref l]) Q E s := by
  cases t with
  | false =>
    have hq : SqL X.K H l (ns.map V.int) := hq
    obtain ⟨its, r, pl, hz⟩ := I.list hq
    have hlen : its.toArray.size = ns.length := by rw [List.size_toArray, ← r.length, List.length_map]
    refine PySem.call_set_list (I.ok.hd hc) pl.isList (by simpa using L2.intsAre_of r) (by rw [hlen]; unfold scanBound; omega) fun h' tk hS hk => ?_
    rw [firstMet_dist hlen] at hS
    obtain ⟨o, es, ep, tb, ho, hex, hd, _, _, _, hf, hn⟩ := hS
    exact k h' tk o es ep tb ho hex hd hf hn (I.kept fun b o e => hk b o (Heap.lt_size e) e)
  | true =>
    have hq : SqT X.K H l (ns.map V.int) := hq
    obtain ⟨its, r, pl, hz⟩ := I.tuple hq
    refine call_set_tupI ns (I.ok.hd hc) pl (by simpa using L2.intsAre_of r) (by unfold scanBound; omega) fun h' tk c hS _ hk => ?_
    obtain ⟨o, es, ep, tb, ho, hex, hd, _, nd, hm, _, hf, _⟩ := hS
    refine k h' tk o es ep tb ho hex hd hf ?_ (I.kept hk)
    have pm : (es.toList.map L2.keyOf).Perm (distL ns) := (List.perm_ext_iff_of_nodup nd (dist_nodup ns)).mpr fun z => (hm z).symm.trans (by rw [mem_dist]; simp)
    have := pm.length_eq
    rw [List.length_map, Array.length_toList] at this
    exact this
theorem numsOf_some {d : PyData} {ns : List Int} (h : numsOf d = some ns) {G H : Hp} {x : V} {K : PySem.W.Frag} (hd : Dw K G H x d) (sm : Same G H) : ∃ t l, x = .ref l ∧ SqA K t H l (ns.map V.int) := by
  unfold numsOf at h
  obtain ⟨ds, h1, h2⟩ := Option.bind_eq_some_iff.mp h
  have e := intsOf_eq h2
  cases d <;> try cases h1
  · obtain ⟨l, vs, rfl, g1, g2⟩ := hd.lst sm
    subst e
    rw [g2.ints] at g1
    exact ⟨false, l, rfl, g1.sqL⟩
  · obtain ⟨l, vs, rfl, g1, g2⟩ := hd.tup sm
    subst e
    rw [g2.ints] at g1
    exact ⟨true, l, rfl, g1.sqT⟩
theorem pe_lenSetA {ta : TE} (hc : X.calm = true) (hg : Gl X "len") (hm : X.mg "len" = none) (hg2 : Gl X "set") (hm2 : X.mg "set" = none) (ha : PE X a ta) (na : starEach [a] X.env = (false, eval a X.env) :: starEach [] X.env) (n0 : (backTo q (starEach [] X.env)).any (·.1) = false)
    (nb : starEach [.Call (.Name "set" p2) [a] [] q] X.env = (false, eval (.Call (.Name "set" p2) [a] [] q) X.env) :: starEach [] X.env) (n1 : (backTo pos (starEach [] X.env)).any (·.1) = false) :
    PE X (.Call (.Name "len" p) [.Call (.Name "set" p2) [a] [] q] [] pos) (fun σ H Q => ta σ H fun x H1 => ∃ t l ns, x = .ref l ∧ SqA X.K t H1 l (ns.map V.int) ∧ ns.length ≤ 1000 ∧ Q (.int (distL ns).length) H1) := by
  refine ⟨fun pins s σ H Q I h => wpAny_Call_Name_kw (ld_blt I hg hm (u := .builtin "len") (by decide +kernel) ?_)⟩
  refine PyProof.Rows.callWith_builtin1 (PyProof.Rows.args_cons ?_ nb) nb n1
  refine wpAny_Call_Name_kw (ld_blt I hg2 hm2 (u := .type "set") (by decide +kernel) ?_)
  refine PyProof.Rows.callWith_type1 (PyProof.Rows.args_cons (thn (ha.run pins s σ H _ I h) fun v s1 ⟨x, H1, I1, r1, t, l, ns, ex, hq, hl, q1⟩ => PyProof.Rows.args_nil ?_) na) na n0
  subst ex
  cases r1
  refine set_made hc I1 hq hl fun h' tk o es ep tb ho hex hd hf hn I2 => PyProof.Rows.args_nil ?_
  have := (dist_nodup ns)
  refine call_len_set ho hex hd hf ?_ ⟨.int (distL ns).length, H1, I2.tok _, ⟨_, by rw [hn]⟩, q1⟩
  have le : (distL ns).length ≤ 1000 := by
    rw [← firstMet_dist rfl]
    exact Nat.le_trans (PyProof.Rows.firstMet_length_le _ _) hl
  rw [hn]
  omega
theorem sv_lenSet (hc : X.calm = true) (hg : Gl X "len") (hm : X.mg "len" = none) (hg2 : Gl X "set") (hm2 : X.mg "set" = none) (ha : SO X W a ma) (na : starEach [a] X.env = (false, eval a X.env) :: starEach [] X.env) (n0 : (backTo q (starEach [] X.env)).any (·.1) = false)
    (nb : starEach [.Call (.Name "set" p2) [a] [] q] X.env = (false, eval (.Call (.Name "set" p2) [a] [] q) X.env) :: starEach [] X.env) (n1 : (backTo pos (starEach [] X.env)).any (·.1) = false) :
    SV X W (.Call (.Name "len" p) [.Call (.Name "set" p2) [a] [] q] [] pos) (op1 lenSetD ma) :=
  weakE (pe_lenSetA hc hg hm hg2 hm2 ha na n0 nb n1) fun σ H Q ⟨en, G, F, B, s, k⟩ => by
    refine ⟨en, G, F, B, s, (ok_bind.mp k).imp (fun ox e1 k1 x H1 G1 s1 m1 r1 => ?_) fun _ _ w => w⟩
    obtain ⟨dx, hx, k3⟩ := s1.der r1 (ok_bind.mp k1)
    obtain ⟨res, hr, k5⟩ := ok_liftO.mp k3
    unfold lenSetD at hr
    obtain ⟨ns, h1, h2⟩ := Option.bind_eq_some_iff.mp hr
    split at h2
    · rename_i z
      cases h2
      obtain ⟨t, l, rfl, hq⟩ := numsOf_some h1 hx s1.sub
      exact ⟨t, l, ns, rfl, hq, z, k5 _ H1 G1 s1 m1 (.int _)⟩
    · cases h2
theorem pe_sortSetA {ta : TE} (hc : X.calm = true) (hg : Gl X "sorted") (hm : X.mg "sorted" = none) (hg2 : Gl X "set") (hm2 : X.mg "set" = none) (ha : PE X a ta) (na : starEach [a] X.env = (false, eval a X.env) :: starEach [] X.env) (n0 : (backTo q (starEach [] X.env)).any (·.1) = false)
    (nb : starEach [.Call (.Name "set" p2) [a] [] q] X.env = (false, eval (.Call (.Name "set" p2) [a] [] q) X.env) :: starEach [] X.env) (n1 : (backTo pos (starEach [] X.env)).any (·.1) = false) :
    PE X (.Call (.Name "sorted" p) [.Call (.Name "set" p2) [a] [] q] [] pos) (fun σ H Q => ta σ H fun x H1 => ∃ l ns, x = .ref l ∧ SqT X.K H1 l (ns.map V.int) ∧ ns.length ≤ 60 ∧ ∀ l', H1 l' = none → Q (.ref l') (upd H1 l' (.lst ((sortN (distL ns)).map V.int)))) := by
  refine ⟨fun pins s σ H Q I h => wpAny_Call_Name_kw (ld_blt I hg hm (u := .builtin "sorted") (by decide +kernel) ?_)⟩
  refine PyProof.Rows.callWith_builtin1 (PyProof.Rows.args_cons ?_ nb) nb n1
  refine wpAny_Call_Name_kw (ld_blt I hg2 hm2 (u := .type "set") (by decide +kernel) ?_)
  refine PyProof.Rows.callWith_type1 (PyProof.Rows.args_cons (thn (ha.run pins s σ H _ I h) fun v s1 ⟨x, H1, I1, r1, l, ns, ex, hq, hl, q1⟩ => PyProof.Rows.args_nil ?_) na) na n0
  subst ex
  cases r1
  obtain ⟨its, r, pl, hz⟩ := I1.tuple hq
  refine call_set_tupI ns (I1.ok.hd hc) pl (by simpa using L2.intsAre_of r) (by unfold scanBound; omega) fun h' tk c hS hcn hk => PyProof.Rows.args_nil ?_
  have I2 : Inv X pins σ H1 { s1 with heap := h', toks := tk } := I1.kept hk
  refine L2.sorted_set hS (I2.ok.hd hc) (by omega) fun s3 l' out c' ns' kp gs os new at' wh lt mem cnt => ?_
  have e : ns' = sortN (distL ns) := by
    refine lt_ext lt (sortN_lt (dist_nodup ns)) fun z => ?_
    unfold sortN
    rw [mem z, (List.mergeSort_perm _ _).mem_iff, mem_dist]
    simp
  subst e
  have fits : ((sortN (distL ns)).map V.int).length ≤ sizeLine := by
    rw [List.length_map, cnt]
    exact Nat.le_trans hcn (Nat.le_trans hl (by decide))
  have free : H1 l' = none := I2.hok.fresh new
  have fine : ObjOk X.prog X.w (upd H1 l' (.lst ((sortN (distL ns)).map V.int))) s3.heap l' (.lst ((sortN (distL ns)).map V.int)) := ⟨fits, out.toList, c', vals_of_ints wh, at'⟩
  have lay := I2.call (ch := []) (d' := s3.drawn) (g' := s3.gens) (t' := s3.toks) (Un.laid kp new free) (I2.hok.laid kp new fine) (by rw [gs]; exact I2.bare) (fun _ z => nomatch z)
  have es : s3 = { ({ s1 with heap := h', toks := tk } : Shared) with heap := s3.heap, gens := s3.gens, drawn := s3.drawn, toks := s3.toks } := by
    obtain ⟨h3, g3, d3, t3, o3⟩ := s3
    have os : o3 = s1.os := os
    subst os
    rfl
  rw [es]
  exact ⟨.ref l', _, lay, rfl, q1 l' free⟩
theorem sv_sortSet (hc : X.calm = true) (hg : Gl X "sorted") (hm : X.mg "sorted" = none) (hg2 : Gl X "set") (hm2 : X.mg "set" = none) (ha : SO X W a ma) (na : starEach [a] X.env = (false, eval a X.env) :: starEach [] X.env) (n0 : (backTo q (starEach [] X.env)).any (·.1) = false)
    (nb : starEach [.Call (.Name "set" p2) [a] [] q] X.env = (false, eval (.Call (.Name "set" p2) [a] [] q) X.env) :: starEach [] X.env) (n1 : (backTo pos (starEach [] X.env)).any (·.1) = false) :
    SV X W (.Call (.Name "sorted" p) [.Call (.Name "set" p2) [a] [] q] [] pos) (op1 sortSetD ma) :=
  weakE (pe_sortSetA hc hg hm hg2 hm2 ha na n0 nb n1) fun σ H Q ⟨en, G, F, B, s, k⟩ => by
    refine ⟨en, G, F, B, s, (ok_bind.mp k).imp (fun ox e1 k1 x H1 G1 s1 m1 r1 => ?_) fun _ _ w => w⟩
    obtain ⟨dx, hx, k3⟩ := s1.der r1 (ok_bind.mp k1)
    obtain ⟨res, hr, k5⟩ := ok_liftO.mp k3
    have po : Post X.K F B σ e1 G1 res Q := fun v H' G' s' m' rr => k5 v H' G' s' (m1.trans m') rr
    unfold sortSetD at hr
    split at hr
    · obtain ⟨ns, h1, h2⟩ := Option.bind_eq_some_iff.mp hr
      split at h2
      · rename_i z
        cases h2
        have e := intsOf_eq h1
        subst e
        obtain ⟨l, vs, rfl, g1, g2⟩ := hx.tup s1.sub
        rw [g2.ints] at g1
        exact ⟨l, ns, rfl, g1.sqT, z, fun l' hl' => po.lst s1 (rps_ints _) hl'⟩
      · cases h2
    · cases hr
end
/-! ### t[::-1] -/
def revD : PyData → Option RV
  | .tuple ds => lit (.tuple ds.reverse)
  | _ => none
end Ev

set_option Elab.async false
set_option linter.all false
set_option maxRecDepth 100000
set_option maxHeartbeats 4000000
/-! EvR: a tuple or a list turned round. -/
namespace Ev
open PySem PySem.Spec PyProof.Rows L2
section
variable {prog : Program} {w : World} {A : Around} {E : Value → Shared → Prop} {s : Shared}
theorem rev_applied {sl : Addr} {vl vu vs : Value} {n : Nat} {Q : Int × Int × Nat → Shared → Prop} (hs : s.heap.IsSliceOf sl vl vu vs) (pl : IsPart vl none) (pu : IsPart vu none) (ps : IsPart vs (some (-1)))
    (h : Q ((n : Int) - 1, -1, n) s) : wpAny (model prog w) A (Builtin.Slice.sliceApplied (.ref sl) (pure (n : Int))) Q E s := by
  obtain ⟨os, hos, hcs, hds⟩ := id hs
  unfold Builtin.Slice.sliceApplied Builtin.Slice.sliceFields
  refine wpAny_bind (wpAny_bind (wpAny_field hos hds (x := vl) rfl (wpAny_bind (wpAny_field hos hds (x := vu) rfl (wpAny_bind (wpAny_field hos hds (x := vs) rfl (wpAny_pure ?_)))))))
  refine wpAny_bind (HT.slicePart_ ps ?_)
  show wpAny _ _ (if ((-1 : Int) == 0) = true then _ else _) _ _ s
  rw [if_neg (by decide)]
  refine wpAny_bind (HT.slicePart_ pl (wpAny_bind (HT.slicePart_ pu (wpAny_bind (wpAny_pure ?_)))))
  have e : Builtin.Slice.sliceAdjust none none (-1) (n : Int) = ((n : Int) - 1, -1) := by simp [Builtin.Slice.sliceAdjust]
  show wpAny _ _ (match Builtin.Slice.sliceAdjust none none (-1) (n : Int) with | (lo, hi) => pure (lo, (-1 : Int), Builtin.Slice.slicePlaces lo hi (-1))) _ _ s
  rw [e]
  have e2 : Builtin.Slice.slicePlaces ((n : Int) - 1) (-1) (-1) = n := by
    unfold Builtin.Slice.slicePlaces
    rw [if_neg (by decide)]
    by_cases z : n = 0
    · subst z; decide
    · rw [if_pos (by omega)]
      simp
  show wpAny _ _ (pure ((n : Int) - 1, (-1 : Int), Builtin.Slice.slicePlaces ((n : Int) - 1) (-1) (-1))) _ _ s
  rw [e2]
  exact wpAny_pure h
theorem fm_map {α β : Type} {f : α → Option β} {g : α → β} : ∀ {l : List α}, (∀ m ∈ l, f m = some (g m)) → l.filterMap f = l.map g
  | [], _ => rfl
  | m :: l, h => by
    rw [List.filterMap_cons, h m List.mem_cons_self, fm_map fun x hx => h x (List.mem_cons_of_mem _ hx)]
    rfl
theorem rev_pick (xs : Array Value) : ((List.range xs.size).filterMap fun (m : Nat) => xs[((xs.size : Int) - 1 + (m : Int) * -1).toNat]?).toArray = xs.toList.reverse.toArray := by
  congr 1
  rw [fm_map (g := fun m => xs.toList.reverse.getD m .none)]
  · refine List.ext_getElem (by simp) fun i h1 h2 => ?_
    rw [List.getElem_map, List.getElem_range, List.getD_eq_getElem?_getD, List.getElem?_eq_getElem h2]
    rfl
  · intro m hm
    have hm := List.mem_range.mp hm
    have e1 : ((xs.size : Int) - 1 + (m : Int) * -1).toNat = xs.size - 1 - m := by omega
    have hl : xs.size - 1 - m < xs.size := by omega
    rw [e1, List.getD_eq_getElem?_getD, List.getElem?_reverse (by simpa using hm)]
    simp [Array.getElem?_eq_getElem hl, hl]
theorem get_rev {t sl : Addr} {items : Array Value} {vl vu vs : Value} {Q : Value → Shared → Prop} (ht : IsTup s.heap t items) (hs : s.heap.IsSliceOf sl vl vu vs) (pl : IsPart vl none) (pu : IsPart vu none) (ps : IsPart vs (some (-1)))
    (h : Q (.ref s.heap.objs.size) { s with heap := s.heap.push { cls := .type "tuple", data := .seq items.toList.reverse.toArray } }) (hz : items.size ≤ sizeLine) : wpAny (model prog w) A (getItem (.ref t) (.ref sl)) Q E s := by
  have fits : sizeOk (.seq items.toList.reverse.toArray) := by
    show items.toList.reverse.toArray.size ≤ sizeLine
    simpa using hz
  obtain ⟨os, hos, hcs, hds⟩ := id hs
  have tsl : s.TypeIs (.ref sl) "slice" := ⟨os, hos, hcs⟩
  unfold getItem
  refine wpAny_holding ?_
  refine wpAny_bind (wpAny_sequenceKey ht.typeIs (by decide) ?_)
  refine wpAny_bind (wpAny_callSpecial?_slot (name := Str.ofString "__getitem__") ht.typeIs slot_tuple_getitem (wpAny_call_entry slot_tuple_getitem ht.typeIs entry_tuple_getitem ?_ (args_tuple_getitem _ _)))
  refine wpAny_bind (m := Builtin.Tuple.tupleItemsOf (.ref t)) (tupleItemsOf_ ht ?_)
  refine wpAny_bind (wpAny_typeOf tsl ?_)
  rw [if_pos (by decide)]
  refine wpAny_bind (rev_applied hs pl pu ps ?_)
  have no : ¬ ((((items.size : Int) - 1) == 0 && (-1 : Int) == 1 && items.size == items.size) = true) := by simp
  show wpAny _ _ (if ((((items.size : Int) - 1) == 0 && (-1 : Int) == 1 && items.size == items.size) = true) then _ else _) _ _ s
  rw [if_neg no, rev_pick]
  first
    | exact wpAny_bind (m := Builtin.Tuple.tupleExact _) (wpAny_newObj_type (wpAny_pure ⟨_, rfl, wpAny_pure h⟩) fits)
    | exact wpAny_bind (wpAny_bind (m := Builtin.Tuple.tupleExact _) (wpAny_newObj_type (wpAny_pure (wpAny_pure ⟨_, rfl, wpAny_pure h⟩)) fits))
end
section
variable {X : Cx} {e : Expr} {te : TE} {kk : Nat} {p1 p2 p3 pos : Pos}
theorem pe_revT (he : PE X e te) (ht : ∀ o r, letTemporaryGo e o r = pure ()) : PE X (.Subscript e (.Slice none none (some (.UnaryOp .USub (.Constant (.int 1) kk p1) p2)) p3) pos) (fun σ H Q => te σ H fun x H1 => ∃ a xs, x = .ref a ∧ SqT X.K H1 a xs ∧ NewT xs.reverse H1 Q) := by
  refine ⟨fun pins s σ H Q I h => ?_⟩
  refine Subscript_ (thn (he.run pins s σ H _ I h) fun v s1 ⟨x, H1, I1, r1, a, xs, ex, hx, q⟩ => ?_)
  subst ex
  cases r1
  have step : PO X (some (.UnaryOp .USub (.Constant (.int 1) kk p1) p2)) (tPart (tUn (rU fun i => .int (-i)) (tC (.int 1)))) := po_some (pe_un un_neg pe_int)
  refine wpAny_Slice (thn (po_none.run pins s1 σ H1 (fun o H2 => o = none ∧ H2 = H1) I1 ⟨rfl, rfl⟩) fun vl s2 ⟨l, H2, I2, pl, el, e2⟩ => ?_)
  subst el e2
  refine thn (po_none.run pins s2 σ H2 (fun o H3 => o = none ∧ H3 = H2) I2 ⟨rfl, rfl⟩) fun vu s3 ⟨u, H3, I3, pu, eu, e3⟩ => ?_
  subst eu e3
  refine thn (step.run pins s3 σ H3 (fun o H4 => o = some (-1) ∧ H4 = H3) I3 ⟨1, rfl, -1, rfl, rfl, rfl⟩) fun vs s4 ⟨o, H4, I4, ps, eo, e4⟩ => ?_
  subst eo e4
  have I5 : L2.Inv X pins σ H4 { s4 with heap := s4.heap.push { cls := .type "slice", data := .fields #[vl, vu, vs] } } := I4.kept (t' := s4.toks) fun b ob q => Heap.get?_push_of_some _ q
  obtain ⟨its, r, tp, hz⟩ := I5.tuple hx
  refine tail_any (ops := [.ref a, .ref s4.heap.objs.size]) tp.typeIs slot_tuple_getitem.lookup ?_ (by with_unfolding_all rfl)
  refine get_rev tp (Heap.IsSliceOf.new _ vl vu vs) pl pu ps ?_ (by rw [List.size_toArray, ← r.length]; exact hz)
  exact newT (t := s4.toks) I5 (vs := xs.reverse) (us := its.reverse) r.reverse (by rw [List.length_reverse]; exact hz) q
end
end Ev

set_option Elab.async false
set_option linter.all false
set_option maxRecDepth 100000
set_option maxHeartbeats 4000000
/-! EvS: the rules in the form that the printed walks use. -/
namespace Ev
open PySem PySem.Spec L2
def visB (sc : Scope) (x : Str) : Bool := match sc.names.lookup x with
  | some .local => true
  | some .cell => true
  | some .free => true
  | _ => false
theorem vis_of {sc : Scope} {x : Str} (h : visB sc x = true) : Vis sc x := by
  unfold visB at h
  split at h
  · exact .inl (by assumption)
  · exact .inr (.inl (by assumption))
  · exact .inr (.inr (by assumption))
  · cases h
def blkB (N : List Str) (sc scope : Scope) (own : List (Str × Nat)) : Bool :=
  decide (scope.kind = .function) && (scope.names.all (fun y => decide (scope.names.lookup y.1 = some y.2)) && (own.all (fun p => decide (N[p.2]? = some p.1)) &&
    (scope.names.all (fun y => !decide (y.2 = .free) || (decide (sc.names.lookup y.1 = some .cell) || decide (sc.names.lookup y.1 = some .free))) &&
      scope.names.all (fun y => !(decide (y.2 = .local) || decide (y.2 = .cell)) || (decide (y.1 ∈ own.map (·.1)) || !decide (y.1 ∈ N))))))
theorem blk_of {N : List Str} {sc scope : Scope} {own : List (Str × Nat)} (h : blkB N sc scope own = true) : BlkOk N sc scope own := by
  unfold blkB at h
  simp only [Bool.and_eq_true, decide_eq_true_eq, List.all_eq_true, Bool.or_eq_true, Bool.not_eq_true', decide_eq_false_iff_not] at h
  obtain ⟨h1, h2, h3, h4, h5⟩ := h
  refine ⟨h1, h2, h3, fun y hy hf => ?_, fun y hy hf => ?_⟩
  · exact (h4 y hy).resolve_left fun z => z hf
  · rcases h5 y hy with z | z
    · simp only [Bool.or_eq_false_iff, decide_eq_false_iff_not] at z
      exact (hf.elim z.1 z.2).elim
    · exact z
section
variable {X : Cx} {W : WX} {a b c e : Expr} {es : List Expr} {ma mb mc : M OV} {m : M RV} {pos p q : Pos} {x : Str}
theorem nv (i : Nat) (hN : X.N[i]? = some x) (hv : visB X.env.scope x = true) (hd : (x == ("__debug__" : Str)) = false) (hc : (x == ("__classdict__" : Str)) = false) : PE X (.Name x pos) (tVar i) := pe_var hN (vis_of hv) hd hc
theorem sv_v (i : Nat) (hN : X.N[i]? = some x) (hv : visB X.env.scope x = true) (hd : (x == ("__debug__" : Str)) = false) (hc : (x == ("__classdict__" : Str)) = false) : SV X W (.Name x pos) (readV i) := sv_var (nv i hN hv hd hc)
theorem so_v (i : Nat) (hN : X.N[i]? = some x) (hv : visB X.env.scope x = true) (hd : (x == ("__debug__" : Str)) = false) (hc : (x == ("__classdict__" : Str)) = false) : SO X W (.Name x pos) (readO i) := so_var (nv i hN hv hd hc)
theorem sv_int {i : Int} {j} : SV X W (.Constant (.int i) j pos) (pure ⟨.int i, false⟩) := sv_const pe_int fun _ => .int i
theorem sv_str {i : Str} {j} : SV X W (.Constant (.str i) j pos) (pure ⟨.str i, false⟩) := sv_const pe_str fun _ => .str i
theorem sv_bl {i : Bool} {j} : SV X W (.Constant (.bool i) j pos) (pure ⟨.bool i, false⟩) := sv_const pe_bl fun _ => .bl i
theorem sv_non {j} : SV X W (.Constant .none j pos) (pure ⟨.none, false⟩) := sv_const pe_non fun _ => .non
theorem sv_gint {i : Int} (hg : Gl X x) (hm : ∃ t, X.mg x = some (.int i t)) (hd : (x == ("__debug__" : Str)) = false) : SV X W (.Name x pos) (pure ⟨.int i, false⟩) :=
  sv_const (pe_glob (v := .int i) hg hm.choose_spec ⟨_, rfl⟩ hd) fun _ => .int i
/-- a built-in function, by what it does to data -/
structure BI (X : Cx) (id : Str) (s : String) (f : List PyData → Option RV) : Prop where
  ex : ∃ r, CallR X (.builtin s) r ∧ RLok X.K r f
  bt : bootBuiltins id = some (.builtin s)
  n1 : id ≠ "__name__"
  n2 : (id == ("__debug__" : Str)) = false
structure BT (X : Cx) (id : Str) (s : String) (f : List PyData → Option RV) : Prop where
  ex : ∃ r, CallR X (.type s) r ∧ RLok X.K r f
  bt : bootBuiltins id = some (.type s)
  n1 : id ≠ "__name__"
  n2 : (id == ("__debug__" : Str)) = false
def orF (f g : List PyData → Option RV) : List PyData → Option RV := fun ds => match f ds with
  | some r => some r
  | none => g ds
theorem ok_or {K : PySem.W.Frag} {r r' : List V → Hp → VK → Prop} {f g : List PyData → Option RV} (h : RLok K r f) (h' : RLok K r' g) : RLok K (fun xs H Q => r xs H Q ∨ r' xs H Q) (orF f g) := by
  intro F B σ H e G xs ds res Q s hd hr k
  unfold orF at hr
  split at hr
  · rename_i r0 q0
    cases hr
    exact .inl (h s hd q0 k)
  · exact .inr (h' s hd hr k)
theorem callR_or {v : Value} {r r' : List V → Hp → VK → Prop} (h : CallR X v r) (h' : CallR X v r') : CallR X v (fun xs H Q => r xs H Q ∨ r' xs H Q) := by
  intro pins s σ H xs us Q I rr q
  rcases q with q | q
  · exact h pins s σ H xs us Q I rr q
  · exact h' pins s σ H xs us Q I rr q
theorem bi_len : BI X "len" "len" lenF := ⟨⟨_, callR_or call_len_seq call_len_str, ok_len⟩, by decide +kernel, by decide, by decide⟩
theorem bi_abs : BI X "abs" "abs" absF := ⟨⟨_, call_abs, ok_abs⟩, by decide +kernel, by decide, by decide⟩
theorem bi_max (hc : X.calm = true) : BI X "max" "max" maxF := ⟨⟨_, callR_or (call_max2 hc) (cr_max hc), ok_max⟩, by decide +kernel, by decide, by decide⟩
def minG := orF minF minA
theorem bi_min (hc : X.calm = true) (hu : X.A.units + 100 < cLine) : BI X "min" "min" minG := ⟨⟨_, callR_or (callR_or (call_min2 hc) (cr_min hc)) (cr_minA hc hu), ok_or ok_min ok_minA⟩, by decide +kernel, by decide, by decide⟩
theorem bi_any (hc : X.calm = true) : BI X "any" "any" anyF := ⟨⟨_, cr_any hc, ok_any⟩, by decide +kernel, by decide, by decide⟩
theorem bi_all (hc : X.calm = true) : BI X "all" "all" allF := ⟨⟨_, cr_all hc, ok_all⟩, by decide +kernel, by decide, by decide⟩
theorem bi_sum (hc : X.calm = true) : BI X "sum" "sum" sumF := ⟨⟨_, cr_sum hc, ok_sum⟩, by decide +kernel, by decide, by decide⟩
theorem bi_repr (gd : X.A.guards = some []) (hu : X.A.units + 100 < cLine) : BI X "repr" "repr" reprF := ⟨⟨_, cr_repr gd hu, ok_repr⟩, by decide +kernel, by decide, by decide⟩
theorem bi_sorted (hu : X.A.units + 100 < cLine) : BI X "sorted" "sorted" sortedF := ⟨⟨_, cr_sortA hu, ok_sorted⟩, by decide +kernel, by decide, by decide⟩
theorem bt_tuple : BT X "tuple" "tuple" tupleF := ⟨⟨_, cr_tupleZ, ok_tuple⟩, by decide +kernel, by decide, by decide⟩
theorem bt_list : BT X "list" "list" listF := ⟨⟨_, call_list_of, ok_list⟩, by decide +kernel, by decide, by decide⟩
theorem bt_int : BT X "int" "int" intF := ⟨⟨_, call_int1, ok_int⟩, by decide +kernel, by decide, by decide⟩
@[simp] def op1L (f : List PyData → Option RV) (ma : M OV) : M RV := opL f (do let o ← ma; let os ← (pure [] : M (List OV)); pure (o :: os))
@[simp] def op2L (f : List PyData → Option RV) (ma mb : M OV) : M RV := opL f (do let o ← ma; let os ← (do let o ← mb; let os ← (pure [] : M (List OV)); pure (o :: os)); pure (o :: os))
theorem sv_b1 {s : String} {f : List PyData → Option RV} (B : BI X x s f) (hg : Gl X x) (hm : X.mg x = none) (ha : SO X W a ma) (h1 : starEach [a] X.env = (false, eval a X.env) :: starEach [] X.env) (hp : (backTo pos (starEach [] X.env)).any (·.1) = false) : SV X W (.Call (.Name x p) [a] [] pos) (op1L f ma) := by
  obtain ⟨r, h, k⟩ := B.ex
  exact sv_callB k h hg hm B.bt (sa_cons ha sa_nil h1) B.n1 B.n2 h1 hp
theorem sv_b2 {s : String} {f : List PyData → Option RV} (B : BI X x s f) (hg : Gl X x) (hm : X.mg x = none) (ha : SO X W a ma) (hb : SO X W b mb) (h1 : starEach [a, b] X.env = (false, eval a X.env) :: starEach [b] X.env) (h2 : starEach [b] X.env = (false, eval b X.env) :: starEach [] X.env) (hp : (backTo pos (starEach [b] X.env)).any (·.1) = false) :
    SV X W (.Call (.Name x p) [a, b] [] pos) (op2L f ma mb) := by
  obtain ⟨r, h, k⟩ := B.ex
  exact sv_callB k h hg hm B.bt (sa_cons ha (sa_cons hb sa_nil h2) h1) B.n1 B.n2 h1 hp
theorem sv_t1 {s : String} {f : List PyData → Option RV} (B : BT X x s f) (hg : Gl X x) (hm : X.mg x = none) (ha : SO X W a ma) (h1 : starEach [a] X.env = (false, eval a X.env) :: starEach [] X.env) (hp : (backTo pos (starEach [] X.env)).any (·.1) = false) : SV X W (.Call (.Name x p) [a] [] pos) (op1L f ma) := by
  obtain ⟨r, h, k⟩ := B.ex
  exact sv_callT k h hg hm B.bt (sa_cons ha sa_nil h1) B.n1 B.n2 h1 hp
/-- isinstance -/
structure IT (X : Cx) (id : Str) (s : String) : Prop where
  ex : ∃ f, CallR X (.builtin "isinstance") (rIsA X.K s f) ∧ ∀ d, isiF s d = some (f d)
  bt : bootBuiltins id = some (.type s)
  n1 : id ≠ "__name__"
  n2 : (id == ("__debug__" : Str)) = false
theorem it_int : IT X "int" "int" := ⟨⟨_, cr_isA (fun r h => PySem.W.isinstance_int_data r h), fun _ => rfl⟩, by decide +kernel, by decide, by decide⟩
theorem it_bool : IT X "bool" "bool" := ⟨⟨_, cr_isA (fun r h => PySem.W.isinstance_bool_data r h), fun _ => rfl⟩, by decide +kernel, by decide, by decide⟩
theorem it_str : IT X "str" "str" := ⟨⟨_, cr_isA (fun r h => PySem.W.isinstance_str_data r h), fun _ => rfl⟩, by decide +kernel, by decide, by decide⟩
theorem it_tuple : IT X "tuple" "tuple" := ⟨⟨_, cr_isA (fun r h => PySem.W.isinstance_tuple_data r h), fun _ => rfl⟩, by decide +kernel, by decide, by decide⟩
theorem it_list : IT X "list" "list" := ⟨⟨_, cr_isA (fun r h => PySem.W.isinstance_list_data r h), fun _ => rfl⟩, by decide +kernel, by decide, by decide⟩
theorem sv_is {id : Str} {s : String} (T : IT X id s) (hg : Gl X "isinstance") (hm : X.mg "isinstance" = none) (hg2 : Gl X id) (hm2 : X.mg id = none) (ha : SO X W a ma) (h1 : starEach [a, .Name id q] X.env = (false, eval a X.env) :: starEach [.Name id q] X.env) (h2 : starEach [.Name id q] X.env = (false, eval (.Name id q) X.env) :: starEach [] X.env)
    (hp : (backTo pos (starEach [.Name id q] X.env)).any (·.1) = false) : SV X W (.Call (.Name "isinstance" p) [a, .Name id q] [] pos) (op1 (isiD s) ma) := by
  obtain ⟨f, h, k⟩ := T.ex
  exact sv_isi h k hg hm ha (pe_bltn hg2 hm2 T.bt rfl T.n1 T.n2) h1 h2 hp
theorem rp_app1 {K : PySem.W.Frag} {G : Hp} {vs : List V} {ds : List PyData} {v : V} {d : PyData} (h : RpAll K G vs ds) (r : Rp K G v d) : RpAll K G (vs ++ [v]) (ds ++ [d]) := h.app (.cons r .nil)
theorem rp_rev {K : PySem.W.Frag} {G : Hp} : ∀ {vs : List V} {ds : List PyData}, RpAll K G vs ds → RpAll K G vs.reverse ds.reverse
  | _, _, .nil => .nil
  | _, _, .cons h t => by
    rw [List.reverse_cons, List.reverse_cons]
    exact rp_app1 (rp_rev t) h
theorem sv_rev {kk : Nat} {p1 p2 p3 : Pos} (ha : SO X W a ma) (ht : ∀ o r, letTemporaryGo a o r = pure ()) : SV X W (.Subscript a (.Slice none none (some (.UnaryOp .USub (.Constant (.int 1) kk p1) p2)) p3) pos) (op1 revD ma) :=
  weakE (pe_revT ha ht) fun σ H Q ⟨en, G, F, B, s, k⟩ => by
    refine ⟨en, G, F, B, s, (ok_bind.mp k).imp (fun ox e1 k1 x H1 G1 s1 m1 r1 => ?_) fun _ _ w => w⟩
    obtain ⟨dx, hx, k3⟩ := s1.der r1 (ok_bind.mp k1)
    obtain ⟨res, hr, k5⟩ := ok_liftO.mp k3
    have po : Post X.K F B σ e1 G1 res Q := fun v H' G' s' m' rr => k5 v H' G' s' (m1.trans m') rr
    unfold revD at hr
    split at hr
    · cases hr
      obtain ⟨l, vs, rfl, g1, g2⟩ := hx.tup s1.sub
      exact ⟨l, vs, rfl, g1.sqT, po.tup s1 (rp_rev g2)⟩
    · cases hr
end
/-! ### given away at once -/
@[simp] def frzM (m : M RV) : M RV := do
  let r ← m
  pure ⟨r.d, false⟩
theorem t_frz {X : Cx} {W : WX} {m : M RV} {σ : St} {H : Hp} {Q : VK} (q : tV X.K X.mg W (frzM m) σ H Q) : tV X.K X.mg W m σ H Q := by
  obtain ⟨e, G, F, B, s, k⟩ := q
  refine ⟨e, G, F, B, s, (ok_bind.mp k).imp (fun r e1 k1 v H1 G1 s1 m1 rr => ?_) fun _ _ w => w⟩
  obtain ⟨G2, s2, m2, r2⟩ := rr.freeze s1
  exact k1 v H1 G2 s2 (m1.trans m2) r2
theorem sv_frz {X : Cx} {W : WX} {e : Expr} {m : M RV} (h : SV X W e m) : SV X W e (frzM m) := weakE h fun _ _ _ q => t_frz q
/-! ### the same with the places told first -/
section
variable {X : Cx} {W : WX} {elt tg iter c e e1 e2 : Expr} {scope : Scope} {pos spos : Pos} {mi : M (List PyData)} {bt : PyData → M Unit} {mc : M Bool} {me m n : M RV} {ifs : List Expr} {y x : Str} {py px pt pos' : Pos} {kt k2 : Nat} {pt2 : Pos}
theorem g_lc (pr : Bool) (sl : List Nat) (own : List (Str × Nat)) (hsl : ∀ i ∈ sl, i ∈ own.map (·.2)) (hc : X.calm = true) (hN : X.N.Nodup) (hi : SI X W pr tg iter mi) (ok : blkB X.N X.env.scope scope own = true)
    (hg : ∀ (s : Shared) (H : Hp) (C : Addr) (cl : List (Str × Addr)) (fp : List Addr), SG (X.blk s H scope (compEnvC scope cl C X.env) fp) W0 pr tg sl bt)
    (ht : ∀ (s : Shared) (H : Hp) (C : Addr) (cl : List (Str × Addr)) (fp : List Addr), SPs (X.blk s H scope (compEnvC scope cl C X.env) fp) W0 ifs mc)
    (he : ∀ (s : Shared) (H : Hp) (C : Addr) (cl : List (Str × Addr)) (fp : List Addr), SV (X.blk s H scope (compEnvC scope cl C X.env) fp) W0 elt me) (hs : ∀ x, foldedSetIterable iter X.env x = pure x) :
    SV X W (.ListComp elt [⟨tg, iter, ifs, 0⟩] scope pos) (lcM (own.map (·.2)) mi (turnM bt mc me)) := sv_lc hsl hc hN hi (blk_of ok) hg ht he hs
theorem g_setLc (pr : Bool) (i : Nat) (sl : List Nat) (own : List (Str × Nat)) (hsl : ∀ i ∈ sl, i ∈ own.map (·.2)) (hc : X.calm = true) (hN : X.N.Nodup) (hy : X.N[i]? = some y) (hyl : X.env.scope.names.lookup y = some .local)
    (hsw : swapsWith (.ListComp elt [⟨tg, iter, ifs, 0⟩] scope pos) (some (.Name y py)) spos.line X.env = pure true) (hi : SI X W pr tg iter mi) (ok : blkB X.N X.env.scope scope own = true)
    (hg : ∀ (s : Shared) (H : Hp) (C : Addr) (cl : List (Str × Addr)) (fp : List Addr), SG (X.blk s H scope (compEnvC scope cl C X.env) fp) W0 pr tg sl bt)
    (ht : ∀ (s : Shared) (H : Hp) (C : Addr) (cl : List (Str × Addr)) (fp : List Addr), SPs (X.blk s H scope (compEnvC scope cl C X.env) fp) W0 ifs mc)
    (he : ∀ (s : Shared) (H : Hp) (C : Addr) (cl : List (Str × Addr)) (fp : List Addr), SV (X.blk s H scope (compEnvC scope cl C X.env) fp) W0 elt me) (hs : ∀ x, foldedSetIterable iter X.env x = pure x) :
    SS X W (.Assign [.Name y py] (.ListComp elt [⟨tg, iter, ifs, 0⟩] scope pos) spos) (setM i (lcM (own.map (·.2)) mi (turnM bt mc me))) := ss_setLc hsl hc hN hy hyl hsw hi (blk_of ok) hg ht he hs
theorem g_for (pr : Bool) (sl : List Nat) {body : List Stmt} {mb : M Fl} (hp : PassesOwn (model X.prog X.w) X.A X.env X.xe) (hc : X.calm = true) (hi : SI X W pr tg iter mi) (hg : SG X W pr tg sl bt) (hb : SSs X W body mb) (hs : ∀ x, foldedSetIterable iter X.env x = pure x) :
    SS X W (.For tg iter body [] pos) (forM mi (bodyM bt mb)) := ss_for hp hc hi hg hb hs
theorem g_bind (sl : List Nat) (h : SV X W e m) (hg : SG X W false tg sl bt) (hs : swapsWithSole [tg] e pos.line X.env = pure false) (hw : swappedStores [tg] e X.env = pure none) (h1 : (assignEach [tg] X.env).map (·.2) = [assign tg X.env]) :
    SS X W (.Assign [tg] e pos) (bindM m bt) := ss_bind h hg hs hw h1
theorem g_pt {m : M Bool} (h : SW X W e m) : SB X W e m := h.pt
theorem g_app {o : Expr} {apos cpos : Pos} (i : Nat) (ho : PE X o (tVar i)) (h : SV X W e m) (k : MOk X o "append" e [] apos cpos) (hs : swapsWith (.Call (.Attribute o "append" apos) [e] [] cpos) none pos.line X.env = pure false) : SS X W (.Expr (.Call (.Attribute o "append" apos) [e] [] cpos) pos) (appM i m) := ss_app PySem.F.plainAttrs_list PySem.F.slot_list_append PySem.F.type_list_append ho h k hs
theorem g_ext {o : Expr} {apos cpos : Pos} (i : Nat) (ho : PE X o (tVar i)) (h : SV X W e m) (k : MOk X o "extend" e [] apos cpos) (hs : swapsWith (.Call (.Attribute o "extend" apos) [e] [] cpos) none pos.line X.env = pure false) : SS X W (.Expr (.Call (.Attribute o "extend" apos) [e] [] cpos) pos) (extM i m) := ss_ext PySem.F.plainAttrs_list PySem.F.slot_list_extend PySem.F.type_list_extend ho h k hs
theorem g_setLcF (pr : Bool) (i : Nat) (sl : List Nat) (own : List (Str × Nat)) (hsl : ∀ i ∈ sl, i ∈ own.map (·.2)) (hc : X.calm = true) (hN : X.N.Nodup) (hy : X.N[i]? = some y) (hyl : X.env.scope.names.lookup y = some .local)
    (hsw : swapsWith (.ListComp elt [⟨tg, iter, ifs, 0⟩] scope pos) (some (.Name y py)) spos.line X.env = pure true) (hi : SI X W pr tg iter mi) (ok : blkB X.N X.env.scope scope own = true)
    (hg : ∀ (s : Shared) (H : Hp) (C : Addr) (cl : List (Str × Addr)) (fp : List Addr), SG (X.blk s H scope (compEnvC scope cl C X.env) fp) W0 pr tg sl bt)
    (ht : ∀ (s : Shared) (H : Hp) (C : Addr) (cl : List (Str × Addr)) (fp : List Addr), SPs (X.blk s H scope (compEnvC scope cl C X.env) fp) W0 ifs mc)
    (he : ∀ (s : Shared) (H : Hp) (C : Addr) (cl : List (Str × Addr)) (fp : List Addr), SV (X.blk s H scope (compEnvC scope cl C X.env) fp) W0 elt me) (hs : ∀ x, foldedSetIterable iter X.env x = pure x) :
    SS X W (.Assign [.Name y py] (.ListComp elt [⟨tg, iter, ifs, 0⟩] scope pos) spos) (setM i (frzM (lcM (own.map (·.2)) mi (turnM bt mc me)))) := weakS (ps_setLc (wi := tI X.K X.mg W pr mi) (g := tG X.K X.mg W0 pr sl bt) (tt := tBo X.K X.mg W0 mc) (te := tV X.K X.mg W0 me) hc hN hy hyl hsw hi (blk_of ok) hg ht he hs) fun _ _ _ q => t_set (fun _ _ _ q => t_lc hsl (t_frz q)) q
theorem g_set (i : Nat) (hN : X.N.Nodup) (hi : X.N[i]? = some x) (hx : Loc X.env.scope x) (h : SV X W e m) (hs : swapsWith e (some (.Name x pos')) pos.line X.env = pure false) (hf : X.fn x = true ∨ X.env.scope.names.lookup x = some .local) :
    SS X W (.Assign [.Name x pos'] e pos) (setM i m) := ss_set hN hi hx h hs hf
theorem g_par (i j : Nat) (hc : X.calm = true) (hN : X.N.Nodup) (hi : X.N[i]? = some x) (hj : X.N[j]? = some y) (hij : i ≠ j)
    (hx : X.env.scope.names.lookup x = some .local) (hy : X.env.scope.names.lookup y = some .local) (h1 : SV X W e1 m) (h2 : SV X W e2 n) (s1 : starEach [e1, e2] X.env = (false, eval e1 X.env) :: starEach [e2] X.env) (s2 : starEach [e2] X.env = (false, eval e2 X.env) :: starEach [] X.env)
    (hw : swappedStores [.Tuple [.Name x px, .Name y py] kt pt] (.Tuple [e1, e2] k2 pt2) X.env = pure (some [x, y])) (hs : swapsWithSole [.Tuple [.Name x px, .Name y py] kt pt] (.Tuple [e1, e2] k2 pt2) pos.line X.env = pure false) :
    SS X W (.Assign [.Tuple [.Name x px, .Name y py] kt pt] (.Tuple [e1, e2] k2 pt2) pos) (parM i j m n) := ss_par hc hN hi hj hij hx hy h1 h2 s1 s2 hw hs
end
/-! ### defs by name -/
/-- a def that may be called by its name; kb: its bindings by keywords -/
structure Cal (P : Program) (w : World) (K : PySem.W.Frag) (mg : Str → Option Value) (k : Nat) (x : Str) (ps N : List Str) (kb : List (List Str × List Nat)) (m : M Fl) : Prop where
  ex : ∃ f fd, (∀ base, FnM P w K mg base k f fd ps N m) ∧ mg x = some (.ref f) ∧ PySem.W.keepIn K (.ref f) = true ∧ Binds K fd ps [] ∧ ∀ p ∈ kb, KBinds K fd ps p.1 (mixK p.2) (mixK p.2)
section
variable {X : Cx} {W : WX} {a b c e : Expr} {es : List Expr} {pos p : Pos} {x : Str} {k j i : Nat} {ps N : List Str} {kb : List (List Str × List Nat)} {m : M Fl} {ms : M (List PyData)}
theorem sv_c (C : Cal X.prog X.w X.K X.mg k x ps N kb m) (room : Room j X.A) (hk : k ≤ j) (gd : X.A.guards = some []) (hg : Gl X x) (ha : SVs X W (e :: es) ms) (hdb : (x == ("__debug__" : Str)) = false)
    (he : starEach (e :: es) X.env = (false, eval e X.env) :: starEach es X.env) (hpl : (backTo pos (starEach es X.env)).any (·.1) = false) : SV X W (.Call (.Name x p) (e :: es) [] pos) (callM N.length ps.length m ms) := by
  obtain ⟨f, fd, F, hm, kp, bi, _⟩ := C.ex
  exact sv_call (F X.base) (room.mono hk) gd hg hm kp bi ha hdb he hpl
theorem sv_cP (C : Cal X.prog X.w X.K X.mg k x ps N kb m) (room : Room j X.A) (hk : k ≤ j) (gd : X.A.guards = some []) (hg : Gl X x) (h0 : PE X e (tVar i)) (ha : SVs X W es ms) (hdb : (x == ("__debug__" : Str)) = false)
    (he : starEach (e :: es) X.env = (false, eval e X.env) :: starEach es X.env) (hpl : (backTo pos (starEach es X.env)).any (·.1) = false) : SV X W (.Call (.Name x p) (e :: es) [] pos) (callPM i N.length ps.length m ms) := by
  obtain ⟨f, fd, F, hm, kp, bi, _⟩ := C.ex
  exact sv_callP (F X.base) (room.mono hk) gd hg hm kp bi h0 ha hdb he hpl
theorem sv_cK {kws : List Keyword} (ks : List Str) (ix : List Nat) (C : Cal X.prog X.w X.K X.mg k x ps N kb m) (hkb : (ks, ix) ∈ kb) (room : Room j X.A) (hk : k ≤ j) (gd : X.A.guards = some []) (hg : Gl X x) (ha : SK X W kws ms)
    (hall : (backToKw pos (keywordEach kws X.env)).all (·.1.isSome) = true) (hks : (backToKw pos (keywordEach kws X.env)).filterMap (·.1) = ks) (hdb : (x == ("__debug__" : Str)) = false)
    (hpl : ((backTo pos (starEach [] X.env)).any (·.1) || (backToKw pos (keywordEach kws X.env)).any (·.1.isNone)) = false) : SV X W (.Call (.Name x p) [] kws pos) (callKM ix N.length ps.length m ms) := by
  obtain ⟨f, fd, F, hm, kp, bi, kbs⟩ := C.ex
  exact sv_callK (F X.base) (room.mono hk) gd hg hm kp (kbs _ hkb) ha hall hks hdb hpl
end
section
variable {P : Program} {w : World} {K : PySem.W.Frag} {mg : Str → Option Value} {x qual : Str} {params : Arguments} {body : List Stmt} {sc : Scope} {f : Addr} {fd : FuncData}
theorem FunD.kmix {ps ks : List Str} {ix : List Nat} (D : FunD K x qual params body sc [] [] f fd) (hp : ps.length ≠ 0)
    (h : ∀ (kV doc pm : Value) (an : Option Addr) (cdv ct : Value) (ws : List Value), (mixL ix ws).length = ps.length → bindArgs (PySem.W.fnOf x qual params body sc .none kV doc pm an cdv ct) ⟨[], ks.zip ws⟩ = pure (ps.zip (mixL ix ws))) : KBinds K fd ps ks (mixK ix) (mixK ix) := by
  obtain ⟨oc, od, dV, kV, doc, pm, an, cdv, ct, osl, rfl, lk, hcd, hD, hK⟩ := D.ex
  rcases hD with ⟨_, rfl⟩ | ⟨e, _⟩
  · exact kb_mix hp fun s ws hl => .of_eq (h kV doc pm an cdv ct ws hl)
  · exact absurd rfl e
theorem cal_of {N ps : List Str} {k : Nat} {kb : List (List Str × List Nat)} {m : M Fl} (D : FunD K x qual params body sc [] [] f fd) (hm : mg x = some (.ref f)) (S : FnScope N ps sc)
    (hbd : ∀ (kV doc pm : Value) (an : Option Addr) (cdv ct : Value) (us : List Value), us.length = ps.length → bindArgs (PySem.W.fnOf x qual params body sc .none kV doc pm an cdv ct) ⟨us, []⟩ = pure (ps.zip us))
    (hkb : ∀ p ∈ kb, KBinds K fd ps p.1 (mixK p.2) (mixK p.2))
    (hb : ∀ (base : Heap) (cdv : Value) (A : Around) (out : List Env) (s : Shared) (H : Hp), Room k (A.deeper (PyProof.Rows.envOfC qual sc s.heap.objs.size f cdv)) → (A.deeper (PyProof.Rows.envOfC qual sc s.heap.objs.size f cdv)).guards = some [] →
      SSs (cxOf cx0 P w K mg base N qual sc f cdv A out s H e0).nox W0 body m) : Cal P w K mg (k + 1) x ps N kb m :=
  ⟨f, fd, fun base => FnM.of D S (hb base), hm, D.kp, D.bindsN hbd, hkb⟩
theorem Cal.less {N ps : List Str} {j k : Nat} {kb : List (List Str × List Nat)} {m : M Fl} (C : Cal P w K mg j x ps N kb m) (h : j ≤ k) : Cal P w K mg k x ps N kb m := by
  obtain ⟨f, fd, F, r⟩ := C.ex
  exact ⟨f, fd, fun base => (F base).more h, r⟩
end
end Ev

set_option Elab.async false
set_option linter.all false
set_option maxRecDepth 100000
set_option maxHeartbeats 4000000
/-! EvU: a list of lists of one's own, written item by item. -/
namespace Ev
open PySem PySem.Spec L2
/-- rows that nobody else holds stand in the frame Fr, over F -/
structure Nst (K : PySem.W.Frag) (F Fr G : Hp) (p : Addr) (qs : List Addr) (rows : List (List PyData)) : Prop where
  sub : Same F Fr
  top : Fr p = some (.lst (qs.map V.ref))
  ftop : F p = none
  len : qs.length = rows.length
  ele : ∀ (j : Nat) (q : Addr) (r : List PyData), qs[j]? = some q → rows[j]? = some r → ∃ vs, Fr q = some (.lst vs) ∧ RpAll K G vs r
  fel : ∀ q ∈ qs, F q = none ∧ q ≠ p
  nd : qs.Nodup
theorem Nst.up {K : PySem.W.Frag} {F Fr G G' : Hp} {p : Addr} {qs : List Addr} {rows : List (List PyData)} (n : Nst K F Fr G p qs rows) (s : Same G G') : Nst K F Fr G' p qs rows :=
  ⟨n.sub, n.top, n.ftop, n.len, fun j q r a b => let ⟨vs, h1, h2⟩ := n.ele j q r a b; ⟨vs, h1, h2.up s⟩, n.fel, n.nd⟩
section
variable {K : PySem.W.Frag} {F Fr : Hp} {B : List (Nat × Addr)} {σ : St} {H : Hp} {e : En} {G : Hp}
theorem upd_self {F : Hp} {a : Addr} {o : HO} (h : F a = some o) : upd F a o = F := by
  funext b
  by_cases e : b = a
  · subst e; rw [upd_same, h]
  · rw [upd_ne e]
/-- a smaller frame -/
theorem SR.lessF (s : SR K Fr B σ H e G) (h : Same F Fr) : SR K F B σ H e G := by
  refine ⟨s.len, s.sub, fun a o q => s.frm a o (h _ _ q), fun a o q => s.dsj a o (h _ _ q), s.vls, fun i b ds q => ?_, s.dis⟩
  obtain ⟨p, vs, h1, h2, h3, r⟩ := s.ows i b ds q
  exact ⟨p, vs, h1, h2, h.free h3, r⟩
/-- a list of the frame is no slot's -/
theorem SR.noF (s : SR K Fr B σ H e G) {a : Addr} {o : HO} (h : Fr a = some o) : ∀ (i : Nat) (b : Bool) (es : List PyData), e[i]? = some (.ow b es) → σ[i]? ≠ some (some (.ref a)) := fun i b es q z => by
  obtain ⟨p, vs, h1, h2, h3, r⟩ := s.ows i b es q
  rw [z] at h1
  cases h1
  rw [h] at h3
  cases h3
/-- a result into the frame -/
theorem SR.inF (s : SR K F B σ H e G) {q : Addr} {o : HO} (hq : H q = some o) (hg : G q = none) (no : ∀ (i : Nat) (b : Bool) (es : List PyData), e[i]? = some (.ow b es) → σ[i]? ≠ some (some (.ref q))) : SR K (upd F q o) B σ H e G := infr s hq hg no
/-- the frame's lists given away, one behind another -/
theorem give {F : Hp} : ∀ {qs : List Addr} {rows : List (List PyData)} {G : Hp}, SR K F B σ H e G → qs.length = rows.length → qs.Nodup → (∀ (j : Nat) (q : Addr) (r : List PyData), qs[j]? = some q → rows[j]? = some r → ∃ vs, H q = some (.lst vs) ∧ RpAll K G vs r) → (∀ q ∈ qs, F q = none ∧ G q = none ∧ ∀ (i : Nat) (b : Bool) (es : List PyData), e[i]? = some (.ow b es) → σ[i]? ≠ some (some (.ref q))) →
    ∃ G', SR K F B σ H e G' ∧ Same G G' ∧ RpAll K G' (qs.map V.ref) (rows.map PyData.list) ∧ ∀ a, a ∉ qs → G' a = G a
  | [], [], G, s, _, _, _, _ => ⟨G, s, .refl _, .nil, fun _ _ => rfl⟩
  | [], _ :: _, _, _, h, _, _, _ => by cases h
  | _ :: _, [], _, _, h, _, _, _ => by cases h
  | q :: qs, r :: rows, G, s, hl, nd, he, hf => by
    obtain ⟨nq, nd'⟩ := List.nodup_cons.mp nd
    obtain ⟨vs, h1, h2⟩ := he 0 q r rfl rfl
    obtain ⟨f1, f2, f3⟩ := hf q List.mem_cons_self
    have sm := same_upd (o := HO.lst vs) f2
    have s2 := s.freeze h1 f2 f1 f3
    obtain ⟨G', s', m', rp, out⟩ := give s2 (by simpa using hl) nd' (fun j q' r' a b => by
      obtain ⟨ws, k1, k2⟩ := he (j + 1) q' r' (by simpa using a) (by simpa using b)
      exact ⟨ws, k1, k2.up sm⟩) (fun q' hq' => by
      obtain ⟨g1, g2, g3⟩ := hf q' (List.mem_cons_of_mem _ hq')
      exact ⟨g1, by rw [upd_ne (fun z => nq (by rw [← z]; exact hq'))]; exact g2, g3⟩)
    refine ⟨G', s', sm.trans m', .cons (.lst (.of (m' q _ upd_same)) (h2.up (sm.trans m'))) rp, fun a ha => ?_⟩
    rw [out a fun z => ha (List.mem_cons_of_mem _ z), upd_ne fun z => ha (by rw [z]; exact List.mem_cons_self)]
/-- all rows given away -/
theorem Nst.give {p : Addr} {qs : List Addr} {rows : List (List PyData)} (n : Nst K F Fr G p qs rows) (s : SR K Fr B σ H e G) : ∃ G', SR K F B σ H e G' ∧ Same G G' ∧ Rp K G' (.ref p) (.list (rows.map PyData.list)) := by
  have s0 := s.lessF n.sub
  have gp : G p = none := s.dsj p _ n.top
  have np := s.noF n.top
  obtain ⟨G1, s1, m1, r1, out⟩ := Ev.give (qs := qs) (rows := rows) s0 n.len n.nd (fun j q r a b => by
    obtain ⟨vs, h1, h2⟩ := n.ele j q r a b
    exact ⟨vs, s.frm q _ h1, h2⟩) (fun q hq => by
    obtain ⟨j, hj⟩ := List.mem_iff_getElem?.mp hq
    have hj2 : j < rows.length := by rw [← n.len]; exact lt_of_get hj
    obtain ⟨vs, h1, h2⟩ := n.ele j q rows[j] hj (List.getElem?_eq_getElem hj2)
    exact ⟨(n.fel q hq).1, s.dsj q _ h1, s.noF h1⟩)
  have gp1 : G1 p = none := by rw [out p fun z => (n.fel p z).2 rfl]; exact gp
  have hp : H p = some (.lst (qs.map V.ref)) := s.frm p _ n.top
  exact ⟨_, s1.freeze hp gp1 n.ftop np, m1.trans (same_upd gp1), .lst (.of upd_same) (r1.up (same_upd gp1))⟩
/-- one item of one row -/
theorem Nst.put {p q : Addr} {qs : List Addr} {rows : List (List PyData)} {j k : Nat} {r : List PyData} {vs : List V} {v : V} {d : PyData} (n : Nst K F Fr G p qs rows) (hq : qs[j]? = some q) (hr : rows[j]? = some r) (hv : Fr q = some (.lst vs)) (rv : RpAll K G vs r) (h : Rp K G v d) :
    Nst K F (upd Fr q (.lst (vs.set k v))) G p qs (rows.set j (r.set k d)) := by
  have mq : q ∈ qs := List.mem_of_getElem? hq
  obtain ⟨f1, f2⟩ := n.fel q mq
  refine ⟨fun a o z => ?_, ?_, n.ftop, by simpa using n.len, fun i q' r' a b => ?_, n.fel, n.nd⟩
  · rw [upd_ne (ne_of_none z f1)]; exact n.sub a o z
  · rw [upd_ne (Ne.symm f2)]; exact n.top
  · by_cases hi : i = j
    · subst hi
      rw [hq] at a
      cases a
      rw [List.getElem?_set_self (lt_of_get hr)] at b
      cases b
      exact ⟨_, upd_same, rv.set h k⟩
    · rw [List.getElem?_set_ne (Ne.symm hi)] at b
      obtain ⟨ws, h1, h2⟩ := n.ele i q' r' a b
      have ne : q' ≠ q := fun z => by
        subst z
        have i1 := lt_of_get a
        have i2 := lt_of_get hq
        rw [List.getElem?_eq_getElem i1] at a
        rw [List.getElem?_eq_getElem i2] at hq
        exact hi ((List.getElem_inj n.nd).mp ((Option.some.inj a).trans (Option.some.inj hq).symm))
      exact ⟨ws, by rw [upd_ne ne]; exact h1, h2⟩
end
end Ev

set_option Elab.async false
set_option linter.all false
set_option maxRecDepth 100000
set_option maxHeartbeats 4000000
/-! EvV: rows made by a comprehension, written in loops, given away. -/
namespace Ev
open PySem PySem.Spec L2
def rowOf : PyData → Option (List PyData)
  | .list ds => some ds
  | _ => none
def freshL (r : RV) : Option PyData := match r.fr, r.d with
  | true, .list ds => some (.list ds)
  | _, _ => none
theorem freshL_some {r : RV} {d : PyData} (h : freshL r = some d) : ∃ ds, d = .list ds ∧ r = ⟨.list ds, true⟩ := by
  obtain ⟨rd, fr⟩ := r
  cases fr with
  | false => cases rd <;> cases h
  | true => cases rd <;> cases h; exact ⟨_, rfl, rfl⟩
def turnN (bt : PyData → M Unit) (me : M RV) (d : PyData) : M (Option PyData) := do
  bt d
  let r ← me
  let y ← liftO (freshL r)
  pure (some y)
def rowsOf : List PyData → Option (List (List PyData))
  | [] => some []
  | .list ds :: r => (rowsOf r).map (ds :: ·)
  | _ => none
theorem rowsOf_map : ∀ rows : List (List PyData), rowsOf (rows.map PyData.list) = some rows
  | [] => rfl
  | r :: rows => by simp [rowsOf, rowsOf_map rows]
theorem rowsOf_app {ds : List PyData} {rows : List (List PyData)} {r : List PyData} (h : rowsOf ds = some rows) : rowsOf (ds ++ [.list r]) = some (rows ++ [r]) := by
  induction ds generalizing rows with
  | nil => cases h; rfl
  | cons d ds ih =>
    cases d <;> try cases h
    rename_i xs
    cases q : rowsOf ds with
    | none => simp [rowsOf, q] at h
    | some t =>
      simp [rowsOf, q] at h
      subst h
      simp [rowsOf, ih q]
def isUn : Option Sl → Bool
  | some .un => true
  | _ => false
/-- an evaluation leaves slot i as it is -/
def keepM {α : Type} (i : Nat) (m : M α) : M α := fun e => match m e with
  | some (.ok a e') => if isUn e'[i]? = true then some (.ok a e') else none
  | _ => none
def nnilM (rows : List (List PyData)) : M (List (List PyData)) := pure rows
def nthenM (f g : List (List PyData) → M (List (List PyData))) (rows : List (List PyData)) : M (List (List PyData)) := do
  let r ← f rows
  g r
def nifM (i : Nat) (mc : M Bool) (f g : List (List PyData) → M (List (List PyData))) (rows : List (List PyData)) : M (List (List PyData)) := do
  let t ← keepM i mc
  if t then f rows else g rows
/-- what is wanted with the rows in the frame -/
def tN (K : PySem.W.Frag) (i : Nat) (b : List (List PyData) → M (List (List PyData))) : TS := fun D σ H => ∃ e G F Fr B p qs rows, SR K Fr B σ H e G ∧ Nst K F Fr G p qs rows ∧ σ[i]? = some (some (.ref p)) ∧ e[i]? = some .un ∧
  Ok (b rows) e (fun rows' e' => ∀ σ' H' G' Fr', SR K Fr' B σ' H' e' G' → Same G G' → Nst K F Fr' G' p qs rows' → σ'[i]? = some (some (.ref p)) → e'[i]? = some .un → D.nx σ' H') fun _ _ => False
abbrev NS (X : Cx) (i : Nat) (st : Stmt) (b : List (List PyData) → M (List (List PyData))) : Prop := PS X st (tN X.K i b)
abbrev NSs (X : Cx) (i : Nat) (st : List Stmt) (b : List (List PyData) → M (List (List PyData))) : Prop := PSs X st (tN X.K i b)
section
variable {X : Cx} {i : Nat} {st : Stmt} {sts a b : List Stmt} {c : Expr} {pos : Pos}
theorem ns_nil : NSs X i [] nnilM := weakSs pss_nil fun D σ H ⟨e, G, F, Fr, B, p, qs, rows, s, n, h1, h2, k⟩ => k σ H G Fr s (.refl _) n h1 h2
theorem ns_cons {f g : List (List PyData) → M (List (List PyData))} (h : NS X i st f) (hs : NSs X i sts g) : NSs X i (st :: sts) (nthenM f g) := weakSs (pss_cons h hs) fun D σ H ⟨e, G, F, Fr, B, p, qs, rows, s, n, h1, h2, k⟩ =>
  ⟨e, G, F, Fr, B, p, qs, rows, s, n, h1, h2, (ok_bind.mp k).imp (fun r e1 k1 σ1 H1 G1 Fr1 s1 m1 n1 z1 z2 => ⟨e1, G1, F, Fr1, B, p, qs, r, s1, n1, z1, z2, k1.imp (fun _ _ k2 σ2 H2 G2 Fr2 s2 m2 n2 y1 y2 => k2 σ2 H2 G2 Fr2 s2 (m1.trans m2) n2 y1 y2) fun _ _ w => w⟩) fun _ _ w => w⟩
theorem ok_keep {α : Type} {i : Nat} {m : M α} {e : En} {P : α → En → Prop} {W W' : Exn → En → Prop} (h : Ok (keepM i m) e P W) : Ok m e (fun a e' => e'[i]? = some .un ∧ P a e') W' := by
  unfold Ok keepM at *
  cases q : m e with
  | none => rw [q] at h; exact h
  | some r =>
    rw [q] at h
    cases r with
    | ex x e' => exact h.elim
    | ok a e' =>
      dsimp only at h ⊢
      split at h
      · exact h.elim
      · rename_i a2 e2 z
        split at z
        · rename_i w
          cases z
          cases w3 : e'[i]? with
          | none => rw [w3] at w; cases w
          | some y =>
            rw [w3] at w
            cases y with
            | un => exact ⟨rfl, h⟩
            | vl d => cases w
            | ow b ds => cases w
        · cases z
      · rename_i x e2 z
        split at z <;> cases z
theorem ns_if {mc : M Bool} {f g : List (List PyData) → M (List (List PyData))} (hc : SB X W0 c mc) (ha : NSs X i a f) (hb : NSs X i b g) : NS X i (.If c a b pos) (nifM i mc f g) :=
  weakS (ps_if hc ha hb) fun D σ H ⟨e, G, F, Fr, B, p, qs, rows, s, n, h1, h2, k⟩ => by
    refine ⟨e, G, Fr, B, s, (ok_keep (ok_bind.mp k)).imp (fun t e1 ⟨y, k1⟩ H1 G1 s1 m1 => ?_) fun _ _ w => w⟩
    cases t with
    | true => exact iteT ⟨e1, G1, F, Fr, B, p, qs, rows, s1, n.up m1, h1, y, Ok.imp (show Ok (f rows) e1 _ _ from k1) (fun _ _ k2 σ2 H2 G2 Fr2 s2 m2 n2 y1 y2 => k2 σ2 H2 G2 Fr2 s2 (m1.trans m2) n2 y1 y2) fun _ _ w => w⟩
    | false => exact iteF ⟨e1, G1, F, Fr, B, p, qs, rows, s1, n.up m1, h1, y, Ok.imp (show Ok (g rows) e1 _ _ from k1) (fun _ _ k2 σ2 H2 G2 Fr2 s2 m2 n2 y1 y2 => k2 σ2 H2 G2 Fr2 s2 (m1.trans m2) n2 y1 y2) fun _ _ w => w⟩
/-- rows[j][k] = .. -/
def rowAt (rows : List (List PyData)) (j : PyData) : Option Nat := (intO j).bind (ixN rows.length)
def putAt (rows : List (List PyData)) (x : Nat) (k d : PyData) : Option (List (List PyData)) := (intO k).bind fun k => (rows[x]?).bind fun r => (ixN r.length k).map fun y => rows.set x (r.set y d)
def nsetM (i : Nat) (mv : M RV) (mj mk : M OV) (rows : List (List PyData)) : M (List (List PyData)) := do
  let r ← keepM i mv
  let o ← keepM i mj
  let j ← der o
  let x ← liftO (rowAt rows j)
  let o2 ← keepM i mk
  let k ← der o2
  liftO (putAt rows x k r.d)
theorem ns_set {x ej ek ev : Expr} {mv : M RV} {mj mk : M OV} {p1 p2 : Pos} (hx : PE X x (tVar i)) (hv : SV X W0 ev mv) (hj : SO X W0 ej mj) (hk : SO X W0 ek mk) (hp : PlainIx ej)
    (hs : swapsWithSole [.Subscript (.Subscript x ej p1) ek p2] ev pos.line X.env = pure false) (hw : swappedStores [.Subscript (.Subscript x ej p1) ek p2] ev X.env = pure none)
    (h1 : (assignEach [.Subscript (.Subscript x ej p1) ek p2] X.env).map (·.2) = [assign (.Subscript (.Subscript x ej p1) ek p2) X.env])
    (ha : ∀ v, assign (.Subscript (.Subscript x ej p1) ek p2) X.env v = (do
      let ov ← holding [v] (eval (.Subscript x ej p1) X.env)
      let iv ← holding [v, ov] (eval ek X.env)
      standAt p2
      holding [v, ov, iv] (setItem ov iv v)
      release [v, ov, iv] [])) : NS X i (.Assign [.Subscript (.Subscript x ej p1) ek p2] ev pos) (nsetM i mv mj mk) :=
  weakS (ps_asg hv (pg_sub (pe_ix ix_seq hx hj hp) hk set_list ha) hs hw h1) fun D σ H ⟨e, G, F, Fr, B, p, qs, rows, s, n, z1, z2, k⟩ => by
    refine ⟨e, G, Fr, B, s, (ok_keep (ok_bind.mp k)).imp (fun r e1 ⟨y1, k1⟩ v H1 G1 s1 m1 rr => ?_) fun _ _ w => w⟩
    obtain ⟨G2, s2, m2, r2⟩ := rr.freeze s1
    have m12 := m1.trans m2
    refine ⟨_, z1, e1, G2, Fr, B, s2, (ok_keep (ok_bind.mp k1)).imp (fun oj e2 ⟨y2, k2⟩ vj H3 G3 s3 m3 rj => ?_) fun _ _ w => w⟩
    obtain ⟨dj, hj, k3⟩ := s3.der rj (ok_bind.mp k2)
    obtain ⟨x, hx0, k4⟩ := ok_liftO.mp (ok_bind.mp k3)
    obtain ⟨jj, hjj, hx1⟩ := Option.bind_eq_some_iff.mp hx0
    obtain rfl := intO_some hjj
    cases hj.int
    have xl : x < rows.length := ixN_get hx1
    have xq : x < qs.length := by rw [n.len]; exact xl
    have n3 := (n.up m12).up m3
    refine .inl ⟨p, _, jj, _, rfl, rfl, .inl (.of (s3.frm p _ n.top)), by unfold atI; rw [List.length_map, n.len, hx1]; show (qs.map V.ref)[x]? = _; rw [List.getElem?_map, List.getElem?_eq_getElem xq]; rfl, ?_⟩
    refine ⟨e2, G3, Fr, B, s3, (ok_keep (ok_bind.mp k4)).imp (fun ok_ e3 ⟨y3, k5⟩ vk H4 G4 s4 m4 rk => ?_) fun _ _ w => w⟩
    obtain ⟨dk, hk2, k6⟩ := s4.der rk (ok_bind.mp k5)
    obtain ⟨rows', hr', k7⟩ := ok_liftO.mp k6
    obtain ⟨kk, hkk, hr1⟩ := Option.bind_eq_some_iff.mp hr'
    obtain rfl := intO_some hkk
    cases hk2.int
    obtain ⟨row, hrow, hr2⟩ := Option.bind_eq_some_iff.mp hr1
    cases hy : ixN row.length kk with
    | none => rw [hy] at hr2; cases hr2
    | some y =>
      rw [hy] at hr2
      cases hr2
      have n4 := n3.up m4
      have hq : qs[x]? = some qs[x] := List.getElem?_eq_getElem xq
      obtain ⟨vs, f1, f2⟩ := n4.ele x _ row hq hrow
      refine ⟨_, vs, kk, y, rfl, rfl, s4.frm _ _ f1, by rw [f2.len]; exact hy, ?_⟩
      have s5 : SR X.K (upd Fr qs[x] (.lst vs)) B σ H4 e3 G4 := by rw [upd_self f1]; exact s4
      exact k7 σ _ G4 _ (s5.frame (o' := .lst (vs.set y v))) ((m12.trans m3).trans m4) (n4.put hq hrow f1 f2 (r2.up (m3.trans m4))) z1 y3
/-- for d in ..: body -/
def nforGo (step : PyData → List (List PyData) → M (List (List PyData))) : List PyData → List (List PyData) → M (List (List PyData))
  | [], rows => pure rows
  | d :: ds, rows => do
    let r ← step d rows
    nforGo step ds r
def nforM (i : Nat) (mi : M (List PyData)) (bt : PyData → M Unit) (f : List (List PyData) → M (List (List PyData))) (rows : List (List PyData)) : M (List (List PyData)) := do
  let items ← keepM i mi
  nforGo (fun d rows => do keepM i (bt d); f rows) items rows
theorem ns_for (pr : Bool) (sl : List Nat) {tg iter : Expr} {body : List Stmt} {mi : M (List PyData)} {bt : PyData → M Unit} {f : List (List PyData) → M (List (List PyData))} (hsl : i ∉ sl) (hp : PassesOwn (model X.prog X.w) X.A X.env X.xe) (hc : X.calm = true) (hi : SI X W0 pr tg iter mi) (hg : SG X W0 pr tg sl bt) (hb : NSs X i body f)
    (hs : ∀ x, foldedSetIterable iter X.env x = pure x) : NS X i (.For tg iter body [] pos) (nforM i mi bt f) := weakS (ps_for hp hc hi hg hb hs) fun D σ H ⟨e, G, F, Fr, B, p, qs, rows, s, n, z1, z2, k⟩ => by
  refine ⟨e, G, Fr, B, s, (ok_keep (ok_bind.mp k)).imp (fun items e1 ⟨y1, k1⟩ J H1 G1 s1 m1 it => ?_) fun _ _ w => w⟩
  let Pv : Nat → St → Hp → Prop := fun j σ H => ∃ e G Fr rows, SR X.K Fr B σ H e G ∧ Same G1 G ∧ Nst X.K F Fr G p qs rows ∧ σ[i]? = some (some (.ref p)) ∧ e[i]? = some .un ∧
    Ok (nforGo (fun d rows => do keepM i (bt d); f rows) (items.drop j) rows) e (fun rows' e' => ∀ σ' H' G' Fr', SR X.K Fr' B σ' H' e' G' → Same G G' → Nst X.K F Fr' G' p qs rows' → σ'[i]? = some (some (.ref p)) → e'[i]? = some .un → D.nx σ' H') fun _ _ => False
  refine ⟨fun j m σ H => m = items.length - j ∧ j ≤ items.length ∧ Pv j σ H, ⟨_, rfl, Nat.zero_le _, e1, G1, Fr, rows, s1, .refl _, n.up m1, z1, y1, k1.imp (fun _ _ k2 σ2 H2 G2 Fr2 s2 m2 n2 a b => k2 σ2 H2 G2 Fr2 s2 (m1.trans m2) n2 a b) fun _ _ w => w⟩, ?_⟩
  rintro j m σ H ⟨rfl, hj, e, G, Fr, rows, s, sm, n, z1, z2, go⟩
  by_cases hlt : j < items.length
  · refine .inr ⟨it.go j H hlt (sm.trans s.sub), fun σ' H' => j + 1 ≤ items.length ∧ Pv (j + 1) σ' H', fun σ' H' q => ⟨_, by omega, rfl, q.1, q.2⟩, fun x H' y => ?_⟩
    obtain ⟨d, hd, hy⟩ := it.yld j H x H' hlt (sm.trans s.sub) y
    have hx : ∃ G', SR X.K Fr B σ H' e G' ∧ Same G G' ∧ RpP X.K pr G' x d := by
      rcases hy with ⟨rfl, rfl, r⟩ | ⟨a, vs, es, rfl, hp, rfl, rfl, rfl, r⟩
      · exact ⟨G, s, .refl _, r.up sm⟩
      · obtain ⟨s', m', r'⟩ := s.pair (r.up sm) hp
        exact ⟨_, s', m', r'⟩
    obtain ⟨G', s', m', r'⟩ := hx
    have dr : items.drop j = d :: items.drop (j + 1) := by
      rw [List.drop_eq_getElem_cons hlt]
      congr 1
      rw [List.getElem?_eq_getElem hlt] at hd
      exact Option.some.inj hd
    rw [dr] at go
    have go := ok_bind.mp go
    refine ⟨d, e, G', Fr, B, s', r', (ok_keep (ok_bind.mp go)).imp (fun _ e2 ⟨y2, k2⟩ σ2 H2 G2 s2 m2 ch => ?_) fun _ _ w => w⟩
    refine ⟨e2, G2, F, Fr, B, p, qs, rows, s2, (n.up m').up m2, by rw [ch.2 i hsl]; exact z1, y2, Ok.imp k2 (fun rows' e3 k3 σ3 H3 G3 Fr3 s3 m3 n3 a3 b3 => ?_) fun _ _ w => w⟩
    exact ⟨hlt, e3, G3, Fr3, rows', s3, sm.trans (m'.trans (m2.trans m3)), n3, a3, b3, Ok.imp k3 (fun _ _ k4 σ4 H4 G4 Fr4 s4 m4 n4 a4 b4 => k4 σ4 H4 G4 Fr4 s4 ((m'.trans (m2.trans m3)).trans m4) n4 a4 b4) fun _ _ w => w⟩
  · obtain rfl : j = items.length := by omega
    rw [List.drop_length] at go
    have go : ∀ σ' H' G' Fr', SR X.K Fr' B σ' H' e G' → Same G G' → Nst X.K F Fr' G' p qs rows → σ'[i]? = some (some (.ref p)) → e[i]? = some .un → D.nx σ' H' := go
    exact .inl ⟨it.stop H (sm.trans s.sub), go σ H G Fr s (.refl _) n z1 z2⟩
end
end Ev

set_option Elab.async false
set_option linter.all false
set_option maxRecDepth 100000
set_option maxHeartbeats 4000000
/-! EvX: the block that makes rows, writes them, gives them away. -/
namespace Ev
open PySem PySem.Spec L2
open Classical in
noncomputable def frameN (F Fr : Hp) (p : Addr) (qs : List Addr) : Hp := fun a => if a = p ∨ a ∈ qs then Fr a else F a
theorem set_same_self {α : Type} {l : List α} {i : Nat} {a : α} (h : l[i]? = some a) : l.set i a = l := by
  refine List.ext_getElem? fun j => ?_
  by_cases e : j = i
  · subst e
    rw [List.getElem?_set_self (lt_of_get h), h]
  · rw [List.getElem?_set_ne (Ne.symm e)]
section
variable {X : Cx} {W : WX}
theorem t_lcN {pr : Bool} {own sl : List Nat} {mi : M (List PyData)} {bt : PyData → M Unit} {me : M RV} (hsl : ∀ i ∈ sl, i ∈ own) {σ : St} {H : Hp} {Q : VK} {e0 : En} {G0 F : Hp} {B : List (Nat × Addr)} (s0 : SR X.K F B σ H e0 G0)
    (k : Ok (lcM own mi (turnN bt me)) e0 (fun r e' => ∀ p H' G' Fr qs rows, SR X.K Fr B σ H' e' G' → Same G0 G' → Nst X.K F Fr G' p qs rows → r.d = .list (rows.map PyData.list) → Q (.ref p) H') (WE X.K X.mg W F B G0)) :
    tLc (tI X.K X.mg W pr mi) (tG X.K X.mg W0 pr sl bt) (tBo X.K X.mg W0 (pure true)) (tV X.K X.mg W0 me) own σ H Q := by
  refine ⟨e0, G0, F, B, s0, (ok_bind.mp k).imp (fun items e1 k1 J H1 G1 s1 m1 it => ?_) fun _ _ w => w⟩
  intro D hD
  obtain ⟨ds, e2, hgo, kP⟩ := ok_lcRun k1
  let hid := hidF F σ H1 e1 own
  have sh := s1.hide own
  have hidD : hid D = none := sh.frm.free hD
  have FD : F D = none := s1.frm.free hD
  let Pv : Nat → Hp → Prop := fun i H => ∃ e G Fr qs rows, SR X.K Fr B (wipe σ own) H e G ∧ Same G1 G ∧ Nst X.K hid Fr G D qs rows ∧ lcGo own (turnN bt me) (items.drop i) e (rows.map PyData.list) = some (ds, e2)
  refine ⟨fun i m H => m = items.length - i ∧ i ≤ items.length ∧ Pv i H, ⟨_, rfl, Nat.zero_le _, wipeE e1 own, G1, upd hid D (.lst []), [], [], sh.newFr hD, .refl _, ⟨same_upd hidD, upd_same, hidD, rfl, fun j q r a _ => (by simp at a), fun q hq => (by cases hq), List.nodup_nil⟩, hgo⟩, ?_⟩
  rintro i m H ⟨rfl, hi, e, G, Fr, qs, rows, s, sm, n, go⟩
  by_cases hlt : i < items.length
  · refine .inr ⟨it.go i H hlt (sm.trans s.sub), fun H => i + 1 ≤ items.length ∧ Pv (i + 1) H, fun H' q => ⟨_, by omega, rfl, q.1, q.2⟩, fun x H' y => ?_⟩
    obtain ⟨d, hd, hy⟩ := it.yld i H x H' hlt (sm.trans s.sub) y
    have hx : ∃ G', SR X.K Fr B (wipe σ own) H' e G' ∧ Same G G' ∧ RpP X.K pr G' x d := by
      rcases hy with ⟨rfl, rfl, r⟩ | ⟨p, vs, es, rfl, hp, rfl, rfl, rfl, r⟩
      · exact ⟨G, s, .refl _, r.up sm⟩
      · obtain ⟨s', m', r'⟩ := s.pair (r.up sm) hp
        exact ⟨_, s', m', r'⟩
    obtain ⟨G', s', m', r'⟩ := hx
    have dr : items.drop i = d :: items.drop (i + 1) := by
      rw [List.drop_eq_getElem_cons hlt]
      congr 1
      rw [List.getElem?_eq_getElem hlt] at hd
      exact Option.some.inj hd
    rw [dr] at go
    unfold lcGo at go
    cases st : turnN bt me d e with
    | none => rw [st] at go; cases go
    | some rs =>
      cases rs with
      | ex x e' => rw [st] at go; cases go
      | ok o e5 =>
        rw [st] at go
        obtain ⟨_, e3, q1, q2⟩ := bind_some (m := bt d) st
        obtain ⟨r, e6, q5, q6⟩ := bind_some (m := me) q2
        obtain ⟨yd, e7, q7, q8⟩ := bind_some (m := liftO (freshL r)) q6
        have q7 : (freshL r).map (fun a => Rs.ok a e6) = some (.ok yd e7) := q7
        obtain ⟨y0, q9, q10⟩ := map_ok q7
        cases q10
        cases q8
        obtain ⟨rl, rfl, rfl⟩ := freshL_some q9
        have go : (if (rows.map PyData.list).length < most then lcGo own (turnN bt me) (items.drop (i + 1)) (wipeE e5 own) (rows.map PyData.list ++ [.list rl]) else none) = some (ds, e2) := go
        split at go
        · rename_i hz
          refine ⟨d, e, G', _, B, s', r', ok_of q1 fun σ2 H2 G2 s2 m2 n2 => ⟨?_, e3, G2, _, B, s2, fun H3 G3 s3 m3 => iteT ⟨e3, G3, _, B, s3, ok_of q5 fun y H4 G4 s4 m4 rr => ?_⟩⟩⟩
          · rw [wipe_same (σ := σ2) (τ := wipe σ own) n2.1 fun i hi => n2.2 i fun z => hi (hsl i z)]
            exact wipe_wipe
          · have wσ : wipe σ2 own = wipe σ own := by
              rw [wipe_same (σ := σ2) (τ := wipe σ own) n2.1 fun i hi => n2.2 i fun z => hi (hsl i z)]
              exact wipe_wipe
            obtain ⟨q, vs, dl, rfl, ed, z1, z2, z3, z4, z5⟩ := rr
            cases ed
            have m04 : Same G G4 := ((m'.trans m2).trans m3).trans m4
            have n4 := n.up m04
            have qD : q ≠ D := fun z => by rw [z, n.top] at z2; cases z2
            have s5 : SR X.K (upd (upd Fr q (.lst vs)) D (.lst (qs.map V.ref))) B σ2 H4 e5 G4 := by
              rw [upd_self (by rw [upd_ne (Ne.symm qD)]; exact n.top)]
              exact s4.inF z3 z1 z5
            have s6 := (s5.frame (o' := .lst ((qs ++ [q]).map V.ref))).drop own
            rw [wσ] at s6
            have qq : q ∉ qs := fun z => by
              obtain ⟨j, hj⟩ := List.mem_iff_getElem?.mp z
              have hj2 : j < rows.length := by rw [← n.len]; exact lt_of_get hj
              obtain ⟨ws, w1, _⟩ := n.ele j q rows[j] hj (List.getElem?_eq_getElem hj2)
              rw [w1] at z2
              cases z2
            have hq0 : hid q = none := n.sub.free z2
            refine ⟨qs.map V.ref, s4.frm D _ n.top, ?_, hlt, wipeE e5 own, G4, _, qs ++ [q], rows ++ [rl], by rw [show (qs.map V.ref ++ [V.ref q]) = (qs ++ [q]).map V.ref by simp]; exact s6, sm.trans m04, ⟨fun a o z => ?_, upd_same, hidD, by simp [n.len], fun j a r w1 w2 => ?_, fun a ha => ?_, ?_⟩, by simpa using go⟩
            · rw [List.length_map, n.len]
              rw [List.length_map] at hz
              exact Nat.lt_of_lt_of_le hz (by decide)
            · rw [upd_ne (ne_of_none z hidD), upd_ne (ne_of_none z hq0)]
              exact n.sub a o z
            · rcases Nat.lt_or_ge j qs.length with lj | lj
              · rw [List.getElem?_append_left lj] at w1
                rw [List.getElem?_append_left (by rw [← n.len]; exact lj)] at w2
                obtain ⟨ws, y1, y2⟩ := n4.ele j a r w1 w2
                exact ⟨ws, by rw [upd_ne (n.fel a (List.mem_of_getElem? w1)).2, upd_ne (fun z => by rw [z, z2] at y1; cases y1)]; exact y1, y2⟩
              · rw [List.getElem?_append_right lj] at w1
                rw [List.getElem?_append_right (by rw [← n.len]; exact lj), ← n.len] at w2
                cases hj : j - qs.length with
                | zero =>
                  rw [hj] at w1 w2
                  cases w1
                  cases w2
                  exact ⟨vs, by rw [upd_ne qD, upd_same], z4⟩
                | succ t => rw [hj] at w1; simp at w1
            · rcases List.mem_append.mp ha with ha | ha
              · exact n.fel a ha
              · rw [List.mem_singleton] at ha
                subst ha
                exact ⟨hq0, qD⟩
            · exact List.nodup_append.mpr ⟨n.nd, by simp, fun a ha b hb z => by
                rw [List.mem_singleton] at hb
                exact qq (by rw [← hb, ← z]; exact ha)⟩
        · cases go
  · obtain rfl : i = items.length := by omega
    rw [List.drop_length] at go
    have go : some (rows.map PyData.list, e) = some (ds, e2) := go
    cases go
    have keep : ∀ a o, upd hid D (.lst (qs.map V.ref)) a = some o → Fr a = some o := fun a o z => by
      by_cases h : a = D
      · subst h; rw [upd_same] at z; rw [← z]; exact n.top
      · rw [upd_ne h] at z; exact n.sub a o z
    have sb := s1.back (s.lessF keep) sm hD
    have fq : ∀ q ∈ qs, F q = none := fun q hq => by
      cases z : F q with
      | none => rfl
      | some o =>
        have z2 : hid q = some o := hid_F s1 z
        rw [(n.fel q hq).1] at z2
        cases z2
    -- what the frame holds anew is no slot's
    have no : ∀ a o, hid a = none → Fr a = some o → a ≠ D → ∀ (j : Nat) (b : Bool) (es : List PyData), (backE e1 e2 own)[j]? = some (.ow b es) → σ[j]? ≠ some (some (.ref a)) := fun a o h1 h2 _ j b es q z => by
      rcases backE_in q with ⟨mj, w⟩ | ⟨mj, w⟩
      · rw [List.getD_eq_getElem?_getD] at w
        cases w1 : e1[j]? with
        | none => rw [w1] at w; cases w
        | some x =>
          rw [w1] at w
          have w : x = .ow b es := w.symm
          subst w
          obtain ⟨p, ws, k1, k2, k3, k4, _⟩ := s1.ows j b es w1
          rw [z] at k1
          cases k1
          have : hid a = H1 a := hid_of mj w1 z
          rw [h1, k4] at this
          cases this
      · obtain ⟨p, ws, k1, k2, k3, _⟩ := s.ows j b es w
        rw [wipe_out' mj, z] at k1
        cases k1
        rw [h2] at k3
        cases k3
    have elq : ∀ q ∈ qs, ∃ vs, Fr q = some (.lst vs) := fun q hq => by
      obtain ⟨j, hj⟩ := List.mem_iff_getElem?.mp hq
      have hj2 : j < rows.length := by rw [← n.len]; exact lt_of_get hj
      obtain ⟨ws, w1, _⟩ := n.ele j q rows[j] hj (List.getElem?_eq_getElem hj2)
      exact ⟨ws, w1⟩
    have Dq : D ∉ qs := fun z => (n.fel D z).2 rfl
    have inN : ∀ a, (a = D ∨ a ∈ qs) → frameN F Fr D qs a = Fr a := fun a h => by unfold frameN; rw [if_pos h]
    have outN : ∀ a, ¬ (a = D ∨ a ∈ qs) → frameN F Fr D qs a = F a := fun a h => by unfold frameN; rw [if_neg h]
    refine .inl ⟨it.stop H (sm.trans s.sub), kP D H G (frameN F Fr D qs) qs rows ⟨sb.len, sb.sub, fun a o z => ?_, fun a o z => ?_, sb.vls, fun j b es q => ?_, sb.dis⟩ (m1.trans sm) ⟨fun a o z => ?_, by rw [inN D (.inl rfl)]; exact n.top, FD, n.len, fun j q r a b => ?_, fun q hq => ⟨fq q hq, (n.fel q hq).2⟩, n.nd⟩ rfl⟩
    · by_cases h : a = D ∨ a ∈ qs
      · rw [inN a h] at z; exact s.frm a o z
      · rw [outN a h] at z; exact sb.frm a o z
    · by_cases h : a = D ∨ a ∈ qs
      · rw [inN a h] at z; exact s.dsj a o z
      · rw [outN a h] at z; exact sb.dsj a o z
    · obtain ⟨p, ws, k1, k2, k3, k4, k5, k6⟩ := sb.ows j b es q
      refine ⟨p, ws, k1, k2, ?_, k4, k5, k6⟩
      rw [outN p]
      · exact k3
      · intro h
        rcases h with h | h
        · subst h
          rcases backE_in q with ⟨mj, w⟩ | ⟨mj, w⟩
          · rw [List.getD_eq_getElem?_getD] at w
            cases w1 : e1[j]? with
            | none => rw [w1] at w; cases w
            | some x =>
              rw [w1] at w
              have w : x = .ow b es := w.symm
              subst w
              obtain ⟨p', ws', y1, y2, y3, y4, _⟩ := s1.ows j b es w1
              rw [k1] at y1
              cases y1
              rw [hD] at y4
              cases y4
          · obtain ⟨p', ws', y1, y2, y3, _⟩ := s.ows j b es w
            rw [wipe_out' mj, k1] at y1
            cases y1
            rw [n.top] at y3
            cases y3
        · obtain ⟨vs, hv⟩ := elq p h
          exact no p _ (n.fel p h).1 hv (n.fel p h).2 j b es q k1
    · rw [outN a]
      · exact z
      · rintro (h | h)
        · rw [h, FD] at z; cases z
        · rw [fq a h] at z; cases z
    · obtain ⟨vs, h1, h2⟩ := n.ele j q r a b
      exact ⟨vs, by rw [inN q (.inr (List.mem_of_getElem? a))]; exact h1, h2⟩
/-- slot i is forgotten -/
theorem SR.setUn {K : PySem.W.Frag} {F : Hp} {B : List (Nat × Addr)} {σ : St} {H : Hp} {e : En} {G : Hp} (s : SR K F B σ H e G) (i : Nat) (v : Option V) : SR K F B (σ.set i v) H (e.set i .un) G := by
  refine ⟨by simp [s.len], s.sub, s.frm, s.dsj, fun j d q => ?_, fun j b ds q => ?_, fun j l b c ds es p q1 q2 q3 q4 => ?_⟩
  · rcases set_get q with ⟨_, w⟩ | ⟨ne, w⟩
    · cases w
    · obtain ⟨x, h1, h2⟩ := s.vls j d w
      exact ⟨x, by rw [List.getElem?_set_ne (Ne.symm ne)]; exact h1, h2⟩
  · rcases set_get q with ⟨_, w⟩ | ⟨ne, w⟩
    · cases w
    · obtain ⟨p, vs, h1, r⟩ := s.ows j b ds w
      exact ⟨p, vs, by rw [List.getElem?_set_ne (Ne.symm ne)]; exact h1, r⟩
  · rcases set_get q1 with ⟨_, w⟩ | ⟨ne, w⟩
    · cases w
    · rcases set_get q2 with ⟨_, w'⟩ | ⟨ne2, w'⟩
      · cases w'
      · rw [List.getElem?_set_ne (Ne.symm ne)] at q3
        rw [List.getElem?_set_ne (Ne.symm ne2)] at q4
        exact s.dis j l b c ds es p w w' q3 q4
def unM (i : Nat) : M Unit := fun e => if i < e.length then some (.ok () (e.set i .un)) else none
theorem ok_un {i : Nat} {e : En} {P : Unit → En → Prop} {W : Exn → En → Prop} (h : Ok (unM i) e P W) : i < e.length ∧ P () (e.set i .un) := by
  unfold Ok unM at h
  by_cases q : i < e.length
  · rw [if_pos q] at h; exact ⟨q, h⟩
  · rw [if_neg q] at h; exact h.elim
def rowsD (d : PyData) : Option (List (List PyData)) := (rowOf d).bind rowsOf
def nestM (i : Nat) (own : List Nat) (mi : M (List PyData)) (bt : PyData → M Unit) (me : M RV) (f : List (List PyData) → M (List (List PyData))) (rest : M Fl) : M Fl := do
  let r ← lcM own mi (turnN bt me)
  let rows ← liftO (rowsD r.d)
  unM i
  let rows' ← noX (f rows)
  store i ⟨.list (rows'.map PyData.list), false⟩
  rest
theorem g_nest (pr : Bool) (i : Nat) (sl : List Nat) (own : List (Str × Nat)) {y : Str} {py pos spos : Pos} {elt tg iter : Expr} {scope : Scope} {mi : M (List PyData)} {bt : PyData → M Unit} {me : M RV} {st : Stmt} {sts : List Stmt} {f : List (List PyData) → M (List (List PyData))} {m : M Fl}
    (hsl : ∀ i ∈ sl, i ∈ own.map (·.2)) (hc : X.calm = true) (hN : X.N.Nodup) (hy : X.N[i]? = some y) (hyl : X.env.scope.names.lookup y = some .local)
    (hsw : swapsWith (.ListComp elt [⟨tg, iter, [], 0⟩] scope pos) (some (.Name y py)) spos.line X.env = pure true) (hi : SI X W pr tg iter mi) (ok : blkB X.N X.env.scope scope own = true)
    (hg : ∀ (s : Shared) (H : Hp) (C : Addr) (cl : List (Str × Addr)) (fp : List Addr), SG (X.blk s H scope (compEnvC scope cl C X.env) fp) W0 pr tg sl bt)
    (he : ∀ (s : Shared) (H : Hp) (C : Addr) (cl : List (Str × Addr)) (fp : List Addr), SV (X.blk s H scope (compEnvC scope cl C X.env) fp) W0 elt me) (hs : ∀ x, foldedSetIterable iter X.env x = pure x)
    (hf : NS X i st f) (hr : SSs X W sts m) : SSs X W (.Assign [.Name y py] (.ListComp elt [⟨tg, iter, [], 0⟩] scope pos) spos :: st :: sts) (nestM i (own.map (·.2)) mi bt me f m) :=
  weakSs (pss_cons (ps_setLc (wi := tI X.K X.mg W pr mi) (g := tG X.K X.mg W0 pr sl bt) (tt := tBo X.K X.mg W0 (pure true)) (te := tV X.K X.mg W0 me) hc hN hy hyl hsw hi (blk_of ok) hg (fun s H C cl fp => sps_nil (W := W0)) he hs) (pss_cons hf hr)) fun D σ H ⟨en, G, F, B, s, k⟩ => by
    unfold L2.tSeq L2.tAsg
    refine t_lcN hsl s ((ok_bind.mp k).imp (fun r e1 k1 p H1 G1 Fr qs rows s1 m1 n1 ed => ?_) fun _ _ w => w)
    have k1 : Ok (do let rows ← liftO (rowsD r.d); unM i; let rows' ← noX (f rows); store i ⟨.list (rows'.map PyData.list), false⟩; m) e1 (FlP X.K F B G D) (WE X.K X.mg W F B G) := k1
    obtain ⟨rows0, h0, k2⟩ := ok_liftO.mp (ok_bind.mp k1)
    have e0 : rows0 = rows := by
      rw [ed] at h0
      have h0 : rowsOf (rows.map PyData.list) = some rows0 := h0
      rw [rowsOf_map] at h0
      exact (Option.some.inj h0).symm
    subst e0
    obtain ⟨il, k3⟩ := ok_un (ok_bind.mp k2)
    have k4 := ok_noX (W' := fun _ _ => False) (show Ok (noX (f rows0)) (e1.set i .un) (fun rows' e' => Ok (do store i ⟨.list (rows'.map PyData.list), false⟩; m) e' (FlP X.K F B G D) (WE X.K X.mg W F B G)) (WE X.K X.mg W F B G) from ok_bind.mp k3)
    have isl : i < σ.length := by rw [← s1.len]; exact il
    refine ⟨e1.set i .un, G1, F, Fr, B, p, qs, rows0, s1.setUn i _, n1, List.getElem?_set_self isl, List.getElem?_set_self il, k4.imp (fun rows' e2 k5 σ2 H2 G2 Fr2 s2 m2 n2 z1 z2 => ?_) fun _ _ w => w⟩
    obtain ⟨G3, s3, m3, r3⟩ := n2.give s2
    obtain ⟨_, k6⟩ := ok_store (ok_bind.mp k5)
    have s4 := s3.set (i := i) r3
    rw [show σ2.set i (some (.ref p)) = σ2 from set_same_self z1] at s4
    exact ⟨_, G3, F, B, s4, Ok.imp k6 (fun _ _ z => z.up (m1.trans (m2.trans m3))) fun _ _ z => z.up (m1.trans (m2.trans m3))⟩
end
end Ev

set_option Elab.async false
set_option linter.all false
set_option maxRecDepth 100000
set_option maxHeartbeats 4000000
/-! EvXa: a comprehension over a list of one's own that stays one's own. -/
namespace Ev
open PySem PySem.Spec L2
section
variable {K : PySem.W.Frag} {F : Hp} {B : List (Nat × Addr)} {σ : St} {H : Hp} {e : En} {G : Hp}
/-- a list of one's own into the frame -/
theorem SR.lend (s : SR K F B σ H e G) {i : Nat} {b : Bool} {ds : List PyData} {p : Addr} {vs : List V} (q : e[i]? = some (.ow b ds)) (hp : σ[i]? = some (some (.ref p))) (hv : H p = some (.lst vs)) (gp : G p = none) : SR K (upd F p (.lst vs)) B σ H (e.set i .un) G := by
  have s1 := s.setUn i (some (.ref p))
  rw [set_same_self hp] at s1
  refine s1.inF hv gp fun j c es w z => ?_
  rcases set_get w with ⟨_, w⟩ | ⟨ne, w⟩
  · cases w
  · exact ne (s.dis j i c b es ds p w q z hp)
/-- and back -/
theorem SR.unlend {p : Addr} {vs : List V} {i : Nat} {b : Bool} {ds : List PyData} (s : SR K (upd F p (.lst vs)) B σ H e G) (fp : F p = none) (hu : e[i]? = some .un) (hp : σ[i]? = some (some (.ref p))) (r : RpAll K G vs ds) (hb : b = true → (i, p) ∈ B) : SR K F B σ H (e.set i (.ow b ds)) G := by
  have sm : Same F (upd F p (.lst vs)) := same_upd fp
  have s0 := s.lessF sm
  have gp : G p = none := s.dsj p _ upd_same
  have hv : H p = some (.lst vs) := s.frm p _ upd_same
  have no := s.noF (a := p) (o := .lst vs) upd_same
  refine ⟨by rw [List.length_set]; exact s0.len, s0.sub, s0.frm, s0.dsj, fun j d q => ?_, fun j c es q => ?_, fun j l c c2 es es2 p2 q1 q2 q3 q4 => ?_⟩
  · rcases set_get q with ⟨_, w⟩ | ⟨_, w⟩
    · cases w
    · exact s0.vls j d w
  · rcases set_get q with ⟨rfl, w⟩ | ⟨_, w⟩
    · cases w
      exact ⟨p, vs, hp, gp, fp, hv, r, hb⟩
    · exact s0.ows j c es w
  · rcases set_get q1 with ⟨rfl, w1⟩ | ⟨ne1, w1⟩
    · rcases set_get q2 with ⟨rfl, w2⟩ | ⟨ne2, w2⟩
      · rfl
      · rw [hp] at q3
        cases q3
        exact absurd q4 (no l c2 es2 w2)
    · rcases set_get q2 with ⟨rfl, w2⟩ | ⟨ne2, w2⟩
      · rw [hp] at q4
        cases q4
        exact absurd q3 (no j c es w1)
      · exact s0.dis j l c c2 es es2 p2 w1 w2 q3 q4
end
/-- [.. for .. in the list at slot k]: the list is not touched meanwhile -/
def lcK (k : Nat) (own : List Nat) (step : PyData → M (Option PyData)) : M RV := fun e => match e[k]? with
  | some (.ow b ds) => (lcGo own step ds (wipeE (e.set k .un) own) []).bind fun r => if isUn (backE (e.set k .un) r.2 own)[k]? = true then some (.ok ⟨.list r.1, true⟩ ((backE (e.set k .un) r.2 own).set k (.ow b ds))) else none
  | _ => none
theorem is_un {e : En} {k : Nat} (h : isUn e[k]? = true) : e[k]? = some .un := by
  unfold isUn at h
  split at h
  · assumption
  · cases h
section
variable {X : Cx} {W : WX}
theorem t_lcK {k0 : Nat} {own sl : List Nat} {bt : PyData → M Unit} {mc : M Bool} {me : M RV} (hsl : ∀ i ∈ sl, i ∈ own) {σ : St} {H : Hp} {Q : VK} (q : tV X.K X.mg W (lcK k0 own (turnM bt mc me)) σ H Q) :
    tLc (iList X.K (tVar k0)) (tG X.K X.mg W0 false sl bt) (tBo X.K X.mg W0 mc) (tV X.K X.mg W0 me) own σ H Q := by
  obtain ⟨e0, G1, F0, B, s0, k⟩ := q
  have hk : ∃ b items ds e2, e0[k0]? = some (.ow b items) ∧ lcGo own (turnM bt mc me) items (wipeE (e0.set k0 .un) own) [] = some (ds, e2) ∧ (backE (e0.set k0 .un) e2 own)[k0]? = some .un ∧
      ∀ v H' G', SR X.K F0 B σ H' ((backE (e0.set k0 .un) e2 own).set k0 (.ow b items)) G' → Same G1 G' → RR X.K F0 σ H' ((backE (e0.set k0 .un) e2 own).set k0 (.ow b items)) G' v ⟨.list ds, true⟩ → Q v H' := by
    unfold Ok lcK at k
    cases w : e0[k0]? with
    | none => simp [w] at k
    | some x =>
      cases x with
      | un => simp [w] at k
      | vl d => simp [w] at k
      | ow b items =>
        simp only [w] at k
        cases z : lcGo own (turnM bt mc me) items (wipeE (e0.set k0 .un) own) [] with
        | none => simp [z] at k
        | some r =>
          simp only [z, Option.bind_some] at k
          by_cases u : isUn (backE (e0.set k0 .un) r.2 own)[k0]? = true
          · simp only [u, if_true] at k
            exact ⟨b, items, r.1, r.2, rfl, z, is_un u, k⟩
          · simp [u] at k
  obtain ⟨b, items, ds, e2, w0, hgo, hun, kP⟩ := hk
  obtain ⟨p, vs0, hp, gp, fp, hv, rp, hb⟩ := s0.ows k0 b items w0
  have s1 : SR X.K (upd F0 p (.lst vs0)) B σ H (e0.set k0 .un) G1 := s0.lend w0 hp hv gp
  generalize hF : upd F0 p (.lst vs0) = F at *
  have Fp : F p = some (.lst vs0) := by rw [← hF, upd_same]
  generalize he1 : e0.set k0 .un = e1 at *
  refine ⟨.ref p, hp, p, rfl, ⟨vs0, .inl (.of hv)⟩, ?_⟩
  intro D hD
  have neD : p ≠ D := fun z => by rw [z, hD] at hv; cases hv
  let Pv : Nat → Hp → Prop := fun i H' => ∃ e G acc accD, SR X.K (upd (hidF F σ H e1 own) D (.lst acc)) B (wipe σ own) H' e G ∧ Same G1 G ∧ RpAll X.K G acc accD ∧ lcGo own (turnM bt mc me) (items.drop i) e accD = some (ds, e2)
  have hidp : hidF F σ H e1 own p = some (.lst vs0) := by
    unfold hidF
    split
    · exact hv
    · exact Fp
  have stay : ∀ {acc : List V} {σ' : St} {H' : Hp} {e : En} {G : Hp}, SR X.K (upd (hidF F σ H e1 own) D (.lst acc)) B σ' H' e G → SqL X.K H' p vs0 := fun s => .inl (.of (s.frm p _ (by rw [upd_ne neD]; exact hidp)))
  refine ⟨fun i m H => m = items.length - i ∧ i ≤ items.length ∧ Pv i H, ⟨_, rfl, Nat.zero_le _, wipeE e1 own, G1, [], [], (s1.hide own).newFr hD, .refl _, .nil, hgo⟩, ?_⟩
  rintro i m H0 ⟨rfl, hi, e, G, acc, accD, s, sm, ra, go⟩
  by_cases hlt : i < items.length
  · have hlt2 : i < vs0.length := by rw [rp.len]; exact hlt
    refine .inr ⟨⟨vs0, vs0[i], stay s, List.getElem?_eq_getElem hlt2⟩, fun H => Pv (i + 1) H, fun H' p => ⟨_, by omega, rfl, hlt, p⟩, fun x H' y => ?_⟩
    obtain ⟨rfl, hx⟩ := y
    obtain ⟨d, hd, r'⟩ := rp.getV (hx vs0 (stay s))
    have r' : RpP X.K false G x d := r'.up sm
    have s' := s
    have m' : Same G G := .refl _
    have dr : items.drop i = d :: items.drop (i + 1) := by
      rw [List.drop_eq_getElem_cons hlt]
      congr 1
      rw [List.getElem?_eq_getElem hlt] at hd
      exact Option.some.inj hd
    rw [dr] at go
    unfold lcGo at go
    cases st : turnM bt mc me d e with
    | none => rw [st] at go; cases go
    | some rs =>
      cases rs with
      | ex x e' => rw [st] at go; cases go
      | ok o e5 =>
        rw [st] at go
        obtain ⟨_, e3, q1, q2⟩ := bind_some (m := bt d) st
        obtain ⟨b, e4, q3, q4⟩ := bind_some (m := mc) q2
        refine ⟨d, e, G, _, B, s', r', ok_of q1 fun σ2 H2 G2 s2 m2 n2 => ⟨?_, e3, G2, _, B, s2, ok_of q3 fun H3 G3 s3 m3 => ?_⟩⟩
        · rw [wipe_same (σ := σ2) (τ := wipe σ own) n2.1 fun i hi => n2.2 i fun z => hi (hsl i z)]
          exact wipe_wipe
        · have wσ : wipe σ2 own = wipe σ own := by
            rw [wipe_same (σ := σ2) (τ := wipe σ own) n2.1 fun i hi => n2.2 i fun z => hi (hsl i z)]
            exact wipe_wipe
          have m03 : Same G1 G3 := (((sm.trans m').trans m2).trans m3)
          have fin : ∀ {H6 : Hp} {e6 : En} {G6 : Hp} {acc' : List V}, SR X.K (upd (hidF F σ H e1 own) D (.lst acc')) B σ2 H6 e6 G6 → SR X.K (upd (hidF F σ H e1 own) D (.lst acc')) B (wipe σ own) H6 (wipeE e6 own) G6 := fun s6 => by
            rw [← wσ]
            exact s6.drop own
          cases b with
          | false =>
            have q4 : (pure none : M (Option PyData)) e4 = some (.ok o e5) := q4
            cases q4
            exact iteF ⟨_, G3, acc, accD, fin s3, m03, ra.up ((m'.trans m2).trans m3), go⟩
          | true =>
            obtain ⟨r, e6, q5, q6⟩ := bind_some (m := me) q4
            cases q6
            have go : (if accD.length < most then lcGo own (turnM bt mc me) (items.drop (i + 1)) (wipeE e5 own) (accD ++ [r.d]) else none) = some (ds, e2) := go
            split at go
            · rename_i hz
              refine iteT ⟨e4, G3, _, B, s3, ok_of q5 fun y H4 G4 s4 m4 rr => ?_⟩
              obtain ⟨G5, s5, m5, r5⟩ := rr.freeze s4
              refine ⟨acc, s5.frm D _ upd_same, ?_, ?_⟩
              · rw [ra.len]
                exact Nat.lt_of_lt_of_le hz (by decide)
              · exact ⟨_, G5, acc ++ [y], accD ++ [r.d], (fin s5).frame, (m03.trans m4).trans m5, (ra.up ((((m'.trans m2).trans m3).trans m4).trans m5)).app (.cons r5 .nil), go⟩
            · cases go
  · have hin : i = items.length := by omega
    subst hin
    rw [List.drop_length] at go
    have go : some (accD, e) = some (ds, e2) := go
    cases go
    have sb := s1.back s sm hD
    have gD : G D = none := s.dsj D _ upd_same
    have noD : ∀ (j : Nat) (b : Bool) (es : List PyData), (backE e1 e2 own)[j]? = some (.ow b es) → σ[j]? ≠ some (some (.ref D)) := fun j b es q z => by
      obtain ⟨p, ws, h1, h2, h3, h4, _⟩ := sb.ows j b es q
      rw [z] at h1
      cases h1
      rcases backE_in q with ⟨mj, w⟩ | ⟨mj, w⟩
      · rw [List.getD_eq_getElem?_getD] at w
        cases w1 : e1[j]? with
        | none => rw [w1] at w; cases w
        | some x =>
          rw [w1] at w
          have w : x = .ow b es := w.symm
          subst w
          obtain ⟨p, ws, k1, k2, k3, k4, _⟩ := s1.ows j b es w1
          rw [z] at k1
          cases k1
          rw [hD] at k4
          cases k4
      · obtain ⟨p, ws, k1, k2, k3, _⟩ := s.ows j b es w
        rw [wipe_out' mj, z] at k1
        cases k1
        rw [upd_same] at k3
        cases k3
    rw [← hF] at sb
    have sf := sb.unlend fp hun hp (rp.up sm) hb
    refine .inl ⟨⟨vs0, stay s, by rw [rp.len]; exact Nat.le_refl _⟩, kP _ H0 G sf sm ⟨D, acc, ds, rfl, rfl, gD, s0.newF hD, s.frm D _ upd_same, ra, fun j c es q z => ?_⟩⟩
    rcases set_get q with ⟨rfl, w⟩ | ⟨_, w⟩
    · rw [hp] at z
      cases z
      exact neD rfl
    · exact noD j c es w z
theorem g_lcK (k0 : Nat) (sl : List Nat) (own : List (Str × Nat)) {elt tg iter : Expr} {scope : Scope} {pos : Pos} {bt : PyData → M Unit} {mc : M Bool} {me : M RV} {ifs : List Expr} (hsl : ∀ i ∈ sl, i ∈ own.map (·.2)) (hc : X.calm = true) (hN : X.N.Nodup) (hi : PE X iter (tVar k0)) (ok : blkB X.N X.env.scope scope own = true)
    (hg : ∀ (s : Shared) (H : Hp) (C : Addr) (cl : List (Str × Addr)) (fp : List Addr), SG (X.blk s H scope (compEnvC scope cl C X.env) fp) W0 false tg sl bt)
    (ht : ∀ (s : Shared) (H : Hp) (C : Addr) (cl : List (Str × Addr)) (fp : List Addr), SPs (X.blk s H scope (compEnvC scope cl C X.env) fp) W0 ifs mc)
    (he : ∀ (s : Shared) (H : Hp) (C : Addr) (cl : List (Str × Addr)) (fp : List Addr), SV (X.blk s H scope (compEnvC scope cl C X.env) fp) W0 elt me) (hs : ∀ x, foldedSetIterable iter X.env x = pure x) :
    SV X W (.ListComp elt [⟨tg, iter, ifs, 0⟩] scope pos) (lcK k0 (own.map (·.2)) (turnM bt mc me)) :=
  weakE (pe_lc hc hN (pi_list hi) (blk_of ok) hg ht he hs) fun _ _ _ q => t_lcK hsl q
end
end Ev

set_option Elab.async false
set_option linter.all false
set_option maxRecDepth 100000
set_option maxHeartbeats 4000000
/-! EvXb: list(range(..)), tuple(range(..)). -/
namespace Ev
open PySem PySem.Spec L2
section
variable {X : Cx} {W : WX}
def tTupRgZ (te : L2.St → Hp → (Int → Int → Hp → Prop) → Prop) : TE := fun σ H Q => te σ H fun a b H1 => RgOk a b ∧ NewT (rgV a b) H1 Q
theorem pe_tupRgZ {e : Expr} {te : L2.St → Hp → (Int → Int → Hp → Prop) → Prop} {p pos : Pos} (hc : X.calm = true) (hg : Gl X "tuple") (hm : X.mg "tuple" = none) (he : PRg X e te) (na : starEach [e] X.env = (false, eval e X.env) :: starEach [] X.env) : PE X (.Call (.Name "tuple" p) [e] [] pos) (tTupRgZ te) := by
  refine ⟨fun pins s σ H Q I h => ?_⟩
  refine PyProof.Rows.Call_ (ld_blt I hg hm PyProof.Rows.boot_tuple (PyProof.Rows.callWith_type1 (PyProof.Rows.args_cons (thn (he pins s σ H _ I h) fun x s1 ⟨r, a, b, t, u, v, H1, ex, hr, I1, ok, q⟩ => PyProof.Rows.args_nil ?_) na) na))
  subst ex
  obtain ⟨b1, b2, b3, b4, b5⟩ := ok
  refine call_tuple_range (n := (b - a).toNat) (I1.ok.hd hc) hr (small_one b1 b2 b3 b4) (PyProof.Rows.rangeSize_nat a b) b5 fun h' tk acc hk hi => ?_
  have I2 : Inv X pins σ H1 { s1 with heap := h', toks := tk } := I1.kept hk
  have n := newT (t := tk) I2 (vals_rg hi) (by rw [rgV_length, sizeLine_eq]; omega) q
  rw [Array.toArray_toList] at n
  exact n
theorem rg_rp {K : PySem.W.Frag} {G : Hp} (a b : Int) : RpAll K G (rgV a b) (rngI a (b - a).toNat) := by
  have h := rps_ints (K := K) (G := G) ((List.range (b - a).toNat).map fun i => a + (i : Nat))
  rw [List.map_map, List.map_map] at h
  exact h
def lrgM (m : M OV) : M RV := do
  let ds ← rng1M m
  pure ⟨.list ds, true⟩
def trgM (m : M OV) : M RV := do
  let ds ← rng1M m
  pure ⟨.tuple ds, false⟩
theorem rng_some {d : PyData} {items : List PyData} (h : rngD [d] = some items) : ∃ j, d = .int j ∧ -1000000 < j ∧ j < 1000000 ∧ items = rngI 0 (j - 0).toNat := by
  unfold rngD at h
  split at h
  · rename_i j ej
    injection ej with ej _
    subst ej
    split at h
    · rename_i z
      cases h
      exact ⟨j, rfl, z.1, z.2, by rw [Int.sub_zero]⟩
    · cases h
  · rename_i ej
    cases ej
  · cases h
theorem sv_lrg {e : Expr} {p p2 pos pos2 : Pos} {m : M OV} (hc : X.calm = true) (hg : Gl X "list") (hm : X.mg "list" = none) (hg2 : Gl X "range") (hm2 : X.mg "range" = none) (h : SO X W e m) (na2 : starEach [e] X.env = (false, eval e X.env) :: starEach [] X.env)
    (na : starEach [.Call (.Name "range" p2) [e] [] pos2] X.env = (false, eval (.Call (.Name "range" p2) [e] [] pos2) X.env) :: starEach [] X.env) : SV X W (.Call (.Name "list" p) [.Call (.Name "range" p2) [e] [] pos2] [] pos) (lrgM m) :=
  weakE (pe_listRg hc hg hm (prg_1 hg2 hm2 h na2) na) fun σ H Q ⟨en, G, F, B, s, k⟩ => by
    refine ⟨en, G, F, B, s, (ok_bind.mp (ok_bind.mp k)).imp (fun o e1 k1 v H1 G1 s1 m1 r1 => ?_) fun _ _ w => w⟩
    obtain ⟨d, hd, k2⟩ := s1.der r1 (ok_bind.mp k1)
    obtain ⟨items, hi, k3⟩ := ok_liftO.mp k2
    obtain ⟨j, rfl, z1, z2, rfl⟩ := rng_some hi
    cases hd.int
    refine ⟨j, rfl, ⟨by omega, by omega, by omega, by omega, by omega⟩, fun q hq => ?_⟩
    have k3 : Post X.K F B σ e1 G ⟨.list (rngI 0 (j - 0).toNat), true⟩ Q := k3
    exact Post.lst (fun v H' G' a b c => k3 v H' G' a (m1.trans b) c) s1 (rg_rp 0 j) hq
theorem sv_trg {e : Expr} {p p2 pos pos2 : Pos} {m : M OV} (hc : X.calm = true) (hg : Gl X "tuple") (hm : X.mg "tuple" = none) (hg2 : Gl X "range") (hm2 : X.mg "range" = none) (h : SO X W e m) (na2 : starEach [e] X.env = (false, eval e X.env) :: starEach [] X.env)
    (na : starEach [.Call (.Name "range" p2) [e] [] pos2] X.env = (false, eval (.Call (.Name "range" p2) [e] [] pos2) X.env) :: starEach [] X.env) : SV X W (.Call (.Name "tuple" p) [.Call (.Name "range" p2) [e] [] pos2] [] pos) (trgM m) :=
  weakE (pe_tupRgZ hc hg hm (prg_1 hg2 hm2 h na2) na) fun σ H Q ⟨en, G, F, B, s, k⟩ => by
    refine ⟨en, G, F, B, s, (ok_bind.mp (ok_bind.mp k)).imp (fun o e1 k1 v H1 G1 s1 m1 r1 => ?_) fun _ _ w => w⟩
    obtain ⟨d, hd, k2⟩ := s1.der r1 (ok_bind.mp k1)
    obtain ⟨items, hi, k3⟩ := ok_liftO.mp k2
    obtain ⟨j, rfl, z1, z2, rfl⟩ := rng_some hi
    cases hd.int
    refine ⟨j, rfl, ⟨by omega, by omega, by omega, by omega, by omega⟩, ?_⟩
    have k3 : Post X.K F B σ e1 G ⟨.tuple (rngI 0 (j - 0).toNat), false⟩ Q := k3
    exact Post.tup (fun v H' G' a b c => k3 v H' G' a (m1.trans b) c) s1 (rg_rp 0 j)
end
end Ev

set_option Elab.async false
set_option linter.all false
set_option maxRecDepth 100000
set_option maxHeartbeats 4000000
/-! EvXc: a list of results whose first, a list, is spoilt. -/
namespace Ev
open PySem PySem.Spec L2
/-- no list of one's own -/
def Flat (e : En) : Prop := ∀ (j : Nat) (b : Bool) (es : List PyData), e[j]? ≠ some (.ow b es)
/-- the lent list and the told one put away -/
def awayE (i l : Nat) (e : En) : En := (e.set l .un).set i .un
def toldE (i l : Nat) (e : En) (ds0 ds : List PyData) : En := (awayE i l e).set i (.vl (.list (.list ds0 :: ds)))
open Classical in
noncomputable def spoilM (i l : Nat) (m0 : M RV) (ms : M (List PyData)) (mc : M Bool) (mr : M Fl) : M Fl := fun e0 => match m0 e0 with
  | some (.ok ⟨.list ds0, true⟩ e1) => match ms e1 with
    | some (.ok ds e2) => match e2[l]? with
      | some (.ow true pd) => if i ≠ l ∧ i < e2.length ∧ ds0.length < most ∧ ds.length < most ∧ Flat (awayE i l e2) ∧ mc (toldE i l e2 ds0 ds) = some (.ok false (toldE i l e2 ds0 ds)) then mr ((awayE i l e2).set l (.ow true pd)) else none
      | _ => none
    | _ => none
  | _ => none
theorem run_spoil {i l : Nat} {m0 : M RV} {ms : M (List PyData)} {mc : M Bool} {mr : M Fl} {e0 e1 e2 : En} {ds0 ds pd : List PyData} (h0 : m0 e0 = some (.ok ⟨.list ds0, true⟩ e1)) (h1 : ms e1 = some (.ok ds e2)) (h2 : e2[l]? = some (.ow true pd)) (h3 : i ≠ l) (h4 : i < e2.length) (h5 : ds0.length < most) (h6 : ds.length < most) (h7 : Flat (awayE i l e2))
    (h8 : mc (toldE i l e2 ds0 ds) = some (.ok false (toldE i l e2 ds0 ds))) : spoilM i l m0 ms mc mr e0 = mr ((awayE i l e2).set l (.ow true pd)) := by
  unfold spoilM
  simp only [h0, h1, h2]
  exact if_pos ⟨h3, h4, h5, h6, h7, h8⟩
theorem spoil_ok {i l : Nat} {m0 : M RV} {ms : M (List PyData)} {mc : M Bool} {mr : M Fl} {e0 : En} {P : Fl → En → Prop} {Wx : Exn → En → Prop} (h : Ok (spoilM i l m0 ms mc mr) e0 P Wx) : ∃ e1 e2 ds0 ds pd, m0 e0 = some (.ok ⟨.list ds0, true⟩ e1) ∧ ms e1 = some (.ok ds e2) ∧ e2[l]? = some (.ow true pd) ∧ i ≠ l ∧ i < e2.length ∧ ds0.length < most ∧ ds.length < most ∧ Flat (awayE i l e2) ∧
    mc (toldE i l e2 ds0 ds) = some (.ok false (toldE i l e2 ds0 ds)) ∧ Ok mr ((awayE i l e2).set l (.ow true pd)) P Wx := by
  unfold Ok spoilM at h
  split at h
  · exact h.elim
  · rename_i a e' q
    split at q
    · rename_i ds0 e1 q0
      split at q
      · rename_i ds e2 q1
        split at q
        · rename_i pd q2
          split at q
          · rename_i z
            exact ⟨e1, e2, ds0, ds, pd, q0, q1, q2, z.1, z.2.1, z.2.2.1, z.2.2.2.1, z.2.2.2.2.1, z.2.2.2.2.2, by unfold Ok; rw [q]; exact h⟩
          · cases q
        · cases q
      · cases q
    · cases q
  · rename_i x e' q
    split at q
    · rename_i ds0 e1 q0
      split at q
      · rename_i ds e2 q1
        split at q
        · rename_i pd q2
          split at q
          · rename_i z
            exact ⟨e1, e2, ds0, ds, pd, q0, q1, q2, z.1, z.2.1, z.2.2.1, z.2.2.2.1, z.2.2.2.2.1, z.2.2.2.2.2, by unfold Ok; rw [q]; exact h⟩
          · cases q
        · cases q
      · cases q
    · cases q
section
variable {K : PySem.W.Frag} {F : Hp} {B : List (Nat × Addr)} {σ : St} {H : Hp} {e : En} {G : Hp}
/-- a flat state over a smaller given part -/
theorem SR.flat {G' H' : Hp} {F' : Hp} {e' : En} (s : SR K F B σ H e G) (fl : Flat e) (s' : SR K F B σ H' e' G') (m : Same G G') : SR K F B σ H' e G :=
  ⟨s.len, fun a o q => s'.sub a o (m a o q), s'.frm, s.dsj, s.vls, fun j b ds q => absurd q (fl j b ds), fun j k b c ds es p q => absurd q (fl j b ds)⟩
/-- a flat state: a place that nobody has -/
theorem SR.wild (s : SR K F B σ H e G) (fl : Flat e) {p : Addr} {o : HO} (gp : G p = none) (fp : F p = none) : SR K F B σ (upd H p o) e G := by
  refine ⟨s.len, fun a u q => ?_, fun a u q => ?_, s.dsj, s.vls, fun j b ds q => absurd q (fl j b ds), fun j k b c ds es p q => absurd q (fl j b ds)⟩
  · rw [upd_ne (ne_of_none q gp)]; exact s.sub a u q
  · rw [upd_ne (ne_of_none q fp)]; exact s.frm a u q
end
theorem atI_zero2 {α : Type} (x : α) (xs : List α) : atI (x :: xs) 0 = some x := by
  simp [atI, ixN]
section
variable {X : Cx} {W : WX}
theorem g_spoil (i l : Nat) {y : Str} {py spos lpos ipos p1 apos cpos epos : Pos} {x0 c xt x1 ea : Expr} {xs : List Expr} {a sts : List Stmt} {m0 : M RV} {ms : M (List PyData)} {mc : M Bool} {ma mr : M Fl}
    (hN : X.N.Nodup) (hy : X.N[i]? = some y) (hx : Loc X.env.scope y) (hf : X.fn y = true ∨ X.env.scope.names.lookup y = some .local) (hsw : swapsWith (.List (x0 :: xs) lpos) (some (.Name y py)) spos.line X.env = pure false)
    (h0 : SV X W x0 m0) (hs : SVs X W xs ms) (hst : starEach (x0 :: xs) X.env = (false, eval x0 X.env) :: starEach xs X.env) (hc : SB X W c mc) (ha : SSs X W a ma)
    (ht : PE X xt (tVar i)) (h1 : PE X x1 (tC (.int 0))) (hp : PlainIx x1) (hea : PE X ea (tC .non)) (k : MOk X (.Subscript xt x1 p1) "append" ea [] apos cpos) (hs2 : swapsWith (.Call (.Attribute (.Subscript xt x1 p1) "append" apos) [ea] [] cpos) none epos.line X.env = pure false)
    (hr : SSs X W sts mr) : SSs X W (.Assign [.Name y py] (.List (x0 :: xs) lpos) spos :: .If c a [] ipos :: .Expr (.Call (.Attribute (.Subscript xt x1 p1) "append" apos) [ea] [] cpos) epos :: sts) (spoilM i l m0 ms mc mr) :=
  weakSs (pss_cons (ps_set hN hy hx (pe_lst (pa_cons h0 hs hst)) hsw hf) (pss_cons (ps_if hc ha pss_nil) (pss_cons (ps_expr (pe_bm PySem.F.plainAttrs_list PySem.F.slot_list_append PySem.F.type_list_append mt_append (pe_ix ix_seq ht h1 hp) (pa_cons hea pa_nil k.star) k.base k.few k.line k.star k.plain) hs2) hr))) fun D σ H ⟨e0, G, F, B, s, kk⟩ => by
    obtain ⟨e1, e2, ds0, ds, pd, q0, q1, q2, il, ilen, len0, lens, flt, qc, kr⟩ := spoil_ok kk
    refine ⟨e0, G, F, B, s, ok_of q0 fun v H1 G1 s1 m1 rr => ?_⟩
    obtain ⟨pq, vs0, ds0', ev, ed, g1, f1, hv1, r1, no1⟩ := (show ∃ p vs ds, v = .ref p ∧ PyData.list ds0 = .list ds ∧ G1 p = none ∧ F p = none ∧ H1 p = some (.lst vs) ∧ RpAll X.K G1 vs ds ∧ ∀ (i : Nat) (b : Bool) (es : List PyData), e1[i]? = some (.ow b es) → σ[i]? ≠ some (some (.ref p)) from rr)
    cases ed
    subst ev
    have s1' : SR X.K (upd F pq (.lst vs0)) B σ H1 e1 G1 := s1.inF hv1 g1 no1
    refine ⟨e1, G1, upd F pq (.lst vs0), B, s1', ok_of q1 fun vs H2 G2 s2 m2 r2 => ?_⟩
    have hv2 : H2 pq = some (.lst vs0) := s2.frm pq _ upd_same
    have g2 : G2 pq = none := s2.dsj pq _ upd_same
    refine ⟨by rw [List.length_cons, r2.len]; exact most_line (by omega), fun p0 hp0 => ?_⟩
    have ne0 : pq ≠ p0 := fun z => by rw [z, hp0] at hv2; cases hv2
    -- the lent list
    obtain ⟨pl, vl, hpl, gl, fl0, hvl, rl, hb⟩ := s2.ows l true pd q2
    have nel : pl ≠ pq := fun z => by rw [z, upd_same] at fl0; cases fl0
    have flF : F pl = none := by rw [upd_ne nel] at fl0; exact fl0
    have nel0 : pl ≠ p0 := fun z => by rw [z, hp0] at hvl; cases hvl
    have t1 := s2.lend q2 hpl hvl gl
    have t2 := (t1.new (o := .lst (.ref pq :: vs)) hp0).setUn i (some (.ref p0))
    have ilσ : i < σ.length := by rw [← s2.len]; exact ilen
    -- the frame without the told list
    have sub3 : Same (upd F pl (.lst vl)) (upd (upd F pq (.lst vs0)) pl (.lst vl)) := fun b u w => by
      by_cases c : b = pl
      · subst c; rw [upd_same] at w ⊢; exact w
      · rw [upd_ne c] at w ⊢
        rw [upd_ne (ne_of_none w f1)]
        exact w
    have t3 : SR X.K (upd F pl (.lst vl)) B (σ.set i (some (.ref p0))) (upd H2 p0 (.lst (.ref pq :: vs))) (awayE i l e2) G2 := t2.lessF sub3
    have f3q : (upd F pl (.lst vl)) pq = none := by rw [upd_ne (Ne.symm nel)]; exact f1
    have Fp0 : F p0 = none := by
      have := s2.newF hp0
      rwa [upd_ne (Ne.symm ne0)] at this
    have f30 : (upd F pl (.lst vl)) p0 = none := by rw [upd_ne (Ne.symm nel0)]; exact Fp0
    have h3q : (upd H2 p0 (.lst (.ref pq :: vs))) pq = some (.lst vs0) := by rw [upd_ne ne0]; exact hv2
    have no3 : ∀ (p : Addr) (j : Nat) (b : Bool) (es : List PyData), (awayE i l e2)[j]? = some (.ow b es) → (σ.set i (some (.ref p0)))[j]? ≠ some (some (.ref p)) := fun p j b es w => absurd w (flt j b es)
    have t4 := t3.freeze h3q g2 f3q (no3 pq)
    have sm3 := same_upd (o := HO.lst vs0) g2
    have g30 : (upd G2 pq (.lst vs0)) p0 = none := by rw [upd_ne (Ne.symm ne0)]; exact s2.newG hp0
    have t5 := t4.freeze (p := p0) (o := .lst (.ref pq :: vs)) upd_same g30 f30 (no3 p0)
    have sm4 := same_upd (o := HO.lst (.ref pq :: vs)) g30
    have rp : Rp X.K (upd (upd G2 pq (.lst vs0)) p0 (.lst (.ref pq :: vs))) (.ref p0) (.list (.list ds0 :: ds)) :=
      .lst (.of upd_same) (.cons (.lst (.of (sm4 _ _ upd_same)) (r1.up (m2.trans (sm3.trans sm4)))) (r2.up (sm3.trans sm4)))
    have t6 := t5.set (i := i) rp
    have eσ : (σ.set i (some (.ref p0))).set i (some (.ref p0)) = σ.set i (some (.ref p0)) := set_same_self (List.getElem?_set_self ilσ)
    rw [eσ] at t6
    refine ⟨toldE i l e2 ds0 ds, _, _, B, t6, ok_of qc fun H4 G5 s4 m4 => iteF ?_⟩
    -- the told list forgotten
    have eE : toldE i l e2 ds0 ds = (awayE i l e2).set i (.vl (.list (.list ds0 :: ds))) := rfl
    have iA : i < (awayE i l e2).length := by unfold awayE; rw [List.length_set, List.length_set]; exact ilen
    have Ai : (awayE i l e2)[i]? = some .un := by unfold awayE; exact List.getElem?_set_self (by rw [List.length_set]; exact ilen)
    have s5 : SR X.K (upd F pl (.lst vl)) B (σ.set i (some (.ref p0))) H4 (awayE i l e2) G2 := by
      have m5 : Same G2 G5 := (sm3.trans sm4).trans m4
      exact ⟨t3.len, fun b u w => s4.sub b u (m5 b u w), s4.frm, t3.dsj, t3.vls, fun j b es w => absurd w (flt j b es), fun j k b c' es fs p w => absurd w (flt j b es)⟩
    have hq4 : H4 pq = some (.lst vs0) := s4.sub pq _ (m4 _ _ (sm4 _ _ upd_same))
    have h04 : H4 p0 = some (.lst (.ref pq :: vs)) := s4.sub p0 _ (m4 _ _ upd_same)
    refine ⟨.ref p0, List.getElem?_set_self ilσ, .inl ⟨_, _, _, _, rfl, rfl, .inl (.of h04), atI_zero2 _ _, .inl ⟨rfl, vs0, .inl (.of hq4)⟩, pq, vs0, .non, rfl, rfl, hq4, ?_, ?_⟩⟩
    · rw [r1.len]
      exact Nat.lt_of_lt_of_le len0 (by decide)
    · have s6 := s5.wild (o := .lst (vs0 ++ [.non])) flt g2 f3q
      have Al : (awayE i l e2)[l]? = some .un := by
        unfold awayE
        rw [List.getElem?_set_ne il]
        exact List.getElem?_set_self (lt_of_get q2)
      have σl : (σ.set i (some (.ref p0)))[l]? = some (some (.ref pl)) := by rw [List.getElem?_set_ne il]; exact hpl
      have s7 := s6.unlend flF Al σl rl hb
      exact ⟨_, G2, F, B, s7, Ok.imp kr (fun _ _ z => z.up (m1.trans m2)) fun _ _ z => z.up (m1.trans m2)⟩
end
end Ev
namespace Ev
open PySem PySem.Spec L2
/-- a list of one's own given away, without a word of the program -/
def frzAt (j : Nat) (m : M Fl) : M Fl := fun e => match e[j]? with
  | some (.ow false ds) => m ((e.set j .un).set j (.vl (.list ds)))
  | some (.vl _) => m e
  | _ => none
theorem g_frzAt {X : Cx} {W : WX} (j : Nat) {sts : List Stmt} {m : M Fl} (h : SSs X W sts m) : SSs X W sts (frzAt j m) := weakSs h fun D σ H ⟨e, G, F, B, s, k⟩ => by
  unfold Ok frzAt at k
  cases q : e[j]? with
  | none => simp [q] at k
  | some x =>
    cases x with
    | un => simp [q] at k
    | vl d =>
      simp only [q] at k
      exact ⟨e, G, F, B, s, k⟩
    | ow b ds =>
      cases b with
      | true => simp [q] at k
      | false =>
        simp only [q] at k
        obtain ⟨p, vs, h1, h2, h3, h4, h5, h6⟩ := s.ows j false ds q
        have s1 := s.setUn j (some (.ref p))
        rw [set_same_self h1] at s1
        have s2 := s1.freeze h4 h2 h3 fun i b es w z => by
          rcases set_get w with ⟨_, w⟩ | ⟨ne, w⟩
          · cases w
          · exact ne (s.dis i j b false es ds p w q z h1)
        have sm := same_upd (o := HO.lst vs) h2
        have rp : Rp X.K (upd G p (.lst vs)) (.ref p) (.list ds) := .lst (.of upd_same) (h5.up sm)
        have s3 := s2.set (i := j) rp
        rw [show σ.set j (some (.ref p)) = σ from set_same_self h1] at s3
        exact ⟨_, _, F, B, s3, Ok.imp k (fun _ _ z => z.up sm) fun _ _ z => z.up sm⟩
end Ev
namespace Ev
open PySem PySem.Spec L2
/-- a def under another global name -/
theorem cal_of2 {P : Program} {w : World} {K : PySem.W.Frag} {mg : Str → Option Value} {nm x qual : Str} {params : Arguments} {body : List Stmt} {sc : Scope} {f : Addr} {fd : FuncData} {N ps : List Str} {k : Nat} {kb : List (List Str × List Nat)} {m : M Fl} (D : FunD K nm qual params body sc [] [] f fd) (hm : mg x = some (.ref f)) (S : FnScope N ps sc)
    (hbd : ∀ (kV doc pm : Value) (an : Option Addr) (cdv ct : Value) (us : List Value), us.length = ps.length → bindArgs (PySem.W.fnOf nm qual params body sc .none kV doc pm an cdv ct) ⟨us, []⟩ = pure (ps.zip us))
    (hkb : ∀ p ∈ kb, KBinds K fd ps p.1 (mixK p.2) (mixK p.2))
    (hb : ∀ (base : Heap) (cdv : Value) (A : Around) (out : List Env) (s : Shared) (H : Hp), Room k (A.deeper (PyProof.Rows.envOfC qual sc s.heap.objs.size f cdv)) → (A.deeper (PyProof.Rows.envOfC qual sc s.heap.objs.size f cdv)).guards = some [] →
      SSs (cxOf cx0 P w K mg base N qual sc f cdv A out s H e0).nox W0 body m) : Cal P w K mg (k + 1) x ps N kb m :=
  ⟨f, fd, fun base => FnM.of D S (hb base), hm, D.kp, D.bindsN hbd, hkb⟩
end Ev

set_option Elab.async false
set_option linter.all false
set_option maxRecDepth 100000
set_option maxHeartbeats 4000000
/-! EvXd: a, b = x, y with names that inner blocks see. -/
namespace Ev
open PySem PySem.Spec L2 PyProof.Rows
section
variable {X : Cx} {W : WX} {pos : Pos}
theorem ps_par2 {i j : Nat} {x y : Str} {a b : Expr} {ta : TA} {px py pt : Pos} {kt k2 pt2} (hc : X.calm = true) (hN : X.N.Nodup) (hi : X.N[i]? = some x) (hj : X.N[j]? = some y)
    (hx : Loc X.env.scope x) (hy : Loc X.env.scope y) (fx : X.fn x = true ∨ X.env.scope.names.lookup x = some .local) (fy : X.fn y = true ∨ X.env.scope.names.lookup y = some .local) (ha : PA X [a, b] ta)
    (hw : swappedStores [.Tuple [.Name x px, .Name y py] kt pt] (.Tuple [a, b] k2 pt2) X.env = pure none)
    (hs : swapsWithSole [.Tuple [.Name x px, .Name y py] kt pt] (.Tuple [a, b] k2 pt2) pos.line X.env = pure false)
    (h1 : (assignEach [.Tuple [.Name x px, .Name y py] kt pt] X.env).map (·.2) = [assign (.Tuple [.Name x px, .Name y py] kt pt) X.env])
    (h2 : (assignEach [.Name x px, .Name y py] X.env).map (·.2) = assign (.Name x px) X.env :: (assignEach [.Name y py] X.env).map (·.2))
    (h3 : (assignEach [.Name y py] X.env).map (·.2) = assign (.Name y py) X.env :: (assignEach [] X.env).map (·.2))
    (hn : (assignEach [.Name x px, .Name y py] X.env).length = 2) (hst : (assignEach [.Name x px, .Name y py] X.env).findIdx? (·.1) = none) :
    PS X (.Assign [.Tuple [.Name x px, .Name y py] kt pt] (.Tuple [a, b] k2 pt2) pos) (tPar i j ta) := by
  refine ⟨fun pins s σ H D I h => ?_⟩
  refine wpAny_Assign_stores (Tuple_ (thn (ha.run _ pins s σ H _ I h) fun us s1 ⟨vs, H1, I1, r1, q1⟩ => ?_)) hs hw
  obtain ⟨v, w, e1, q1⟩ := q1
  subst e1
  obtain ⟨u1, u2, rfl, rv, rw'⟩ : ∃ u1 u2, us = [u1, u2] ∧ RelV v u1 ∧ RelV w u2 := by
    cases r1 with
    | cons p q =>
      cases q with
      | cons p' q' =>
        cases q'
        exact ⟨_, _, rfl, p, p'⟩
  refine wpAny_newObj_type ?_ (by show 2 ≤ sizeLine; decide)
  have I2 : Inv X pins σ H1 { s1 with heap := s1.heap.push { cls := .type "tuple", data := .seq [u1, u2].toArray } } := I1.kept (t' := s1.toks) fun b o e => Heap.get?_push_of_some _ e
  have go : wpAny (model X.prog X.w) X.A (assign (.Tuple [.Name x px, .Name y py] kt pt) X.env (.ref s1.heap.objs.size)) (fun _ s' => ∃ σ' H', Inv X pins σ' H' s' ∧ D.nx σ' H') X.xe { s1 with heap := s1.heap.push { cls := .type "tuple", data := .seq [u1, u2].toArray } } := by
    refine assign_Tuple_tuple (I2.ok.hd hc) (IsTup.new s1.heap _) (by rw [hn]; rfl) hst fun h' hx' => ?_
    have I3 := I2.kept (h' := h') (t' := s1.toks) fun b o e => hx' b o (Nat.ne_of_lt (Heap.lt_size e)) e
    rw [h2]
    refine assignInOrder_cons (wpAny_assign_Name (store_ok I3 hN hi hx rv (fun s2 I4 => ?_) fx))
    rw [h3]
    refine assignInOrder_cons (wpAny_assign_Name (store_ok I4 hN hj hy rw' (fun s3 I5 => assignInOrder_nil ?_) fy))
    exact ⟨_, H1, I5, q1⟩
  rw [h1]
  exact thn go fun _ s2 q => q
theorem g_par2 (i j : Nat) {x y : Str} {e1 e2 : Expr} {m n : M RV} {px py pt : Pos} {kt k2 pt2} (hc : X.calm = true) (hN : X.N.Nodup) (hi : X.N[i]? = some x) (hj : X.N[j]? = some y)
    (hx : Loc X.env.scope x) (hy : Loc X.env.scope y) (fx : X.fn x = true ∨ X.env.scope.names.lookup x = some .local) (fy : X.fn y = true ∨ X.env.scope.names.lookup y = some .local) (h1 : SV X W e1 m) (h2 : SV X W e2 n) (s1 : starEach [e1, e2] X.env = (false, eval e1 X.env) :: starEach [e2] X.env) (s2 : starEach [e2] X.env = (false, eval e2 X.env) :: starEach [] X.env)
    (hw : swappedStores [.Tuple [.Name x px, .Name y py] kt pt] (.Tuple [e1, e2] k2 pt2) X.env = pure none) (hs : swapsWithSole [.Tuple [.Name x px, .Name y py] kt pt] (.Tuple [e1, e2] k2 pt2) pos.line X.env = pure false)
    (w1 : (assignEach [.Tuple [.Name x px, .Name y py] kt pt] X.env).map (·.2) = [assign (.Tuple [.Name x px, .Name y py] kt pt) X.env])
    (w2 : (assignEach [.Name x px, .Name y py] X.env).map (·.2) = assign (.Name x px) X.env :: (assignEach [.Name y py] X.env).map (·.2))
    (w3 : (assignEach [.Name y py] X.env).map (·.2) = assign (.Name y py) X.env :: (assignEach [] X.env).map (·.2))
    (hn : (assignEach [.Name x px, .Name y py] X.env).length = 2) (hst : (assignEach [.Name x px, .Name y py] X.env).findIdx? (·.1) = none) :
    SS X W (.Assign [.Tuple [.Name x px, .Name y py] kt pt] (.Tuple [e1, e2] k2 pt2) pos) (parM i j m n) :=
  weakS (ps_par2 hc hN hi hj hx hy fx fy (pa_cons h1 (pa_cons h2 pa_nil s2) s1) hw hs w1 w2 w3 hn hst) fun D σ H ⟨en, G, F, B, s, k⟩ => by
    refine ⟨en, G, F, B, s, (ok_bind.mp k).imp (fun r e1 k1 v H1 G1 s1 m1 rr => ?_) fun _ _ w => w⟩
    have fin : ∀ {t : RV} {e2 : En} {H2 : Hp} {G2 : Hp} {w : V}, SR X.K F B σ H2 e2 G2 → Same G G2 → RR X.K F σ H2 e2 G2 v r → RR X.K F σ H2 e2 G2 w t → (∀ p p' : Addr, r.fr = true → t.fr = true → v = .ref p → w = .ref p' → p ≠ p') →
        Ok (do store i r; store j t; pure Fl.nx) e2 (FlP X.K F B G D) (WE X.K X.mg W F B G) → D.nx ((σ.set i (some v)).set j (some w)) H2 := fun {t e2 H2 G2 w} s2 m2 rv rw_ apart k3 => by
      obtain ⟨li, k4⟩ := ok_store (ok_bind.mp k3)
      obtain ⟨lj, k5⟩ := ok_store (ok_bind.mp k4)
      have sa := s2.store (i := i) rv
      refine k5 _ H2 G2 (sa.store ?_) m2
      unfold RR at rw_ ⊢
      cases hf : t.fr with
      | false => rw [hf] at rw_; exact rw_
      | true =>
        rw [hf] at rw_
        obtain ⟨p, vs, ds, rfl, z1, z2, z3, z4, z5, z6⟩ := rw_
        refine ⟨p, vs, ds, rfl, z1, z2, z3, z4, z5, fun l b es q z => ?_⟩
        rcases set_get q with ⟨rfl, w1⟩ | ⟨ne, w1⟩
        · rw [List.getElem?_set_self (by rw [← s2.len]; exact li)] at z
          cases z
          obtain ⟨d, fr⟩ := r
          cases fr with
          | false => cases d <;> cases w1
          | true =>
            exact apart p p rfl hf rfl rfl rfl
        · rw [List.getElem?_set_ne (Ne.symm ne)] at z
          exact z6 l b es w1 z
    cases hf : r.fr with
    | false =>
      refine ⟨e1, G1, F, B, s1, (ok_bind.mp k1).imp (fun t e2 k2 w H2 G2 s2 m2 rw_ => ?_) fun _ _ w => w.up m1⟩
      refine ⟨v, w, rfl, fin s2 (m1.trans m2) ?_ rw_ (fun _ _ z => by rw [hf] at z; cases z) k2⟩
      unfold RR at rr ⊢
      rw [hf] at rr ⊢
      exact Rp.up rr m2
    | true =>
      have rr' := rr
      unfold RR at rr
      rw [hf] at rr
      obtain ⟨p, vs, ds, rfl, z1, z2, z3, z4, z5, z6⟩ := rr
      refine ⟨e1, G1, upd F p (.lst vs), B, infr s1 z4 z2 z6, (ok_bind.mp k1).imp (fun t e2 k2 w H2 G2 s2 m2 rw_ => ?_) fun x e' wx => ?_⟩
      · have s2' := unfr s2 z3
        have gp : G2 p = none := s2.dsj p _ upd_same
        have rv : RR X.K F σ H2 e2 G2 (.ref p) r := by
          unfold RR
          rw [hf]
          refine ⟨p, vs, ds, rfl, z1, gp, z3, s2.frm p _ upd_same, z5.up m2, fun l b es q z => ?_⟩
          obtain ⟨p', ws, y1, _, y3, _⟩ := s2.ows l b es q
          rw [z] at y1
          cases y1
          rw [upd_same] at y3
          cases y3
        have rw2 : RR X.K F σ H2 e2 G2 w t := by
          unfold RR at rw_ ⊢
          cases ht : t.fr with
          | false => rw [ht] at rw_; exact rw_
          | true =>
            rw [ht] at rw_
            obtain ⟨p2, vs2, ds2, rfl, y1, y2, y3, y4⟩ := rw_
            refine ⟨p2, vs2, ds2, rfl, y1, y2, ?_, y4⟩
            cases q : F p2 with
            | none => rfl
            | some u => rw [upd_ne (ne_of_none q z3)] at y3; rw [q] at y3; cases y3
        refine ⟨.ref p, w, rfl, fin s2' (m1.trans m2) rv rw2 (fun a b _ ht ea eb => ?_) k2⟩
        cases ea
        unfold RR at rw_
        rw [ht] at rw_
        obtain ⟨p2, vs2, ds2, e2', y1, y2, y3, y4⟩ := rw_
        rw [eb] at e2'
        cases e2'
        intro z
        rw [← z, upd_same] at y3
        cases y3
      · exact fun C v dx σ' H' G' a b c d f => wx.up m1 C v dx σ' H' G' a (unfr b z3) c d f
end
end Ev

set_option Elab.async false
set_option linter.all false
set_option maxRecDepth 100000
set_option maxHeartbeats 4000000
/-! EvY: mirrors run. -/
namespace Ev
open PySem PySem.Spec L2
def bndR {α β : Type} (x : Option (Rs α)) (f : α → M β) : Option (Rs β) := match x with
  | none => none
  | some (.ok a e) => f a e
  | some (.ex y e) => some (.ex y e)
section
variable {α β : Type}
@[simp] theorem bndR_ok (a : α) (e : En) (f : α → M β) : bndR (some (.ok a e)) f = f a e := (rfl)
@[simp] theorem bndR_none (f : α → M β) : bndR none f = none := (rfl)
@[simp] theorem run_pure (a : α) (e : En) : (pure a : M α) e = some (.ok a e) := (rfl)
@[simp] theorem run_bind (m : M α) (f : α → M β) (e : En) : (m >>= f) e = bndR (m e) f := (rfl)
@[simp] theorem run_lift_some (a : α) (e : En) : liftO (some a) e = some (.ok a e) := (rfl)
@[simp] theorem run_ite (c : Prop) [Decidable c] (x y : M α) (e : En) : (if c then x else y) e = if c then x e else y e := by split <;> rfl
@[simp] theorem ite_ok (c : Prop) [Decidable c] (x y : α) (e : En) : (if c then some (Rs.ok x e) else some (Rs.ok y e)) = some (Rs.ok (if c then x else y) e) := by split <;> rfl
@[simp] theorem ite_rv (c : Prop) [Decidable c] (x y : PyData) (b : Bool) : (if c then (⟨x, b⟩ : RV) else ⟨y, b⟩) = ⟨if c then x else y, b⟩ := by split <;> rfl
@[simp] theorem ite_bl (c : Prop) [Decidable c] (x y : Bool) : (if c then PyData.bool x else PyData.bool y) = .bool (if c then x else y) := by split <;> rfl
@[simp] theorem run_der_vl (d : PyData) (e : En) : der (.vl d) e = some (.ok d e) := (rfl)
@[simp] theorem run_der_sl (i : Nat) (e : En) : der (.sl i) e = (slotD e i).map fun d => .ok d e := (rfl)
@[simp] theorem run_readV (i : Nat) (e : En) : readV i e = (match e[i]? with | some (.vl d) => some (.ok ⟨d, false⟩ e) | some (.ow false ds) => some (.ok ⟨.list ds, false⟩ (e.set i (.vl (.list ds)))) | _ => none) := (rfl)
@[simp] theorem run_readO (i : Nat) (e : En) : readO i e = (match e[i]? with | some (.vl d) => some (.ok (.vl d) e) | some (.ow _ _) => some (.ok (.sl i) e) | _ => none) := (rfl)
@[simp] theorem run_readR (i : Nat) (e : En) : readR i e = (match e[i]? with | some (.vl d) => some (.ok ⟨d, false⟩ e) | some (.ow false ds) => some (.ok ⟨.list ds, true⟩ (e.set i .un)) | _ => none) := (rfl)
@[simp] theorem run_store (i : Nat) (r : RV) (e : En) : store i r e = if i < e.length then some (.ok () (e.set i (.of r))) else none := (rfl)
@[simp] theorem run_own (i : Nat) (e : En) : ownM i e = (match e[i]? with | some (.ow _ _) => some (.ok () e) | _ => none) := (rfl)
@[simp] theorem run_write (i : Nat) (f : List PyData → Option (List PyData)) (e : En) : writeM i f e = (match e[i]? with | some (.ow b ds) => (f ds).map fun ds' => .ok () (e.set i (.ow b ds')) | _ => none) := (rfl)
@[simp] theorem run_un (i : Nat) (e : En) : unM i e = if i < e.length then some (.ok () (e.set i .un)) else none := (rfl)
@[simp] theorem most0 : (0 ≤ most) ↔ True := by decide
@[simp] theorem most1 : (1 ≤ most) ↔ True := by decide
@[simp] theorem most2 : (2 ≤ most) ↔ True := by decide
@[simp] theorem most3 : (3 ≤ most) ↔ True := by decide
@[simp] theorem of_vl (d : PyData) : Sl.of ⟨d, false⟩ = .vl d := by cases d <;> rfl
@[simp] theorem of_ow (ds : List PyData) : Sl.of ⟨.list ds, true⟩ = .ow false ds := (rfl)
end
/-- the mirror returns r -/
@[simp] def retOf : Option (Rs Fl) → Option RV
  | some (.ok (.rt r) _) => some r
  | some (.ok .nx _) => some ⟨.none, false⟩
  | _ => none
@[simp] abbrev Ret (m : M Fl) (e : En) (r : RV) : Prop := retOf (m e) = some r
theorem runM_eq {n np : Nat} {m : M Fl} {ds : List PyData} {r : RV} {e env : En} (hl : ds.length = np) (he : ds.map Sl.vl ++ List.replicate (n - np) Sl.un = env) (h : Ret m env r) : runM n np m ds e = some (.ok r e) := by
  subst he
  unfold Ret at h
  unfold runM
  rw [if_pos hl]
  cases q : m (ds.map Sl.vl ++ List.replicate (n - np) Sl.un) with
  | none => rw [q] at h; cases h
  | some x =>
    rw [q] at h
    cases x with
    | ex x e' => cases h
    | ok f e' => cases f <;> cases h <;> rfl
/-- a comprehension that leaves the state as it is -/
theorem lcGo_pure {own : List Nat} {step : PyData → M (Option PyData)} {e : En} {g : PyData → Option PyData} : ∀ {items acc : List PyData}, (∀ d ∈ items, ∃ e', step d e = some (.ok (g d) e') ∧ wipeE e' own = e) → acc.length + items.length ≤ most →
    lcGo own step items e acc = some (acc ++ items.filterMap g, e)
  | [], acc, _, _ => by simp [lcGo]
  | d :: ds, acc, h, hl => by
    obtain ⟨e', h1, h2⟩ := h d List.mem_cons_self
    unfold lcGo
    rw [h1]
    have hl' : acc.length + (ds.length + 1) ≤ most := hl
    cases q : g d with
    | none =>
      simp only [List.filterMap_cons, q, h2]
      exact lcGo_pure (fun x hx => h x (List.mem_cons_of_mem _ hx)) (by omega)
    | some y =>
      simp only [List.filterMap_cons, q, h2]
      rw [if_pos (by omega), lcGo_pure (fun x hx => h x (List.mem_cons_of_mem _ hx)) (by rw [List.length_append]; simp only [List.length_singleton]; omega)]
      simp
theorem lc_run {own : List Nat} {mi : M (List PyData)} {step : PyData → M (Option PyData)} {e e1 : En} {items : List PyData} (g : PyData → Option PyData) (h0 : mi e = some (.ok items e1)) (h : ∀ d ∈ items, ∃ e', step d (wipeE e1 own) = some (.ok (g d) e') ∧ wipeE e' own = wipeE e1 own) (hl : items.length ≤ most) (hb : backE e1 (wipeE e1 own) own = e1) :
    lcM own mi step e = some (.ok ⟨.list (items.filterMap g), true⟩ e1) := by
  simp only [lcM, run_bind, h0, bndR_ok]
  unfold lcRun
  rw [lcGo_pure h (by simpa using hl)]
  simp [hb]
/-- over what a typed list tells -/
theorem lc_typed {γ δ : Type} {own : List Nat} {mi : M (List PyData)} {step : PyData → M (Option PyData)} {e e1 : En} {xs : List γ} (enc : γ → PyData) (dec : δ → PyData) (g : γ → Option δ) (h0 : mi e = some (.ok (xs.map enc) e1)) (h : ∀ x ∈ xs, ∃ e', step (enc x) (wipeE e1 own) = some (.ok ((g x).map dec) e') ∧ wipeE e' own = wipeE e1 own) (hl : xs.length ≤ most) (hb : backE e1 (wipeE e1 own) own = e1) :
    lcM own mi step e = some (.ok ⟨.list ((xs.filterMap g).map dec), true⟩ e1) := by
  simp only [lcM, run_bind, h0, bndR_ok]
  unfold lcRun
  have go : ∀ (ys : List γ) (acc : List PyData), (∀ x ∈ ys, x ∈ xs) → acc.length + ys.length ≤ most → lcGo own step (ys.map enc) (wipeE e1 own) acc = some (acc ++ (ys.filterMap g).map dec, wipeE e1 own) := by
    intro ys
    induction ys with
    | nil => intro acc _ _; simp [lcGo]
    | cons y ys ih =>
      intro acc hy hz
      obtain ⟨e', h1, h2⟩ := h y (hy y List.mem_cons_self)
      rw [List.map_cons]
      unfold lcGo
      rw [h1]
      have hz' : acc.length + (ys.length + 1) ≤ most := hz
      cases q : g y with
      | none =>
        simp only [Option.map_none, List.filterMap_cons, q, h2]
        exact ih acc (fun x hx => hy x (List.mem_cons_of_mem _ hx)) (by omega)
      | some z =>
        simp only [Option.map_some, List.filterMap_cons, q, h2]
        rw [if_pos (by omega), ih _ (fun x hx => hy x (List.mem_cons_of_mem _ hx)) (by rw [List.length_append]; simp only [List.length_singleton]; omega)]
        simp
  rw [go xs [] (fun _ z => z) (by simpa using hl)]
  simp [hb]
@[simp] theorem wipeE_nil (e : En) : wipeE e [] = e := (rfl)
@[simp] theorem wipeE_cons (e : En) (v : Nat) (vs : List Nat) : wipeE e (v :: vs) = (wipeE e vs).set v .un := (rfl)
@[simp] theorem backE_nil (e e1 : En) : backE e e1 [] = e1 := (rfl)
@[simp] theorem backE_cons (e e1 : En) (v : Nat) (vs : List Nat) : backE e e1 (v :: vs) = (backE e e1 vs).set v (e.getD v .un) := (rfl)
theorem lc_t {γ δ : Type} {own : List Nat} {mi : M (List PyData)} {step : PyData → M (Option PyData)} {e : En} {xs : List γ} (enc : γ → PyData) (dec : δ → PyData) (g : γ → Option δ) (h0 : mi e = some (.ok (xs.map enc) e)) (h : ∀ x ∈ xs, ∃ e', step (enc x) (wipeE e own) = some (.ok ((g x).map dec) e') ∧ wipeE e' own = wipeE e own) (hl : xs.length ≤ most) (hb : backE e (wipeE e own) own = e) :
    lcM own mi step e = some (.ok ⟨.list ((xs.filterMap g).map dec), true⟩ e) := lc_typed enc dec g h0 h hl hb
/-! data of typed things -/
abbrev nD (k : Nat) : PyData := .int k
@[simp] theorem idx_tup {α : Type} (f : α → PyData) (xs : List α) (i : Int) : idxD (.tuple (xs.map f)) (.int i) = (atI xs i).map fun x => ⟨f x, false⟩ := by
  show (atI (xs.map f) i).map (fun d => (⟨d, false⟩ : RV)) = _
  unfold atI
  rw [List.length_map]
  cases ixN xs.length i with
  | none => rfl
  | some j => simp [Function.comp_def]
@[simp] theorem idx_lst {α : Type} (f : α → PyData) (xs : List α) (i : Int) : idxD (.list (xs.map f)) (.int i) = (atI xs i).map fun x => ⟨f x, false⟩ := idx_tup f xs i
theorem atI_nat {α : Type} (xs : List α) (i : Nat) (h : i < xs.length) : atI xs (i : Int) = some xs[i] := by
  unfold atI ixN
  rw [if_pos (by omega), if_pos (by omega)]
  simp [h]
theorem atI_rng {n i : Nat} (h : i < n) : atI (List.range n) (i : Int) = some i := by
  rw [atI_nat _ _ (by simpa using h)]
  simp
theorem atI_range {α : Type} (f : Nat → α) (n i : Nat) (h : i < n) : atI ((List.range n).map f) (i : Int) = some (f i) := by
  rw [atI_nat _ _ (by simpa using h)]
  simp
/-! statements one behind another -/
theorem run_then {m ms : M Fl} {e e1 : En} (h : m e = some (.ok .nx e1)) : thenM m ms e = ms e1 := by
  rw [thenM, run_bind, h, bndR_ok]
theorem run_thenR {m ms : M Fl} {e e1 : En} {r : RV} (h : m e = some (.ok (.rt r) e1)) : thenM m ms e = some (.ok (.rt r) e1) := by
  rw [thenM, run_bind, h, bndR_ok]
  exact (rfl)
theorem run_ret {m : M RV} {e e1 : En} {r : RV} (h : m e = some (.ok r e1)) : retM m e = some (.ok (.rt r) e1) := by
  rw [retM, run_bind, h, bndR_ok]
  exact (rfl)
theorem run_set {m : M RV} {i : Nat} {e e1 e2 : En} {r : RV} (h : m e = some (.ok r e1)) (hi : i < e1.length) (he : e1.set i (.of r) = e2) : setM i m e = some (.ok .nx e2) := by
  rw [setM, run_bind, h, bndR_ok, run_bind, run_store, if_pos hi, bndR_ok, he]
  exact (rfl)
theorem run_if {c : M Bool} {a b : M Fl} {e e1 : En} {t : Bool} (h : c e = some (.ok t e1)) : ifM c a b e = if t = true then a e1 else b e1 := by
  rw [ifM, run_bind, h, bndR_ok, run_ite]
theorem ret_of {m : M Fl} {e e1 : En} {r : RV} (h : m e = some (.ok (.rt r) e1)) : Ret m e r := by
  unfold Ret
  rw [h]
  exact (rfl)
end Ev

set_option Elab.async false
set_option linter.all false
set_option maxRecDepth 100000
set_option maxHeartbeats 4000000
/-! EvZ: rows of small numbers as data. -/
namespace Ev
open PySem PySem.Spec L2
abbrev mD (m : List Nat) : PyData := .tuple (m.map nD)
abbrev msD (ms : List (List Nat)) : PyData := .tuple (ms.map mD)
abbrev lnD (m : List Nat) : PyData := .list (m.map nD)
abbrev lmD (ms : List (List Nat)) : PyData := .list (ms.map mD)
abbrev llD (ms : List (List Nat)) : PyData := .list (ms.map lnD)
theorem big {α : Type} {l : List α} (h : l.length ≤ 100) : l.length ≤ most := Nat.le_trans h (by decide)
@[simp] theorem boolsOf_comp {α : Type} (f : α → Bool) (l : List α) : boolsOf (l.map fun x => PyData.bool (f x)) = some (l.map f) := by
  rw [show (l.map fun x => PyData.bool (f x)) = (l.map f).map PyData.bool by simp]
  exact boolsOf_map _
@[simp] theorem filterMap_if {α β : Type} (p : α → Prop) [DecidablePred p] (f : α → β) (l : List α) : l.filterMap (fun x => if p x then some (f x) else none) = (l.filter fun x => decide (p x)).map f := by
  induction l with
  | nil => rfl
  | cons a l ih => by_cases h : p a <;> simp [List.filterMap_cons, List.filter_cons, h, ih]
@[simp] theorem filterMap_ifn {α β : Type} (p : α → Prop) [DecidablePred p] (f : α → β) (l : List α) : l.filterMap (fun x => if p x then none else some (f x)) = (l.filter fun x => !decide (p x)).map f := by
  induction l with
  | nil => rfl
  | cons a l ih => by_cases h : p a <;> simp [List.filterMap_cons, List.filter_cons, h, ih]
@[simp] theorem mapIdx_en {α : Type} (f : α → PyData) (xs : List α) : (xs.map f).mapIdx (fun i d => PyData.tuple [.int (i : Nat), d]) = xs.zipIdx.map fun p => .tuple [nD p.2, f p.1] := by
  rw [List.mapIdx_eq_zipIdx_map, List.zipIdx_map, List.map_map]
  rfl
theorem canLay_map {α : Type} (f : α → PyData) (h : ∀ x, (f x).canLay0 = true) : ∀ xs : List α, PyData.canLayAll0 (xs.map f) = true
  | [] => rfl
  | x :: xs => by simp [PyData.canLayAll0, h x, canLay_map f h xs]
theorem depth_map {α : Type} (f : α → PyData) (k : Nat) (h : ∀ x, (f x).depth ≤ k) : ∀ xs : List α, PyData.depthAll (xs.map f) ≤ k
  | [] => Nat.zero_le _
  | x :: xs => by
    simp only [List.map_cons, PyData.depthAll]
    exact Nat.max_le.mpr ⟨h x, depth_map f k h xs⟩
@[simp] theorem shaped_nD (k : Nat) : SeqAt.shaped (nD k) = true := rfl
@[simp] theorem shaped_int (k : Int) : SeqAt.shaped (.int k) = true := rfl
@[simp] theorem depth_nD (k : Nat) : (nD k).depth = 0 := rfl
theorem depth_mD (m : List Nat) : (mD m).depth ≤ 1 := by
  have := depth_map nD 0 (fun _ => Nat.le_refl _) m
  simp only [PyData.depth]
  omega
theorem depth_lnD (m : List Nat) : (lnD m).depth ≤ 1 := by
  have := depth_map nD 0 (fun _ => Nat.le_refl _) m
  simp only [PyData.depth]
  omega
theorem depth_lmD (m : List (List Nat)) : (lmD m).depth ≤ 2 := by
  have := depth_map mD 1 depth_mD m
  simp only [PyData.depth]
  omega
theorem lay_mD (m : List Nat) : (mD m).canLay0 = true := canLay_map nD (fun _ => rfl) m
@[simp] theorem shaped_mD (m : List Nat) : SeqAt.shaped (mD m) = true := by
  unfold SeqAt.shaped
  rw [Bool.and_eq_true]
  exact ⟨lay_mD m, decide_eq_true (Nat.le_trans (depth_mD m) (by decide))⟩
@[simp] theorem shaped_lnD (m : List Nat) : SeqAt.shaped (lnD m) = true := by
  unfold SeqAt.shaped
  rw [Bool.and_eq_true]
  exact ⟨canLay_map nD (fun _ => rfl) m, decide_eq_true (Nat.le_trans (depth_lnD m) (by decide))⟩
@[simp] theorem shaped_lmD (m : List (List Nat)) : SeqAt.shaped (lmD m) = true := by
  unfold SeqAt.shaped
  rw [Bool.and_eq_true]
  exact ⟨canLay_map mD lay_mD m, decide_eq_true (Nat.le_trans (depth_lmD m) (by decide))⟩
@[simp] theorem shaped_t0 : SeqAt.shaped (.tuple []) = true := rfl
@[simp] theorem shaped_l0 : SeqAt.shaped (.list []) = true := rfl
@[simp] theorem eqv_nD (a b : Nat) : PyData.eqv (nD a) (nD b) = decide (a = b) := by
  simp only [PyData.eqv]
  by_cases h : a = b
  · subst h; simp
  · have : (a : Int) ≠ (b : Int) := by omega
    simp [h, this]
theorem eqvAll_nD : ∀ a b : List Nat, PyData.eqvAll (a.map nD) (b.map nD) = decide (a = b)
  | [], [] => rfl
  | [], _ :: _ => rfl
  | _ :: _, [] => rfl
  | x :: a, y :: b => by
    simp only [List.map_cons, PyData.eqvAll, eqvAll_nD a b]
    rw [eqv_nD]
    by_cases h : x = y <;> by_cases h2 : a = b <;> simp [h, h2]
@[simp] theorem eqv_mD (a b : List Nat) : PyData.eqv (mD a) (mD b) = decide (a = b) := by
  simp only [PyData.eqv]
  exact eqvAll_nD a b
@[simp] theorem eqv_lnD (a b : List Nat) : PyData.eqv (lnD a) (lnD b) = decide (a = b) := by
  simp only [PyData.eqv]
  exact eqvAll_nD a b
@[simp] theorem in_mD (s : Nat) (m : List Nat) : inD (nD s) (mD m) = some (decide (s ∈ m)) := by
  simp only [inD, shaped_nD, shaped_mD, and_self, if_true, Option.some.injEq]
  induction m with
  | nil => rfl
  | cons x m ih =>
    rw [List.map_cons, List.any_cons, ih, eqv_nD]
    by_cases h : x = s
    · subst h; simp
    · have : ¬ s = x := fun z => h z.symm
      simp [h, this]
@[simp] theorem in_lnD (s : Nat) (m : List Nat) : inD (nD s) (lnD m) = some (decide (s ∈ m)) := by
  have := in_mD s m
  simp only [inD, shaped_nD, shaped_mD, shaped_lnD, and_self, if_true] at this ⊢
  exact this
@[simp] theorem in_lmD (s : List Nat) (m : List (List Nat)) : inD (mD s) (lmD m) = some (decide (s ∈ m)) := by
  simp only [inD, shaped_mD, shaped_lmD, and_self, if_true, Option.some.injEq]
  induction m with
  | nil => rfl
  | cons x m ih =>
    rw [List.map_cons, List.any_cons, ih, eqv_mD]
    by_cases h : x = s
    · subst h; simp
    · have : ¬ s = x := fun z => h z.symm
      simp [h, this]
@[simp] theorem eq_mD (a b : List Nat) : eqD (mD a) (mD b) = some (decide (a = b)) := by simp [eqD]
@[simp] theorem eq_mD0 (a : List Nat) : eqD (mD a) (.tuple []) = some (decide (a = [])) := eq_mD a []
@[simp] theorem eq_nD (a b : Nat) : eqD (nD a) (nD b) = some (decide (a = b)) := by simp [eqD]
theorem eqD_str (a b : Str) : eqD (.str a) (.str b) = some (decide (a = b)) := by
  unfold eqD
  split
  · simp only [PyData.eqv, Option.some.injEq]
    by_cases h : a = b <;> simp [h]
  · rfl
theorem rng_map (n : Nat) : rngI 0 n = (List.range n).map nD := by
  unfold rngI
  refine List.map_congr_left fun k _ => ?_
  simp
theorem rngD_nat {n : Nat} (h : n ≤ 100) : rngD [nD n] = some ((List.range n).map nD) := by
  show (if -1000000 < (n : Int) ∧ (n : Int) < 1000000 then some (rngI 0 (n : Int).toNat) else none) = _
  rw [if_pos (by omega), Int.toNat_natCast, rng_map]
/-- for, by its items -/
theorem run_for {mi : M (List PyData)} {step : PyData → M Fl} {e e1 : En} {items : List PyData} {r : Option (Rs Fl)} (h0 : mi e = some (.ok items e1)) (h : forGo step items e1 = r) : Ev.forM mi step e = r := by
  unfold Ev.forM
  rw [run_bind, h0, bndR_ok, h]
@[simp] theorem eq_int (a b : Int) : eqD (.int a) (.int b) = some (decide (a = b)) := by
  simp only [eqD, shaped_int, and_self, if_true, PyData.eqv, Option.some.injEq]
  by_cases h : a = b <;> simp [h]
/-! loops over typed rows -/
theorem for_fold {γ S : Type} {step : PyData → M Fl} (enc : γ → PyData) (env : S → En) (f : S → γ → S) (I : S → List γ → Prop) : ∀ (xs : List γ) (s : S), I s xs → (∀ x xs s, I s (x :: xs) → step (enc x) (env s) = some (.ok .nx (env (f s x))) ∧ I (f s x) xs) → forGo step (xs.map enc) (env s) = some (.ok .nx (env (xs.foldl f s))) ∧ I (xs.foldl f s) []
  | [], s, h, _ => ⟨rfl, h⟩
  | x :: xs, s, h, k => by
    obtain ⟨h1, h2⟩ := k x xs s h
    obtain ⟨h3, h4⟩ := for_fold enc env f I xs (f s x) h2 k
    refine ⟨?_, h4⟩
    rw [List.map_cons]
    unfold forGo
    rw [run_bind, h1, bndR_ok]
    exact h3
theorem for_find {γ S : Type} {step : PyData → M Fl} (enc : γ → PyData) (env : S → En) (g : γ → Option RV) : ∀ (xs : List γ) (s : S), (∀ x ∈ xs, ∀ s, ∃ s', step (enc x) (env s) = some (.ok (match g x with | some r => .rt r | none => .nx) (env s'))) → ∃ s', forGo step (xs.map enc) (env s) = some (.ok (match xs.findSome? g with | some r => .rt r | none => .nx) (env s'))
  | [], s, _ => ⟨s, rfl⟩
  | x :: xs, s, k => by
    obtain ⟨s1, h1⟩ := k x List.mem_cons_self s
    rw [List.map_cons]
    unfold forGo
    rw [run_bind, h1, bndR_ok, List.findSome?_cons]
    cases g x with
    | some r => exact ⟨s1, rfl⟩
    | none =>
      obtain ⟨s2, h2⟩ := for_find enc env g xs s1 fun y hy => k y (List.mem_cons_of_mem _ hy)
      exact ⟨s2, h2⟩
end Ev
namespace Ev
open PySem PySem.Spec L2
/-! order of rows -/
def ltL : List Nat → List Nat → Bool
  | [], [] => false
  | [], _ :: _ => true
  | _ :: _, [] => false
  | x :: xs, y :: ys => if x = y then ltL xs ys else decide (x < y)
theorem dataLt_nD (x y : Nat) : PySem.W.dataLt (nD x) (nD y) = decide (x < y) := by
  rw [PySem.W.dataLt_int]
  simp
theorem toks_lt : ∀ a b : List Nat, PyProof.Rows.lexLt PyProof.Rows.itemOrd (PySem.W.keyToksAll (a.map nD)) (PySem.W.keyToksAll (b.map nD)) = ltL a b
  | [], [] => by decide
  | [], y :: b => by
    simp only [List.map_nil, List.map_cons, PySem.W.keyToksAll]
    rfl
  | x :: a, [] => by
    simp only [List.map_nil, List.map_cons, PySem.W.keyToksAll]
    rfl
  | x :: a, y :: b => by
    rw [List.map_cons, List.map_cons]
    by_cases h : x = y
    · subst h
      rw [PySem.W.dataLt_all_yes (by rfl) (by simp), toks_lt a b]
      simp [ltL]
    · rw [PySem.W.dataLt_all_no (by rfl) (by rw [eqv_nD]; simp [h]), dataLt_nD]
      simp [ltL, h]
@[simp] theorem dataLt_mD (a b : List Nat) : PySem.W.dataLt (mD a) (mD b) = ltL a b := by
  rw [PySem.W.dataLt_tuple, toks_lt]
theorem alike_mD : ∀ a b : List Nat, PySem.W.alikeAll (a.map nD) (b.map nD) = true
  | [], _ => rfl
  | _ :: _, [] => rfl
  | x :: a, y :: b => by
    simp only [List.map_cons, PySem.W.alikeAll, alike_mD a b, Bool.and_true]
    rfl
theorem alikeL_mD (ms : List (List Nat)) : alikeL (ms.map mD) = true := by
  unfold alikeL
  simp only [List.all_eq_true, List.mem_map]
  rintro d ⟨a, _, rfl⟩ d' ⟨b, _, rfl⟩
  simp only [PySem.W.alike]
  exact alike_mD a b
theorem depthAll_mD (ms : List (List Nat)) : PyData.depthAll (ms.map mD) ≤ 60 := Nat.le_trans (depth_map mD 1 depth_mD ms) (by decide)
def minL (m : List Nat) (ms : List (List Nat)) : List Nat := ms.foldl (fun a y => if ltL y a then y else a) m
theorem minD_mD : ∀ (ms : List (List Nat)) (m : List Nat), PySem.W.minD (mD m) (ms.map mD) = mD (minL m ms)
  | [], _ => rfl
  | y :: ys, m => by
    have ih := minD_mD ys
    unfold PySem.W.minD minL at *
    rw [List.map_cons, List.foldl_cons, List.foldl_cons, dataLt_mD]
    split
    · exact ih y
    · exact ih m
theorem notNone_mD (ms : List (List Nat)) : (ms.map mD).all notNone = true := by
  simp only [List.all_eq_true, List.mem_map]
  rintro d ⟨a, _, rfl⟩
  rfl
@[simp] theorem minG_mD (m : List Nat) (ms : List (List Nat)) : minG [lmD (m :: ms)] = some ⟨mD (minL m ms), false⟩ := by
  have h1 : minF [lmD (m :: ms)] = none := rfl
  have h2 := alikeL_mD (m :: ms)
  have h3 := notNone_mD (m :: ms)
  have h4 := depthAll_mD (m :: ms)
  rw [List.map_cons] at h2 h3 h4
  unfold minG orF
  rw [h1]
  show minA [.list (mD m :: ms.map mD)] = _
  show (if alikeL (mD m :: ms.map mD) = true ∧ (mD m :: ms.map mD).all notNone = true ∧ PyData.depthAll (mD m :: ms.map mD) ≤ 60 then lit (PySem.W.minD (mD m) (ms.map mD)) else none) = _
  rw [if_pos ⟨h2, h3, h4⟩, minD_mD]
/-! ints of small rows -/
@[simp] theorem intsOf_nD (m : List Nat) : intsOf (m.map nD) = some (m.map Int.ofNat) := by
  rw [show m.map nD = (m.map Int.ofNat).map PyData.int by simp]
  exact intsOf_map _
end Ev

set_option Elab.async false
set_option linter.all false
set_option maxRecDepth 100000
set_option maxHeartbeats 4000000
/-! EvW: runs that change the state as they go, by what stays true. -/
namespace Ev
open PySem PySem.Spec L2
theorem lcGo_inv {γ S : Type} {own : List Nat} {step : PyData → M (Option PyData)} (enc : γ → PyData) (envf : S → En) (Inv : S → List γ → List PyData → Prop)
    (h : ∀ x rem s acc, Inv s (x :: rem) acc → ∃ o s' e', step (enc x) (wipeE (envf s) own) = some (.ok o e') ∧ wipeE e' own = wipeE (envf s') own ∧ Inv s' rem (acc ++ o.toList)) :
    ∀ (xs : List γ) (s : S) (acc : List PyData), Inv s xs acc → acc.length + xs.length ≤ most → ∃ s' ds, Inv s' [] ds ∧ lcGo own step (xs.map enc) (wipeE (envf s) own) acc = some (ds, wipeE (envf s') own)
  | [], s, acc, hi, _ => ⟨s, acc, hi, rfl⟩
  | x :: xs, s, acc, hi, hl => by
    obtain ⟨o, s', e', h1, h2, h3⟩ := h x xs s acc hi
    have hl' : acc.length + (xs.length + 1) ≤ most := hl
    rw [List.map_cons]
    unfold lcGo
    rw [h1]
    cases o with
    | none =>
      simp only [h2]
      exact lcGo_inv enc envf Inv h xs s' acc (by simpa using h3) (by omega)
    | some y =>
      simp only [h2]
      rw [if_pos (by omega)]
      exact lcGo_inv enc envf Inv h xs s' (acc ++ [y]) h3 (by rw [List.length_append, List.length_singleton]; omega)
theorem lc_inv {γ S : Type} {own : List Nat} {mi : M (List PyData)} {step : PyData → M (Option PyData)} {e : En} (enc : γ → PyData) (envf : S → En) (Inv : S → List γ → List PyData → Prop) (xs : List γ) (s0 : S)
    (h0 : mi e = some (.ok (xs.map enc) (envf s0))) (hI : Inv s0 xs [])
    (h : ∀ x rem s acc, Inv s (x :: rem) acc → ∃ o s' e', step (enc x) (wipeE (envf s) own) = some (.ok o e') ∧ wipeE e' own = wipeE (envf s') own ∧ Inv s' rem (acc ++ o.toList))
    (hl : xs.length ≤ most) (hb : ∀ s, backE (envf s0) (wipeE (envf s) own) own = envf s) : ∃ s ds, Inv s [] ds ∧ lcM own mi step e = some (.ok ⟨.list ds, true⟩ (envf s)) := by
  obtain ⟨s, ds, h1, h2⟩ := lcGo_inv enc envf Inv h xs s0 [] hI (by simpa using hl)
  refine ⟨s, ds, h1, ?_⟩
  simp only [lcM, run_bind, h0, bndR_ok]
  unfold lcRun
  rw [h2]
  simp [hb]
theorem for_inv {γ S : Type} {step : PyData → M Fl} (enc : γ → PyData) (env : S → En) (Inv : S → List γ → Prop) (k : ∀ x rem s, Inv s (x :: rem) → ∃ s', step (enc x) (env s) = some (.ok .nx (env s')) ∧ Inv s' rem) :
    ∀ (xs : List γ) (s : S), Inv s xs → ∃ s', forGo step (xs.map enc) (env s) = some (.ok .nx (env s')) ∧ Inv s' []
  | [], s, h => ⟨s, rfl, h⟩
  | x :: xs, s, h => by
    obtain ⟨s1, h1, h2⟩ := k x xs s h
    obtain ⟨s2, h3, h4⟩ := for_inv enc env Inv k xs s1 h2
    refine ⟨s2, ?_, h4⟩
    rw [List.map_cons]
    unfold forGo
    rw [run_bind, h1, bndR_ok]
    exact h3
theorem nfor_inv {γ S : Type} {step : PyData → List (List PyData) → M (List (List PyData))} (enc : γ → PyData) (env : S → En) (rw_ : S → List (List PyData)) (Inv : S → List γ → Prop) (k : ∀ x rem s, Inv s (x :: rem) → ∃ s', step (enc x) (rw_ s) (env s) = some (.ok (rw_ s') (env s')) ∧ Inv s' rem) :
    ∀ (xs : List γ) (s : S), Inv s xs → ∃ s', nforGo step (xs.map enc) (rw_ s) (env s) = some (.ok (rw_ s') (env s')) ∧ Inv s' []
  | [], s, h => ⟨s, rfl, h⟩
  | x :: xs, s, h => by
    obtain ⟨s1, h1, h2⟩ := k x xs s h
    obtain ⟨s2, h3, h4⟩ := nfor_inv enc env rw_ Inv k xs s1 h2
    refine ⟨s2, ?_, h4⟩
    rw [List.map_cons]
    unfold nforGo
    rw [run_bind, h1, bndR_ok]
    exact h3
theorem run_keep {α : Type} {i : Nat} {m : M α} {e e1 : En} {a : α} (h : m e = some (.ok a e1)) (hu : isUn e1[i]? = true) : keepM i m e = some (.ok a e1) := by
  unfold keepM
  rw [h]
  simp only [hu, if_true]
theorem run_noX {α : Type} {m : M α} {e e1 : En} {a : α} (h : m e = some (.ok a e1)) : noX m e = some (.ok a e1) := by
  unfold noX
  rw [h]
theorem run_nthen {f g : List (List PyData) → M (List (List PyData))} {rows r1 : List (List PyData)} {e e1 : En} (h : f rows e = some (.ok r1 e1)) : nthenM f g rows e = g r1 e1 := by
  rw [nthenM, run_bind, h, bndR_ok]
theorem run_nif {i : Nat} {mc : M Bool} {f g : List (List PyData) → M (List (List PyData))} {rows : List (List PyData)} {e e1 : En} {t : Bool} (h : mc e = some (.ok t e1)) (hu : isUn e1[i]? = true) : nifM i mc f g rows e = if t = true then f rows e1 else g rows e1 := by
  rw [nifM, run_bind, run_keep h hu, bndR_ok, run_ite]
theorem run_nset {i : Nat} {mv : M RV} {mj mk : M OV} {rows rows2 : List (List PyData)} {e e1 e2 e3 : En} {r : RV} {o o2 : OV} {j k : PyData} {x : Nat} (hv : mv e = some (.ok r e1)) (h1 : isUn e1[i]? = true) (hj : mj e1 = some (.ok o e2)) (h2 : isUn e2[i]? = true) (hd : der o e2 = some (.ok j e2)) (hx : rowAt rows j = some x)
    (hk : mk e2 = some (.ok o2 e3)) (h3 : isUn e3[i]? = true) (hd2 : der o2 e3 = some (.ok k e3)) (hp : putAt rows x k r.d = some rows2) : nsetM i mv mj mk rows e = some (.ok rows2 e3) := by
  rw [nsetM, run_bind, run_keep hv h1, bndR_ok, run_bind, run_keep hj h2, bndR_ok, run_bind, hd, bndR_ok, run_bind, hx, run_lift_some, bndR_ok, run_bind, run_keep hk h3, bndR_ok, run_bind, hd2, bndR_ok, hp, run_lift_some]
theorem run_nfor {i : Nat} {mi : M (List PyData)} {bt : PyData → M Unit} {f : List (List PyData) → M (List (List PyData))} {rows : List (List PyData)} {items : List PyData} {e e1 : En} {r : Option (Rs (List (List PyData)))} (h0 : mi e = some (.ok items e1)) (hu : isUn e1[i]? = true) (h : nforGo (fun d rows => do keepM i (bt d); f rows) items rows e1 = r) : nforM i mi bt f rows e = r := by
  rw [nforM, run_bind, run_keep h0 hu, bndR_ok, h]
end Ev
namespace Ev
open PySem PySem.Spec L2
/-- over a list that stays one's own -/
theorem lcK_t {γ δ : Type} {k : Nat} {own : List Nat} {step : PyData → M (Option PyData)} {e : En} {xs : List γ} {b : Bool} (enc : γ → PyData) (dec : δ → PyData) (g : γ → Option δ) (hk : e[k]? = some (.ow b (xs.map enc)))
    (h : ∀ x ∈ xs, ∃ e', step (enc x) (wipeE (e.set k .un) own) = some (.ok ((g x).map dec) e') ∧ wipeE e' own = wipeE (e.set k .un) own) (hl : xs.length ≤ most) (hb : backE (e.set k .un) (wipeE (e.set k .un) own) own = e.set k .un) (hu : isUn (e.set k .un)[k]? = true) (hs : (e.set k .un).set k (.ow b (xs.map enc)) = e) :
    lcK k own step e = some (.ok ⟨.list ((xs.filterMap g).map dec), true⟩ e) := by
  have go := lcGo_inv (step := step) (own := own) enc (fun _ : Unit => e.set k .un) (fun _ rem acc => acc ++ (rem.filterMap g).map dec = (xs.filterMap g).map dec ∧ ∀ x ∈ rem, x ∈ xs) (fun x rem s acc ⟨h1, h2⟩ => by
    obtain ⟨e', q1, q2⟩ := h x (h2 x List.mem_cons_self)
    refine ⟨(g x).map dec, (), e', q1, q2, ?_, fun y hy => h2 y (List.mem_cons_of_mem _ hy)⟩
    rw [← h1, List.filterMap_cons]
    cases g x <;> simp) xs () [] ⟨by simp, fun _ h => h⟩ (by simpa using hl)
  obtain ⟨_, ds, ⟨h1, _⟩, h2⟩ := go
  have h1 : ds = (xs.filterMap g).map dec := by simpa using h1
  unfold lcK
  rw [hk]
  simp only [h2, Option.bind_some, hb, hu, if_true, hs, h1]
end Ev

set_option Elab.async false
set_option linter.all false
set_option maxRecDepth 100000
set_option maxHeartbeats 4000000
namespace Lw
open PySem PySem.Spec L2 Ev
def ps_is_integer : List Str := ["value"]
def N_is_integer : List Str := ["value"]
def m_is_integer : M Fl := thenM (retM (ofB (Ev.andM (asB (op1 (isiD "int") (readO 0))) (Ev.notM (asB (op1 (isiD "bool") (readO 0))))))) (pure .nx)
def ps_is_count : List Str := ["value"]
def N_is_count : List Str := ["value"]
def m_is_count : M Fl := thenM (retM (ofB (Ev.andM (asB (callM N_is_integer.length ps_is_integer.length m_is_integer (do let d ← valM (readV 0); let ds ← (pure []); pure (d :: ds)))) (asB (op2 (cmpD .ge) (readO 0) (toO (pure ⟨.int 0, false⟩))))))) (pure .nx)
def ps_is_position : List Str := ["value", "many"]
def N_is_position : List Str := ["value", "many"]
def m_is_position : M Fl := thenM (retM (ofB (Ev.andM (asB (callM N_is_integer.length ps_is_integer.length m_is_integer (do let d ← valM (readV 0); let ds ← (pure []); pure (d :: ds)))) (asB (op3 (cmpD .le) (cmpD .lt) (toO (pure ⟨.int 0, false⟩)) (readO 0) (readO 1)))))) (pure .nx)
def ps_states_in : List Str := ["matter"]
def N_states_in : List Str := ["matter"]
def m_states_in : M Fl := thenM (retM (op1L lenF (toO (op2 idxD (readO 0) (toO (pure ⟨.int 1, false⟩)))))) (pure .nx)
def ps_profiles_by : List Str := ["counts"]
def N_profiles_by : List Str := ["counts", "found", "count", "later", "some", "deed"]
def c_profiles_by_0 : M RV := lcM [5] (rng1M (readO 2)) (turnM (nameM 5) (pure true) (op2 addD (readO 4) (toO (tupM (do let d ← valM (readV 5); let ds ← (pure []); pure (d :: ds))))))
def b_profiles_by_0 : PyData → M Fl := bodyM (nameM 4) (thenM (extM 3 (c_profiles_by_0)) (pure .nx))
def b_profiles_by_1 : PyData → M Fl := bodyM (nameM 2) (thenM (setM 3 (lstM (pure []))) (thenM (forM (seqM (readV 1)) (b_profiles_by_0)) (thenM (setM 1 (readV 3)) (pure .nx))))
def m_profiles_by : M Fl := thenM (setM 1 (frzM (lstM (do let d ← valM (tupM (pure [])); let ds ← (pure []); pure (d :: ds))))) (thenM (forM (seqM (readV 0)) (b_profiles_by_1)) (thenM (retM (readR 1)) (pure .nx)))
def ps_prior_is_right : List Str := ["value"]
def N_prior_is_right : List Str := ["value", "share"]
def c_prior_is_right_0 : M RV := lcM [1] (seqM (readV 0)) (turnM (nameM 1) (pure true) (ofB (Ev.andM (asB (callM N_is_count.length ps_is_count.length m_is_count (do let d ← valM (readV 1); let ds ← (pure []); pure (d :: ds)))) (asB (op3 (cmpD .le) (cmpD .le) (toO (pure ⟨.int 1, false⟩)) (readO 1) (toO (pure ⟨.int (99), false⟩)))))))
def m_prior_is_right : M Fl := thenM (ifM (Ev.orM (Ev.notM (asB (op1 (isiD "tuple") (readO 0)))) (Ev.notM (asB (op3 (cmpD .le) (cmpD .le) (toO (pure ⟨.int 1, false⟩)) (toO (op1L lenF (readO 0))) (toO (pure ⟨.int (4), false⟩)))))) (thenM (retM (pure ⟨.bool false, false⟩)) (pure .nx)) (pure .nx)) (thenM (retM (op1L allF (toO (c_prior_is_right_0)))) (pure .nx))
def ps_counts_are_right : List Str := ["value"]
def N_counts_are_right : List Str := ["value", "most", "count"]
def c_counts_are_right_0 : M RV := lcM [2] (seqM (readV 0)) (turnM (nameM 2) (pure true) (ofB (Ev.andM (asB (callM N_is_count.length ps_is_count.length m_is_count (do let d ← valM (readV 2); let ds ← (pure []); pure (d :: ds)))) (asB (op3 (cmpD .le) (cmpD .le) (toO (pure ⟨.int 1, false⟩)) (readO 2) (readO 1))))))
def m_counts_are_right : M Fl := thenM (ifM (Ev.orM (Ev.notM (asB (op1 (isiD "tuple") (readO 0)))) (Ev.notM (asB (op3 (cmpD .le) (cmpD .le) (toO (pure ⟨.int 1, false⟩)) (toO (op1L lenF (readO 0))) (toO (pure ⟨.int 2, false⟩)))))) (thenM (retM (pure ⟨.bool false, false⟩)) (pure .nx)) (pure .nx)) (thenM (setM 1 (frzM (iteM (asB (op2 (cmpD .eq) (toO (op1L lenF (readO 0))) (toO (pure ⟨.int 1, false⟩)))) (pure ⟨.int (4), false⟩) (pure ⟨.int (3), false⟩)))) (thenM (retM (op1L allF (toO (c_counts_are_right_0)))) (pure .nx)))
def ps_row_is_right_matters : List Str := ["value", "states"]
def N_row_is_right_matters : List Str := ["value", "states", "number"]
def c_row_is_right_matters_0 : M RV := lcM [2] (seqM (readV 0)) (turnM (nameM 2) (pure true) (ofB (Ev.andM (asB (callM N_is_integer.length ps_is_integer.length m_is_integer (do let d ← valM (readV 2); let ds ← (pure []); pure (d :: ds)))) (asB (op3 (cmpD .le) (cmpD .le) (toO (op1 negD (toO (pure ⟨.int (99), false⟩)))) (readO 2) (toO (pure ⟨.int (99), false⟩)))))))
def m_row_is_right_matters : M Fl := thenM (ifM (Ev.orM (Ev.notM (asB (op1 (isiD "tuple") (readO 0)))) (asB (op2 (cmpD .ne) (toO (op1L lenF (readO 0))) (readO 1)))) (thenM (retM (pure ⟨.bool false, false⟩)) (pure .nx)) (pure .nx)) (thenM (retM (op1L allF (toO (c_row_is_right_matters_0)))) (pure .nx))
def ps_numbers_are_right : List Str := ["value", "many", "states"]
def N_numbers_are_right : List Str := ["value", "many", "states", "row"]
def c_numbers_are_right_0 : M RV := lcM [3] (seqM (readV 0)) (turnM (nameM 3) (pure true) (callM N_row_is_right_matters.length ps_row_is_right_matters.length m_row_is_right_matters (do let d ← valM (readV 3); let ds ← (do let d ← valM (readV 2); let ds ← (pure []); pure (d :: ds)); pure (d :: ds))))
def m_numbers_are_right : M Fl := thenM (retM (ofB (Ev.andM (asB (op1 (isiD "tuple") (readO 0))) (Ev.andM (asB (op2 (cmpD .eq) (toO (op1L lenF (readO 0))) (readO 1))) (asB (op1L allF (toO (c_numbers_are_right_0)))))))) (pure .nx)
def ps_matter_is_right : List Str := ["value"]
def N_matter_is_right : List Str := ["value", "many", "states", "some"]
def c_matter_is_right_0 : M RV := lcM [3] (seqM (op2 idxD (readO 0) (toO (pure ⟨.int 3, false⟩)))) (turnM (nameM 3) (pure true) (callM N_numbers_are_right.length ps_numbers_are_right.length m_numbers_are_right (do let d ← valM (readV 3); let ds ← (do let d ← valM (readV 1); let ds ← (do let d ← valM (readV 2); let ds ← (pure []); pure (d :: ds)); pure (d :: ds)); pure (d :: ds))))
def m_matter_is_right : M Fl := thenM (ifM (Ev.orM (Ev.notM (asB (op1 (isiD "tuple") (readO 0)))) (Ev.orM (asB (op2 (cmpD .ne) (toO (op1L lenF (readO 0))) (toO (pure ⟨.int 5, false⟩)))) (Ev.orM (Ev.notM (asB (op1 (isiD "str") (toO (op2 idxD (readO 0) (toO (pure ⟨.int 0, false⟩))))))) (asB (op2 (cmpD .ne) (toO (op2 idxD (readO 0) (toO (pure ⟨.int 0, false⟩)))) (toO (pure ⟨.str "matter", false⟩))))))) (thenM (retM (pure ⟨.bool false, false⟩)) (pure .nx)) (pure .nx)) (thenM (ifM (Ev.orM (Ev.notM (asB (callM N_prior_is_right.length ps_prior_is_right.length m_prior_is_right (do let d ← valM (op2 idxD (readO 0) (toO (pure ⟨.int 1, false⟩))); let ds ← (pure []); pure (d :: ds))))) (Ev.notM (asB (callM N_counts_are_right.length ps_counts_are_right.length m_counts_are_right (do let d ← valM (op2 idxD (readO 0) (toO (pure ⟨.int 2, false⟩))); let ds ← (pure []); pure (d :: ds)))))) (thenM (retM (pure ⟨.bool false, false⟩)) (pure .nx)) (pure .nx)) (thenM (bindM (tupM (do let d ← valM (op1L lenF (toO (callM N_profiles_by.length ps_profiles_by.length m_profiles_by (do let d ← valM (op2 idxD (readO 0) (toO (pure ⟨.int 2, false⟩))); let ds ← (pure []); pure (d :: ds))))); let ds ← (do let d ← valM (op1L lenF (toO (op2 idxD (readO 0) (toO (pure ⟨.int 1, false⟩))))); let ds ← (pure []); pure (d :: ds)); pure (d :: ds))) (tupT 2 (consM (nameM 1) (consM (nameM 2) (nilM))))) (thenM (ifM (Ev.orM (Ev.notM (asB (op1 (isiD "tuple") (toO (op2 idxD (readO 0) (toO (pure ⟨.int 3, false⟩))))))) (asB (op2 (cmpD .ne) (toO (op1L lenF (toO (op2 idxD (readO 0) (toO (pure ⟨.int 3, false⟩)))))) (toO (op1L lenF (toO (op2 idxD (readO 0) (toO (pure ⟨.int 2, false⟩))))))))) (thenM (retM (pure ⟨.bool false, false⟩)) (pure .nx)) (pure .nx)) (thenM (ifM (Ev.notM (asB (op1L allF (toO (c_matter_is_right_0))))) (thenM (retM (pure ⟨.bool false, false⟩)) (pure .nx)) (pure .nx)) (thenM (retM (callM N_numbers_are_right.length ps_numbers_are_right.length m_numbers_are_right (do let d ← valM (op2 idxD (readO 0) (toO (pure ⟨.int 4, false⟩))); let ds ← (do let d ← valM (readV 1); let ds ← (do let d ← valM (readV 2); let ds ← (pure []); pure (d :: ds)); pure (d :: ds)); pure (d :: ds)))) (pure .nx))))))
def ps_check_matter : List Str := ["matter"]
def N_check_matter : List Str := ["matter"]
def m_check_matter : M Fl := thenM (ifM (Ev.notM (asB (callM N_matter_is_right.length ps_matter_is_right.length m_matter_is_right (do let d ← valM (readV 0); let ds ← (pure []); pure (d :: ds))))) (thenM (liftO none) (pure .nx)) (pure .nx)) (pure .nx)
def ps_first_best : List Str := ["matter", "state"]
def N_first_best : List Str := ["matter", "state", "worths", "row"]
def c_first_best_0 : M RV := lcM [3] (seqM (op2 idxD (toO (op2 idxD (readO 0) (toO (pure ⟨.int 3, false⟩)))) (toO (pure ⟨.int 0, false⟩)))) (turnM (nameM 3) (pure true) (op2 idxD (readO 3) (readO 1)))
def m_first_best : M Fl := thenM (setM 2 (frzM (c_first_best_0))) (thenM (retM (indexM (readO 2) (toO (op1L maxF (readO 2))))) (pure .nx))
def ps_faces_by : List Str := ["matter"]
def N_faces_by : List Str := ["matter", "deeds", "state", "deed"]
def c_faces_by_0 : M RV := lcM [2] (rng1M (toO (callM N_states_in.length ps_states_in.length m_states_in (do let d ← valM (readV 0); let ds ← (pure []); pure (d :: ds))))) (turnM (nameM 2) (pure true) (callM N_first_best.length ps_first_best.length m_first_best (do let d ← valM (readV 0); let ds ← (do let d ← valM (readV 2); let ds ← (pure []); pure (d :: ds)); pure (d :: ds))))
def c_faces_by_1 : M RV := lcM [3] (seqM (readV 1)) (turnM (nameM 3) (pure true) (op2 idxD (toO (op2 idxD (toO (op2 idxD (readO 0) (toO (pure ⟨.int 4, false⟩)))) (readO 3))) (readO 2)))
def c_faces_by_2 : M RV := lcM [2] (rng1M (toO (callM N_states_in.length ps_states_in.length m_states_in (do let d ← valM (readV 0); let ds ← (pure []); pure (d :: ds))))) (turnM (nameM 2) (pure true) (op1L tupleF (toO (c_faces_by_1))))
def m_faces_by : M Fl := thenM (setM 1 (frzM (c_faces_by_0))) (thenM (retM (op1L tupleF (toO (c_faces_by_2)))) (pure .nx))
def ps_full_of : List Str := ["states"]
def N_full_of : List Str := ["states", "found", "state", "some"]
def c_full_of_0 : M RV := lcM [3] (seqM (readV 1)) (turnM (nameM 3) (pure true) (op2 addD (readO 3) (toO (tupM (do let d ← valM (readV 2); let ds ← (pure []); pure (d :: ds))))))
def b_full_of_0 : PyData → M Fl := bodyM (nameM 2) (thenM (setM 1 (frzM (op2 addD (readO 1) (toO (c_full_of_0))))) (pure .nx))
def c_full_of_1 : M RV := lcM [3] (seqM (readV 1)) (turnM (nameM 3) (asB (op2 (cmpD .ne) (readO 3) (toO (tupM (pure []))))) (readV 3))
def m_full_of : M Fl := thenM (setM 1 (frzM (lstM (do let d ← valM (tupM (pure [])); let ds ← (pure []); pure (d :: ds))))) (thenM (forM (rng1M (readO 0)) (b_full_of_0)) (thenM (retM (op1L tupleF (toO (op1L sortedF (toO (c_full_of_1)))))) (pure .nx)))
def ps_does_envy : List Str := ["faces", "one", "other"]
def N_does_envy : List Str := ["faces", "one", "other"]
def m_does_envy : M Fl := thenM (retM (op2 (cmpD .gt) (toO (op2 idxD (toO (op2 idxD (readO 0) (readO 1))) (readO 2))) (toO (op2 idxD (toO (op2 idxD (readO 0) (readO 1))) (readO 1))))) (pure .nx)
def ps_envies_of : List Str := ["faces"]
def N_envies_of : List Str := ["faces", "states", "found", "one", "other"]
def c_envies_of_0 : M RV := lcM [4] (seqM (readV 1)) (turnM (nameM 4) (asB (callM N_does_envy.length ps_does_envy.length m_does_envy (do let d ← valM (readV 0); let ds ← (do let d ← valM (readV 3); let ds ← (do let d ← valM (readV 4); let ds ← (pure []); pure (d :: ds)); pure (d :: ds)); pure (d :: ds)))) (tupM (do let d ← valM (readV 3); let ds ← (do let d ← valM (readV 4); let ds ← (pure []); pure (d :: ds)); pure (d :: ds))))
def b_envies_of_0 : PyData → M Fl := bodyM (nameM 3) (thenM (extM 2 (c_envies_of_0)) (pure .nx))
def m_envies_of : M Fl := thenM (setM 1 (frzM (lrgM (toO (op1L lenF (readO 0)))))) (thenM (setM 2 (lstM (pure []))) (thenM (forM (seqM (readV 1)) (b_envies_of_0)) (thenM (retM (readR 2)) (pure .nx))))
def ps_rings_of : List Str := ["states"]
def N_rings_of : List Str := ["states", "found", "line", "turn", "later", "some", "state"]
def c_rings_of_0 : M RV := lcM [6] (rng1M (readO 0)) (turnM (nameM 6) (pure true) (tupM (do let d ← valM (readV 6); let ds ← (pure []); pure (d :: ds))))
def c_rings_of_1 : M RV := lcM [6] (rng2M (toO (op2 addD (toO (op2 idxD (readO 5) (toO (pure ⟨.int 0, false⟩)))) (toO (pure ⟨.int 1, false⟩)))) (readO 0)) (turnM (nameM 6) (asB (op2 (cmpD .notin) (readO 6) (readO 5))) (op2 addD (readO 5) (toO (tupM (do let d ← valM (readV 6); let ds ← (pure []); pure (d :: ds))))))
def b_rings_of_0 : PyData → M Fl := bodyM (nameM 5) (thenM (extM 4 (c_rings_of_1)) (pure .nx))
def b_rings_of_1 : PyData → M Fl := bodyM (nameM 3) (thenM (setM 4 (lstM (pure []))) (thenM (forM (seqM (readV 2)) (b_rings_of_0)) (thenM (setM 2 (frzM (op1L sortedF (readO 4)))) (thenM (extM 1 (readV 2)) (pure .nx)))))
def m_rings_of : M Fl := thenM (parM 1 2 (lstM (pure [])) (frzM (c_rings_of_0))) (thenM (forM (rng1M (toO (op2 subD (readO 0) (toO (pure ⟨.int 1, false⟩))))) (b_rings_of_1)) (thenM (retM (readR 1)) (pure .nx)))
def ps_ring_by : List Str := ["faces"]
def N_ring_by : List Str := ["faces", "ring", "one", "other"]
def c_ring_by_0 : M RV := lcM [2, 3] (zipM (readV 1) (op2 addD (toO (slcM (readO 1) (partM (some (toO (pure ⟨.int 1, false⟩)))) (partM none))) (toO (slcM (readO 1) (partM none) (partM (some (toO (pure ⟨.int 1, false⟩)))))))) (turnM (tupT 2 (consM (nameM 2) (consM (nameM 3) (nilM)))) (pure true) (callM N_does_envy.length ps_does_envy.length m_does_envy (do let d ← valM (readV 0); let ds ← (do let d ← valM (readV 2); let ds ← (do let d ← valM (readV 3); let ds ← (pure []); pure (d :: ds)); pure (d :: ds)); pure (d :: ds))))
def b_ring_by_0 : PyData → M Fl := bodyM (nameM 1) (thenM (ifM (asB (op1L allF (toO (c_ring_by_0)))) (thenM (retM (readR 1)) (pure .nx)) (pure .nx)) (pure .nx))
def m_ring_by : M Fl := thenM (forM (seqM (callM N_rings_of.length ps_rings_of.length m_rings_of (do let d ← valM (op1L lenF (readO 0)); let ds ← (pure []); pure (d :: ds)))) (b_ring_by_0)) (thenM (retM (pure ⟨.none, false⟩)) (pure .nx))
def ps_fit_of : List Str := ["faces", "message"]
def N_fit_of : List Str := ["faces", "message", "state", "one"]
def c_fit_of_0 : M RV := lcM [3] (seqM (readV 1)) (turnM (nameM 3) (pure true) (callM N_does_envy.length ps_does_envy.length m_does_envy (do let d ← valM (readV 0); let ds ← (do let d ← valM (readV 3); let ds ← (do let d ← valM (readV 2); let ds ← (pure []); pure (d :: ds)); pure (d :: ds)); pure (d :: ds))))
def c_fit_of_1 : M RV := lcM [2] (seqM (readV 1)) (turnM (nameM 2) (Ev.notM (asB (op1L anyF (toO (c_fit_of_0))))) (readV 2))
def m_fit_of : M Fl := thenM (retM (op1L tupleF (toO (c_fit_of_1)))) (pure .nx)
def ps_gains_of : List Str := ["faces", "messages", "way"]
def N_gains_of : List Str := ["faces", "messages", "way", "tells", "reading", "found", "state", "own", "at", "message"]
def b_gains_of_0 : PyData → M Fl := bodyM (tupT 2 (consM (nameM 8) (consM (nameM 9) (nilM)))) (thenM (ifM (Ev.andM (asB (op2 (cmpD .isin) (readO 6) (readO 9))) (asB (op2 (cmpD .gt) (toO (op2 idxD (toO (op2 idxD (readO 0) (readO 6))) (toO (op2 idxD (readO 4) (readO 8))))) (readO 7)))) (thenM (appM 5 (tupM (do let d ← valM (readV 6); let ds ← (do let d ← valM (readV 8); let ds ← (pure []); pure (d :: ds)); pure (d :: ds)))) (pure .nx)) (pure .nx)) (pure .nx))
def b_gains_of_1 : PyData → M Fl := bodyM (nameM 6) (thenM (setM 7 (op2 idxD (toO (op2 idxD (readO 0) (readO 6))) (toO (op2 idxD (readO 4) (toO (op2 idxD (readO 3) (readO 6))))))) (thenM (forM (enumM (readV 1)) (b_gains_of_0)) (pure .nx)))
def m_gains_of : M Fl := thenM (bindM (readV 2) (tupT 2 (consM (nameM 3) (consM (nameM 4) (nilM))))) (thenM (setM 5 (lstM (pure []))) (thenM (forM (rng1M (toO (op1L lenF (readO 0)))) (b_gains_of_1)) (thenM (retM (readR 5)) (pure .nx))))
def ps_row_is_right_shows : List Str := ["value", "states"]
def N_row_is_right_shows : List Str := ["value", "states", "number"]
def c_row_is_right_shows_0 : M RV := lcM [2] (seqM (readV 0)) (turnM (nameM 2) (pure true) (ofB (Ev.andM (asB (callM N_is_integer.length ps_is_integer.length m_is_integer (do let d ← valM (readV 2); let ds ← (pure []); pure (d :: ds)))) (asB (op3 (cmpD .le) (cmpD .le) (toO (op1 negD (toO (pure ⟨.int (99), false⟩)))) (readO 2) (toO (pure ⟨.int (99), false⟩)))))))
def m_row_is_right_shows : M Fl := thenM (ifM (Ev.orM (Ev.notM (asB (op1 (isiD "tuple") (readO 0)))) (asB (op2 (cmpD .ne) (toO (op1L lenF (readO 0))) (readO 1)))) (thenM (retM (pure ⟨.bool false, false⟩)) (pure .nx)) (pure .nx)) (thenM (retM (op1L allF (toO (c_row_is_right_shows_0)))) (pure .nx))
def ps_faces_are_right : List Str := ["value"]
def N_faces_are_right : List Str := ["value", "row"]
def c_faces_are_right_0 : M RV := lcM [1] (seqM (readV 0)) (turnM (nameM 1) (pure true) (callM N_row_is_right_shows.length ps_row_is_right_shows.length m_row_is_right_shows (do let d ← valM (readV 1); let ds ← (do let d ← valM (op1L lenF (readO 0)); let ds ← (pure []); pure (d :: ds)); pure (d :: ds))))
def m_faces_are_right : M Fl := thenM (ifM (Ev.orM (Ev.notM (asB (op1 (isiD "tuple") (readO 0)))) (Ev.notM (asB (op3 (cmpD .le) (cmpD .le) (toO (pure ⟨.int 1, false⟩)) (toO (op1L lenF (readO 0))) (toO (pure ⟨.int (4), false⟩)))))) (thenM (retM (pure ⟨.bool false, false⟩)) (pure .nx)) (pure .nx)) (thenM (retM (op1L allF (toO (c_faces_are_right_0)))) (pure .nx))
def ps_set_is_right : List Str := ["value", "states"]
def N_set_is_right : List Str := ["value", "states", "state", "one", "other"]
def c_set_is_right_0 : M RV := lcM [2] (seqM (readV 0)) (turnM (nameM 2) (pure true) (callM N_is_position.length ps_is_position.length m_is_position (do let d ← valM (readV 2); let ds ← (do let d ← valM (readV 1); let ds ← (pure []); pure (d :: ds)); pure (d :: ds))))
def c_set_is_right_1 : M RV := lcM [3, 4] (zipM (readV 0) (slcM (readO 0) (partM (some (toO (pure ⟨.int 1, false⟩)))) (partM none))) (turnM (tupT 2 (consM (nameM 3) (consM (nameM 4) (nilM)))) (pure true) (op2 (cmpD .lt) (readO 3) (readO 4)))
def m_set_is_right : M Fl := thenM (ifM (Ev.orM (Ev.notM (asB (op1 (isiD "tuple") (readO 0)))) (Ev.orM (asB (op2 (cmpD .eq) (readO 0) (toO (tupM (pure []))))) (Ev.notM (asB (op1L allF (toO (c_set_is_right_0))))))) (thenM (retM (pure ⟨.bool false, false⟩)) (pure .nx)) (pure .nx)) (thenM (retM (op1L allF (toO (c_set_is_right_1)))) (pure .nx))
def ps_messages_are_right : List Str := ["faces", "value"]
def N_messages_are_right : List Str := ["faces", "value", "message", "one", "other", "state"]
def c_messages_are_right_0 : M RV := lcM [2] (seqM (readV 1)) (turnM (nameM 2) (pure true) (callM N_set_is_right.length ps_set_is_right.length m_set_is_right (do let d ← valM (readV 2); let ds ← (do let d ← valM (op1L lenF (readO 0)); let ds ← (pure []); pure (d :: ds)); pure (d :: ds))))
def c_messages_are_right_1 : M RV := lcM [3, 4] (zipM (readV 1) (slcM (readO 1) (partM (some (toO (pure ⟨.int 1, false⟩)))) (partM none))) (turnM (tupT 2 (consM (nameM 3) (consM (nameM 4) (nilM)))) (pure true) (op2 (cmpD .lt) (readO 3) (readO 4)))
def c_messages_are_right_2 : M RV := lcM [2] (seqM (readV 1)) (turnM (nameM 2) (pure true) (op2 (cmpD .isin) (readO 5) (readO 2)))
def c_messages_are_right_3 : M RV := lcM [5] (rng1M (toO (op1L lenF (readO 0)))) (turnM (nameM 5) (pure true) (op1L anyF (toO (c_messages_are_right_2))))
def m_messages_are_right : M Fl := thenM (ifM (Ev.orM (Ev.notM (asB (op1 (isiD "tuple") (readO 1)))) (Ev.notM (asB (op3 (cmpD .le) (cmpD .le) (toO (pure ⟨.int 1, false⟩)) (toO (op1L lenF (readO 1))) (toO (pure ⟨.int 15, false⟩)))))) (thenM (retM (pure ⟨.bool false, false⟩)) (pure .nx)) (pure .nx)) (thenM (ifM (Ev.notM (asB (op1L allF (toO (c_messages_are_right_0))))) (thenM (retM (pure ⟨.bool false, false⟩)) (pure .nx)) (pure .nx)) (thenM (ifM (Ev.notM (asB (op1L allF (toO (c_messages_are_right_1))))) (thenM (retM (pure ⟨.bool false, false⟩)) (pure .nx)) (pure .nx)) (thenM (retM (op1L allF (toO (c_messages_are_right_3)))) (pure .nx))))
def ps_way_is_right : List Str := ["faces", "messages", "value"]
def N_way_is_right : List Str := ["faces", "messages", "value", "tells", "reading", "some", "at", "state", "message"]
def c_way_is_right_0 : M RV := lcM [5] (seqM (readV 2)) (turnM (nameM 5) (pure true) (op1 (isiD "tuple") (readO 5)))
def c_way_is_right_1 : M RV := lcM [6] (seqM (readV 3)) (turnM (nameM 6) (pure true) (callM N_is_position.length ps_is_position.length m_is_position (do let d ← valM (readV 6); let ds ← (do let d ← valM (op1L lenF (readO 1)); let ds ← (pure []); pure (d :: ds)); pure (d :: ds))))
def c_way_is_right_2 : M RV := lcM [7] (seqM (readV 4)) (turnM (nameM 7) (pure true) (callM N_is_position.length ps_is_position.length m_is_position (do let d ← valM (readV 7); let ds ← (do let d ← valM (op1L lenF (readO 0)); let ds ← (pure []); pure (d :: ds)); pure (d :: ds))))
def c_way_is_right_3 : M RV := lcM [7, 6] (enumM (readV 3)) (turnM (tupT 2 (consM (nameM 7) (consM (nameM 6) (nilM)))) (pure true) (op2 (cmpD .isin) (readO 7) (toO (op2 idxD (readO 1) (readO 6)))))
def c_way_is_right_4 : M RV := lcM [7, 8] (zipM (readV 4) (readV 1)) (turnM (tupT 2 (consM (nameM 7) (consM (nameM 8) (nilM)))) (pure true) (op2 (cmpD .isin) (readO 7) (readO 8)))
def m_way_is_right : M Fl := thenM (ifM (Ev.orM (Ev.notM (asB (op1 (isiD "tuple") (readO 2)))) (Ev.orM (asB (op2 (cmpD .ne) (toO (op1L lenF (readO 2))) (toO (pure ⟨.int 2, false⟩)))) (Ev.notM (asB (op1L allF (toO (c_way_is_right_0))))))) (thenM (retM (pure ⟨.bool false, false⟩)) (pure .nx)) (pure .nx)) (thenM (bindM (readV 2) (tupT 2 (consM (nameM 3) (consM (nameM 4) (nilM))))) (thenM (ifM (Ev.orM (asB (op2 (cmpD .ne) (toO (op1L lenF (readO 3))) (toO (op1L lenF (readO 0))))) (asB (op2 (cmpD .ne) (toO (op1L lenF (readO 4))) (toO (op1L lenF (readO 1)))))) (thenM (retM (pure ⟨.bool false, false⟩)) (pure .nx)) (pure .nx)) (thenM (ifM (Ev.notM (asB (op1L allF (toO (c_way_is_right_1))))) (thenM (retM (pure ⟨.bool false, false⟩)) (pure .nx)) (pure .nx)) (thenM (ifM (Ev.notM (asB (op1L allF (toO (c_way_is_right_2))))) (thenM (retM (pure ⟨.bool false, false⟩)) (pure .nx)) (pure .nx)) (thenM (ifM (Ev.notM (asB (op1L allF (toO (c_way_is_right_3))))) (thenM (retM (pure ⟨.bool false, false⟩)) (pure .nx)) (pure .nx)) (thenM (retM (op1L allF (toO (c_way_is_right_4)))) (pure .nx)))))))
def ps_check_faces : List Str := ["faces"]
def N_check_faces : List Str := ["faces"]
def m_check_faces : M Fl := thenM (ifM (Ev.notM (asB (callM N_faces_are_right.length ps_faces_are_right.length m_faces_are_right (do let d ← valM (readV 0); let ds ← (pure []); pure (d :: ds))))) (thenM (liftO none) (pure .nx)) (pure .nx)) (pure .nx)
def ps_check_both : List Str := ["faces", "messages"]
def N_check_both : List Str := ["faces", "messages"]
def m_check_both : M Fl := thenM (dropM (callM N_check_faces.length ps_check_faces.length m_check_faces (do let d ← valM (readV 0); let ds ← (pure []); pure (d :: ds)))) (thenM (ifM (Ev.notM (asB (callM N_messages_are_right.length ps_messages_are_right.length m_messages_are_right (do let d ← valM (readV 0); let ds ← (do let d ← valM (readV 1); let ds ← (pure []); pure (d :: ds)); pure (d :: ds))))) (thenM (liftO none) (pure .nx)) (pure .nx)) (pure .nx))
def ps_faces_of : List Str := ["matter"]
def N_faces_of : List Str := ["matter"]
def m_faces_of : M Fl := thenM (dropM (callM N_check_matter.length ps_check_matter.length m_check_matter (do let d ← valM (readV 0); let ds ← (pure []); pure (d :: ds)))) (thenM (ifM (asB (op2 (cmpD .ne) (toO (op1L lenF (toO (op2 idxD (readO 0) (toO (pure ⟨.int 2, false⟩)))))) (toO (pure ⟨.int 1, false⟩)))) (thenM (liftO none) (pure .nx)) (pure .nx)) (thenM (retM (callM N_faces_by.length ps_faces_by.length m_faces_by (do let d ← valM (readV 0); let ds ← (pure []); pure (d :: ds)))) (pure .nx)))
def ps_full_messages : List Str := ["faces"]
def N_full_messages : List Str := ["faces"]
def m_full_messages : M Fl := thenM (dropM (callM N_check_faces.length ps_check_faces.length m_check_faces (do let d ← valM (readV 0); let ds ← (pure []); pure (d :: ds)))) (thenM (retM (callM N_full_of.length ps_full_of.length m_full_of (do let d ← valM (op1L lenF (readO 0)); let ds ← (pure []); pure (d :: ds)))) (pure .nx))
def ps_envies : List Str := ["faces"]
def N_envies : List Str := ["faces"]
def m_envies : M Fl := thenM (dropM (callM N_check_faces.length ps_check_faces.length m_check_faces (do let d ← valM (readV 0); let ds ← (pure []); pure (d :: ds)))) (thenM (retM (callM N_envies_of.length ps_envies_of.length m_envies_of (do let d ← valM (readV 0); let ds ← (pure []); pure (d :: ds)))) (pure .nx))
def ps_envy_ring : List Str := ["faces"]
def N_envy_ring : List Str := ["faces"]
def m_envy_ring : M Fl := thenM (dropM (callM N_check_faces.length ps_check_faces.length m_check_faces (do let d ← valM (readV 0); let ds ← (pure []); pure (d :: ds)))) (thenM (retM (callM N_ring_by.length ps_ring_by.length m_ring_by (do let d ← valM (readV 0); let ds ← (pure []); pure (d :: ds)))) (pure .nx))
def ps_fit : List Str := ["faces", "messages", "at"]
def N_fit : List Str := ["faces", "messages", "at"]
def m_fit : M Fl := thenM (dropM (callM N_check_both.length ps_check_both.length m_check_both (do let d ← valM (readV 0); let ds ← (do let d ← valM (readV 1); let ds ← (pure []); pure (d :: ds)); pure (d :: ds)))) (thenM (ifM (Ev.notM (asB (callM N_is_position.length ps_is_position.length m_is_position (do let d ← valM (readV 2); let ds ← (do let d ← valM (op1L lenF (readO 1)); let ds ← (pure []); pure (d :: ds)); pure (d :: ds))))) (thenM (liftO none) (pure .nx)) (pure .nx)) (thenM (retM (callM N_fit_of.length ps_fit_of.length m_fit_of (do let d ← valM (readV 0); let ds ← (do let d ← valM (op2 idxD (readO 1) (readO 2)); let ds ← (pure []); pure (d :: ds)); pure (d :: ds)))) (pure .nx)))
def ps_gains : List Str := ["faces", "messages", "way"]
def N_gains : List Str := ["faces", "messages", "way"]
def m_gains : M Fl := thenM (dropM (callM N_check_both.length ps_check_both.length m_check_both (do let d ← valM (readV 0); let ds ← (do let d ← valM (readV 1); let ds ← (pure []); pure (d :: ds)); pure (d :: ds)))) (thenM (ifM (Ev.notM (asB (callM N_way_is_right.length ps_way_is_right.length m_way_is_right (do let d ← valM (readV 0); let ds ← (do let d ← valM (readV 1); let ds ← (do let d ← valM (readV 2); let ds ← (pure []); pure (d :: ds)); pure (d :: ds)); pure (d :: ds))))) (thenM (liftO none) (pure .nx)) (pure .nx)) (thenM (retM (callM N_gains_of.length ps_gains_of.length m_gains_of (do let d ← valM (readV 0); let ds ← (do let d ← valM (readV 1); let ds ← (do let d ← valM (readV 2); let ds ← (pure []); pure (d :: ds)); pure (d :: ds)); pure (d :: ds)))) (pure .nx)))
def ps__law_pot : List Str := ["script", "k"]
def N__law_pot : List Str := ["script", "k", "cell", "mixed"]
def m__law_pot : M Fl := thenM (setM 2 (frzM (iteM (asB (op2 (cmpD .lt) (readO 1) (toO (op1L lenF (readO 0))))) (op1L absF (toO (op2 idxD (readO 0) (readO 1)))) (op2 addD (toO (op2 mulD (toO (pure ⟨.int 613, false⟩)) (readO 1))) (toO (pure ⟨.int 859, false⟩)))))) (thenM (setM 3 (frzM (op2 addD (toO (op2 modD (toO (op1L intF (toO (op2 addD (toO (op2 addD (toO (op2 mulD (toO (op2 modD (toO (op1L intF (readO 2))) (toO (pure ⟨.int 2147483549, false⟩)))) (toO (pure ⟨.int 39373, false⟩)))) (toO (op2 mulD (toO (pure ⟨.int 4177, false⟩)) (readO 1))))) (toO (pure ⟨.int 101, false⟩)))))) (toO (pure ⟨.int 2147483563, false⟩)))) (toO (pure ⟨.int 1, false⟩))))) (thenM (retM (lstM (do let d ← valM (op2L maxF (toO (pure ⟨.int 0, false⟩)) (toO (op2 subD (readO 2) (toO (op2 powD (toO (pure ⟨.int 10, false⟩)) (toO (pure ⟨.int 18, false⟩))))))); let ds ← (do let d ← valM (readV 3); let ds ← (pure []); pure (d :: ds)); pure (d :: ds)))) (pure .nx)))
def ps__law_draw : List Str := ["pot", "many"]
def N__law_draw : List Str := ["pot", "many", "digit"]
def m__law_draw : M Fl := thenM (ifM (asB (op2 (cmpD .gt) (toO (op2 idxD (readO 0) (toO (pure ⟨.int 0, false⟩)))) (toO (pure ⟨.int 0, false⟩)))) (thenM (setM 2 (op2 modD (toO (op1L intF (toO (op2 idxD (readO 0) (toO (pure ⟨.int 0, false⟩)))))) (readO 1))) (thenM (bindM (op2 fdivD (toO (op1L intF (toO (op2 idxD (readO 0) (toO (pure ⟨.int 0, false⟩)))))) (readO 1)) (subT 0 (toO (pure ⟨.int 0, false⟩)))) (thenM (retM (readR 2)) (pure .nx)))) (pure .nx)) (thenM (bindM (op2 modD (toO (op1L intF (toO (op2 addD (toO (op2 mulD (toO (op2 idxD (readO 0) (toO (pure ⟨.int 1, false⟩)))) (toO (pure ⟨.int 39373, false⟩)))) (toO (pure ⟨.int 4177, false⟩)))))) (toO (pure ⟨.int 2147483549, false⟩))) (subT 0 (toO (pure ⟨.int 1, false⟩)))) (thenM (retM (op2 modD (toO (op1L intF (toO (op2 fdivD (toO (op2 modD (toO (op1L intF (toO (op2 mulD (toO (op2 idxD (readO 0) (toO (pure ⟨.int 1, false⟩)))) (toO (op2 idxD (readO 0) (toO (pure ⟨.int 1, false⟩)))))))) (toO (pure ⟨.int 2147483563, false⟩)))) (toO (pure ⟨.int 19, false⟩)))))) (readO 1))) (pure .nx)))
def ps__law_pick : List Str := ["pot", "some"]
def N__law_pick : List Str := ["pot", "some"]
def m__law_pick : M Fl := thenM (retM (op2 idxD (readO 1) (toO (callPM 0 N__law_draw.length ps__law_draw.length m__law_draw (do let d ← valM (op1L lenF (readO 1)); let ds ← (pure []); pure (d :: ds)))))) (pure .nx)
def ps__law_profiles : List Str := ["counts"]
def N__law_profiles : List Str := ["counts", "found", "count", "longer", "one", "deed"]
def c__law_profiles_0 : M RV := lcM [5] (rng1M (readO 2)) (turnM (nameM 5) (pure true) (op2 addD (readO 4) (toO (tupM (do let d ← valM (readV 5); let ds ← (pure []); pure (d :: ds))))))
def b__law_profiles_0 : PyData → M Fl := bodyM (nameM 4) (thenM (extM 3 (c__law_profiles_0)) (pure .nx))
def b__law_profiles_1 : PyData → M Fl := bodyM (nameM 2) (thenM (setM 3 (lstM (pure []))) (thenM (forM (seqM (readV 1)) (b__law_profiles_0)) (thenM (setM 1 (readV 3)) (pure .nx))))
def m__law_profiles : M Fl := thenM (setM 1 (frzM (lstM (do let d ← valM (tupM (pure [])); let ds ← (pure []); pure (d :: ds))))) (thenM (forM (seqM (readV 0)) (b__law_profiles_1)) (thenM (retM (readR 1)) (pure .nx)))
def ps__law_matter : List Str := ["pot", "counts", "states", "most"]
def N__law_matter : List Str := ["pot", "counts", "states", "most", "prior", "many", "sides", "side", "state", "profile"]
def c__law_matter_0 : M RV := lcM [8] (rng1M (readO 2)) (turnM (nameM 8) (pure true) (op2 addD (toO (pure ⟨.int 1, false⟩)) (toO (callPM 0 N__law_draw.length ps__law_draw.length m__law_draw (do let d ← valM (callPM 0 N__law_pick.length ps__law_pick.length m__law_pick (do let d ← valM (lstM (do let d ← valM (pure ⟨.int 3, false⟩); let ds ← (do let d ← valM (pure ⟨.int 9, false⟩); let ds ← (pure []); pure (d :: ds)); pure (d :: ds))); let ds ← (pure []); pure (d :: ds))); let ds ← (pure []); pure (d :: ds))))))
def c__law_matter_1 : M RV := lcM [8] (rng1M (readO 2)) (turnM (nameM 8) (pure true) (op2 subD (toO (callPM 0 N__law_draw.length ps__law_draw.length m__law_draw (do let d ← valM (op2 addD (toO (op2 mulD (toO (pure ⟨.int 2, false⟩)) (readO 3))) (toO (pure ⟨.int 1, false⟩))); let ds ← (pure []); pure (d :: ds)))) (readO 3)))
def c__law_matter_2 : M RV := lcM [9] (rng1M (readO 5)) (turnM (nameM 9) (pure true) (op1L tupleF (toO (c__law_matter_1))))
def b__law_matter_0 : PyData → M Fl := bodyM (nameM 7) (thenM (appM 6 (op1L tupleF (toO (c__law_matter_2)))) (pure .nx))
def m__law_matter : M Fl := thenM (setM 4 (op1L tupleF (toO (c__law_matter_0)))) (thenM (parM 5 6 (op1L lenF (toO (callM N__law_profiles.length ps__law_profiles.length m__law_profiles (do let d ← valM (readV 1); let ds ← (pure []); pure (d :: ds))))) (lstM (pure []))) (thenM (forM (rng1M (toO (op2 addD (toO (op1L lenF (readO 1))) (toO (pure ⟨.int 1, false⟩))))) (b__law_matter_0)) (thenM (retM (tupM (do let d ← valM (pure ⟨.str "matter", false⟩); let ds ← (do let d ← valM (readV 4); let ds ← (do let d ← valM (readV 1); let ds ← (do let d ← valM (op1L tupleF (toO (slcM (readO 6) (partM none) (partM (some (toO (op1 negD (toO (pure ⟨.int 1, false⟩))))))))); let ds ← (do let d ← valM (op2 idxD (readO 6) (toO (op1 negD (toO (pure ⟨.int 1, false⟩))))); let ds ← (pure []); pure (d :: ds)); pure (d :: ds)); pure (d :: ds)); pure (d :: ds)); pure (d :: ds)))) (pure .nx))))
def ps__law_sets : List Str := ["states"]
def N__law_sets : List Str := ["states", "found", "state", "some"]
def c__law_sets_0 : M RV := lcM [3] (seqM (readV 1)) (turnM (nameM 3) (pure true) (op2 addD (readO 3) (toO (tupM (do let d ← valM (readV 2); let ds ← (pure []); pure (d :: ds))))))
def b__law_sets_0 : PyData → M Fl := bodyM (nameM 2) (thenM (setM 1 (frzM (op2 addD (readO 1) (toO (c__law_sets_0))))) (pure .nx))
def c__law_sets_1 : M RV := lcM [3] (seqM (readV 1)) (turnM (nameM 3) (asB (op2 (cmpD .ne) (readO 3) (toO (tupM (pure []))))) (readV 3))
def m__law_sets : M Fl := thenM (setM 1 (frzM (lstM (do let d ← valM (tupM (pure [])); let ds ← (pure []); pure (d :: ds))))) (thenM (forM (rng1M (readO 0)) (b__law_sets_0)) (thenM (retM (op1L sortedF (toO (c__law_sets_1)))) (pure .nx)))
def ps__law_faces : List Str := ["pot", "states"]
def N__law_faces : List Str := ["pot", "states", "way", "most", "row", "rows", "own", "state"]
def c__law_faces_0 : M RV := lcM [7] (rng1M (readO 1)) (turnM (nameM 7) (pure true) (op2 subD (toO (callPM 0 N__law_draw.length ps__law_draw.length m__law_draw (do let d ← valM (pure ⟨.int 7, false⟩); let ds ← (pure []); pure (d :: ds)))) (toO (pure ⟨.int 3, false⟩))))
def c__law_faces_1 : M RV := lcM [7] (rng1M (readO 1)) (turnM (nameM 7) (pure true) (op2 subD (toO (callPM 0 N__law_draw.length ps__law_draw.length m__law_draw (do let d ← valM (op2 addD (toO (op2 mulD (toO (pure ⟨.int 2, false⟩)) (readO 3))) (toO (pure ⟨.int 1, false⟩))); let ds ← (pure []); pure (d :: ds)))) (readO 3)))
def c__law_faces_2 : M RV := lcM [4] (seqM (readV 5)) (turnM (nameM 4) (pure true) (op1L tupleF (readO 4)))
def m__law_faces : M Fl := thenM (bindM (tupM (do let d ← valM (callPM 0 N__law_draw.length ps__law_draw.length m__law_draw (do let d ← valM (pure ⟨.int 4, false⟩); let ds ← (pure []); pure (d :: ds))); let ds ← (do let d ← valM (callPM 0 N__law_pick.length ps__law_pick.length m__law_pick (do let d ← valM (lstM (do let d ← valM (pure ⟨.int 1, false⟩); let ds ← (do let d ← valM (pure ⟨.int 2, false⟩); let ds ← (do let d ← valM (pure ⟨.int 4, false⟩); let ds ← (pure []); pure (d :: ds)); pure (d :: ds)); pure (d :: ds))); let ds ← (pure []); pure (d :: ds))); let ds ← (pure []); pure (d :: ds)); pure (d :: ds))) (tupT 2 (consM (nameM 2) (consM (nameM 3) (nilM))))) (thenM (ifM (asB (op2 (cmpD .eq) (readO 2) (toO (pure ⟨.int 0, false⟩)))) (thenM (setM 4 (frzM (c__law_faces_0))) (thenM (retM (op1L tupleF (toO (op2 mulD (toO (lstM (do let d ← valM (op1L tupleF (readO 4)); let ds ← (pure []); pure (d :: ds)))) (readO 1))))) (pure .nx))) (pure .nx)) (nestM 5 [6] (rng1M (readO 1)) (nameM 6) (c__law_faces_1) (nifM 5 (asB (op2 (cmpD .eq) (readO 2) (toO (pure ⟨.int 1, false⟩)))) (nthenM (nforM 5 (rng1M (readO 1)) (nameM 6) (nthenM (nsetM 5 (op2 addD (readO 3) (toO (pure ⟨.int 1, false⟩))) (readO 6) (readO 6)) (nthenM (nsetM 5 (op2 addD (toO (op2 addD (readO 3) (toO (pure ⟨.int 1, false⟩)))) (toO (callPM 0 N__law_draw.length ps__law_draw.length m__law_draw (do let d ← valM (pure ⟨.int 2, false⟩); let ds ← (pure []); pure (d :: ds))))) (readO 6) (toO (op2 modD (toO (op1L intF (toO (op2 addD (readO 6) (toO (pure ⟨.int 1, false⟩)))))) (readO 1)))) (nnilM)))) (nnilM)) (nnilM)) (thenM (retM (op1L tupleF (toO (c__law_faces_2)))) (pure .nx))))
def ps__law_messages : List Str := ["pot", "states"]
def N__law_messages : List Str := ["pot", "states", "found", "state", "some"]
def c__law_messages_0 : M RV := lcM [4] (seqM (callM N__law_sets.length ps__law_sets.length m__law_sets (do let d ← valM (readV 1); let ds ← (pure []); pure (d :: ds)))) (turnM (nameM 4) (asB (op2 (cmpD .eq) (toO (callPM 0 N__law_draw.length ps__law_draw.length m__law_draw (do let d ← valM (pure ⟨.int 3, false⟩); let ds ← (pure []); pure (d :: ds)))) (toO (pure ⟨.int 0, false⟩)))) (readV 4))
def c__law_messages_1 : M RV := lcK 2 [4] (turnM (nameM 4) (pure true) (op2 (cmpD .isin) (readO 3) (readO 4)))
def c__law_messages_2 : M RV := lcM [4] (seqM (callM N__law_sets.length ps__law_sets.length m__law_sets (do let d ← valM (readV 1); let ds ← (pure []); pure (d :: ds)))) (turnM (nameM 4) (asB (op2 (cmpD .isin) (readO 3) (readO 4))) (readV 4))
def b__law_messages_0 : PyData → M Fl := bodyM (nameM 3) (thenM (ifM (Ev.notM (asB (op1L anyF (toO (c__law_messages_1))))) (thenM (appM 2 (callPM 0 N__law_pick.length ps__law_pick.length m__law_pick (do let d ← valM (c__law_messages_2); let ds ← (pure []); pure (d :: ds)))) (pure .nx)) (pure .nx)) (pure .nx))
def m__law_messages : M Fl := thenM (setM 2 (c__law_messages_0)) (thenM (forM (rng1M (readO 1)) (b__law_messages_0)) (thenM (retM (op1L tupleF (toO (op1L sortedF (readO 2))))) (pure .nx)))
def ps__law_envies : List Str := ["faces", "one", "other"]
def N__law_envies : List Str := ["faces", "one", "other"]
def m__law_envies : M Fl := thenM (retM (op2 (cmpD .gt) (toO (op2 idxD (toO (op2 idxD (readO 0) (readO 1))) (readO 2))) (toO (op2 idxD (toO (op2 idxD (readO 0) (readO 1))) (readO 1))))) (pure .nx)
def ps__law_rings : List Str := ["faces"]
def N__law_rings : List Str := ["faces", "found", "last", "time", "longer", "some", "state"]
def c__law_rings_0 : M RV := lcM [6] (rng1M (toO (op1L lenF (readO 0)))) (turnM (nameM 6) (pure true) (tupM (do let d ← valM (readV 6); let ds ← (pure []); pure (d :: ds))))
def c__law_rings_1 : M RV := lcM [6] (rng2M (toO (op2 addD (toO (op2 idxD (readO 5) (toO (pure ⟨.int 0, false⟩)))) (toO (pure ⟨.int 1, false⟩)))) (toO (op1L lenF (readO 0)))) (turnM (nameM 6) (Ev.andM (asB (op2 (cmpD .notin) (readO 6) (readO 5))) (asB (callM N__law_envies.length ps__law_envies.length m__law_envies (do let d ← valM (readV 0); let ds ← (do let d ← valM (op2 idxD (readO 5) (toO (op1 negD (toO (pure ⟨.int 1, false⟩))))); let ds ← (do let d ← valM (readV 6); let ds ← (pure []); pure (d :: ds)); pure (d :: ds)); pure (d :: ds))))) (op2 addD (readO 5) (toO (tupM (do let d ← valM (readV 6); let ds ← (pure []); pure (d :: ds))))))
def b__law_rings_0 : PyData → M Fl := bodyM (nameM 5) (thenM (extM 4 (c__law_rings_1)) (pure .nx))
def c__law_rings_2 : M RV := lcK 4 [5] (turnM (nameM 5) (asB (callM N__law_envies.length ps__law_envies.length m__law_envies (do let d ← valM (readV 0); let ds ← (do let d ← valM (op2 idxD (readO 5) (toO (op1 negD (toO (pure ⟨.int 1, false⟩))))); let ds ← (do let d ← valM (op2 idxD (readO 5) (toO (pure ⟨.int 0, false⟩))); let ds ← (pure []); pure (d :: ds)); pure (d :: ds)); pure (d :: ds)))) (readV 5))
def b__law_rings_1 : PyData → M Fl := bodyM (nameM 3) (thenM (setM 4 (lstM (pure []))) (thenM (forM (seqM (readV 2)) (b__law_rings_0)) (thenM (extM 1 (c__law_rings_2)) (thenM (setM 2 (readV 4)) (pure .nx)))))
def m__law_rings : M Fl := thenM (parM 1 2 (lstM (pure [])) (frzM (c__law_rings_0))) (thenM (forM (rng1M (toO (op2 subD (toO (op1L lenF (readO 0))) (toO (pure ⟨.int 1, false⟩))))) (b__law_rings_1)) (thenM (retM (readR 1)) (pure .nx)))
def ps__law_gains : List Str := ["faces", "messages", "way"]
def N__law_gains : List Str := ["faces", "messages", "way", "found", "state", "at", "own", "spot", "some"]
def c__law_gains_0 : M RV := lcM [7, 8] (enumM (readV 1)) (turnM (tupT 2 (consM (nameM 7) (consM (nameM 8) (nilM)))) (Ev.andM (asB (op2 (cmpD .isin) (readO 4) (readO 8))) (asB (op2 (cmpD .gt) (toO (op2 idxD (toO (op2 idxD (readO 0) (readO 4))) (toO (op2 idxD (toO (op2 idxD (readO 2) (toO (pure ⟨.int 1, false⟩)))) (readO 7))))) (readO 6)))) (tupM (do let d ← valM (readV 4); let ds ← (do let d ← valM (readV 7); let ds ← (pure []); pure (d :: ds)); pure (d :: ds))))
def b__law_gains_0 : PyData → M Fl := bodyM (tupT 2 (consM (nameM 4) (consM (nameM 5) (nilM)))) (thenM (setM 6 (op2 idxD (toO (op2 idxD (readO 0) (readO 4))) (toO (op2 idxD (toO (op2 idxD (readO 2) (toO (pure ⟨.int 1, false⟩)))) (readO 5))))) (thenM (extM 3 (c__law_gains_0)) (pure .nx)))
def m__law_gains : M Fl := thenM (setM 3 (lstM (pure []))) (thenM (forM (enumM (op2 idxD (readO 2) (toO (pure ⟨.int 0, false⟩)))) (b__law_gains_0)) (thenM (retM (op1L sortedF (readO 3))) (pure .nx)))
def ps__law_right : List Str := ["pot", "faces", "messages"]
def N__law_right : List Str := ["pot", "faces", "messages", "states", "shown", "pairs", "rings", "one", "ring", "told", "at", "some", "due", "time", "tells", "way", "other", "state"]
def c__law_right_0 : M RV := lcM [16] (rng1M (readO 3)) (turnM (nameM 16) (asB (callM N__law_envies.length ps__law_envies.length m__law_envies (do let d ← valM (readV 1); let ds ← (do let d ← valM (readV 7); let ds ← (do let d ← valM (readV 16); let ds ← (pure []); pure (d :: ds)); pure (d :: ds)); pure (d :: ds)))) (tupM (do let d ← valM (readV 7); let ds ← (do let d ← valM (readV 16); let ds ← (pure []); pure (d :: ds)); pure (d :: ds))))
def b__law_right_0 : PyData → M Fl := bodyM (nameM 7) (thenM (extM 5 (c__law_right_0)) (pure .nx))
def c__law_right_1 : M RV := lcM [11] (seqM (readV 6)) (turnM (nameM 11) (pure true) (tupM (do let d ← valM (op1L lenF (readO 11)); let ds ← (do let d ← valM (readV 11); let ds ← (pure []); pure (d :: ds)); pure (d :: ds))))
def c__law_right_2 : M RV := lcM [16] (seqM (readV 11)) (turnM (nameM 16) (pure true) (callM N__law_envies.length ps__law_envies.length m__law_envies (do let d ← valM (readV 1); let ds ← (do let d ← valM (readV 16); let ds ← (do let d ← valM (readV 17); let ds ← (pure []); pure (d :: ds)); pure (d :: ds)); pure (d :: ds))))
def c__law_right_3 : M RV := lcM [17] (seqM (readV 11)) (turnM (nameM 17) (Ev.notM (asB (op1L anyF (toO (c__law_right_2))))) (readV 17))
def b__law_right_1 : PyData → M Fl := bodyM (tupT 2 (consM (nameM 10) (consM (nameM 11) (nilM)))) (thenM (setM 12 (op1L tupleF (toO (c__law_right_3)))) (thenM (ifM (asB (op2 (cmpD .ne) (toO (op1L reprF (toO (lstM (do let d ← valM (callM N_fit.length ps_fit.length m_fit (do let d ← valM (readV 1); let ds ← (do let d ← valM (readV 2); let ds ← (do let d ← valM (readV 10); let ds ← (pure []); pure (d :: ds)); pure (d :: ds)); pure (d :: ds))); let ds ← (do let d ← valM (callKM [2, 1, 0] N_fit.length ps_fit.length m_fit (do let d ← valM (readV 10); let ds ← (do let d ← valM (readV 2); let ds ← (do let d ← valM (readV 1); let ds ← (pure []); pure (d :: ds)); pure (d :: ds)); pure (d :: ds))); let ds ← (pure []); pure (d :: ds)); pure (d :: ds)))))) (toO (op1L reprF (toO (lstM (do let d ← valM (readV 12); let ds ← (do let d ← valM (readV 12); let ds ← (pure []); pure (d :: ds)); pure (d :: ds)))))))) (thenM (retM (pure ⟨.bool false, false⟩)) (pure .nx)) (pure .nx)) (pure .nx)))
def c__law_right_4 : M RV := lcM [10, 11] (enumM (readV 2)) (turnM (tupT 2 (consM (nameM 10) (consM (nameM 11) (nilM)))) (asB (op2 (cmpD .isin) (readO 17) (readO 11))) (readV 10))
def c__law_right_5 : M RV := lcM [17] (rng1M (readO 3)) (turnM (nameM 17) (pure true) (callPM 0 N__law_pick.length ps__law_pick.length m__law_pick (do let d ← valM (c__law_right_4); let ds ← (pure []); pure (d :: ds))))
def c__law_right_6 : M RV := lcM [11] (seqM (readV 2)) (turnM (nameM 11) (pure true) (callPM 0 N__law_pick.length ps__law_pick.length m__law_pick (do let d ← valM (readV 11); let ds ← (pure []); pure (d :: ds))))
def b__law_right_2 : PyData → M Fl := bodyM (nameM 13) (thenM (setM 14 (op1L tupleF (toO (c__law_right_5)))) (thenM (setM 15 (tupM (do let d ← valM (readV 14); let ds ← (do let d ← valM (op1L tupleF (toO (c__law_right_6))); let ds ← (pure []); pure (d :: ds)); pure (d :: ds)))) (thenM (setM 12 (frzM (callM N__law_gains.length ps__law_gains.length m__law_gains (do let d ← valM (readV 1); let ds ← (do let d ← valM (readV 2); let ds ← (do let d ← valM (readV 15); let ds ← (pure []); pure (d :: ds)); pure (d :: ds)); pure (d :: ds))))) (thenM (ifM (asB (op2 (cmpD .ne) (toO (op1L reprF (toO (lstM (do let d ← valM (callM N_gains.length ps_gains.length m_gains (do let d ← valM (readV 1); let ds ← (do let d ← valM (readV 2); let ds ← (do let d ← valM (readV 15); let ds ← (pure []); pure (d :: ds)); pure (d :: ds)); pure (d :: ds))); let ds ← (do let d ← valM (callKM [2, 1, 0] N_gains.length ps_gains.length m_gains (do let d ← valM (readV 15); let ds ← (do let d ← valM (readV 2); let ds ← (do let d ← valM (readV 1); let ds ← (pure []); pure (d :: ds)); pure (d :: ds)); pure (d :: ds))); let ds ← (pure []); pure (d :: ds)); pure (d :: ds)))))) (toO (op1L reprF (toO (lstM (do let d ← valM (readV 12); let ds ← (do let d ← valM (readV 12); let ds ← (pure []); pure (d :: ds)); pure (d :: ds)))))))) (thenM (retM (pure ⟨.bool false, false⟩)) (pure .nx)) (pure .nx)) (pure .nx)))))
noncomputable def m__law_right : M Fl := thenM (parM 3 4 (op1L lenF (readO 1)) (op1L reprF (toO (lstM (do let d ← valM (readV 1); let ds ← (do let d ← valM (readV 2); let ds ← (pure []); pure (d :: ds)); pure (d :: ds)))))) (thenM (parM 5 6 (lstM (pure [])) (frzM (callM N__law_rings.length ps__law_rings.length m__law_rings (do let d ← valM (readV 1); let ds ← (pure []); pure (d :: ds))))) (thenM (forM (rng1M (readO 3)) (b__law_right_0)) (thenM (setM 8 (frzM (iteM (asB (op2 (cmpD .ne) (readO 6) (toO (lstM (pure []))))) (op2 idxD (toO (op1L minG (toO (c__law_right_1)))) (toO (pure ⟨.int 1, false⟩))) (pure ⟨.none, false⟩)))) (frzAt 5 (spoilM 9 0 (callM N_envies.length ps_envies.length m_envies (do let d ← valM (readV 1); let ds ← (pure []); pure (d :: ds))) (do let d ← valM (callM N_envy_ring.length ps_envy_ring.length m_envy_ring (do let d ← valM (readV 1); let ds ← (pure []); pure (d :: ds))); let ds ← (do let d ← valM (callM N_full_messages.length ps_full_messages.length m_full_messages (do let d ← valM (readV 1); let ds ← (pure []); pure (d :: ds))); let ds ← (pure []); pure (d :: ds)); pure (d :: ds)) (asB (op2 (cmpD .ne) (toO (op1L reprF (readO 9))) (toO (op1L reprF (toO (lstM (do let d ← valM (readV 5); let ds ← (do let d ← valM (readV 8); let ds ← (do let d ← valM (op1L tupleF (toO (callM N__law_sets.length ps__law_sets.length m__law_sets (do let d ← valM (readV 3); let ds ← (pure []); pure (d :: ds))))); let ds ← (pure []); pure (d :: ds)); pure (d :: ds)); pure (d :: ds)))))))) (thenM (ifM (asB (op2 (cmpD .ne) (toO (op1L reprF (toO (lstM (do let d ← valM (callKM [0] N_envies.length ps_envies.length m_envies (do let d ← valM (readV 1); let ds ← (pure []); pure (d :: ds))); let ds ← (do let d ← valM (callKM [0] N_envy_ring.length ps_envy_ring.length m_envy_ring (do let d ← valM (readV 1); let ds ← (pure []); pure (d :: ds))); let ds ← (do let d ← valM (callKM [0] N_full_messages.length ps_full_messages.length m_full_messages (do let d ← valM (readV 1); let ds ← (pure []); pure (d :: ds))); let ds ← (pure []); pure (d :: ds)); pure (d :: ds)); pure (d :: ds)))))) (toO (op1L reprF (toO (lstM (do let d ← valM (readV 5); let ds ← (do let d ← valM (readV 8); let ds ← (do let d ← valM (op1L tupleF (toO (callM N__law_sets.length ps__law_sets.length m__law_sets (do let d ← valM (readV 3); let ds ← (pure []); pure (d :: ds))))); let ds ← (pure []); pure (d :: ds)); pure (d :: ds)); pure (d :: ds)))))))) (thenM (retM (pure ⟨.bool false, false⟩)) (pure .nx)) (pure .nx)) (thenM (forM (enumM (readV 2)) (b__law_right_1)) (thenM (forM (rng1M (toO (pure ⟨.int 4, false⟩))) (b__law_right_2)) (thenM (retM (op2 (cmpD .eq) (toO (op1L reprF (toO (lstM (do let d ← valM (readV 1); let ds ← (do let d ← valM (readV 2); let ds ← (pure []); pure (d :: ds)); pure (d :: ds)))))) (readO 4))) (pure .nx))))))))))
def ps__law_matters_right : List Str := ["pot"]
def N__law_matters_right : List Str := ["pot", "states", "matter", "firsts", "state", "worths", "due", "row", "deed"]
def c__law_matters_right_0 : M RV := lcM [7] (seqM (op2 idxD (toO (op2 idxD (readO 2) (toO (pure ⟨.int 3, false⟩)))) (toO (pure ⟨.int 0, false⟩)))) (turnM (nameM 7) (pure true) (op2 idxD (readO 7) (readO 4)))
def b__law_matters_right_0 : PyData → M Fl := bodyM (nameM 4) (thenM (setM 5 (frzM (c__law_matters_right_0))) (thenM (appM 3 (indexM (readO 5) (toO (op1L maxF (readO 5))))) (pure .nx)))
def c__law_matters_right_1 : M RV := lcK 3 [8] (turnM (nameM 8) (pure true) (op2 idxD (toO (op2 idxD (toO (op2 idxD (readO 2) (toO (pure ⟨.int 4, false⟩)))) (readO 8))) (readO 4)))
def c__law_matters_right_2 : M RV := lcM [4] (rng1M (readO 1)) (turnM (nameM 4) (pure true) (op1L tupleF (toO (c__law_matters_right_1))))
noncomputable def m__law_matters_right : M Fl := thenM (setM 1 (frzM (op2 addD (toO (pure ⟨.int 1, false⟩)) (toO (callPM 0 N__law_draw.length ps__law_draw.length m__law_draw (do let d ← valM (pure ⟨.int 4, false⟩); let ds ← (pure []); pure (d :: ds))))))) (thenM (parM 2 3 (frzM (callPM 0 N__law_matter.length ps__law_matter.length m__law_matter (do let d ← valM (tupM (do let d ← valM (op2 addD (toO (pure ⟨.int 1, false⟩)) (toO (callPM 0 N__law_draw.length ps__law_draw.length m__law_draw (do let d ← valM (pure ⟨.int 4, false⟩); let ds ← (pure []); pure (d :: ds))))); let ds ← (pure []); pure (d :: ds))); let ds ← (do let d ← valM (readV 1); let ds ← (do let d ← valM (pure ⟨.int 2, false⟩); let ds ← (pure []); pure (d :: ds)); pure (d :: ds)); pure (d :: ds)))) (lstM (pure []))) (thenM (forM (rng1M (readO 1)) (b__law_matters_right_0)) (thenM (setM 6 (op1L tupleF (toO (c__law_matters_right_2)))) (thenM (retM (ofB (Ev.andM (asB (op2 (cmpD .eq) (toO (op1L reprF (toO (lstM (do let d ← valM (callM N_faces_of.length ps_faces_of.length m_faces_of (do let d ← valM (readV 2); let ds ← (pure []); pure (d :: ds))); let ds ← (do let d ← valM (callKM [0] N_faces_of.length ps_faces_of.length m_faces_of (do let d ← valM (readV 2); let ds ← (pure []); pure (d :: ds))); let ds ← (pure []); pure (d :: ds)); pure (d :: ds)))))) (toO (op1L reprF (toO (lstM (do let d ← valM (readV 6); let ds ← (do let d ← valM (readV 6); let ds ← (pure []); pure (d :: ds)); pure (d :: ds)))))))) (asB (callPM 0 N__law_right.length ps__law_right.length m__law_right (do let d ← valM (readV 6); let ds ← (do let d ← valM (callPM 0 N__law_messages.length ps__law_messages.length m__law_messages (do let d ← valM (readV 1); let ds ← (pure []); pure (d :: ds))); let ds ← (pure []); pure (d :: ds)); pure (d :: ds))))))) (pure .nx)))))
def ps_law : List Str := ["script"]
def N_law : List Str := ["script", "pot", "time", "states", "faces"]
noncomputable def b_law_0 : PyData → M Fl := bodyM (nameM 2) (thenM (setM 3 (frzM (op2 addD (toO (pure ⟨.int 1, false⟩)) (toO (callPM 1 N__law_draw.length ps__law_draw.length m__law_draw (do let d ← valM (pure ⟨.int 4, false⟩); let ds ← (pure []); pure (d :: ds))))))) (thenM (setM 4 (frzM (callPM 1 N__law_faces.length ps__law_faces.length m__law_faces (do let d ← valM (readV 3); let ds ← (pure []); pure (d :: ds))))) (thenM (ifM (Ev.orM (Ev.notM (asB (callPM 1 N__law_right.length ps__law_right.length m__law_right (do let d ← valM (readV 4); let ds ← (do let d ← valM (callPM 1 N__law_messages.length ps__law_messages.length m__law_messages (do let d ← valM (readV 3); let ds ← (pure []); pure (d :: ds))); let ds ← (pure []); pure (d :: ds)); pure (d :: ds))))) (Ev.notM (asB (callPM 1 N__law_right.length ps__law_right.length m__law_right (do let d ← valM (readV 4); let ds ← (do let d ← valM (op1L tupleF (toO (callM N__law_sets.length ps__law_sets.length m__law_sets (do let d ← valM (readV 3); let ds ← (pure []); pure (d :: ds))))); let ds ← (pure []); pure (d :: ds)); pure (d :: ds)))))) (thenM (retM (pure ⟨.bool false, false⟩)) (pure .nx)) (pure .nx)) (thenM (ifM (Ev.notM (asB (callPM 1 N__law_matters_right.length ps__law_matters_right.length m__law_matters_right (pure [])))) (thenM (retM (pure ⟨.bool false, false⟩)) (pure .nx)) (pure .nx)) (pure .nx)))))
noncomputable def m_law : M Fl := thenM (setM 1 (callM N__law_pot.length ps__law_pot.length m__law_pot (do let d ← valM (readV 0); let ds ← (do let d ← valM (pure ⟨.int 0, false⟩); let ds ← (pure []); pure (d :: ds)); pure (d :: ds)))) (thenM (forM (rng1M (toO (pure ⟨.int 3, false⟩))) (b_law_0)) (thenM (retM (pure ⟨.bool true, false⟩)) (pure .nx)))
end Lw

set_option Elab.async false
set_option linter.all false
set_option maxRecDepth 100000
set_option maxHeartbeats 0
namespace Hd
open PySem PySem.Spec PyProof.Rows L2
abbrev theRow := PySem.Challenge.rw_asktell_k84_whole_envies_and_ways
def top (i : Nat) : Stmt := PySem.Challenge.pw_asktell_k84_whole_envies_and_ways.main.body.getD i (.Pass ⟨0, 0, 0, 0⟩)
def dd (i : Nat) (n : Str) : He.DefD := ⟨(n, none), n, n, defArgs (top i), defBody (top i), defScope (top i), [], []⟩
def dda (i : Nat) (n al : Str) : He.DefD := ⟨(al, none), n, n, defArgs (top i), defBody (top i), defScope (top i), [], []⟩

def fn : List He.DefD := [dd 1 "is_integer", dd 2 "is_count", dd 3 "is_position", dd 16 "states_in", dd 17 "profiles_by", dd 18 "prior_is_right", dd 19 "counts_are_right", dda 20 "row_is_right" "row_is_right_matters", dd 22 "numbers_are_right", dd 23 "matter_is_right", dd 24 "check_matter", dd 28 "first_best", dd 29 "faces_by", dd 30 "full_of", dd 31 "does_envy", dd 32 "envies_of", dd 33 "rings_of", dd 34 "ring_by", dd 35 "fit_of", dd 36 "gains_of", dda 37 "row_is_right" "row_is_right_shows", dd 39 "faces_are_right", dd 40 "set_is_right", dd 41 "messages_are_right", dd 42 "way_is_right", dd 43 "check_faces", dd 44 "check_both", dd 45 "faces_of", dd 46 "full_messages", dd 47 "envies", dd 48 "envy_ring", dd 49 "fit", dd 50 "gains", dd 52 "_law_pot", dd 53 "_law_draw", dd 54 "_law_pick", dd 55 "_law_frac", dd 56 "_law_plus", dd 57 "_law_minus", dd 58 "_law_times", dd 59 "_law_by", dd 60 "_law_below", dd 61 "_law_dot", dd 62 "_law_squares", dd 63 "_law_profiles", dd 64 "_law_matter", dd 65 "_law_prior", dd 66 "_law_lottery", dd 67 "_law_sum", dd 68 "_law_sets", dd 69 "_law_faces", dd 70 "_law_messages", dd 71 "_law_envies", dd 72 "_law_rings", dd 73 "_law_gains", dd 74 "_law_right", dd 75 "_law_matters_right", dd 76 "law"]
def fa : List He.Fa := [.glo "is_integer", .glo "is_count", .glo "is_position", .glo "states_in", .glo "profiles_by", .glo "prior_is_right", .glo "counts_are_right", .glo "row_is_right_matters", .glo "numbers_are_right", .glo "matter_is_right", .glo "check_matter", .glo "first_best", .glo "faces_by", .glo "full_of", .glo "does_envy", .glo "envies_of", .glo "rings_of", .glo "ring_by", .glo "fit_of", .glo "gains_of", .glo "row_is_right_shows", .glo "faces_are_right", .glo "set_is_right", .glo "messages_are_right", .glo "way_is_right", .glo "check_faces", .glo "check_both", .glo "faces_of", .glo "full_messages", .glo "envies", .glo "envy_ring", .glo "fit", .glo "gains", .glo "_law_pot", .glo "_law_draw", .glo "_law_pick", .glo "_law_frac", .glo "_law_plus", .glo "_law_minus", .glo "_law_times", .glo "_law_by", .glo "_law_below", .glo "_law_dot", .glo "_law_squares", .glo "_law_profiles", .glo "_law_matter", .glo "_law_prior", .glo "_law_lottery", .glo "_law_sum", .glo "_law_sets", .glo "_law_faces", .glo "_law_messages", .glo "_law_envies", .glo "_law_rings", .glo "_law_gains", .glo "_law_right", .glo "_law_matters_right", .glo "law", .free "ValueError", .free "abs", .free "all", .free "any", .free "bool", .free "enumerate", .free "int", .free "isinstance", .free "len", .free "list", .free "max", .free "min", .free "range", .free "repr", .free "sorted", .free "str", .free "sum", .free "tuple", .free "zip", .int "MOST_STATES_matters" 4, .int "MOST_WORTH_matters" 99, .int "MOST_ALONE" 4, .int "MOST_BESIDE" 3, .int "MOST_STATES_shows" 4, .int "MOST_WORTH_shows" 99]
def oth0 : List Str := ["AskError", "InvalidMatter", "InvalidAt", "InvalidFaces", "InvalidMessages", "InvalidWay", "MOST_STATES_matters", "MOST_WORTH_matters", "MOST_ALONE", "MOST_BESIDE", "row_is_right_matters", "MOST_STATES_shows"]
def oth1 : List Str := ["MOST_WORTH_shows", "row_is_right_shows", "is_integer", "is_count", "is_position", "states_in", "profiles_by", "prior_is_right", "counts_are_right", "numbers_are_right", "matter_is_right", "check_matter"]
def oth2 : List Str := ["first_best", "faces_by", "full_of", "does_envy", "envies_of", "rings_of", "ring_by", "fit_of", "gains_of", "faces_are_right", "set_is_right", "messages_are_right"]
def oth3 : List Str := ["way_is_right", "check_faces", "check_both", "faces_of", "full_messages", "envies", "envy_ring", "fit", "gains", "_law_pot", "_law_draw", "_law_pick"]
def oth4 : List Str := ["_law_frac", "_law_plus", "_law_minus", "_law_times", "_law_by", "_law_below", "_law_dot", "_law_squares", "_law_profiles", "_law_matter", "_law_prior", "_law_lottery"]
def oth5 : List Str := ["_law_sum", "_law_sets", "_law_faces", "_law_messages", "_law_envies", "_law_rings", "_law_gains", "_law_right", "_law_matters_right", "row_is_right"]
def oth : List Str := oth0 ++ oth1 ++ oth2 ++ oth3 ++ oth4 ++ oth5
abbrev R : PySem.W.OpenRow := PySem.W.OpenLaw.row theRow
abbrev hk : PySem.W.Hook := He.hookD 4 fa fn
def ob (s : PySem.W.SharedT) : He.AlD := He.obsDG 4 fa fn (HandSHeadRun.getT s)
theorem ob_eq (s : PySem.W.SharedT) : ob s = hk.obs s.abs := He.obsDG_eq (HandSHeadRun.getT_eq s)
theorem run (w : World) : HandSHeadRun.RunEq R (PySem.W.view R.prog [76]) hk ob 4000 oth w := by
  intro os
  kernel_rfl
end Hd

set_option Elab.async false
set_option linter.all false
set_option maxRecDepth 100000
set_option maxHeartbeats 4000000
namespace Lw
open PySem PySem.Spec L2 Ev
theorem room_u {k : Nat} {A : Around} (r : Room k A) : A.units + 100 < cLine := by have := r.un; omega
theorem room_u64 {k : Nat} {A : Around} (r : Room k A) : A.units + 64 < cLine := by have := r.un; omega
theorem room_u65 {k : Nat} {A : Around} (r : Room k A) : A.units + 65 < cLine := by have := r.un; omega
section
variable {P : Program} {w : World} {K : PySem.W.Frag} {h : Heap} {mg : Str → Option Value}
theorem sc_is_integer : FnScope N_is_integer ps_is_integer (defScope (Hd.top 1)) := ⟨rfl, rfl, rfl, by decide +kernel, rfl, by decide +kernel, by decide +kernel⟩
theorem cal_is_integer (c : He.SaysD Hd.fa Hd.fn K) (X : K.In h) (G : h.Ns mainGlobals mg) : Cal P w K mg 1 "is_integer" ps_is_integer N_is_integer [] m_is_integer := by
  obtain ⟨fd, D⟩ := c.def_ 0 (d := Hd.dd 1 "is_integer") rfl
  have fr_bool : mg "bool" = none := He.free_ok X G (c.fact 62 (f := .free "bool") rfl)
  have fr_int : mg "int" = none := He.free_ok X G (c.fact 64 (f := .free "int") rfl)
  have fr_isinstance : mg "isinstance" = none := He.free_ok X G (c.fact 65 (f := .free "isinstance") rfl)
  refine cal_of (N := N_is_integer) (ps := ps_is_integer) (k := 0) D (He.glo_ok X G (c.fact 0 (f := .glo "is_integer") rfl)) sc_is_integer (fun _ _ _ _ _ _ us hl => match us, hl with | [_], _ => rfl) (fun _ z => nomatch z) (fun base cdv A out s H room gd => ?_)
  · have nd : N_is_integer.Nodup := sc_is_integer.nd
    have u100 := room_u room
    have u64 := room_u64 room
    have u65 := room_u65 room
    exact ss_cons (by exact ss_ret (by exact sv_and (by exact sv_asB (by exact sv_is it_int rfl fr_isinstance rfl fr_int (by exact so_v 0 rfl rfl rfl rfl) rfl rfl rfl)) (by exact pe_one (by exact sv_not (by exact sv_asB (by exact sv_is it_bool rfl fr_isinstance rfl fr_bool (by exact so_v 0 rfl rfl rfl rfl) rfl rfl rfl)))))) (by exact ss_nil)
theorem sc_is_count : FnScope N_is_count ps_is_count (defScope (Hd.top 2)) := ⟨rfl, rfl, rfl, by decide +kernel, rfl, by decide +kernel, by decide +kernel⟩
theorem cal_is_count (c : He.SaysD Hd.fa Hd.fn K) (X : K.In h) (G : h.Ns mainGlobals mg) : Cal P w K mg 2 "is_count" ps_is_count N_is_count [] m_is_count := by
  obtain ⟨fd, D⟩ := c.def_ 1 (d := Hd.dd 2 "is_count") rfl
  have c_is_integer := (cal_is_integer (P := P) (w := w) c X G)
  refine cal_of (N := N_is_count) (ps := ps_is_count) (k := 1) D (He.glo_ok X G (c.fact 1 (f := .glo "is_count") rfl)) sc_is_count (fun _ _ _ _ _ _ us hl => match us, hl with | [_], _ => rfl) (fun _ z => nomatch z) (fun base cdv A out s H room gd => ?_)
  · have nd : N_is_count.Nodup := sc_is_count.nd
    have u100 := room_u room
    have u64 := room_u64 room
    have u65 := room_u65 room
    exact ss_cons (by exact ss_ret (by exact sv_and (by exact sv_asB (by exact sv_c c_is_integer room (by first | decide | omega) gd rfl (by exact svs_cons (by exact sv_v 0 rfl rfl rfl rfl) (by exact svs_nil) rfl) rfl rfl rfl)) (by exact pe_one (by exact sv_asB (by exact sv_cmp op_ge ok_ge (by exact so_v 0 rfl rfl rfl rfl) (by exact so_of (by exact sv_int)) (nomark _)))))) (by exact ss_nil)
theorem sc_is_position : FnScope N_is_position ps_is_position (defScope (Hd.top 3)) := ⟨rfl, rfl, rfl, by decide +kernel, rfl, by decide +kernel, by decide +kernel⟩
theorem cal_is_position (c : He.SaysD Hd.fa Hd.fn K) (X : K.In h) (G : h.Ns mainGlobals mg) : Cal P w K mg 2 "is_position" ps_is_position N_is_position [] m_is_position := by
  obtain ⟨fd, D⟩ := c.def_ 2 (d := Hd.dd 3 "is_position") rfl
  have c_is_integer := (cal_is_integer (P := P) (w := w) c X G)
  refine cal_of (N := N_is_position) (ps := ps_is_position) (k := 1) D (He.glo_ok X G (c.fact 2 (f := .glo "is_position") rfl)) sc_is_position (fun _ _ _ _ _ _ us hl => match us, hl with | [_, _], _ => rfl) (fun _ z => nomatch z) (fun base cdv A out s H room gd => ?_)
  · have nd : N_is_position.Nodup := sc_is_position.nd
    have u100 := room_u room
    have u64 := room_u64 room
    have u65 := room_u65 room
    exact ss_cons (by exact ss_ret (by exact sv_and (by exact sv_asB (by exact sv_c c_is_integer room (by first | decide | omega) gd rfl (by exact svs_cons (by exact sv_v 0 rfl rfl rfl rfl) (by exact svs_nil) rfl) rfl rfl rfl)) (by exact pe_one (by exact sv_asB (by exact sv_chain op_le (op_ltA u100) ok_le ok_lt (by exact so_of (by exact sv_int)) (by exact so_v 0 rfl rfl rfl rfl) (by exact so_v 1 rfl rfl rfl rfl) rfl))))) (by exact ss_nil)
theorem sc_states_in : FnScope N_states_in ps_states_in (defScope (Hd.top 16)) := ⟨rfl, rfl, rfl, by decide +kernel, rfl, by decide +kernel, by decide +kernel⟩
theorem cal_states_in (c : He.SaysD Hd.fa Hd.fn K) (X : K.In h) (G : h.Ns mainGlobals mg) : Cal P w K mg 1 "states_in" ps_states_in N_states_in [] m_states_in := by
  obtain ⟨fd, D⟩ := c.def_ 3 (d := Hd.dd 16 "states_in") rfl
  have fr_len : mg "len" = none := He.free_ok X G (c.fact 66 (f := .free "len") rfl)
  refine cal_of (N := N_states_in) (ps := ps_states_in) (k := 0) D (He.glo_ok X G (c.fact 3 (f := .glo "states_in") rfl)) sc_states_in (fun _ _ _ _ _ _ us hl => match us, hl with | [_], _ => rfl) (fun _ z => nomatch z) (fun base cdv A out s H room gd => ?_)
  · have nd : N_states_in.Nodup := sc_states_in.nd
    have u100 := room_u room
    have u64 := room_u64 room
    have u65 := room_u65 room
    exact ss_cons (by exact ss_ret (by exact sv_b1 bi_len rfl fr_len (by exact so_of (by exact sv_idx (by exact so_v 0 rfl rfl rfl rfl) (by exact so_of (by exact sv_int)) (fun _ _ => rfl))) rfl rfl)) (by exact ss_nil)
theorem sc_profiles_by : FnScope N_profiles_by ps_profiles_by (defScope (Hd.top 17)) := ⟨rfl, rfl, rfl, by decide +kernel, rfl, by decide +kernel, by decide +kernel⟩
theorem cal_profiles_by (c : He.SaysD Hd.fa Hd.fn K) (X : K.In h) (G : h.Ns mainGlobals mg) : Cal P w K mg 1 "profiles_by" ps_profiles_by N_profiles_by [] m_profiles_by := by
  obtain ⟨fd, D⟩ := c.def_ 4 (d := Hd.dd 17 "profiles_by") rfl
  have fr_range : mg "range" = none := He.free_ok X G (c.fact 70 (f := .free "range") rfl)
  refine cal_of (N := N_profiles_by) (ps := ps_profiles_by) (k := 0) D (He.glo_ok X G (c.fact 4 (f := .glo "profiles_by") rfl)) sc_profiles_by (fun _ _ _ _ _ _ us hl => match us, hl with | [_], _ => rfl) (fun _ z => nomatch z) (fun base cdv A out s H room gd => ?_)
  · have nd : N_profiles_by.Nodup := sc_profiles_by.nd
    have u100 := room_u room
    have u64 := room_u64 room
    have u65 := room_u65 room
    exact ss_cons (by exact g_set 1 nd rfl (by first | exact .inl rfl | exact .inr rfl) (by exact sv_frz (by exact sv_lst (by exact svs_cons (by exact sv_tup (by exact svs_nil)) (by exact svs_nil) rfl))) rfl (.inl rfl)) (by exact ss_cons (by exact g_for false [2] PassesOwn.never rfl (by exact si_seq (by exact sv_v 0 rfl rfl rfl rfl)) (by exact sg_name (pg_name nd rfl (by first | exact .inl rfl | exact .inr rfl) (.inl rfl))) (by exact ss_cons (by exact g_set 3 nd rfl (by first | exact .inl rfl | exact .inr rfl) (by exact sv_lst (by exact svs_nil)) rfl (.inl rfl)) (by exact ss_cons (by exact g_for false [4] PassesOwn.never rfl (by exact si_seq (by exact sv_v 1 rfl rfl rfl rfl)) (by exact sg_name (pg_name nd rfl (by first | exact .inl rfl | exact .inr rfl) (.inl rfl))) (by exact ss_cons (by exact g_ext 3 (nv 3 rfl rfl rfl rfl) (by exact g_lc false [5] [("deed", 5)] (by decide) rfl nd (by exact si_rng1 rfl fr_range (by exact so_v 2 rfl rfl rfl rfl) rfl rfl) (by kernel_rfl) (fun _ _ _ _ _ => by exact sg_name (pg_name nd rfl (by first | exact .inl rfl | exact .inr rfl) (by first | exact .inr rfl | exact .inl rfl))) (fun _ _ _ _ _ => by exact sps_nil) (fun _ _ _ _ _ => by exact sv_bin op_addA ok_add (by exact so_v 4 rfl rfl rfl rfl) (by exact so_of (by exact sv_tup (by exact svs_cons (by exact sv_v 5 rfl rfl rfl rfl) (by exact svs_nil) rfl)))) (fun _ => rfl)) ⟨rfl, rfl, rfl, rfl, rfl⟩ rfl) (by exact ss_nil)) (fun _ => rfl)) (by exact ss_cons (by exact g_set 1 nd rfl (by first | exact .inl rfl | exact .inr rfl) (by exact sv_v 3 rfl rfl rfl rfl) rfl (.inl rfl)) (by exact ss_nil)))) (fun _ => rfl)) (by exact ss_cons (by exact ss_retv (nv 1 rfl rfl rfl rfl)) (by exact ss_nil)))
theorem sc_prior_is_right : FnScope N_prior_is_right ps_prior_is_right (defScope (Hd.top 18)) := ⟨rfl, rfl, rfl, by decide +kernel, rfl, by decide +kernel, by decide +kernel⟩
theorem cal_prior_is_right (c : He.SaysD Hd.fa Hd.fn K) (X : K.In h) (G : h.Ns mainGlobals mg) : Cal P w K mg 3 "prior_is_right" ps_prior_is_right N_prior_is_right [] m_prior_is_right := by
  obtain ⟨fd, D⟩ := c.def_ 5 (d := Hd.dd 18 "prior_is_right") rfl
  have fr_all : mg "all" = none := He.free_ok X G (c.fact 60 (f := .free "all") rfl)
  have fr_isinstance : mg "isinstance" = none := He.free_ok X G (c.fact 65 (f := .free "isinstance") rfl)
  have fr_len : mg "len" = none := He.free_ok X G (c.fact 66 (f := .free "len") rfl)
  have fr_tuple : mg "tuple" = none := He.free_ok X G (c.fact 75 (f := .free "tuple") rfl)
  have gi_MOST_STATES_matters : ∃ t, mg "MOST_STATES_matters" = some (.int 4 t) := He.int_ok X G (c.fact 77 (f := .int "MOST_STATES_matters" 4) rfl)
  have gi_MOST_WORTH_matters : ∃ t, mg "MOST_WORTH_matters" = some (.int 99 t) := He.int_ok X G (c.fact 78 (f := .int "MOST_WORTH_matters" 99) rfl)
  have c_is_count := (cal_is_count (P := P) (w := w) c X G)
  refine cal_of (N := N_prior_is_right) (ps := ps_prior_is_right) (k := 2) D (He.glo_ok X G (c.fact 5 (f := .glo "prior_is_right") rfl)) sc_prior_is_right (fun _ _ _ _ _ _ us hl => match us, hl with | [_], _ => rfl) (fun _ z => nomatch z) (fun base cdv A out s H room gd => ?_)
  · have nd : N_prior_is_right.Nodup := sc_prior_is_right.nd
    have u100 := room_u room
    have u64 := room_u64 room
    have u65 := room_u65 room
    exact ss_cons (by exact ss_if (by exact g_pt (by exact sw_or (by exact sb_not (by exact sb_val (by exact sv_is it_tuple rfl fr_isinstance rfl fr_tuple (by exact so_v 0 rfl rfl rfl rfl) rfl rfl rfl) (fun _ => rfl))) (by exact pw_or1 (by exact sb_not (by exact sb_chain op_le op_le ok_le ok_le (by exact so_of (by exact sv_int)) (by exact so_of (by exact sv_b1 bi_len rfl fr_len (by exact so_v 0 rfl rfl rfl rfl) rfl rfl)) (by exact so_of (by exact sv_gint rfl gi_MOST_STATES_matters rfl)) rfl))))) (by exact ss_cons (by exact ss_ret (by exact sv_bl)) (by exact ss_nil)) (by exact ss_nil)) (by exact ss_cons (by exact ss_ret (by exact sv_b1 (bi_all rfl) rfl fr_all (by exact so_of (by exact g_lc false [1] [("share", 1)] (by decide) rfl nd (by exact si_seq (by exact sv_v 0 rfl rfl rfl rfl)) (by kernel_rfl) (fun _ _ _ _ _ => by exact sg_name (pg_name nd rfl (by first | exact .inl rfl | exact .inr rfl) (by first | exact .inr rfl | exact .inl rfl))) (fun _ _ _ _ _ => by exact sps_nil) (fun _ _ _ _ _ => by exact sv_and (by exact sv_asB (by exact sv_c c_is_count room (by first | decide | omega) gd rfl (by exact svs_cons (by exact sv_v 1 rfl rfl rfl rfl) (by exact svs_nil) rfl) rfl rfl rfl)) (by exact pe_one (by exact sv_asB (by exact sv_chain op_le op_le ok_le ok_le (by exact so_of (by exact sv_int)) (by exact so_v 1 rfl rfl rfl rfl) (by exact so_of (by exact sv_gint rfl gi_MOST_WORTH_matters rfl)) rfl)))) (fun _ => rfl))) rfl rfl)) (by exact ss_nil))
theorem sc_counts_are_right : FnScope N_counts_are_right ps_counts_are_right (defScope (Hd.top 19)) := ⟨rfl, rfl, rfl, by decide +kernel, rfl, by decide +kernel, by decide +kernel⟩
theorem cal_counts_are_right (c : He.SaysD Hd.fa Hd.fn K) (X : K.In h) (G : h.Ns mainGlobals mg) : Cal P w K mg 3 "counts_are_right" ps_counts_are_right N_counts_are_right [] m_counts_are_right := by
  obtain ⟨fd, D⟩ := c.def_ 6 (d := Hd.dd 19 "counts_are_right") rfl
  have fr_all : mg "all" = none := He.free_ok X G (c.fact 60 (f := .free "all") rfl)
  have fr_isinstance : mg "isinstance" = none := He.free_ok X G (c.fact 65 (f := .free "isinstance") rfl)
  have fr_len : mg "len" = none := He.free_ok X G (c.fact 66 (f := .free "len") rfl)
  have fr_tuple : mg "tuple" = none := He.free_ok X G (c.fact 75 (f := .free "tuple") rfl)
  have gi_MOST_ALONE : ∃ t, mg "MOST_ALONE" = some (.int 4 t) := He.int_ok X G (c.fact 79 (f := .int "MOST_ALONE" 4) rfl)
  have gi_MOST_BESIDE : ∃ t, mg "MOST_BESIDE" = some (.int 3 t) := He.int_ok X G (c.fact 80 (f := .int "MOST_BESIDE" 3) rfl)
  have c_is_count := (cal_is_count (P := P) (w := w) c X G)
  refine cal_of (N := N_counts_are_right) (ps := ps_counts_are_right) (k := 2) D (He.glo_ok X G (c.fact 6 (f := .glo "counts_are_right") rfl)) sc_counts_are_right (fun _ _ _ _ _ _ us hl => match us, hl with | [_], _ => rfl) (fun _ z => nomatch z) (fun base cdv A out s H room gd => ?_)
  · have nd : N_counts_are_right.Nodup := sc_counts_are_right.nd
    have u100 := room_u room
    have u64 := room_u64 room
    have u65 := room_u65 room
    exact ss_cons (by exact ss_if (by exact g_pt (by exact sw_or (by exact sb_not (by exact sb_val (by exact sv_is it_tuple rfl fr_isinstance rfl fr_tuple (by exact so_v 0 rfl rfl rfl rfl) rfl rfl rfl) (fun _ => rfl))) (by exact pw_or1 (by exact sb_not (by exact sb_chain op_le op_le ok_le ok_le (by exact so_of (by exact sv_int)) (by exact so_of (by exact sv_b1 bi_len rfl fr_len (by exact so_v 0 rfl rfl rfl rfl) rfl rfl)) (by exact so_of (by exact sv_int)) rfl))))) (by exact ss_cons (by exact ss_ret (by exact sv_bl)) (by exact ss_nil)) (by exact ss_nil)) (by exact ss_cons (by exact g_set 1 nd rfl (by first | exact .inl rfl | exact .inr rfl) (by exact sv_frz (by exact sv_ite (by exact sb_cmp (op_eqA u64) ok_eq (by exact so_of (by exact sv_b1 bi_len rfl fr_len (by exact so_v 0 rfl rfl rfl rfl) rfl rfl)) (by exact so_of (by exact sv_int)) (nomark _)) (by exact sv_gint rfl gi_MOST_ALONE rfl) (by exact sv_gint rfl gi_MOST_BESIDE rfl))) rfl (.inl rfl)) (by exact ss_cons (by exact ss_ret (by exact sv_b1 (bi_all rfl) rfl fr_all (by exact so_of (by exact g_lc false [2] [("count", 2)] (by decide) rfl nd (by exact si_seq (by exact sv_v 0 rfl rfl rfl rfl)) (by kernel_rfl) (fun _ _ _ _ _ => by exact sg_name (pg_name nd rfl (by first | exact .inl rfl | exact .inr rfl) (by first | exact .inr rfl | exact .inl rfl))) (fun _ _ _ _ _ => by exact sps_nil) (fun _ _ _ _ _ => by exact sv_and (by exact sv_asB (by exact sv_c c_is_count room (by first | decide | omega) gd rfl (by exact svs_cons (by exact sv_v 2 rfl rfl rfl rfl) (by exact svs_nil) rfl) rfl rfl rfl)) (by exact pe_one (by exact sv_asB (by exact sv_chain op_le op_le ok_le ok_le (by exact so_of (by exact sv_int)) (by exact so_v 2 rfl rfl rfl rfl) (by exact so_v 1 rfl rfl rfl rfl) rfl)))) (fun _ => rfl))) rfl rfl)) (by exact ss_nil)))
theorem sc_row_is_right_matters : FnScope N_row_is_right_matters ps_row_is_right_matters (defScope (Hd.top 20)) := ⟨rfl, rfl, rfl, by decide +kernel, rfl, by decide +kernel, by decide +kernel⟩
theorem cal_row_is_right_matters (c : He.SaysD Hd.fa Hd.fn K) (X : K.In h) (G : h.Ns mainGlobals mg) : Cal P w K mg 2 "row_is_right_matters" ps_row_is_right_matters N_row_is_right_matters [] m_row_is_right_matters := by
  obtain ⟨fd, D⟩ := c.def_ 7 (d := Hd.dda 20 "row_is_right" "row_is_right_matters") rfl
  have fr_all : mg "all" = none := He.free_ok X G (c.fact 60 (f := .free "all") rfl)
  have fr_isinstance : mg "isinstance" = none := He.free_ok X G (c.fact 65 (f := .free "isinstance") rfl)
  have fr_len : mg "len" = none := He.free_ok X G (c.fact 66 (f := .free "len") rfl)
  have fr_tuple : mg "tuple" = none := He.free_ok X G (c.fact 75 (f := .free "tuple") rfl)
  have gi_MOST_WORTH_matters : ∃ t, mg "MOST_WORTH_matters" = some (.int 99 t) := He.int_ok X G (c.fact 78 (f := .int "MOST_WORTH_matters" 99) rfl)
  have c_is_integer := (cal_is_integer (P := P) (w := w) c X G)
  refine cal_of2 (N := N_row_is_right_matters) (ps := ps_row_is_right_matters) (k := 1) D (He.glo_ok X G (c.fact 7 (f := .glo "row_is_right_matters") rfl)) sc_row_is_right_matters (fun _ _ _ _ _ _ us hl => match us, hl with | [_, _], _ => rfl) (fun _ z => nomatch z) (fun base cdv A out s H room gd => ?_)
  · have nd : N_row_is_right_matters.Nodup := sc_row_is_right_matters.nd
    have u100 := room_u room
    have u64 := room_u64 room
    have u65 := room_u65 room
    exact ss_cons (by exact ss_if (by exact g_pt (by exact sw_or (by exact sb_not (by exact sb_val (by exact sv_is it_tuple rfl fr_isinstance rfl fr_tuple (by exact so_v 0 rfl rfl rfl rfl) rfl rfl rfl) (fun _ => rfl))) (by exact pw_or1 (by exact sb_cmp (op_neA u64) ok_ne (by exact so_of (by exact sv_b1 bi_len rfl fr_len (by exact so_v 0 rfl rfl rfl rfl) rfl rfl)) (by exact so_v 1 rfl rfl rfl rfl) (nomark _))))) (by exact ss_cons (by exact ss_ret (by exact sv_bl)) (by exact ss_nil)) (by exact ss_nil)) (by exact ss_cons (by exact ss_ret (by exact sv_b1 (bi_all rfl) rfl fr_all (by exact so_of (by exact g_lc false [2] [("number", 2)] (by decide) rfl nd (by exact si_seq (by exact sv_v 0 rfl rfl rfl rfl)) (by kernel_rfl) (fun _ _ _ _ _ => by exact sg_name (pg_name nd rfl (by first | exact .inl rfl | exact .inr rfl) (by first | exact .inr rfl | exact .inl rfl))) (fun _ _ _ _ _ => by exact sps_nil) (fun _ _ _ _ _ => by exact sv_and (by exact sv_asB (by exact sv_c c_is_integer room (by first | decide | omega) gd rfl (by exact svs_cons (by exact sv_v 2 rfl rfl rfl rfl) (by exact svs_nil) rfl) rfl rfl rfl)) (by exact pe_one (by exact sv_asB (by exact sv_chain op_le op_le ok_le ok_le (by exact so_of (by exact sv_neg (by exact so_of (by exact sv_gint rfl gi_MOST_WORTH_matters rfl)))) (by exact so_v 2 rfl rfl rfl rfl) (by exact so_of (by exact sv_gint rfl gi_MOST_WORTH_matters rfl)) rfl)))) (fun _ => rfl))) rfl rfl)) (by exact ss_nil))
theorem sc_numbers_are_right : FnScope N_numbers_are_right ps_numbers_are_right (defScope (Hd.top 22)) := ⟨rfl, rfl, rfl, by decide +kernel, rfl, by decide +kernel, by decide +kernel⟩
theorem cal_numbers_are_right (c : He.SaysD Hd.fa Hd.fn K) (X : K.In h) (G : h.Ns mainGlobals mg) : Cal P w K mg 3 "numbers_are_right" ps_numbers_are_right N_numbers_are_right [] m_numbers_are_right := by
  obtain ⟨fd, D⟩ := c.def_ 8 (d := Hd.dd 22 "numbers_are_right") rfl
  have fr_all : mg "all" = none := He.free_ok X G (c.fact 60 (f := .free "all") rfl)
  have fr_isinstance : mg "isinstance" = none := He.free_ok X G (c.fact 65 (f := .free "isinstance") rfl)
  have fr_len : mg "len" = none := He.free_ok X G (c.fact 66 (f := .free "len") rfl)
  have fr_tuple : mg "tuple" = none := He.free_ok X G (c.fact 75 (f := .free "tuple") rfl)
  have c_row_is_right_matters := (cal_row_is_right_matters (P := P) (w := w) c X G)
  refine cal_of (N := N_numbers_are_right) (ps := ps_numbers_are_right) (k := 2) D (He.glo_ok X G (c.fact 8 (f := .glo "numbers_are_right") rfl)) sc_numbers_are_right (fun _ _ _ _ _ _ us hl => match us, hl with | [_, _, _], _ => rfl) (fun _ z => nomatch z) (fun base cdv A out s H room gd => ?_)
  · have nd : N_numbers_are_right.Nodup := sc_numbers_are_right.nd
    have u100 := room_u room
    have u64 := room_u64 room
    have u65 := room_u65 room
    exact ss_cons (by exact ss_ret (by exact sv_and (by exact sv_asB (by exact sv_is it_tuple rfl fr_isinstance rfl fr_tuple (by exact so_v 0 rfl rfl rfl rfl) rfl rfl rfl)) (by exact sv_and (by exact sv_asB (by exact sv_cmp (op_eqA u64) ok_eq (by exact so_of (by exact sv_b1 bi_len rfl fr_len (by exact so_v 0 rfl rfl rfl rfl) rfl rfl)) (by exact so_v 1 rfl rfl rfl rfl) (nomark _))) (by exact pe_one (by exact sv_asB (by exact sv_b1 (bi_all rfl) rfl fr_all (by exact so_of (by exact g_lc false [3] [("row", 3)] (by decide) rfl nd (by exact si_seq (by exact sv_v 0 rfl rfl rfl rfl)) (by kernel_rfl) (fun _ _ _ _ _ => by exact sg_name (pg_name nd rfl (by first | exact .inl rfl | exact .inr rfl) (by first | exact .inr rfl | exact .inl rfl))) (fun _ _ _ _ _ => by exact sps_nil) (fun _ _ _ _ _ => by exact sv_c c_row_is_right_matters room (by first | decide | omega) gd rfl (by exact svs_cons (by exact sv_v 3 rfl rfl rfl rfl) (by exact svs_cons (by exact sv_v 2 rfl rfl rfl rfl) (by exact svs_nil) rfl) rfl) rfl rfl rfl) (fun _ => rfl))) rfl rfl)))))) (by exact ss_nil)
theorem sc_matter_is_right : FnScope N_matter_is_right ps_matter_is_right (defScope (Hd.top 23)) := ⟨rfl, rfl, rfl, by decide +kernel, rfl, by decide +kernel, by decide +kernel⟩
theorem cal_matter_is_right (c : He.SaysD Hd.fa Hd.fn K) (X : K.In h) (G : h.Ns mainGlobals mg) : Cal P w K mg 4 "matter_is_right" ps_matter_is_right N_matter_is_right [] m_matter_is_right := by
  obtain ⟨fd, D⟩ := c.def_ 9 (d := Hd.dd 23 "matter_is_right") rfl
  have fr_all : mg "all" = none := He.free_ok X G (c.fact 60 (f := .free "all") rfl)
  have fr_isinstance : mg "isinstance" = none := He.free_ok X G (c.fact 65 (f := .free "isinstance") rfl)
  have fr_len : mg "len" = none := He.free_ok X G (c.fact 66 (f := .free "len") rfl)
  have fr_str : mg "str" = none := He.free_ok X G (c.fact 73 (f := .free "str") rfl)
  have fr_tuple : mg "tuple" = none := He.free_ok X G (c.fact 75 (f := .free "tuple") rfl)
  have c_profiles_by := (cal_profiles_by (P := P) (w := w) c X G)
  have c_prior_is_right := (cal_prior_is_right (P := P) (w := w) c X G)
  have c_counts_are_right := (cal_counts_are_right (P := P) (w := w) c X G)
  have c_numbers_are_right := (cal_numbers_are_right (P := P) (w := w) c X G)
  refine cal_of (N := N_matter_is_right) (ps := ps_matter_is_right) (k := 3) D (He.glo_ok X G (c.fact 9 (f := .glo "matter_is_right") rfl)) sc_matter_is_right (fun _ _ _ _ _ _ us hl => match us, hl with | [_], _ => rfl) (fun _ z => nomatch z) (fun base cdv A out s H room gd => ?_)
  · have nd : N_matter_is_right.Nodup := sc_matter_is_right.nd
    have u100 := room_u room
    have u64 := room_u64 room
    have u65 := room_u65 room
    exact ss_cons (by exact ss_if (by exact g_pt (by exact sw_or (by exact sb_not (by exact sb_val (by exact sv_is it_tuple rfl fr_isinstance rfl fr_tuple (by exact so_v 0 rfl rfl rfl rfl) rfl rfl rfl) (fun _ => rfl))) (by exact sw_or (by exact sb_cmp (op_neA u64) ok_ne (by exact so_of (by exact sv_b1 bi_len rfl fr_len (by exact so_v 0 rfl rfl rfl rfl) rfl rfl)) (by exact so_of (by exact sv_int)) (nomark _)) (by exact sw_or (by exact sb_not (by exact sb_val (by exact sv_is it_str rfl fr_isinstance rfl fr_str (by exact so_of (by exact sv_idx (by exact so_v 0 rfl rfl rfl rfl) (by exact so_of (by exact sv_int)) (fun _ _ => rfl))) rfl rfl rfl) (fun _ => rfl))) (by exact pw_or1 (by exact sb_cmp (op_neA u64) ok_ne (by exact so_of (by exact sv_idx (by exact so_v 0 rfl rfl rfl rfl) (by exact so_of (by exact sv_int)) (fun _ _ => rfl))) (by exact so_of (by exact sv_str)) (nomark _))))))) (by exact ss_cons (by exact ss_ret (by exact sv_bl)) (by exact ss_nil)) (by exact ss_nil)) (by exact ss_cons (by exact ss_if (by exact g_pt (by exact sw_or (by exact sb_not (by exact sb_val (by exact sv_c c_prior_is_right room (by first | decide | omega) gd rfl (by exact svs_cons (by exact sv_idx (by exact so_v 0 rfl rfl rfl rfl) (by exact so_of (by exact sv_int)) (fun _ _ => rfl)) (by exact svs_nil) rfl) rfl rfl rfl) (fun _ => rfl))) (by exact pw_or1 (by exact sb_not (by exact sb_val (by exact sv_c c_counts_are_right room (by first | decide | omega) gd rfl (by exact svs_cons (by exact sv_idx (by exact so_v 0 rfl rfl rfl rfl) (by exact so_of (by exact sv_int)) (fun _ _ => rfl)) (by exact svs_nil) rfl) rfl rfl rfl) (fun _ => rfl)))))) (by exact ss_cons (by exact ss_ret (by exact sv_bl)) (by exact ss_nil)) (by exact ss_nil)) (by exact ss_cons (by exact g_bind ([1] ++ ([2] ++ [])) (by exact sv_tup (by exact svs_cons (by exact sv_b1 bi_len rfl fr_len (by exact so_of (by exact sv_c c_profiles_by room (by first | decide | omega) gd rfl (by exact svs_cons (by exact sv_idx (by exact so_v 0 rfl rfl rfl rfl) (by exact so_of (by exact sv_int)) (fun _ _ => rfl)) (by exact svs_nil) rfl) rfl rfl rfl)) rfl rfl) (by exact svs_cons (by exact sv_b1 bi_len rfl fr_len (by exact so_of (by exact sv_idx (by exact so_v 0 rfl rfl rfl rfl) (by exact so_of (by exact sv_int)) (fun _ _ => rfl))) rfl rfl) (by exact svs_nil) rfl) rfl)) (by exact sg_tup rfl (by exact sgs_cons (by exact sg_name (pg_name nd rfl (by first | exact .inl rfl | exact .inr rfl) (.inl rfl))) (by exact sgs_cons (by exact sg_name (pg_name nd rfl (by first | exact .inl rfl | exact .inr rfl) (.inl rfl))) (by exact sgs_nil) rfl) rfl) rfl rfl) rfl rfl rfl) (by exact ss_cons (by exact ss_if (by exact g_pt (by exact sw_or (by exact sb_not (by exact sb_val (by exact sv_is it_tuple rfl fr_isinstance rfl fr_tuple (by exact so_of (by exact sv_idx (by exact so_v 0 rfl rfl rfl rfl) (by exact so_of (by exact sv_int)) (fun _ _ => rfl))) rfl rfl rfl) (fun _ => rfl))) (by exact pw_or1 (by exact sb_cmp (op_neA u64) ok_ne (by exact so_of (by exact sv_b1 bi_len rfl fr_len (by exact so_of (by exact sv_idx (by exact so_v 0 rfl rfl rfl rfl) (by exact so_of (by exact sv_int)) (fun _ _ => rfl))) rfl rfl)) (by exact so_of (by exact sv_b1 bi_len rfl fr_len (by exact so_of (by exact sv_idx (by exact so_v 0 rfl rfl rfl rfl) (by exact so_of (by exact sv_int)) (fun _ _ => rfl))) rfl rfl)) (nomark _))))) (by exact ss_cons (by exact ss_ret (by exact sv_bl)) (by exact ss_nil)) (by exact ss_nil)) (by exact ss_cons (by exact ss_if (by exact sb_not (by exact sb_val (by exact sv_b1 (bi_all rfl) rfl fr_all (by exact so_of (by exact g_lc false [3] [("some", 3)] (by decide) rfl nd (by exact si_seq (by exact sv_idx (by exact so_v 0 rfl rfl rfl rfl) (by exact so_of (by exact sv_int)) (fun _ _ => rfl))) (by kernel_rfl) (fun _ _ _ _ _ => by exact sg_name (pg_name nd rfl (by first | exact .inl rfl | exact .inr rfl) (by first | exact .inr rfl | exact .inl rfl))) (fun _ _ _ _ _ => by exact sps_nil) (fun _ _ _ _ _ => by exact sv_c c_numbers_are_right room (by first | decide | omega) gd rfl (by exact svs_cons (by exact sv_v 3 rfl rfl rfl rfl) (by exact svs_cons (by exact sv_v 1 rfl rfl rfl rfl) (by exact svs_cons (by exact sv_v 2 rfl rfl rfl rfl) (by exact svs_nil) rfl) rfl) rfl) rfl rfl rfl) (fun _ => rfl))) rfl rfl) (fun _ => rfl))) (by exact ss_cons (by exact ss_ret (by exact sv_bl)) (by exact ss_nil)) (by exact ss_nil)) (by exact ss_cons (by exact ss_ret (by exact sv_c c_numbers_are_right room (by first | decide | omega) gd rfl (by exact svs_cons (by exact sv_idx (by exact so_v 0 rfl rfl rfl rfl) (by exact so_of (by exact sv_int)) (fun _ _ => rfl)) (by exact svs_cons (by exact sv_v 1 rfl rfl rfl rfl) (by exact svs_cons (by exact sv_v 2 rfl rfl rfl rfl) (by exact svs_nil) rfl) rfl) rfl) rfl rfl rfl)) (by exact ss_nil))))))
theorem sc_check_matter : FnScope N_check_matter ps_check_matter (defScope (Hd.top 24)) := ⟨rfl, rfl, rfl, by decide +kernel, rfl, by decide +kernel, by decide +kernel⟩
theorem cal_check_matter (c : He.SaysD Hd.fa Hd.fn K) (X : K.In h) (G : h.Ns mainGlobals mg) : Cal P w K mg 5 "check_matter" ps_check_matter N_check_matter [] m_check_matter := by
  obtain ⟨fd, D⟩ := c.def_ 10 (d := Hd.dd 24 "check_matter") rfl
  have c_matter_is_right := (cal_matter_is_right (P := P) (w := w) c X G)
  refine cal_of (N := N_check_matter) (ps := ps_check_matter) (k := 4) D (He.glo_ok X G (c.fact 10 (f := .glo "check_matter") rfl)) sc_check_matter (fun _ _ _ _ _ _ us hl => match us, hl with | [_], _ => rfl) (fun _ z => nomatch z) (fun base cdv A out s H room gd => ?_)
  · have nd : N_check_matter.Nodup := sc_check_matter.nd
    have u100 := room_u room
    have u64 := room_u64 room
    have u65 := room_u65 room
    exact ss_cons (by exact ss_if (by exact sb_not (by exact sb_val (by exact sv_c c_matter_is_right room (by first | decide | omega) gd rfl (by exact svs_cons (by exact sv_v 0 rfl rfl rfl rfl) (by exact svs_nil) rfl) rfl rfl rfl) (fun _ => rfl))) (by exact ss_cons (by exact ss_never) (by exact ss_nil)) (by exact ss_nil)) (by exact ss_nil)
theorem sc_first_best : FnScope N_first_best ps_first_best (defScope (Hd.top 28)) := ⟨rfl, rfl, rfl, by decide +kernel, rfl, by decide +kernel, by decide +kernel⟩
theorem cal_first_best (c : He.SaysD Hd.fa Hd.fn K) (X : K.In h) (G : h.Ns mainGlobals mg) : Cal P w K mg 1 "first_best" ps_first_best N_first_best [] m_first_best := by
  obtain ⟨fd, D⟩ := c.def_ 11 (d := Hd.dd 28 "first_best") rfl
  have fr_max : mg "max" = none := He.free_ok X G (c.fact 68 (f := .free "max") rfl)
  refine cal_of (N := N_first_best) (ps := ps_first_best) (k := 0) D (He.glo_ok X G (c.fact 11 (f := .glo "first_best") rfl)) sc_first_best (fun _ _ _ _ _ _ us hl => match us, hl with | [_, _], _ => rfl) (fun _ z => nomatch z) (fun base cdv A out s H room gd => ?_)
  · have nd : N_first_best.Nodup := sc_first_best.nd
    have u100 := room_u room
    have u64 := room_u64 room
    have u65 := room_u65 room
    exact ss_cons (by exact g_setLcF false 2 [3] [("row", 3)] (by decide) rfl nd rfl rfl rfl (by exact si_seq (by exact sv_idx (by exact so_of (by exact sv_idx (by exact so_v 0 rfl rfl rfl rfl) (by exact so_of (by exact sv_int)) (fun _ _ => rfl))) (by exact so_of (by exact sv_int)) (fun _ _ => rfl))) (by kernel_rfl) (fun _ _ _ _ _ => by exact sg_name (pg_name nd rfl (by first | exact .inl rfl | exact .inr rfl) (by first | exact .inr rfl | exact .inl rfl))) (fun _ _ _ _ _ => by exact sps_nil) (fun _ _ _ _ _ => by exact sv_idx (by exact so_v 3 rfl rfl rfl rfl) (by exact so_v 1 rfl rfl rfl rfl) (fun _ _ => rfl)) (fun _ => rfl)) (by exact ss_cons (by exact ss_ret (by exact sv_index u100 (by exact so_v 2 rfl rfl rfl rfl) (by exact so_of (by exact sv_b1 (bi_max rfl) rfl fr_max (by exact so_v 2 rfl rfl rfl rfl) rfl rfl)) ⟨rfl, rfl, rfl, rfl, rfl⟩ rfl)) (by exact ss_nil))
theorem sc_faces_by : FnScope N_faces_by ps_faces_by (defScope (Hd.top 29)) := ⟨rfl, rfl, rfl, by decide +kernel, rfl, by decide +kernel, by decide +kernel⟩
theorem cal_faces_by (c : He.SaysD Hd.fa Hd.fn K) (X : K.In h) (G : h.Ns mainGlobals mg) : Cal P w K mg 2 "faces_by" ps_faces_by N_faces_by [] m_faces_by := by
  obtain ⟨fd, D⟩ := c.def_ 12 (d := Hd.dd 29 "faces_by") rfl
  have fr_range : mg "range" = none := He.free_ok X G (c.fact 70 (f := .free "range") rfl)
  have fr_tuple : mg "tuple" = none := He.free_ok X G (c.fact 75 (f := .free "tuple") rfl)
  have c_states_in := (cal_states_in (P := P) (w := w) c X G)
  have c_first_best := (cal_first_best (P := P) (w := w) c X G)
  refine cal_of (N := N_faces_by) (ps := ps_faces_by) (k := 1) D (He.glo_ok X G (c.fact 12 (f := .glo "faces_by") rfl)) sc_faces_by (fun _ _ _ _ _ _ us hl => match us, hl with | [_], _ => rfl) (fun _ z => nomatch z) (fun base cdv A out s H room gd => ?_)
  · have nd : N_faces_by.Nodup := sc_faces_by.nd
    have u100 := room_u room
    have u64 := room_u64 room
    have u65 := room_u65 room
    exact ss_cons (by exact g_set 1 nd rfl (by first | exact .inl rfl | exact .inr rfl) (by exact sv_frz (by exact g_lc false [2] [("state", 2)] (by decide) rfl nd (by exact si_rng1 rfl fr_range (by exact so_of (by exact sv_c c_states_in room (by first | decide | omega) gd rfl (by exact svs_cons (by exact sv_v 0 rfl rfl rfl rfl) (by exact svs_nil) rfl) rfl rfl rfl)) rfl rfl) (by kernel_rfl) (fun _ _ _ _ _ => by exact sg_name (pg_name nd rfl (by first | exact .inl rfl | exact .inr rfl) (by first | exact .inr rfl | exact .inl rfl))) (fun _ _ _ _ _ => by exact sps_nil) (fun _ _ _ _ _ => by exact sv_c c_first_best room (by first | decide | omega) gd rfl (by exact svs_cons (by exact sv_v 0 rfl rfl rfl rfl) (by exact svs_cons (by exact sv_v 2 rfl rfl rfl rfl) (by exact svs_nil) rfl) rfl) rfl rfl rfl) (fun _ => rfl))) rfl (.inl rfl)) (by exact ss_cons (by exact ss_ret (by exact sv_t1 bt_tuple rfl fr_tuple (by exact so_of (by exact g_lc false [2] [("state", 2)] (by decide) rfl nd (by exact si_rng1 rfl fr_range (by exact so_of (by exact sv_c c_states_in room (by first | decide | omega) gd rfl (by exact svs_cons (by exact sv_v 0 rfl rfl rfl rfl) (by exact svs_nil) rfl) rfl rfl rfl)) rfl rfl) (by kernel_rfl) (fun _ _ _ _ _ => by exact sg_name (pg_name nd rfl (by first | exact .inl rfl | exact .inr rfl) (by first | exact .inr rfl | exact .inl rfl))) (fun _ _ _ _ _ => by exact sps_nil) (fun _ _ _ _ _ => by exact sv_t1 bt_tuple rfl fr_tuple (by exact so_of (by exact g_lc false [3] [("deed", 3)] (by decide) rfl nd (by exact si_seq (by exact sv_v 1 rfl rfl rfl rfl)) (by kernel_rfl) (fun _ _ _ _ _ => by exact sg_name (pg_name nd rfl (by first | exact .inl rfl | exact .inr rfl) (by first | exact .inr rfl | exact .inl rfl))) (fun _ _ _ _ _ => by exact sps_nil) (fun _ _ _ _ _ => by exact sv_idx (by exact so_of (by exact sv_idx (by exact so_of (by exact sv_idx (by exact so_v 0 rfl rfl rfl rfl) (by exact so_of (by exact sv_int)) (fun _ _ => rfl))) (by exact so_v 3 rfl rfl rfl rfl) (fun _ _ => rfl))) (by exact so_v 2 rfl rfl rfl rfl) (fun _ _ => rfl)) (fun _ => rfl))) rfl rfl) (fun _ => rfl))) rfl rfl)) (by exact ss_nil))
theorem sc_full_of : FnScope N_full_of ps_full_of (defScope (Hd.top 30)) := ⟨rfl, rfl, rfl, by decide +kernel, rfl, by decide +kernel, by decide +kernel⟩
theorem cal_full_of (c : He.SaysD Hd.fa Hd.fn K) (X : K.In h) (G : h.Ns mainGlobals mg) : Cal P w K mg 1 "full_of" ps_full_of N_full_of [] m_full_of := by
  obtain ⟨fd, D⟩ := c.def_ 13 (d := Hd.dd 30 "full_of") rfl
  have fr_range : mg "range" = none := He.free_ok X G (c.fact 70 (f := .free "range") rfl)
  have fr_sorted : mg "sorted" = none := He.free_ok X G (c.fact 72 (f := .free "sorted") rfl)
  have fr_tuple : mg "tuple" = none := He.free_ok X G (c.fact 75 (f := .free "tuple") rfl)
  refine cal_of (N := N_full_of) (ps := ps_full_of) (k := 0) D (He.glo_ok X G (c.fact 13 (f := .glo "full_of") rfl)) sc_full_of (fun _ _ _ _ _ _ us hl => match us, hl with | [_], _ => rfl) (fun _ z => nomatch z) (fun base cdv A out s H room gd => ?_)
  · have nd : N_full_of.Nodup := sc_full_of.nd
    have u100 := room_u room
    have u64 := room_u64 room
    have u65 := room_u65 room
    exact ss_cons (by exact g_set 1 nd rfl (by first | exact .inl rfl | exact .inr rfl) (by exact sv_frz (by exact sv_lst (by exact svs_cons (by exact sv_tup (by exact svs_nil)) (by exact svs_nil) rfl))) rfl (.inl rfl)) (by exact ss_cons (by exact g_for false [2] PassesOwn.never rfl (by exact si_rng1 rfl fr_range (by exact so_v 0 rfl rfl rfl rfl) rfl rfl) (by exact sg_name (pg_name nd rfl (by first | exact .inl rfl | exact .inr rfl) (.inl rfl))) (by exact ss_cons (by exact g_set 1 nd rfl (by first | exact .inl rfl | exact .inr rfl) (by exact sv_frz (by exact sv_bin op_addA ok_add (by exact so_v 1 rfl rfl rfl rfl) (by exact so_of (by exact g_lc false [3] [("some", 3)] (by decide) rfl nd (by exact si_seq (by exact sv_v 1 rfl rfl rfl rfl)) (by kernel_rfl) (fun _ _ _ _ _ => by exact sg_name (pg_name nd rfl (by first | exact .inl rfl | exact .inr rfl) (by first | exact .inr rfl | exact .inl rfl))) (fun _ _ _ _ _ => by exact sps_nil) (fun _ _ _ _ _ => by exact sv_bin op_addA ok_add (by exact so_v 3 rfl rfl rfl rfl) (by exact so_of (by exact sv_tup (by exact svs_cons (by exact sv_v 2 rfl rfl rfl rfl) (by exact svs_nil) rfl)))) (fun _ => rfl))))) rfl (.inl rfl)) (by exact ss_nil)) (fun _ => rfl)) (by exact ss_cons (by exact ss_ret (by exact sv_t1 bt_tuple rfl fr_tuple (by exact so_of (by exact sv_b1 (bi_sorted u100) rfl fr_sorted (by exact so_of (by exact g_lc false [3] [("some", 3)] (by decide) rfl nd (by exact si_seq (by exact sv_v 1 rfl rfl rfl rfl)) (by kernel_rfl) (fun _ _ _ _ _ => by exact sg_name (pg_name nd rfl (by first | exact .inl rfl | exact .inr rfl) (by first | exact .inr rfl | exact .inl rfl))) (fun _ _ _ _ _ => by exact sps_one (by exact sb_cmp (op_neA u64) ok_ne (by exact so_v 3 rfl rfl rfl rfl) (by exact so_of (by exact sv_tup (by exact svs_nil))) (nomark _))) (fun _ _ _ _ _ => by exact sv_v 3 rfl rfl rfl rfl) (fun _ => rfl))) rfl rfl)) rfl rfl)) (by exact ss_nil)))
theorem sc_does_envy : FnScope N_does_envy ps_does_envy (defScope (Hd.top 31)) := ⟨rfl, rfl, rfl, by decide +kernel, rfl, by decide +kernel, by decide +kernel⟩
theorem cal_does_envy (c : He.SaysD Hd.fa Hd.fn K) (X : K.In h) (G : h.Ns mainGlobals mg) : Cal P w K mg 1 "does_envy" ps_does_envy N_does_envy [] m_does_envy := by
  obtain ⟨fd, D⟩ := c.def_ 14 (d := Hd.dd 31 "does_envy") rfl
  refine cal_of (N := N_does_envy) (ps := ps_does_envy) (k := 0) D (He.glo_ok X G (c.fact 14 (f := .glo "does_envy") rfl)) sc_does_envy (fun _ _ _ _ _ _ us hl => match us, hl with | [_, _, _], _ => rfl) (fun _ z => nomatch z) (fun base cdv A out s H room gd => ?_)
  · have nd : N_does_envy.Nodup := sc_does_envy.nd
    have u100 := room_u room
    have u64 := room_u64 room
    have u65 := room_u65 room
    exact ss_cons (by exact ss_ret (by exact sv_cmp op_gt ok_gt (by exact so_of (by exact sv_idx (by exact so_of (by exact sv_idx (by exact so_v 0 rfl rfl rfl rfl) (by exact so_v 1 rfl rfl rfl rfl) (fun _ _ => rfl))) (by exact so_v 2 rfl rfl rfl rfl) (fun _ _ => rfl))) (by exact so_of (by exact sv_idx (by exact so_of (by exact sv_idx (by exact so_v 0 rfl rfl rfl rfl) (by exact so_v 1 rfl rfl rfl rfl) (fun _ _ => rfl))) (by exact so_v 1 rfl rfl rfl rfl) (fun _ _ => rfl))) (nomark _))) (by exact ss_nil)
theorem sc_envies_of : FnScope N_envies_of ps_envies_of (defScope (Hd.top 32)) := ⟨rfl, rfl, rfl, by decide +kernel, rfl, by decide +kernel, by decide +kernel⟩
theorem cal_envies_of (c : He.SaysD Hd.fa Hd.fn K) (X : K.In h) (G : h.Ns mainGlobals mg) : Cal P w K mg 2 "envies_of" ps_envies_of N_envies_of [] m_envies_of := by
  obtain ⟨fd, D⟩ := c.def_ 15 (d := Hd.dd 32 "envies_of") rfl
  have fr_len : mg "len" = none := He.free_ok X G (c.fact 66 (f := .free "len") rfl)
  have fr_list : mg "list" = none := He.free_ok X G (c.fact 67 (f := .free "list") rfl)
  have fr_range : mg "range" = none := He.free_ok X G (c.fact 70 (f := .free "range") rfl)
  have c_does_envy := (cal_does_envy (P := P) (w := w) c X G)
  refine cal_of (N := N_envies_of) (ps := ps_envies_of) (k := 1) D (He.glo_ok X G (c.fact 15 (f := .glo "envies_of") rfl)) sc_envies_of (fun _ _ _ _ _ _ us hl => match us, hl with | [_], _ => rfl) (fun _ z => nomatch z) (fun base cdv A out s H room gd => ?_)
  · have nd : N_envies_of.Nodup := sc_envies_of.nd
    have u100 := room_u room
    have u64 := room_u64 room
    have u65 := room_u65 room
    exact ss_cons (by exact g_set 1 nd rfl (by first | exact .inl rfl | exact .inr rfl) (by exact sv_frz (by exact sv_lrg rfl rfl fr_list rfl fr_range (by exact so_of (by exact sv_b1 bi_len rfl fr_len (by exact so_v 0 rfl rfl rfl rfl) rfl rfl)) rfl rfl)) rfl (.inl rfl)) (by exact ss_cons (by exact g_set 2 nd rfl (by first | exact .inl rfl | exact .inr rfl) (by exact sv_lst (by exact svs_nil)) rfl (.inl rfl)) (by exact ss_cons (by exact g_for false [3] PassesOwn.never rfl (by exact si_seq (by exact sv_v 1 rfl rfl rfl rfl)) (by exact sg_name (pg_name nd rfl (by first | exact .inl rfl | exact .inr rfl) (.inl rfl))) (by exact ss_cons (by exact g_ext 2 (nv 2 rfl rfl rfl rfl) (by exact g_lc false [4] [("other", 4)] (by decide) rfl nd (by exact si_seq (by exact sv_v 1 rfl rfl rfl rfl)) (by kernel_rfl) (fun _ _ _ _ _ => by exact sg_name (pg_name nd rfl (by first | exact .inl rfl | exact .inr rfl) (by first | exact .inr rfl | exact .inl rfl))) (fun _ _ _ _ _ => by exact sps_one (by exact sb_val (by exact sv_c c_does_envy room (by first | decide | omega) gd rfl (by exact svs_cons (by exact sv_v 0 rfl rfl rfl rfl) (by exact svs_cons (by exact sv_v 3 rfl rfl rfl rfl) (by exact svs_cons (by exact sv_v 4 rfl rfl rfl rfl) (by exact svs_nil) rfl) rfl) rfl) rfl rfl rfl) (fun _ => rfl))) (fun _ _ _ _ _ => by exact sv_tup (by exact svs_cons (by exact sv_v 3 rfl rfl rfl rfl) (by exact svs_cons (by exact sv_v 4 rfl rfl rfl rfl) (by exact svs_nil) rfl) rfl)) (fun _ => rfl)) ⟨rfl, rfl, rfl, rfl, rfl⟩ rfl) (by exact ss_nil)) (fun _ => rfl)) (by exact ss_cons (by exact ss_retv (nv 2 rfl rfl rfl rfl)) (by exact ss_nil))))
theorem sc_rings_of : FnScope N_rings_of ps_rings_of (defScope (Hd.top 33)) := ⟨rfl, rfl, rfl, by decide +kernel, rfl, by decide +kernel, by decide +kernel⟩
theorem cal_rings_of (c : He.SaysD Hd.fa Hd.fn K) (X : K.In h) (G : h.Ns mainGlobals mg) : Cal P w K mg 1 "rings_of" ps_rings_of N_rings_of [] m_rings_of := by
  obtain ⟨fd, D⟩ := c.def_ 16 (d := Hd.dd 33 "rings_of") rfl
  have fr_range : mg "range" = none := He.free_ok X G (c.fact 70 (f := .free "range") rfl)
  have fr_sorted : mg "sorted" = none := He.free_ok X G (c.fact 72 (f := .free "sorted") rfl)
  refine cal_of (N := N_rings_of) (ps := ps_rings_of) (k := 0) D (He.glo_ok X G (c.fact 16 (f := .glo "rings_of") rfl)) sc_rings_of (fun _ _ _ _ _ _ us hl => match us, hl with | [_], _ => rfl) (fun _ z => nomatch z) (fun base cdv A out s H room gd => ?_)
  · have nd : N_rings_of.Nodup := sc_rings_of.nd
    have u100 := room_u room
    have u64 := room_u64 room
    have u65 := room_u65 room
    exact ss_cons (by exact g_par 1 2 rfl nd rfl rfl (by decide) rfl rfl (by exact sv_lst (by exact svs_nil)) (by exact sv_frz (by exact g_lc false [6] [("state", 6)] (by decide) rfl nd (by exact si_rng1 rfl fr_range (by exact so_v 0 rfl rfl rfl rfl) rfl rfl) (by kernel_rfl) (fun _ _ _ _ _ => by exact sg_name (pg_name nd rfl (by first | exact .inl rfl | exact .inr rfl) (by first | exact .inr rfl | exact .inl rfl))) (fun _ _ _ _ _ => by exact sps_nil) (fun _ _ _ _ _ => by exact sv_tup (by exact svs_cons (by exact sv_v 6 rfl rfl rfl rfl) (by exact svs_nil) rfl)) (fun _ => rfl))) rfl rfl rfl rfl) (by exact ss_cons (by exact g_for false [3] PassesOwn.never rfl (by exact si_rng1 rfl fr_range (by exact so_of (by exact sv_bin op_sub ok_sub (by exact so_v 0 rfl rfl rfl rfl) (by exact so_of (by exact sv_int)))) rfl rfl) (by exact sg_name (pg_name nd rfl (by first | exact .inl rfl | exact .inr rfl) (.inl rfl))) (by exact ss_cons (by exact g_set 4 nd rfl (by first | exact .inl rfl | exact .inr rfl) (by exact sv_lst (by exact svs_nil)) rfl (.inl rfl)) (by exact ss_cons (by exact g_for false [5] PassesOwn.never rfl (by exact si_seq (by exact sv_v 2 rfl rfl rfl rfl)) (by exact sg_name (pg_name nd rfl (by first | exact .inl rfl | exact .inr rfl) (.inl rfl))) (by exact ss_cons (by exact g_ext 4 (nv 4 rfl rfl rfl rfl) (by exact g_lc false [6] [("state", 6)] (by decide) rfl nd (by exact si_rng2 rfl fr_range (by exact so_of (by exact sv_bin op_addA ok_add (by exact so_of (by exact sv_idx (by exact so_v 5 rfl rfl rfl rfl) (by exact so_of (by exact sv_int)) (fun _ _ => rfl))) (by exact so_of (by exact sv_int)))) (by exact so_v 0 rfl rfl rfl rfl) rfl rfl rfl rfl) (by kernel_rfl) (fun _ _ _ _ _ => by exact sg_name (pg_name nd rfl (by first | exact .inl rfl | exact .inr rfl) (by first | exact .inr rfl | exact .inl rfl))) (fun _ _ _ _ _ => by exact sps_one (by exact sb_cmp (op_notInA u65) ok_notin (by exact so_v 6 rfl rfl rfl rfl) (by exact so_v 5 rfl rfl rfl rfl) rfl)) (fun _ _ _ _ _ => by exact sv_bin op_addA ok_add (by exact so_v 5 rfl rfl rfl rfl) (by exact so_of (by exact sv_tup (by exact svs_cons (by exact sv_v 6 rfl rfl rfl rfl) (by exact svs_nil) rfl)))) (fun _ => rfl)) ⟨rfl, rfl, rfl, rfl, rfl⟩ rfl) (by exact ss_nil)) (fun _ => rfl)) (by exact ss_cons (by exact g_set 2 nd rfl (by first | exact .inl rfl | exact .inr rfl) (by exact sv_frz (by exact sv_b1 (bi_sorted u100) rfl fr_sorted (by exact so_v 4 rfl rfl rfl rfl) rfl rfl)) rfl (.inl rfl)) (by exact ss_cons (by exact g_ext 1 (nv 1 rfl rfl rfl rfl) (by exact sv_v 2 rfl rfl rfl rfl) ⟨rfl, rfl, rfl, rfl, rfl⟩ rfl) (by exact ss_nil))))) (fun _ => rfl)) (by exact ss_cons (by exact ss_retv (nv 1 rfl rfl rfl rfl)) (by exact ss_nil)))
theorem sc_ring_by : FnScope N_ring_by ps_ring_by (defScope (Hd.top 34)) := ⟨rfl, rfl, rfl, by decide +kernel, rfl, by decide +kernel, by decide +kernel⟩
theorem cal_ring_by (c : He.SaysD Hd.fa Hd.fn K) (X : K.In h) (G : h.Ns mainGlobals mg) : Cal P w K mg 2 "ring_by" ps_ring_by N_ring_by [] m_ring_by := by
  obtain ⟨fd, D⟩ := c.def_ 17 (d := Hd.dd 34 "ring_by") rfl
  have fr_all : mg "all" = none := He.free_ok X G (c.fact 60 (f := .free "all") rfl)
  have fr_len : mg "len" = none := He.free_ok X G (c.fact 66 (f := .free "len") rfl)
  have fr_zip : mg "zip" = none := He.free_ok X G (c.fact 76 (f := .free "zip") rfl)
  have c_does_envy := (cal_does_envy (P := P) (w := w) c X G)
  have c_rings_of := (cal_rings_of (P := P) (w := w) c X G)
  refine cal_of (N := N_ring_by) (ps := ps_ring_by) (k := 1) D (He.glo_ok X G (c.fact 17 (f := .glo "ring_by") rfl)) sc_ring_by (fun _ _ _ _ _ _ us hl => match us, hl with | [_], _ => rfl) (fun _ z => nomatch z) (fun base cdv A out s H room gd => ?_)
  · have nd : N_ring_by.Nodup := sc_ring_by.nd
    have u100 := room_u room
    have u64 := room_u64 room
    have u65 := room_u65 room
    exact ss_cons (by exact g_for false [1] PassesOwn.never rfl (by exact si_seq (by exact sv_c c_rings_of room (by first | decide | omega) gd rfl (by exact svs_cons (by exact sv_b1 bi_len rfl fr_len (by exact so_v 0 rfl rfl rfl rfl) rfl rfl) (by exact svs_nil) rfl) rfl rfl rfl)) (by exact sg_name (pg_name nd rfl (by first | exact .inl rfl | exact .inr rfl) (.inl rfl))) (by exact ss_cons (by exact ss_if (by exact sb_val (by exact sv_b1 (bi_all rfl) rfl fr_all (by exact so_of (by exact g_lc true ([2] ++ ([3] ++ [])) [("one", 2), ("other", 3)] (by decide) rfl nd (by exact si_zip rfl fr_zip (by exact sv_v 1 rfl rfl rfl rfl) (by exact sv_bin op_addA ok_add (by exact so_of (by exact sv_slc (by exact so_v 1 rfl rfl rfl rfl) (by exact sp_some (by exact so_of (by exact sv_int))) (by exact sp_none))) (by exact so_of (by exact sv_slc (by exact so_v 1 rfl rfl rfl rfl) (by exact sp_none) (by exact sp_some (by exact so_of (by exact sv_int)))))) rfl rfl rfl) (by kernel_rfl) (fun _ _ _ _ _ => by exact sg_tup rfl (by exact sgs_cons (by exact sg_name (pg_name nd rfl (by first | exact .inl rfl | exact .inr rfl) (by first | exact .inr rfl | exact .inl rfl))) (by exact sgs_cons (by exact sg_name (pg_name nd rfl (by first | exact .inl rfl | exact .inr rfl) (by first | exact .inr rfl | exact .inl rfl))) (by exact sgs_nil) rfl) rfl) rfl rfl) (fun _ _ _ _ _ => by exact sps_nil) (fun _ _ _ _ _ => by exact sv_c c_does_envy room (by first | decide | omega) gd rfl (by exact svs_cons (by exact sv_v 0 rfl rfl rfl rfl) (by exact svs_cons (by exact sv_v 2 rfl rfl rfl rfl) (by exact svs_cons (by exact sv_v 3 rfl rfl rfl rfl) (by exact svs_nil) rfl) rfl) rfl) rfl rfl rfl) (fun _ => rfl))) rfl rfl) (fun _ => rfl)) (by exact ss_cons (by exact ss_retv (nv 1 rfl rfl rfl rfl)) (by exact ss_nil)) (by exact ss_nil)) (by exact ss_nil)) (fun _ => rfl)) (by exact ss_cons (by exact ss_ret (by exact sv_non)) (by exact ss_nil))
theorem sc_fit_of : FnScope N_fit_of ps_fit_of (defScope (Hd.top 35)) := ⟨rfl, rfl, rfl, by decide +kernel, rfl, by decide +kernel, by decide +kernel⟩
theorem cal_fit_of (c : He.SaysD Hd.fa Hd.fn K) (X : K.In h) (G : h.Ns mainGlobals mg) : Cal P w K mg 2 "fit_of" ps_fit_of N_fit_of [] m_fit_of := by
  obtain ⟨fd, D⟩ := c.def_ 18 (d := Hd.dd 35 "fit_of") rfl
  have fr_any : mg "any" = none := He.free_ok X G (c.fact 61 (f := .free "any") rfl)
  have fr_tuple : mg "tuple" = none := He.free_ok X G (c.fact 75 (f := .free "tuple") rfl)
  have c_does_envy := (cal_does_envy (P := P) (w := w) c X G)
  refine cal_of (N := N_fit_of) (ps := ps_fit_of) (k := 1) D (He.glo_ok X G (c.fact 18 (f := .glo "fit_of") rfl)) sc_fit_of (fun _ _ _ _ _ _ us hl => match us, hl with | [_, _], _ => rfl) (fun _ z => nomatch z) (fun base cdv A out s H room gd => ?_)
  · have nd : N_fit_of.Nodup := sc_fit_of.nd
    have u100 := room_u room
    have u64 := room_u64 room
    have u65 := room_u65 room
    exact ss_cons (by exact ss_ret (by exact sv_t1 bt_tuple rfl fr_tuple (by exact so_of (by exact g_lc false [2] [("state", 2)] (by decide) rfl nd (by exact si_seq (by exact sv_v 1 rfl rfl rfl rfl)) (by kernel_rfl) (fun _ _ _ _ _ => by exact sg_name (pg_name nd rfl (by first | exact .inl rfl | exact .inr rfl) (by first | exact .inr rfl | exact .inl rfl))) (fun _ _ _ _ _ => by exact sps_one (by exact sb_not (by exact sb_val (by exact sv_b1 (bi_any rfl) rfl fr_any (by exact so_of (by exact g_lc false [3] [("one", 3)] (by decide) rfl nd (by exact si_seq (by exact sv_v 1 rfl rfl rfl rfl)) (by kernel_rfl) (fun _ _ _ _ _ => by exact sg_name (pg_name nd rfl (by first | exact .inl rfl | exact .inr rfl) (by first | exact .inr rfl | exact .inl rfl))) (fun _ _ _ _ _ => by exact sps_nil) (fun _ _ _ _ _ => by exact sv_c c_does_envy room (by first | decide | omega) gd rfl (by exact svs_cons (by exact sv_v 0 rfl rfl rfl rfl) (by exact svs_cons (by exact sv_v 3 rfl rfl rfl rfl) (by exact svs_cons (by exact sv_v 2 rfl rfl rfl rfl) (by exact svs_nil) rfl) rfl) rfl) rfl rfl rfl) (fun _ => rfl))) rfl rfl) (fun _ => rfl)))) (fun _ _ _ _ _ => by exact sv_v 2 rfl rfl rfl rfl) (fun _ => rfl))) rfl rfl)) (by exact ss_nil)
theorem sc_gains_of : FnScope N_gains_of ps_gains_of (defScope (Hd.top 36)) := ⟨rfl, rfl, rfl, by decide +kernel, rfl, by decide +kernel, by decide +kernel⟩
theorem cal_gains_of (c : He.SaysD Hd.fa Hd.fn K) (X : K.In h) (G : h.Ns mainGlobals mg) : Cal P w K mg 1 "gains_of" ps_gains_of N_gains_of [] m_gains_of := by
  obtain ⟨fd, D⟩ := c.def_ 19 (d := Hd.dd 36 "gains_of") rfl
  have fr_enumerate : mg "enumerate" = none := He.free_ok X G (c.fact 63 (f := .free "enumerate") rfl)
  have fr_len : mg "len" = none := He.free_ok X G (c.fact 66 (f := .free "len") rfl)
  have fr_range : mg "range" = none := He.free_ok X G (c.fact 70 (f := .free "range") rfl)
  refine cal_of (N := N_gains_of) (ps := ps_gains_of) (k := 0) D (He.glo_ok X G (c.fact 19 (f := .glo "gains_of") rfl)) sc_gains_of (fun _ _ _ _ _ _ us hl => match us, hl with | [_, _, _], _ => rfl) (fun _ z => nomatch z) (fun base cdv A out s H room gd => ?_)
  · have nd : N_gains_of.Nodup := sc_gains_of.nd
    have u100 := room_u room
    have u64 := room_u64 room
    have u65 := room_u65 room
    exact ss_cons (by exact g_bind ([3] ++ ([4] ++ [])) (by exact sv_v 2 rfl rfl rfl rfl) (by exact sg_tup rfl (by exact sgs_cons (by exact sg_name (pg_name nd rfl (by first | exact .inl rfl | exact .inr rfl) (.inl rfl))) (by exact sgs_cons (by exact sg_name (pg_name nd rfl (by first | exact .inl rfl | exact .inr rfl) (.inl rfl))) (by exact sgs_nil) rfl) rfl) rfl rfl) rfl rfl rfl) (by exact ss_cons (by exact g_set 5 nd rfl (by first | exact .inl rfl | exact .inr rfl) (by exact sv_lst (by exact svs_nil)) rfl (.inl rfl)) (by exact ss_cons (by exact g_for false [6] PassesOwn.never rfl (by exact si_rng1 rfl fr_range (by exact so_of (by exact sv_b1 bi_len rfl fr_len (by exact so_v 0 rfl rfl rfl rfl) rfl rfl)) rfl rfl) (by exact sg_name (pg_name nd rfl (by first | exact .inl rfl | exact .inr rfl) (.inl rfl))) (by exact ss_cons (by exact g_set 7 nd rfl (by first | exact .inl rfl | exact .inr rfl) (by exact sv_idx (by exact so_of (by exact sv_idx (by exact so_v 0 rfl rfl rfl rfl) (by exact so_v 6 rfl rfl rfl rfl) (fun _ _ => rfl))) (by exact so_of (by exact sv_idx (by exact so_v 4 rfl rfl rfl rfl) (by exact so_of (by exact sv_idx (by exact so_v 3 rfl rfl rfl rfl) (by exact so_v 6 rfl rfl rfl rfl) (fun _ _ => rfl))) (fun _ _ => rfl))) (fun _ _ => rfl)) rfl (.inl rfl)) (by exact ss_cons (by exact g_for true ([8] ++ ([9] ++ [])) PassesOwn.never rfl (by exact si_enm rfl fr_enumerate (by exact sv_v 1 rfl rfl rfl rfl) rfl rfl) (by exact sg_tup rfl (by exact sgs_cons (by exact sg_name (pg_name nd rfl (by first | exact .inl rfl | exact .inr rfl) (.inl rfl))) (by exact sgs_cons (by exact sg_name (pg_name nd rfl (by first | exact .inl rfl | exact .inr rfl) (.inl rfl))) (by exact sgs_nil) rfl) rfl) rfl rfl) (by exact ss_cons (by exact ss_if (by exact g_pt (by exact sw_and (by exact sb_cmp (op_inA u65) ok_in (by exact so_v 6 rfl rfl rfl rfl) (by exact so_v 9 rfl rfl rfl rfl) rfl) (by exact pw_and1 (by exact sb_cmp op_gt ok_gt (by exact so_of (by exact sv_idx (by exact so_of (by exact sv_idx (by exact so_v 0 rfl rfl rfl rfl) (by exact so_v 6 rfl rfl rfl rfl) (fun _ _ => rfl))) (by exact so_of (by exact sv_idx (by exact so_v 4 rfl rfl rfl rfl) (by exact so_v 8 rfl rfl rfl rfl) (fun _ _ => rfl))) (fun _ _ => rfl))) (by exact so_v 7 rfl rfl rfl rfl) (nomark _))))) (by exact ss_cons (by exact g_app 5 (nv 5 rfl rfl rfl rfl) (by exact sv_tup (by exact svs_cons (by exact sv_v 6 rfl rfl rfl rfl) (by exact svs_cons (by exact sv_v 8 rfl rfl rfl rfl) (by exact svs_nil) rfl) rfl)) ⟨rfl, rfl, rfl, rfl, rfl⟩ rfl) (by exact ss_nil)) (by exact ss_nil)) (by exact ss_nil)) (fun _ => rfl)) (by exact ss_nil))) (fun _ => rfl)) (by exact ss_cons (by exact ss_retv (nv 5 rfl rfl rfl rfl)) (by exact ss_nil))))
theorem sc_row_is_right_shows : FnScope N_row_is_right_shows ps_row_is_right_shows (defScope (Hd.top 37)) := ⟨rfl, rfl, rfl, by decide +kernel, rfl, by decide +kernel, by decide +kernel⟩
theorem cal_row_is_right_shows (c : He.SaysD Hd.fa Hd.fn K) (X : K.In h) (G : h.Ns mainGlobals mg) : Cal P w K mg 2 "row_is_right_shows" ps_row_is_right_shows N_row_is_right_shows [] m_row_is_right_shows := by
  obtain ⟨fd, D⟩ := c.def_ 20 (d := Hd.dda 37 "row_is_right" "row_is_right_shows") rfl
  have fr_all : mg "all" = none := He.free_ok X G (c.fact 60 (f := .free "all") rfl)
  have fr_isinstance : mg "isinstance" = none := He.free_ok X G (c.fact 65 (f := .free "isinstance") rfl)
  have fr_len : mg "len" = none := He.free_ok X G (c.fact 66 (f := .free "len") rfl)
  have fr_tuple : mg "tuple" = none := He.free_ok X G (c.fact 75 (f := .free "tuple") rfl)
  have gi_MOST_WORTH_shows : ∃ t, mg "MOST_WORTH_shows" = some (.int 99 t) := He.int_ok X G (c.fact 82 (f := .int "MOST_WORTH_shows" 99) rfl)
  have c_is_integer := (cal_is_integer (P := P) (w := w) c X G)
  refine cal_of2 (N := N_row_is_right_shows) (ps := ps_row_is_right_shows) (k := 1) D (He.glo_ok X G (c.fact 20 (f := .glo "row_is_right_shows") rfl)) sc_row_is_right_shows (fun _ _ _ _ _ _ us hl => match us, hl with | [_, _], _ => rfl) (fun _ z => nomatch z) (fun base cdv A out s H room gd => ?_)
  · have nd : N_row_is_right_shows.Nodup := sc_row_is_right_shows.nd
    have u100 := room_u room
    have u64 := room_u64 room
    have u65 := room_u65 room
    exact ss_cons (by exact ss_if (by exact g_pt (by exact sw_or (by exact sb_not (by exact sb_val (by exact sv_is it_tuple rfl fr_isinstance rfl fr_tuple (by exact so_v 0 rfl rfl rfl rfl) rfl rfl rfl) (fun _ => rfl))) (by exact pw_or1 (by exact sb_cmp (op_neA u64) ok_ne (by exact so_of (by exact sv_b1 bi_len rfl fr_len (by exact so_v 0 rfl rfl rfl rfl) rfl rfl)) (by exact so_v 1 rfl rfl rfl rfl) (nomark _))))) (by exact ss_cons (by exact ss_ret (by exact sv_bl)) (by exact ss_nil)) (by exact ss_nil)) (by exact ss_cons (by exact ss_ret (by exact sv_b1 (bi_all rfl) rfl fr_all (by exact so_of (by exact g_lc false [2] [("number", 2)] (by decide) rfl nd (by exact si_seq (by exact sv_v 0 rfl rfl rfl rfl)) (by kernel_rfl) (fun _ _ _ _ _ => by exact sg_name (pg_name nd rfl (by first | exact .inl rfl | exact .inr rfl) (by first | exact .inr rfl | exact .inl rfl))) (fun _ _ _ _ _ => by exact sps_nil) (fun _ _ _ _ _ => by exact sv_and (by exact sv_asB (by exact sv_c c_is_integer room (by first | decide | omega) gd rfl (by exact svs_cons (by exact sv_v 2 rfl rfl rfl rfl) (by exact svs_nil) rfl) rfl rfl rfl)) (by exact pe_one (by exact sv_asB (by exact sv_chain op_le op_le ok_le ok_le (by exact so_of (by exact sv_neg (by exact so_of (by exact sv_gint rfl gi_MOST_WORTH_shows rfl)))) (by exact so_v 2 rfl rfl rfl rfl) (by exact so_of (by exact sv_gint rfl gi_MOST_WORTH_shows rfl)) rfl)))) (fun _ => rfl))) rfl rfl)) (by exact ss_nil))
theorem sc_faces_are_right : FnScope N_faces_are_right ps_faces_are_right (defScope (Hd.top 39)) := ⟨rfl, rfl, rfl, by decide +kernel, rfl, by decide +kernel, by decide +kernel⟩
theorem cal_faces_are_right (c : He.SaysD Hd.fa Hd.fn K) (X : K.In h) (G : h.Ns mainGlobals mg) : Cal P w K mg 3 "faces_are_right" ps_faces_are_right N_faces_are_right [] m_faces_are_right := by
  obtain ⟨fd, D⟩ := c.def_ 21 (d := Hd.dd 39 "faces_are_right") rfl
  have fr_all : mg "all" = none := He.free_ok X G (c.fact 60 (f := .free "all") rfl)
  have fr_isinstance : mg "isinstance" = none := He.free_ok X G (c.fact 65 (f := .free "isinstance") rfl)
  have fr_len : mg "len" = none := He.free_ok X G (c.fact 66 (f := .free "len") rfl)
  have fr_tuple : mg "tuple" = none := He.free_ok X G (c.fact 75 (f := .free "tuple") rfl)
  have gi_MOST_STATES_shows : ∃ t, mg "MOST_STATES_shows" = some (.int 4 t) := He.int_ok X G (c.fact 81 (f := .int "MOST_STATES_shows" 4) rfl)
  have c_row_is_right_shows := (cal_row_is_right_shows (P := P) (w := w) c X G)
  refine cal_of (N := N_faces_are_right) (ps := ps_faces_are_right) (k := 2) D (He.glo_ok X G (c.fact 21 (f := .glo "faces_are_right") rfl)) sc_faces_are_right (fun _ _ _ _ _ _ us hl => match us, hl with | [_], _ => rfl) (fun _ z => nomatch z) (fun base cdv A out s H room gd => ?_)
  · have nd : N_faces_are_right.Nodup := sc_faces_are_right.nd
    have u100 := room_u room
    have u64 := room_u64 room
    have u65 := room_u65 room
    exact ss_cons (by exact ss_if (by exact g_pt (by exact sw_or (by exact sb_not (by exact sb_val (by exact sv_is it_tuple rfl fr_isinstance rfl fr_tuple (by exact so_v 0 rfl rfl rfl rfl) rfl rfl rfl) (fun _ => rfl))) (by exact pw_or1 (by exact sb_not (by exact sb_chain op_le op_le ok_le ok_le (by exact so_of (by exact sv_int)) (by exact so_of (by exact sv_b1 bi_len rfl fr_len (by exact so_v 0 rfl rfl rfl rfl) rfl rfl)) (by exact so_of (by exact sv_gint rfl gi_MOST_STATES_shows rfl)) rfl))))) (by exact ss_cons (by exact ss_ret (by exact sv_bl)) (by exact ss_nil)) (by exact ss_nil)) (by exact ss_cons (by exact ss_ret (by exact sv_b1 (bi_all rfl) rfl fr_all (by exact so_of (by exact g_lc false [1] [("row", 1)] (by decide) rfl nd (by exact si_seq (by exact sv_v 0 rfl rfl rfl rfl)) (by kernel_rfl) (fun _ _ _ _ _ => by exact sg_name (pg_name nd rfl (by first | exact .inl rfl | exact .inr rfl) (by first | exact .inr rfl | exact .inl rfl))) (fun _ _ _ _ _ => by exact sps_nil) (fun _ _ _ _ _ => by exact sv_c c_row_is_right_shows room (by first | decide | omega) gd rfl (by exact svs_cons (by exact sv_v 1 rfl rfl rfl rfl) (by exact svs_cons (by exact sv_b1 bi_len rfl fr_len (by exact so_v 0 rfl rfl rfl rfl) rfl rfl) (by exact svs_nil) rfl) rfl) rfl rfl rfl) (fun _ => rfl))) rfl rfl)) (by exact ss_nil))
theorem sc_set_is_right : FnScope N_set_is_right ps_set_is_right (defScope (Hd.top 40)) := ⟨rfl, rfl, rfl, by decide +kernel, rfl, by decide +kernel, by decide +kernel⟩
theorem cal_set_is_right (c : He.SaysD Hd.fa Hd.fn K) (X : K.In h) (G : h.Ns mainGlobals mg) : Cal P w K mg 3 "set_is_right" ps_set_is_right N_set_is_right [] m_set_is_right := by
  obtain ⟨fd, D⟩ := c.def_ 22 (d := Hd.dd 40 "set_is_right") rfl
  have fr_all : mg "all" = none := He.free_ok X G (c.fact 60 (f := .free "all") rfl)
  have fr_isinstance : mg "isinstance" = none := He.free_ok X G (c.fact 65 (f := .free "isinstance") rfl)
  have fr_tuple : mg "tuple" = none := He.free_ok X G (c.fact 75 (f := .free "tuple") rfl)
  have fr_zip : mg "zip" = none := He.free_ok X G (c.fact 76 (f := .free "zip") rfl)
  have c_is_position := (cal_is_position (P := P) (w := w) c X G)
  refine cal_of (N := N_set_is_right) (ps := ps_set_is_right) (k := 2) D (He.glo_ok X G (c.fact 22 (f := .glo "set_is_right") rfl)) sc_set_is_right (fun _ _ _ _ _ _ us hl => match us, hl with | [_, _], _ => rfl) (fun _ z => nomatch z) (fun base cdv A out s H room gd => ?_)
  · have nd : N_set_is_right.Nodup := sc_set_is_right.nd
    have u100 := room_u room
    have u64 := room_u64 room
    have u65 := room_u65 room
    exact ss_cons (by exact ss_if (by exact g_pt (by exact sw_or (by exact sb_not (by exact sb_val (by exact sv_is it_tuple rfl fr_isinstance rfl fr_tuple (by exact so_v 0 rfl rfl rfl rfl) rfl rfl rfl) (fun _ => rfl))) (by exact sw_or (by exact sb_cmp (op_eqA u64) ok_eq (by exact so_v 0 rfl rfl rfl rfl) (by exact so_of (by exact sv_tup (by exact svs_nil))) (nomark _)) (by exact pw_or1 (by exact sb_not (by exact sb_val (by exact sv_b1 (bi_all rfl) rfl fr_all (by exact so_of (by exact g_lc false [2] [("state", 2)] (by decide) rfl nd (by exact si_seq (by exact sv_v 0 rfl rfl rfl rfl)) (by kernel_rfl) (fun _ _ _ _ _ => by exact sg_name (pg_name nd rfl (by first | exact .inl rfl | exact .inr rfl) (by first | exact .inr rfl | exact .inl rfl))) (fun _ _ _ _ _ => by exact sps_nil) (fun _ _ _ _ _ => by exact sv_c c_is_position room (by first | decide | omega) gd rfl (by exact svs_cons (by exact sv_v 2 rfl rfl rfl rfl) (by exact svs_cons (by exact sv_v 1 rfl rfl rfl rfl) (by exact svs_nil) rfl) rfl) rfl rfl rfl) (fun _ => rfl))) rfl rfl) (fun _ => rfl))))))) (by exact ss_cons (by exact ss_ret (by exact sv_bl)) (by exact ss_nil)) (by exact ss_nil)) (by exact ss_cons (by exact ss_ret (by exact sv_b1 (bi_all rfl) rfl fr_all (by exact so_of (by exact g_lc true ([3] ++ ([4] ++ [])) [("one", 3), ("other", 4)] (by decide) rfl nd (by exact si_zip rfl fr_zip (by exact sv_v 0 rfl rfl rfl rfl) (by exact sv_slc (by exact so_v 0 rfl rfl rfl rfl) (by exact sp_some (by exact so_of (by exact sv_int))) (by exact sp_none)) rfl rfl rfl) (by kernel_rfl) (fun _ _ _ _ _ => by exact sg_tup rfl (by exact sgs_cons (by exact sg_name (pg_name nd rfl (by first | exact .inl rfl | exact .inr rfl) (by first | exact .inr rfl | exact .inl rfl))) (by exact sgs_cons (by exact sg_name (pg_name nd rfl (by first | exact .inl rfl | exact .inr rfl) (by first | exact .inr rfl | exact .inl rfl))) (by exact sgs_nil) rfl) rfl) rfl rfl) (fun _ _ _ _ _ => by exact sps_nil) (fun _ _ _ _ _ => by exact sv_cmp (op_ltA u100) ok_lt (by exact so_v 3 rfl rfl rfl rfl) (by exact so_v 4 rfl rfl rfl rfl) (nomark _)) (fun _ => rfl))) rfl rfl)) (by exact ss_nil))
theorem sc_messages_are_right : FnScope N_messages_are_right ps_messages_are_right (defScope (Hd.top 41)) := ⟨rfl, rfl, rfl, by decide +kernel, rfl, by decide +kernel, by decide +kernel⟩
theorem cal_messages_are_right (c : He.SaysD Hd.fa Hd.fn K) (X : K.In h) (G : h.Ns mainGlobals mg) : Cal P w K mg 4 "messages_are_right" ps_messages_are_right N_messages_are_right [] m_messages_are_right := by
  obtain ⟨fd, D⟩ := c.def_ 23 (d := Hd.dd 41 "messages_are_right") rfl
  have fr_all : mg "all" = none := He.free_ok X G (c.fact 60 (f := .free "all") rfl)
  have fr_any : mg "any" = none := He.free_ok X G (c.fact 61 (f := .free "any") rfl)
  have fr_isinstance : mg "isinstance" = none := He.free_ok X G (c.fact 65 (f := .free "isinstance") rfl)
  have fr_len : mg "len" = none := He.free_ok X G (c.fact 66 (f := .free "len") rfl)
  have fr_range : mg "range" = none := He.free_ok X G (c.fact 70 (f := .free "range") rfl)
  have fr_tuple : mg "tuple" = none := He.free_ok X G (c.fact 75 (f := .free "tuple") rfl)
  have fr_zip : mg "zip" = none := He.free_ok X G (c.fact 76 (f := .free "zip") rfl)
  have c_set_is_right := (cal_set_is_right (P := P) (w := w) c X G)
  refine cal_of (N := N_messages_are_right) (ps := ps_messages_are_right) (k := 3) D (He.glo_ok X G (c.fact 23 (f := .glo "messages_are_right") rfl)) sc_messages_are_right (fun _ _ _ _ _ _ us hl => match us, hl with | [_, _], _ => rfl) (fun _ z => nomatch z) (fun base cdv A out s H room gd => ?_)
  · have nd : N_messages_are_right.Nodup := sc_messages_are_right.nd
    have u100 := room_u room
    have u64 := room_u64 room
    have u65 := room_u65 room
    exact ss_cons (by exact ss_if (by exact g_pt (by exact sw_or (by exact sb_not (by exact sb_val (by exact sv_is it_tuple rfl fr_isinstance rfl fr_tuple (by exact so_v 1 rfl rfl rfl rfl) rfl rfl rfl) (fun _ => rfl))) (by exact pw_or1 (by exact sb_not (by exact sb_chain op_le op_le ok_le ok_le (by exact so_of (by exact sv_int)) (by exact so_of (by exact sv_b1 bi_len rfl fr_len (by exact so_v 1 rfl rfl rfl rfl) rfl rfl)) (by exact so_of (by exact sv_int)) rfl))))) (by exact ss_cons (by exact ss_ret (by exact sv_bl)) (by exact ss_nil)) (by exact ss_nil)) (by exact ss_cons (by exact ss_if (by exact sb_not (by exact sb_val (by exact sv_b1 (bi_all rfl) rfl fr_all (by exact so_of (by exact g_lc false [2] [("message", 2)] (by decide) rfl nd (by exact si_seq (by exact sv_v 1 rfl rfl rfl rfl)) (by kernel_rfl) (fun _ _ _ _ _ => by exact sg_name (pg_name nd rfl (by first | exact .inl rfl | exact .inr rfl) (by first | exact .inr rfl | exact .inl rfl))) (fun _ _ _ _ _ => by exact sps_nil) (fun _ _ _ _ _ => by exact sv_c c_set_is_right room (by first | decide | omega) gd rfl (by exact svs_cons (by exact sv_v 2 rfl rfl rfl rfl) (by exact svs_cons (by exact sv_b1 bi_len rfl fr_len (by exact so_v 0 rfl rfl rfl rfl) rfl rfl) (by exact svs_nil) rfl) rfl) rfl rfl rfl) (fun _ => rfl))) rfl rfl) (fun _ => rfl))) (by exact ss_cons (by exact ss_ret (by exact sv_bl)) (by exact ss_nil)) (by exact ss_nil)) (by exact ss_cons (by exact ss_if (by exact sb_not (by exact sb_val (by exact sv_b1 (bi_all rfl) rfl fr_all (by exact so_of (by exact g_lc true ([3] ++ ([4] ++ [])) [("one", 3), ("other", 4)] (by decide) rfl nd (by exact si_zip rfl fr_zip (by exact sv_v 1 rfl rfl rfl rfl) (by exact sv_slc (by exact so_v 1 rfl rfl rfl rfl) (by exact sp_some (by exact so_of (by exact sv_int))) (by exact sp_none)) rfl rfl rfl) (by kernel_rfl) (fun _ _ _ _ _ => by exact sg_tup rfl (by exact sgs_cons (by exact sg_name (pg_name nd rfl (by first | exact .inl rfl | exact .inr rfl) (by first | exact .inr rfl | exact .inl rfl))) (by exact sgs_cons (by exact sg_name (pg_name nd rfl (by first | exact .inl rfl | exact .inr rfl) (by first | exact .inr rfl | exact .inl rfl))) (by exact sgs_nil) rfl) rfl) rfl rfl) (fun _ _ _ _ _ => by exact sps_nil) (fun _ _ _ _ _ => by exact sv_cmp (op_ltA u100) ok_lt (by exact so_v 3 rfl rfl rfl rfl) (by exact so_v 4 rfl rfl rfl rfl) (nomark _)) (fun _ => rfl))) rfl rfl) (fun _ => rfl))) (by exact ss_cons (by exact ss_ret (by exact sv_bl)) (by exact ss_nil)) (by exact ss_nil)) (by exact ss_cons (by exact ss_ret (by exact sv_b1 (bi_all rfl) rfl fr_all (by exact so_of (by exact g_lc false [5] [("state", 5)] (by decide) rfl nd (by exact si_rng1 rfl fr_range (by exact so_of (by exact sv_b1 bi_len rfl fr_len (by exact so_v 0 rfl rfl rfl rfl) rfl rfl)) rfl rfl) (by kernel_rfl) (fun _ _ _ _ _ => by exact sg_name (pg_name nd rfl (by first | exact .inl rfl | exact .inr rfl) (by first | exact .inr rfl | exact .inl rfl))) (fun _ _ _ _ _ => by exact sps_nil) (fun _ _ _ _ _ => by exact sv_b1 (bi_any rfl) rfl fr_any (by exact so_of (by exact g_lc false [2] [("message", 2)] (by decide) rfl nd (by exact si_seq (by exact sv_v 1 rfl rfl rfl rfl)) (by kernel_rfl) (fun _ _ _ _ _ => by exact sg_name (pg_name nd rfl (by first | exact .inl rfl | exact .inr rfl) (by first | exact .inr rfl | exact .inl rfl))) (fun _ _ _ _ _ => by exact sps_nil) (fun _ _ _ _ _ => by exact sv_cmp (op_inA u65) ok_in (by exact so_v 5 rfl rfl rfl rfl) (by exact so_v 2 rfl rfl rfl rfl) rfl) (fun _ => rfl))) rfl rfl) (fun _ => rfl))) rfl rfl)) (by exact ss_nil))))
theorem sc_way_is_right : FnScope N_way_is_right ps_way_is_right (defScope (Hd.top 42)) := ⟨rfl, rfl, rfl, by decide +kernel, rfl, by decide +kernel, by decide +kernel⟩
theorem cal_way_is_right (c : He.SaysD Hd.fa Hd.fn K) (X : K.In h) (G : h.Ns mainGlobals mg) : Cal P w K mg 3 "way_is_right" ps_way_is_right N_way_is_right [] m_way_is_right := by
  obtain ⟨fd, D⟩ := c.def_ 24 (d := Hd.dd 42 "way_is_right") rfl
  have fr_all : mg "all" = none := He.free_ok X G (c.fact 60 (f := .free "all") rfl)
  have fr_enumerate : mg "enumerate" = none := He.free_ok X G (c.fact 63 (f := .free "enumerate") rfl)
  have fr_isinstance : mg "isinstance" = none := He.free_ok X G (c.fact 65 (f := .free "isinstance") rfl)
  have fr_len : mg "len" = none := He.free_ok X G (c.fact 66 (f := .free "len") rfl)
  have fr_tuple : mg "tuple" = none := He.free_ok X G (c.fact 75 (f := .free "tuple") rfl)
  have fr_zip : mg "zip" = none := He.free_ok X G (c.fact 76 (f := .free "zip") rfl)
  have c_is_position := (cal_is_position (P := P) (w := w) c X G)
  refine cal_of (N := N_way_is_right) (ps := ps_way_is_right) (k := 2) D (He.glo_ok X G (c.fact 24 (f := .glo "way_is_right") rfl)) sc_way_is_right (fun _ _ _ _ _ _ us hl => match us, hl with | [_, _, _], _ => rfl) (fun _ z => nomatch z) (fun base cdv A out s H room gd => ?_)
  · have nd : N_way_is_right.Nodup := sc_way_is_right.nd
    have u100 := room_u room
    have u64 := room_u64 room
    have u65 := room_u65 room
    exact ss_cons (by exact ss_if (by exact g_pt (by exact sw_or (by exact sb_not (by exact sb_val (by exact sv_is it_tuple rfl fr_isinstance rfl fr_tuple (by exact so_v 2 rfl rfl rfl rfl) rfl rfl rfl) (fun _ => rfl))) (by exact sw_or (by exact sb_cmp (op_neA u64) ok_ne (by exact so_of (by exact sv_b1 bi_len rfl fr_len (by exact so_v 2 rfl rfl rfl rfl) rfl rfl)) (by exact so_of (by exact sv_int)) (nomark _)) (by exact pw_or1 (by exact sb_not (by exact sb_val (by exact sv_b1 (bi_all rfl) rfl fr_all (by exact so_of (by exact g_lc false [5] [("some", 5)] (by decide) rfl nd (by exact si_seq (by exact sv_v 2 rfl rfl rfl rfl)) (by kernel_rfl) (fun _ _ _ _ _ => by exact sg_name (pg_name nd rfl (by first | exact .inl rfl | exact .inr rfl) (by first | exact .inr rfl | exact .inl rfl))) (fun _ _ _ _ _ => by exact sps_nil) (fun _ _ _ _ _ => by exact sv_is it_tuple rfl fr_isinstance rfl fr_tuple (by exact so_v 5 rfl rfl rfl rfl) rfl rfl rfl) (fun _ => rfl))) rfl rfl) (fun _ => rfl))))))) (by exact ss_cons (by exact ss_ret (by exact sv_bl)) (by exact ss_nil)) (by exact ss_nil)) (by exact ss_cons (by exact g_bind ([3] ++ ([4] ++ [])) (by exact sv_v 2 rfl rfl rfl rfl) (by exact sg_tup rfl (by exact sgs_cons (by exact sg_name (pg_name nd rfl (by first | exact .inl rfl | exact .inr rfl) (.inl rfl))) (by exact sgs_cons (by exact sg_name (pg_name nd rfl (by first | exact .inl rfl | exact .inr rfl) (.inl rfl))) (by exact sgs_nil) rfl) rfl) rfl rfl) rfl rfl rfl) (by exact ss_cons (by exact ss_if (by exact g_pt (by exact sw_or (by exact sb_cmp (op_neA u64) ok_ne (by exact so_of (by exact sv_b1 bi_len rfl fr_len (by exact so_v 3 rfl rfl rfl rfl) rfl rfl)) (by exact so_of (by exact sv_b1 bi_len rfl fr_len (by exact so_v 0 rfl rfl rfl rfl) rfl rfl)) (nomark _)) (by exact pw_or1 (by exact sb_cmp (op_neA u64) ok_ne (by exact so_of (by exact sv_b1 bi_len rfl fr_len (by exact so_v 4 rfl rfl rfl rfl) rfl rfl)) (by exact so_of (by exact sv_b1 bi_len rfl fr_len (by exact so_v 1 rfl rfl rfl rfl) rfl rfl)) (nomark _))))) (by exact ss_cons (by exact ss_ret (by exact sv_bl)) (by exact ss_nil)) (by exact ss_nil)) (by exact ss_cons (by exact ss_if (by exact sb_not (by exact sb_val (by exact sv_b1 (bi_all rfl) rfl fr_all (by exact so_of (by exact g_lc false [6] [("at", 6)] (by decide) rfl nd (by exact si_seq (by exact sv_v 3 rfl rfl rfl rfl)) (by kernel_rfl) (fun _ _ _ _ _ => by exact sg_name (pg_name nd rfl (by first | exact .inl rfl | exact .inr rfl) (by first | exact .inr rfl | exact .inl rfl))) (fun _ _ _ _ _ => by exact sps_nil) (fun _ _ _ _ _ => by exact sv_c c_is_position room (by first | decide | omega) gd rfl (by exact svs_cons (by exact sv_v 6 rfl rfl rfl rfl) (by exact svs_cons (by exact sv_b1 bi_len rfl fr_len (by exact so_v 1 rfl rfl rfl rfl) rfl rfl) (by exact svs_nil) rfl) rfl) rfl rfl rfl) (fun _ => rfl))) rfl rfl) (fun _ => rfl))) (by exact ss_cons (by exact ss_ret (by exact sv_bl)) (by exact ss_nil)) (by exact ss_nil)) (by exact ss_cons (by exact ss_if (by exact sb_not (by exact sb_val (by exact sv_b1 (bi_all rfl) rfl fr_all (by exact so_of (by exact g_lc false [7] [("state", 7)] (by decide) rfl nd (by exact si_seq (by exact sv_v 4 rfl rfl rfl rfl)) (by kernel_rfl) (fun _ _ _ _ _ => by exact sg_name (pg_name nd rfl (by first | exact .inl rfl | exact .inr rfl) (by first | exact .inr rfl | exact .inl rfl))) (fun _ _ _ _ _ => by exact sps_nil) (fun _ _ _ _ _ => by exact sv_c c_is_position room (by first | decide | omega) gd rfl (by exact svs_cons (by exact sv_v 7 rfl rfl rfl rfl) (by exact svs_cons (by exact sv_b1 bi_len rfl fr_len (by exact so_v 0 rfl rfl rfl rfl) rfl rfl) (by exact svs_nil) rfl) rfl) rfl rfl rfl) (fun _ => rfl))) rfl rfl) (fun _ => rfl))) (by exact ss_cons (by exact ss_ret (by exact sv_bl)) (by exact ss_nil)) (by exact ss_nil)) (by exact ss_cons (by exact ss_if (by exact sb_not (by exact sb_val (by exact sv_b1 (bi_all rfl) rfl fr_all (by exact so_of (by exact g_lc true ([7] ++ ([6] ++ [])) [("state", 7), ("at", 6)] (by decide) rfl nd (by exact si_enm rfl fr_enumerate (by exact sv_v 3 rfl rfl rfl rfl) rfl rfl) (by kernel_rfl) (fun _ _ _ _ _ => by exact sg_tup rfl (by exact sgs_cons (by exact sg_name (pg_name nd rfl (by first | exact .inl rfl | exact .inr rfl) (by first | exact .inr rfl | exact .inl rfl))) (by exact sgs_cons (by exact sg_name (pg_name nd rfl (by first | exact .inl rfl | exact .inr rfl) (by first | exact .inr rfl | exact .inl rfl))) (by exact sgs_nil) rfl) rfl) rfl rfl) (fun _ _ _ _ _ => by exact sps_nil) (fun _ _ _ _ _ => by exact sv_cmp (op_inA u65) ok_in (by exact so_v 7 rfl rfl rfl rfl) (by exact so_of (by exact sv_idx (by exact so_v 1 rfl rfl rfl rfl) (by exact so_v 6 rfl rfl rfl rfl) (fun _ _ => rfl))) rfl) (fun _ => rfl))) rfl rfl) (fun _ => rfl))) (by exact ss_cons (by exact ss_ret (by exact sv_bl)) (by exact ss_nil)) (by exact ss_nil)) (by exact ss_cons (by exact ss_ret (by exact sv_b1 (bi_all rfl) rfl fr_all (by exact so_of (by exact g_lc true ([7] ++ ([8] ++ [])) [("state", 7), ("message", 8)] (by decide) rfl nd (by exact si_zip rfl fr_zip (by exact sv_v 4 rfl rfl rfl rfl) (by exact sv_v 1 rfl rfl rfl rfl) rfl rfl rfl) (by kernel_rfl) (fun _ _ _ _ _ => by exact sg_tup rfl (by exact sgs_cons (by exact sg_name (pg_name nd rfl (by first | exact .inl rfl | exact .inr rfl) (by first | exact .inr rfl | exact .inl rfl))) (by exact sgs_cons (by exact sg_name (pg_name nd rfl (by first | exact .inl rfl | exact .inr rfl) (by first | exact .inr rfl | exact .inl rfl))) (by exact sgs_nil) rfl) rfl) rfl rfl) (fun _ _ _ _ _ => by exact sps_nil) (fun _ _ _ _ _ => by exact sv_cmp (op_inA u65) ok_in (by exact so_v 7 rfl rfl rfl rfl) (by exact so_v 8 rfl rfl rfl rfl) rfl) (fun _ => rfl))) rfl rfl)) (by exact ss_nil)))))))
theorem sc_check_faces : FnScope N_check_faces ps_check_faces (defScope (Hd.top 43)) := ⟨rfl, rfl, rfl, by decide +kernel, rfl, by decide +kernel, by decide +kernel⟩
theorem cal_check_faces (c : He.SaysD Hd.fa Hd.fn K) (X : K.In h) (G : h.Ns mainGlobals mg) : Cal P w K mg 4 "check_faces" ps_check_faces N_check_faces [] m_check_faces := by
  obtain ⟨fd, D⟩ := c.def_ 25 (d := Hd.dd 43 "check_faces") rfl
  have c_faces_are_right := (cal_faces_are_right (P := P) (w := w) c X G)
  refine cal_of (N := N_check_faces) (ps := ps_check_faces) (k := 3) D (He.glo_ok X G (c.fact 25 (f := .glo "check_faces") rfl)) sc_check_faces (fun _ _ _ _ _ _ us hl => match us, hl with | [_], _ => rfl) (fun _ z => nomatch z) (fun base cdv A out s H room gd => ?_)
  · have nd : N_check_faces.Nodup := sc_check_faces.nd
    have u100 := room_u room
    have u64 := room_u64 room
    have u65 := room_u65 room
    exact ss_cons (by exact ss_if (by exact sb_not (by exact sb_val (by exact sv_c c_faces_are_right room (by first | decide | omega) gd rfl (by exact svs_cons (by exact sv_v 0 rfl rfl rfl rfl) (by exact svs_nil) rfl) rfl rfl rfl) (fun _ => rfl))) (by exact ss_cons (by exact ss_never) (by exact ss_nil)) (by exact ss_nil)) (by exact ss_nil)
theorem sc_check_both : FnScope N_check_both ps_check_both (defScope (Hd.top 44)) := ⟨rfl, rfl, rfl, by decide +kernel, rfl, by decide +kernel, by decide +kernel⟩
theorem cal_check_both (c : He.SaysD Hd.fa Hd.fn K) (X : K.In h) (G : h.Ns mainGlobals mg) : Cal P w K mg 5 "check_both" ps_check_both N_check_both [] m_check_both := by
  obtain ⟨fd, D⟩ := c.def_ 26 (d := Hd.dd 44 "check_both") rfl
  have c_messages_are_right := (cal_messages_are_right (P := P) (w := w) c X G)
  have c_check_faces := (cal_check_faces (P := P) (w := w) c X G)
  refine cal_of (N := N_check_both) (ps := ps_check_both) (k := 4) D (He.glo_ok X G (c.fact 26 (f := .glo "check_both") rfl)) sc_check_both (fun _ _ _ _ _ _ us hl => match us, hl with | [_, _], _ => rfl) (fun _ z => nomatch z) (fun base cdv A out s H room gd => ?_)
  · have nd : N_check_both.Nodup := sc_check_both.nd
    have u100 := room_u room
    have u64 := room_u64 room
    have u65 := room_u65 room
    exact ss_cons (by exact ss_expr (by exact sv_c c_check_faces room (by first | decide | omega) gd rfl (by exact svs_cons (by exact sv_v 0 rfl rfl rfl rfl) (by exact svs_nil) rfl) rfl rfl rfl) rfl) (by exact ss_cons (by exact ss_if (by exact sb_not (by exact sb_val (by exact sv_c c_messages_are_right room (by first | decide | omega) gd rfl (by exact svs_cons (by exact sv_v 0 rfl rfl rfl rfl) (by exact svs_cons (by exact sv_v 1 rfl rfl rfl rfl) (by exact svs_nil) rfl) rfl) rfl rfl rfl) (fun _ => rfl))) (by exact ss_cons (by exact ss_never) (by exact ss_nil)) (by exact ss_nil)) (by exact ss_nil))
theorem sc_faces_of : FnScope N_faces_of ps_faces_of (defScope (Hd.top 45)) := ⟨rfl, rfl, rfl, by decide +kernel, rfl, by decide +kernel, by decide +kernel⟩
theorem cal_faces_of (c : He.SaysD Hd.fa Hd.fn K) (X : K.In h) (G : h.Ns mainGlobals mg) : Cal P w K mg 6 "faces_of" ps_faces_of N_faces_of [(["matter"], [0])] m_faces_of := by
  obtain ⟨fd, D⟩ := c.def_ 27 (d := Hd.dd 45 "faces_of") rfl
  have fr_len : mg "len" = none := He.free_ok X G (c.fact 66 (f := .free "len") rfl)
  have c_check_matter := (cal_check_matter (P := P) (w := w) c X G)
  have c_faces_by := (cal_faces_by (P := P) (w := w) c X G)
  refine cal_of (N := N_faces_of) (ps := ps_faces_of) (k := 5) D (He.glo_ok X G (c.fact 27 (f := .glo "faces_of") rfl)) sc_faces_of (fun _ _ _ _ _ _ us hl => match us, hl with | [_], _ => rfl) (fun p hp => by rw [List.mem_singleton] at hp; subst hp; exact FunD.kmix D (by decide) (fun _ _ _ _ _ _ ws hl => match ws, hl with | _ :: _, _ => rfl | [], hl => absurd hl (by simp [mixL, ps_faces_of]))) (fun base cdv A out s H room gd => ?_)
  · have nd : N_faces_of.Nodup := sc_faces_of.nd
    have u100 := room_u room
    have u64 := room_u64 room
    have u65 := room_u65 room
    exact ss_cons (by exact ss_expr (by exact sv_c c_check_matter room (by first | decide | omega) gd rfl (by exact svs_cons (by exact sv_v 0 rfl rfl rfl rfl) (by exact svs_nil) rfl) rfl rfl rfl) rfl) (by exact ss_cons (by exact ss_if (by exact sb_cmp (op_neA u64) ok_ne (by exact so_of (by exact sv_b1 bi_len rfl fr_len (by exact so_of (by exact sv_idx (by exact so_v 0 rfl rfl rfl rfl) (by exact so_of (by exact sv_int)) (fun _ _ => rfl))) rfl rfl)) (by exact so_of (by exact sv_int)) (nomark _)) (by exact ss_cons (by exact ss_never) (by exact ss_nil)) (by exact ss_nil)) (by exact ss_cons (by exact ss_ret (by exact sv_c c_faces_by room (by first | decide | omega) gd rfl (by exact svs_cons (by exact sv_v 0 rfl rfl rfl rfl) (by exact svs_nil) rfl) rfl rfl rfl)) (by exact ss_nil)))
theorem sc_full_messages : FnScope N_full_messages ps_full_messages (defScope (Hd.top 46)) := ⟨rfl, rfl, rfl, by decide +kernel, rfl, by decide +kernel, by decide +kernel⟩
theorem cal_full_messages (c : He.SaysD Hd.fa Hd.fn K) (X : K.In h) (G : h.Ns mainGlobals mg) : Cal P w K mg 5 "full_messages" ps_full_messages N_full_messages [(["faces"], [0])] m_full_messages := by
  obtain ⟨fd, D⟩ := c.def_ 28 (d := Hd.dd 46 "full_messages") rfl
  have fr_len : mg "len" = none := He.free_ok X G (c.fact 66 (f := .free "len") rfl)
  have c_full_of := (cal_full_of (P := P) (w := w) c X G)
  have c_check_faces := (cal_check_faces (P := P) (w := w) c X G)
  refine cal_of (N := N_full_messages) (ps := ps_full_messages) (k := 4) D (He.glo_ok X G (c.fact 28 (f := .glo "full_messages") rfl)) sc_full_messages (fun _ _ _ _ _ _ us hl => match us, hl with | [_], _ => rfl) (fun p hp => by rw [List.mem_singleton] at hp; subst hp; exact FunD.kmix D (by decide) (fun _ _ _ _ _ _ ws hl => match ws, hl with | _ :: _, _ => rfl | [], hl => absurd hl (by simp [mixL, ps_full_messages]))) (fun base cdv A out s H room gd => ?_)
  · have nd : N_full_messages.Nodup := sc_full_messages.nd
    have u100 := room_u room
    have u64 := room_u64 room
    have u65 := room_u65 room
    exact ss_cons (by exact ss_expr (by exact sv_c c_check_faces room (by first | decide | omega) gd rfl (by exact svs_cons (by exact sv_v 0 rfl rfl rfl rfl) (by exact svs_nil) rfl) rfl rfl rfl) rfl) (by exact ss_cons (by exact ss_ret (by exact sv_c c_full_of room (by first | decide | omega) gd rfl (by exact svs_cons (by exact sv_b1 bi_len rfl fr_len (by exact so_v 0 rfl rfl rfl rfl) rfl rfl) (by exact svs_nil) rfl) rfl rfl rfl)) (by exact ss_nil))
theorem sc_envies : FnScope N_envies ps_envies (defScope (Hd.top 47)) := ⟨rfl, rfl, rfl, by decide +kernel, rfl, by decide +kernel, by decide +kernel⟩
theorem cal_envies (c : He.SaysD Hd.fa Hd.fn K) (X : K.In h) (G : h.Ns mainGlobals mg) : Cal P w K mg 5 "envies" ps_envies N_envies [(["faces"], [0])] m_envies := by
  obtain ⟨fd, D⟩ := c.def_ 29 (d := Hd.dd 47 "envies") rfl
  have c_envies_of := (cal_envies_of (P := P) (w := w) c X G)
  have c_check_faces := (cal_check_faces (P := P) (w := w) c X G)
  refine cal_of (N := N_envies) (ps := ps_envies) (k := 4) D (He.glo_ok X G (c.fact 29 (f := .glo "envies") rfl)) sc_envies (fun _ _ _ _ _ _ us hl => match us, hl with | [_], _ => rfl) (fun p hp => by rw [List.mem_singleton] at hp; subst hp; exact FunD.kmix D (by decide) (fun _ _ _ _ _ _ ws hl => match ws, hl with | _ :: _, _ => rfl | [], hl => absurd hl (by simp [mixL, ps_envies]))) (fun base cdv A out s H room gd => ?_)
  · have nd : N_envies.Nodup := sc_envies.nd
    have u100 := room_u room
    have u64 := room_u64 room
    have u65 := room_u65 room
    exact ss_cons (by exact ss_expr (by exact sv_c c_check_faces room (by first | decide | omega) gd rfl (by exact svs_cons (by exact sv_v 0 rfl rfl rfl rfl) (by exact svs_nil) rfl) rfl rfl rfl) rfl) (by exact ss_cons (by exact ss_ret (by exact sv_c c_envies_of room (by first | decide | omega) gd rfl (by exact svs_cons (by exact sv_v 0 rfl rfl rfl rfl) (by exact svs_nil) rfl) rfl rfl rfl)) (by exact ss_nil))
theorem sc_envy_ring : FnScope N_envy_ring ps_envy_ring (defScope (Hd.top 48)) := ⟨rfl, rfl, rfl, by decide +kernel, rfl, by decide +kernel, by decide +kernel⟩
theorem cal_envy_ring (c : He.SaysD Hd.fa Hd.fn K) (X : K.In h) (G : h.Ns mainGlobals mg) : Cal P w K mg 5 "envy_ring" ps_envy_ring N_envy_ring [(["faces"], [0])] m_envy_ring := by
  obtain ⟨fd, D⟩ := c.def_ 30 (d := Hd.dd 48 "envy_ring") rfl
  have c_ring_by := (cal_ring_by (P := P) (w := w) c X G)
  have c_check_faces := (cal_check_faces (P := P) (w := w) c X G)
  refine cal_of (N := N_envy_ring) (ps := ps_envy_ring) (k := 4) D (He.glo_ok X G (c.fact 30 (f := .glo "envy_ring") rfl)) sc_envy_ring (fun _ _ _ _ _ _ us hl => match us, hl with | [_], _ => rfl) (fun p hp => by rw [List.mem_singleton] at hp; subst hp; exact FunD.kmix D (by decide) (fun _ _ _ _ _ _ ws hl => match ws, hl with | _ :: _, _ => rfl | [], hl => absurd hl (by simp [mixL, ps_envy_ring]))) (fun base cdv A out s H room gd => ?_)
  · have nd : N_envy_ring.Nodup := sc_envy_ring.nd
    have u100 := room_u room
    have u64 := room_u64 room
    have u65 := room_u65 room
    exact ss_cons (by exact ss_expr (by exact sv_c c_check_faces room (by first | decide | omega) gd rfl (by exact svs_cons (by exact sv_v 0 rfl rfl rfl rfl) (by exact svs_nil) rfl) rfl rfl rfl) rfl) (by exact ss_cons (by exact ss_ret (by exact sv_c c_ring_by room (by first | decide | omega) gd rfl (by exact svs_cons (by exact sv_v 0 rfl rfl rfl rfl) (by exact svs_nil) rfl) rfl rfl rfl)) (by exact ss_nil))
theorem sc_fit : FnScope N_fit ps_fit (defScope (Hd.top 49)) := ⟨rfl, rfl, rfl, by decide +kernel, rfl, by decide +kernel, by decide +kernel⟩
theorem cal_fit (c : He.SaysD Hd.fa Hd.fn K) (X : K.In h) (G : h.Ns mainGlobals mg) : Cal P w K mg 6 "fit" ps_fit N_fit [(["at", "messages", "faces"], [2, 1, 0])] m_fit := by
  obtain ⟨fd, D⟩ := c.def_ 31 (d := Hd.dd 49 "fit") rfl
  have fr_len : mg "len" = none := He.free_ok X G (c.fact 66 (f := .free "len") rfl)
  have c_is_position := (cal_is_position (P := P) (w := w) c X G)
  have c_fit_of := (cal_fit_of (P := P) (w := w) c X G)
  have c_check_both := (cal_check_both (P := P) (w := w) c X G)
  refine cal_of (N := N_fit) (ps := ps_fit) (k := 5) D (He.glo_ok X G (c.fact 31 (f := .glo "fit") rfl)) sc_fit (fun _ _ _ _ _ _ us hl => match us, hl with | [_, _, _], _ => rfl) (fun p hp => by rw [List.mem_singleton] at hp; subst hp; exact FunD.kmix D (by decide) (fun _ _ _ _ _ _ ws hl => match ws, hl with | _ :: _ :: _ :: _, _ => rfl | [], hl => absurd hl (by simp [mixL, ps_fit]) | [_], hl => absurd hl (by simp [mixL, ps_fit]) | [_, _], hl => absurd hl (by simp [mixL, ps_fit]))) (fun base cdv A out s H room gd => ?_)
  · have nd : N_fit.Nodup := sc_fit.nd
    have u100 := room_u room
    have u64 := room_u64 room
    have u65 := room_u65 room
    exact ss_cons (by exact ss_expr (by exact sv_c c_check_both room (by first | decide | omega) gd rfl (by exact svs_cons (by exact sv_v 0 rfl rfl rfl rfl) (by exact svs_cons (by exact sv_v 1 rfl rfl rfl rfl) (by exact svs_nil) rfl) rfl) rfl rfl rfl) rfl) (by exact ss_cons (by exact ss_if (by exact sb_not (by exact sb_val (by exact sv_c c_is_position room (by first | decide | omega) gd rfl (by exact svs_cons (by exact sv_v 2 rfl rfl rfl rfl) (by exact svs_cons (by exact sv_b1 bi_len rfl fr_len (by exact so_v 1 rfl rfl rfl rfl) rfl rfl) (by exact svs_nil) rfl) rfl) rfl rfl rfl) (fun _ => rfl))) (by exact ss_cons (by exact ss_never) (by exact ss_nil)) (by exact ss_nil)) (by exact ss_cons (by exact ss_ret (by exact sv_c c_fit_of room (by first | decide | omega) gd rfl (by exact svs_cons (by exact sv_v 0 rfl rfl rfl rfl) (by exact svs_cons (by exact sv_idx (by exact so_v 1 rfl rfl rfl rfl) (by exact so_v 2 rfl rfl rfl rfl) (fun _ _ => rfl)) (by exact svs_nil) rfl) rfl) rfl rfl rfl)) (by exact ss_nil)))
theorem sc_gains : FnScope N_gains ps_gains (defScope (Hd.top 50)) := ⟨rfl, rfl, rfl, by decide +kernel, rfl, by decide +kernel, by decide +kernel⟩
theorem cal_gains (c : He.SaysD Hd.fa Hd.fn K) (X : K.In h) (G : h.Ns mainGlobals mg) : Cal P w K mg 6 "gains" ps_gains N_gains [(["way", "messages", "faces"], [2, 1, 0])] m_gains := by
  obtain ⟨fd, D⟩ := c.def_ 32 (d := Hd.dd 50 "gains") rfl
  have c_gains_of := (cal_gains_of (P := P) (w := w) c X G)
  have c_way_is_right := (cal_way_is_right (P := P) (w := w) c X G)
  have c_check_both := (cal_check_both (P := P) (w := w) c X G)
  refine cal_of (N := N_gains) (ps := ps_gains) (k := 5) D (He.glo_ok X G (c.fact 32 (f := .glo "gains") rfl)) sc_gains (fun _ _ _ _ _ _ us hl => match us, hl with | [_, _, _], _ => rfl) (fun p hp => by rw [List.mem_singleton] at hp; subst hp; exact FunD.kmix D (by decide) (fun _ _ _ _ _ _ ws hl => match ws, hl with | _ :: _ :: _ :: _, _ => rfl | [], hl => absurd hl (by simp [mixL, ps_gains]) | [_], hl => absurd hl (by simp [mixL, ps_gains]) | [_, _], hl => absurd hl (by simp [mixL, ps_gains]))) (fun base cdv A out s H room gd => ?_)
  · have nd : N_gains.Nodup := sc_gains.nd
    have u100 := room_u room
    have u64 := room_u64 room
    have u65 := room_u65 room
    exact ss_cons (by exact ss_expr (by exact sv_c c_check_both room (by first | decide | omega) gd rfl (by exact svs_cons (by exact sv_v 0 rfl rfl rfl rfl) (by exact svs_cons (by exact sv_v 1 rfl rfl rfl rfl) (by exact svs_nil) rfl) rfl) rfl rfl rfl) rfl) (by exact ss_cons (by exact ss_if (by exact sb_not (by exact sb_val (by exact sv_c c_way_is_right room (by first | decide | omega) gd rfl (by exact svs_cons (by exact sv_v 0 rfl rfl rfl rfl) (by exact svs_cons (by exact sv_v 1 rfl rfl rfl rfl) (by exact svs_cons (by exact sv_v 2 rfl rfl rfl rfl) (by exact svs_nil) rfl) rfl) rfl) rfl rfl rfl) (fun _ => rfl))) (by exact ss_cons (by exact ss_never) (by exact ss_nil)) (by exact ss_nil)) (by exact ss_cons (by exact ss_ret (by exact sv_c c_gains_of room (by first | decide | omega) gd rfl (by exact svs_cons (by exact sv_v 0 rfl rfl rfl rfl) (by exact svs_cons (by exact sv_v 1 rfl rfl rfl rfl) (by exact svs_cons (by exact sv_v 2 rfl rfl rfl rfl) (by exact svs_nil) rfl) rfl) rfl) rfl rfl rfl)) (by exact ss_nil)))
theorem sc__law_pot : FnScope N__law_pot ps__law_pot (defScope (Hd.top 52)) := ⟨rfl, rfl, rfl, by decide +kernel, rfl, by decide +kernel, by decide +kernel⟩
theorem cal__law_pot (c : He.SaysD Hd.fa Hd.fn K) (X : K.In h) (G : h.Ns mainGlobals mg) : Cal P w K mg 1 "_law_pot" ps__law_pot N__law_pot [] m__law_pot := by
  obtain ⟨fd, D⟩ := c.def_ 33 (d := Hd.dd 52 "_law_pot") rfl
  have fr_abs : mg "abs" = none := He.free_ok X G (c.fact 59 (f := .free "abs") rfl)
  have fr_int : mg "int" = none := He.free_ok X G (c.fact 64 (f := .free "int") rfl)
  have fr_len : mg "len" = none := He.free_ok X G (c.fact 66 (f := .free "len") rfl)
  have fr_max : mg "max" = none := He.free_ok X G (c.fact 68 (f := .free "max") rfl)
  refine cal_of (N := N__law_pot) (ps := ps__law_pot) (k := 0) D (He.glo_ok X G (c.fact 33 (f := .glo "_law_pot") rfl)) sc__law_pot (fun _ _ _ _ _ _ us hl => match us, hl with | [_, _], _ => rfl) (fun _ z => nomatch z) (fun base cdv A out s H room gd => ?_)
  · have nd : N__law_pot.Nodup := sc__law_pot.nd
    have u100 := room_u room
    have u64 := room_u64 room
    have u65 := room_u65 room
    exact ss_cons (by exact g_set 2 nd rfl (by first | exact .inl rfl | exact .inr rfl) (by exact sv_frz (by exact sv_ite (by exact sb_cmp (op_ltA u100) ok_lt (by exact so_v 1 rfl rfl rfl rfl) (by exact so_of (by exact sv_b1 bi_len rfl fr_len (by exact so_v 0 rfl rfl rfl rfl) rfl rfl)) (nomark _)) (by exact sv_b1 bi_abs rfl fr_abs (by exact so_of (by exact sv_idx (by exact so_v 0 rfl rfl rfl rfl) (by exact so_v 1 rfl rfl rfl rfl) (fun _ _ => rfl))) rfl rfl) (by exact sv_bin op_addA ok_add (by exact so_of (by exact sv_bin op_mulA ok_mul (by exact so_of (by exact sv_int)) (by exact so_v 1 rfl rfl rfl rfl))) (by exact so_of (by exact sv_int))))) rfl (.inl rfl)) (by exact ss_cons (by exact g_set 3 nd rfl (by first | exact .inl rfl | exact .inr rfl) (by exact sv_frz (by exact sv_bin op_addA ok_add (by exact so_of (by exact sv_bin op_modN ok_mod (by exact so_of (by exact sv_t1 bt_int rfl fr_int (by exact so_of (by exact sv_bin op_addA ok_add (by exact so_of (by exact sv_bin op_addA ok_add (by exact so_of (by exact sv_bin op_mulA ok_mul (by exact so_of (by exact sv_bin op_modN ok_mod (by exact so_of (by exact sv_t1 bt_int rfl fr_int (by exact so_v 2 rfl rfl rfl rfl) rfl rfl)) (by exact so_of (by exact sv_int)))) (by exact so_of (by exact sv_int)))) (by exact so_of (by exact sv_bin op_mulA ok_mul (by exact so_of (by exact sv_int)) (by exact so_v 1 rfl rfl rfl rfl))))) (by exact so_of (by exact sv_int)))) rfl rfl)) (by exact so_of (by exact sv_int)))) (by exact so_of (by exact sv_int)))) rfl (.inl rfl)) (by exact ss_cons (by exact ss_ret (by exact sv_lst (by exact svs_cons (by exact sv_b2 (bi_max rfl) rfl fr_max (by exact so_of (by exact sv_int)) (by exact so_of (by exact sv_bin op_sub ok_sub (by exact so_v 2 rfl rfl rfl rfl) (by exact so_of (by exact sv_bin op_pow ok_pow (by exact so_of (by exact sv_int)) (by exact so_of (by exact sv_int)))))) rfl rfl rfl) (by exact svs_cons (by exact sv_v 3 rfl rfl rfl rfl) (by exact svs_nil) rfl) rfl))) (by exact ss_nil)))
theorem sc__law_draw : FnScope N__law_draw ps__law_draw (defScope (Hd.top 53)) := ⟨rfl, rfl, rfl, by decide +kernel, rfl, by decide +kernel, by decide +kernel⟩
theorem cal__law_draw (c : He.SaysD Hd.fa Hd.fn K) (X : K.In h) (G : h.Ns mainGlobals mg) : Cal P w K mg 1 "_law_draw" ps__law_draw N__law_draw [] m__law_draw := by
  obtain ⟨fd, D⟩ := c.def_ 34 (d := Hd.dd 53 "_law_draw") rfl
  have fr_int : mg "int" = none := He.free_ok X G (c.fact 64 (f := .free "int") rfl)
  refine cal_of (N := N__law_draw) (ps := ps__law_draw) (k := 0) D (He.glo_ok X G (c.fact 34 (f := .glo "_law_draw") rfl)) sc__law_draw (fun _ _ _ _ _ _ us hl => match us, hl with | [_, _], _ => rfl) (fun _ z => nomatch z) (fun base cdv A out s H room gd => ?_)
  · have nd : N__law_draw.Nodup := sc__law_draw.nd
    have u100 := room_u room
    have u64 := room_u64 room
    have u65 := room_u65 room
    exact ss_cons (by exact ss_if (by exact sb_cmp op_gt ok_gt (by exact so_of (by exact sv_idx (by exact so_v 0 rfl rfl rfl rfl) (by exact so_of (by exact sv_int)) (fun _ _ => rfl))) (by exact so_of (by exact sv_int)) (nomark _)) (by exact ss_cons (by exact g_set 2 nd rfl (by first | exact .inl rfl | exact .inr rfl) (by exact sv_bin op_modN ok_mod (by exact so_of (by exact sv_t1 bt_int rfl fr_int (by exact so_of (by exact sv_idx (by exact so_v 0 rfl rfl rfl rfl) (by exact so_of (by exact sv_int)) (fun _ _ => rfl))) rfl rfl)) (by exact so_v 1 rfl rfl rfl rfl)) rfl (.inl rfl)) (by exact ss_cons (by exact g_bind [] (by exact sv_bin op_fdivA ok_fdiv (by exact so_of (by exact sv_t1 bt_int rfl fr_int (by exact so_of (by exact sv_idx (by exact so_v 0 rfl rfl rfl rfl) (by exact so_of (by exact sv_int)) (fun _ _ => rfl))) rfl rfl)) (by exact so_v 1 rfl rfl rfl rfl)) (by exact sg_sub (nv 0 rfl rfl rfl rfl) (by exact so_of (by exact sv_int)) (fun _ => rfl)) rfl rfl rfl) (by exact ss_cons (by exact ss_retv (nv 2 rfl rfl rfl rfl)) (by exact ss_nil)))) (by exact ss_nil)) (by exact ss_cons (by exact g_bind [] (by exact sv_bin op_modN ok_mod (by exact so_of (by exact sv_t1 bt_int rfl fr_int (by exact so_of (by exact sv_bin op_addA ok_add (by exact so_of (by exact sv_bin op_mulA ok_mul (by exact so_of (by exact sv_idx (by exact so_v 0 rfl rfl rfl rfl) (by exact so_of (by exact sv_int)) (fun _ _ => rfl))) (by exact so_of (by exact sv_int)))) (by exact so_of (by exact sv_int)))) rfl rfl)) (by exact so_of (by exact sv_int))) (by exact sg_sub (nv 0 rfl rfl rfl rfl) (by exact so_of (by exact sv_int)) (fun _ => rfl)) rfl rfl rfl) (by exact ss_cons (by exact ss_ret (by exact sv_bin op_modN ok_mod (by exact so_of (by exact sv_t1 bt_int rfl fr_int (by exact so_of (by exact sv_bin op_fdivA ok_fdiv (by exact so_of (by exact sv_bin op_modN ok_mod (by exact so_of (by exact sv_t1 bt_int rfl fr_int (by exact so_of (by exact sv_bin op_mulA ok_mul (by exact so_of (by exact sv_idx (by exact so_v 0 rfl rfl rfl rfl) (by exact so_of (by exact sv_int)) (fun _ _ => rfl))) (by exact so_of (by exact sv_idx (by exact so_v 0 rfl rfl rfl rfl) (by exact so_of (by exact sv_int)) (fun _ _ => rfl))))) rfl rfl)) (by exact so_of (by exact sv_int)))) (by exact so_of (by exact sv_int)))) rfl rfl)) (by exact so_v 1 rfl rfl rfl rfl))) (by exact ss_nil)))
theorem sc__law_pick : FnScope N__law_pick ps__law_pick (defScope (Hd.top 54)) := ⟨rfl, rfl, rfl, by decide +kernel, rfl, by decide +kernel, by decide +kernel⟩
theorem cal__law_pick (c : He.SaysD Hd.fa Hd.fn K) (X : K.In h) (G : h.Ns mainGlobals mg) : Cal P w K mg 2 "_law_pick" ps__law_pick N__law_pick [] m__law_pick := by
  obtain ⟨fd, D⟩ := c.def_ 35 (d := Hd.dd 54 "_law_pick") rfl
  have fr_len : mg "len" = none := He.free_ok X G (c.fact 66 (f := .free "len") rfl)
  have c__law_draw := (cal__law_draw (P := P) (w := w) c X G)
  refine cal_of (N := N__law_pick) (ps := ps__law_pick) (k := 1) D (He.glo_ok X G (c.fact 35 (f := .glo "_law_pick") rfl)) sc__law_pick (fun _ _ _ _ _ _ us hl => match us, hl with | [_, _], _ => rfl) (fun _ z => nomatch z) (fun base cdv A out s H room gd => ?_)
  · have nd : N__law_pick.Nodup := sc__law_pick.nd
    have u100 := room_u room
    have u64 := room_u64 room
    have u65 := room_u65 room
    exact ss_cons (by exact ss_ret (by exact sv_idx (by exact so_v 1 rfl rfl rfl rfl) (by exact so_of (by exact sv_cP c__law_draw room (by first | decide | omega) gd rfl (nv 0 rfl rfl rfl rfl) (by exact svs_cons (by exact sv_b1 bi_len rfl fr_len (by exact so_v 1 rfl rfl rfl rfl) rfl rfl) (by exact svs_nil) rfl) rfl rfl rfl)) (fun _ _ => rfl))) (by exact ss_nil)
theorem sc__law_profiles : FnScope N__law_profiles ps__law_profiles (defScope (Hd.top 63)) := ⟨rfl, rfl, rfl, by decide +kernel, rfl, by decide +kernel, by decide +kernel⟩
theorem cal__law_profiles (c : He.SaysD Hd.fa Hd.fn K) (X : K.In h) (G : h.Ns mainGlobals mg) : Cal P w K mg 1 "_law_profiles" ps__law_profiles N__law_profiles [] m__law_profiles := by
  obtain ⟨fd, D⟩ := c.def_ 44 (d := Hd.dd 63 "_law_profiles") rfl
  have fr_range : mg "range" = none := He.free_ok X G (c.fact 70 (f := .free "range") rfl)
  refine cal_of (N := N__law_profiles) (ps := ps__law_profiles) (k := 0) D (He.glo_ok X G (c.fact 44 (f := .glo "_law_profiles") rfl)) sc__law_profiles (fun _ _ _ _ _ _ us hl => match us, hl with | [_], _ => rfl) (fun _ z => nomatch z) (fun base cdv A out s H room gd => ?_)
  · have nd : N__law_profiles.Nodup := sc__law_profiles.nd
    have u100 := room_u room
    have u64 := room_u64 room
    have u65 := room_u65 room
    exact ss_cons (by exact g_set 1 nd rfl (by first | exact .inl rfl | exact .inr rfl) (by exact sv_frz (by exact sv_lst (by exact svs_cons (by exact sv_tup (by exact svs_nil)) (by exact svs_nil) rfl))) rfl (.inl rfl)) (by exact ss_cons (by exact g_for false [2] PassesOwn.never rfl (by exact si_seq (by exact sv_v 0 rfl rfl rfl rfl)) (by exact sg_name (pg_name nd rfl (by first | exact .inl rfl | exact .inr rfl) (.inl rfl))) (by exact ss_cons (by exact g_set 3 nd rfl (by first | exact .inl rfl | exact .inr rfl) (by exact sv_lst (by exact svs_nil)) rfl (.inl rfl)) (by exact ss_cons (by exact g_for false [4] PassesOwn.never rfl (by exact si_seq (by exact sv_v 1 rfl rfl rfl rfl)) (by exact sg_name (pg_name nd rfl (by first | exact .inl rfl | exact .inr rfl) (.inl rfl))) (by exact ss_cons (by exact g_ext 3 (nv 3 rfl rfl rfl rfl) (by exact g_lc false [5] [("deed", 5)] (by decide) rfl nd (by exact si_rng1 rfl fr_range (by exact so_v 2 rfl rfl rfl rfl) rfl rfl) (by kernel_rfl) (fun _ _ _ _ _ => by exact sg_name (pg_name nd rfl (by first | exact .inl rfl | exact .inr rfl) (by first | exact .inr rfl | exact .inl rfl))) (fun _ _ _ _ _ => by exact sps_nil) (fun _ _ _ _ _ => by exact sv_bin op_addA ok_add (by exact so_v 4 rfl rfl rfl rfl) (by exact so_of (by exact sv_tup (by exact svs_cons (by exact sv_v 5 rfl rfl rfl rfl) (by exact svs_nil) rfl)))) (fun _ => rfl)) ⟨rfl, rfl, rfl, rfl, rfl⟩ rfl) (by exact ss_nil)) (fun _ => rfl)) (by exact ss_cons (by exact g_set 1 nd rfl (by first | exact .inl rfl | exact .inr rfl) (by exact sv_v 3 rfl rfl rfl rfl) rfl (.inl rfl)) (by exact ss_nil)))) (fun _ => rfl)) (by exact ss_cons (by exact ss_retv (nv 1 rfl rfl rfl rfl)) (by exact ss_nil)))
theorem sc__law_matter : FnScope N__law_matter ps__law_matter (defScope (Hd.top 64)) := ⟨rfl, rfl, rfl, by decide +kernel, rfl, by decide +kernel, by decide +kernel⟩
theorem cal__law_matter (c : He.SaysD Hd.fa Hd.fn K) (X : K.In h) (G : h.Ns mainGlobals mg) : Cal P w K mg 3 "_law_matter" ps__law_matter N__law_matter [] m__law_matter := by
  obtain ⟨fd, D⟩ := c.def_ 45 (d := Hd.dd 64 "_law_matter") rfl
  have fr_len : mg "len" = none := He.free_ok X G (c.fact 66 (f := .free "len") rfl)
  have fr_range : mg "range" = none := He.free_ok X G (c.fact 70 (f := .free "range") rfl)
  have fr_tuple : mg "tuple" = none := He.free_ok X G (c.fact 75 (f := .free "tuple") rfl)
  have c__law_draw := (cal__law_draw (P := P) (w := w) c X G)
  have c__law_pick := (cal__law_pick (P := P) (w := w) c X G)
  have c__law_profiles := (cal__law_profiles (P := P) (w := w) c X G)
  refine cal_of (N := N__law_matter) (ps := ps__law_matter) (k := 2) D (He.glo_ok X G (c.fact 45 (f := .glo "_law_matter") rfl)) sc__law_matter (fun _ _ _ _ _ _ us hl => match us, hl with | [_, _, _, _], _ => rfl) (fun _ z => nomatch z) (fun base cdv A out s H room gd => ?_)
  · have nd : N__law_matter.Nodup := sc__law_matter.nd
    have u100 := room_u room
    have u64 := room_u64 room
    have u65 := room_u65 room
    exact ss_cons (by exact g_set 4 nd rfl (by first | exact .inl rfl | exact .inr rfl) (by exact sv_t1 bt_tuple rfl fr_tuple (by exact so_of (by exact g_lc false [8] [("state", 8)] (by decide) rfl nd (by exact si_rng1 rfl fr_range (by exact so_v 2 rfl rfl rfl rfl) rfl rfl) (by kernel_rfl) (fun _ _ _ _ _ => by exact sg_name (pg_name nd rfl (by first | exact .inl rfl | exact .inr rfl) (by first | exact .inr rfl | exact .inl rfl))) (fun _ _ _ _ _ => by exact sps_nil) (fun _ _ _ _ _ => by exact sv_bin op_addA ok_add (by exact so_of (by exact sv_int)) (by exact so_of (by exact sv_cP c__law_draw room (by first | decide | omega) gd rfl (nv 0 rfl rfl rfl rfl) (by exact svs_cons (by exact sv_cP c__law_pick room (by first | decide | omega) gd rfl (nv 0 rfl rfl rfl rfl) (by exact svs_cons (by exact sv_lst (by exact svs_cons (by exact sv_int) (by exact svs_cons (by exact sv_int) (by exact svs_nil) rfl) rfl)) (by exact svs_nil) rfl) rfl rfl rfl) (by exact svs_nil) rfl) rfl rfl rfl))) (fun _ => rfl))) rfl rfl) rfl (.inl rfl)) (by exact ss_cons (by exact g_par 5 6 rfl nd rfl rfl (by decide) rfl rfl (by exact sv_b1 bi_len rfl fr_len (by exact so_of (by exact sv_c c__law_profiles room (by first | decide | omega) gd rfl (by exact svs_cons (by exact sv_v 1 rfl rfl rfl rfl) (by exact svs_nil) rfl) rfl rfl rfl)) rfl rfl) (by exact sv_lst (by exact svs_nil)) rfl rfl rfl rfl) (by exact ss_cons (by exact g_for false [7] PassesOwn.never rfl (by exact si_rng1 rfl fr_range (by exact so_of (by exact sv_bin op_addA ok_add (by exact so_of (by exact sv_b1 bi_len rfl fr_len (by exact so_v 1 rfl rfl rfl rfl) rfl rfl)) (by exact so_of (by exact sv_int)))) rfl rfl) (by exact sg_name (pg_name nd rfl (by first | exact .inl rfl | exact .inr rfl) (.inl rfl))) (by exact ss_cons (by exact g_app 6 (nv 6 rfl rfl rfl rfl) (by exact sv_t1 bt_tuple rfl fr_tuple (by exact so_of (by exact g_lc false [9] [("profile", 9)] (by decide) rfl nd (by exact si_rng1 rfl fr_range (by exact so_v 5 rfl rfl rfl rfl) rfl rfl) (by kernel_rfl) (fun _ _ _ _ _ => by exact sg_name (pg_name nd rfl (by first | exact .inl rfl | exact .inr rfl) (by first | exact .inr rfl | exact .inl rfl))) (fun _ _ _ _ _ => by exact sps_nil) (fun _ _ _ _ _ => by exact sv_t1 bt_tuple rfl fr_tuple (by exact so_of (by exact g_lc false [8] [("state", 8)] (by decide) rfl nd (by exact si_rng1 rfl fr_range (by exact so_v 2 rfl rfl rfl rfl) rfl rfl) (by kernel_rfl) (fun _ _ _ _ _ => by exact sg_name (pg_name nd rfl (by first | exact .inl rfl | exact .inr rfl) (by first | exact .inr rfl | exact .inl rfl))) (fun _ _ _ _ _ => by exact sps_nil) (fun _ _ _ _ _ => by exact sv_bin op_sub ok_sub (by exact so_of (by exact sv_cP c__law_draw room (by first | decide | omega) gd rfl (nv 0 rfl rfl rfl rfl) (by exact svs_cons (by exact sv_bin op_addA ok_add (by exact so_of (by exact sv_bin op_mulA ok_mul (by exact so_of (by exact sv_int)) (by exact so_v 3 rfl rfl rfl rfl))) (by exact so_of (by exact sv_int))) (by exact svs_nil) rfl) rfl rfl rfl)) (by exact so_v 3 rfl rfl rfl rfl)) (fun _ => rfl))) rfl rfl) (fun _ => rfl))) rfl rfl) ⟨rfl, rfl, rfl, rfl, rfl⟩ rfl) (by exact ss_nil)) (fun _ => rfl)) (by exact ss_cons (by exact ss_ret (by exact sv_tup (by exact svs_cons (by exact sv_str) (by exact svs_cons (by exact sv_v 4 rfl rfl rfl rfl) (by exact svs_cons (by exact sv_v 1 rfl rfl rfl rfl) (by exact svs_cons (by exact sv_t1 bt_tuple rfl fr_tuple (by exact so_of (by exact sv_slc (by exact so_v 6 rfl rfl rfl rfl) (by exact sp_none) (by exact sp_some (by exact so_of (by exact sv_neg (by exact so_of (by exact sv_int))))))) rfl rfl) (by exact svs_cons (by exact sv_idx (by exact so_v 6 rfl rfl rfl rfl) (by exact so_of (by exact sv_neg (by exact so_of (by exact sv_int)))) (fun _ _ => rfl)) (by exact svs_nil) rfl) rfl) rfl) rfl) rfl))) (by exact ss_nil))))
theorem sc__law_sets : FnScope N__law_sets ps__law_sets (defScope (Hd.top 68)) := ⟨rfl, rfl, rfl, by decide +kernel, rfl, by decide +kernel, by decide +kernel⟩
theorem cal__law_sets (c : He.SaysD Hd.fa Hd.fn K) (X : K.In h) (G : h.Ns mainGlobals mg) : Cal P w K mg 1 "_law_sets" ps__law_sets N__law_sets [] m__law_sets := by
  obtain ⟨fd, D⟩ := c.def_ 49 (d := Hd.dd 68 "_law_sets") rfl
  have fr_range : mg "range" = none := He.free_ok X G (c.fact 70 (f := .free "range") rfl)
  have fr_sorted : mg "sorted" = none := He.free_ok X G (c.fact 72 (f := .free "sorted") rfl)
  refine cal_of (N := N__law_sets) (ps := ps__law_sets) (k := 0) D (He.glo_ok X G (c.fact 49 (f := .glo "_law_sets") rfl)) sc__law_sets (fun _ _ _ _ _ _ us hl => match us, hl with | [_], _ => rfl) (fun _ z => nomatch z) (fun base cdv A out s H room gd => ?_)
  · have nd : N__law_sets.Nodup := sc__law_sets.nd
    have u100 := room_u room
    have u64 := room_u64 room
    have u65 := room_u65 room
    exact ss_cons (by exact g_set 1 nd rfl (by first | exact .inl rfl | exact .inr rfl) (by exact sv_frz (by exact sv_lst (by exact svs_cons (by exact sv_tup (by exact svs_nil)) (by exact svs_nil) rfl))) rfl (.inl rfl)) (by exact ss_cons (by exact g_for false [2] PassesOwn.never rfl (by exact si_rng1 rfl fr_range (by exact so_v 0 rfl rfl rfl rfl) rfl rfl) (by exact sg_name (pg_name nd rfl (by first | exact .inl rfl | exact .inr rfl) (.inl rfl))) (by exact ss_cons (by exact g_set 1 nd rfl (by first | exact .inl rfl | exact .inr rfl) (by exact sv_frz (by exact sv_bin op_addA ok_add (by exact so_v 1 rfl rfl rfl rfl) (by exact so_of (by exact g_lc false [3] [("some", 3)] (by decide) rfl nd (by exact si_seq (by exact sv_v 1 rfl rfl rfl rfl)) (by kernel_rfl) (fun _ _ _ _ _ => by exact sg_name (pg_name nd rfl (by first | exact .inl rfl | exact .inr rfl) (by first | exact .inr rfl | exact .inl rfl))) (fun _ _ _ _ _ => by exact sps_nil) (fun _ _ _ _ _ => by exact sv_bin op_addA ok_add (by exact so_v 3 rfl rfl rfl rfl) (by exact so_of (by exact sv_tup (by exact svs_cons (by exact sv_v 2 rfl rfl rfl rfl) (by exact svs_nil) rfl)))) (fun _ => rfl))))) rfl (.inl rfl)) (by exact ss_nil)) (fun _ => rfl)) (by exact ss_cons (by exact ss_ret (by exact sv_b1 (bi_sorted u100) rfl fr_sorted (by exact so_of (by exact g_lc false [3] [("some", 3)] (by decide) rfl nd (by exact si_seq (by exact sv_v 1 rfl rfl rfl rfl)) (by kernel_rfl) (fun _ _ _ _ _ => by exact sg_name (pg_name nd rfl (by first | exact .inl rfl | exact .inr rfl) (by first | exact .inr rfl | exact .inl rfl))) (fun _ _ _ _ _ => by exact sps_one (by exact sb_cmp (op_neA u64) ok_ne (by exact so_v 3 rfl rfl rfl rfl) (by exact so_of (by exact sv_tup (by exact svs_nil))) (nomark _))) (fun _ _ _ _ _ => by exact sv_v 3 rfl rfl rfl rfl) (fun _ => rfl))) rfl rfl)) (by exact ss_nil)))
theorem sc__law_faces : FnScope N__law_faces ps__law_faces (defScope (Hd.top 69)) := ⟨rfl, rfl, rfl, by decide +kernel, rfl, by decide +kernel, by decide +kernel⟩
theorem cal__law_faces (c : He.SaysD Hd.fa Hd.fn K) (X : K.In h) (G : h.Ns mainGlobals mg) : Cal P w K mg 3 "_law_faces" ps__law_faces N__law_faces [] m__law_faces := by
  obtain ⟨fd, D⟩ := c.def_ 50 (d := Hd.dd 69 "_law_faces") rfl
  have fr_int : mg "int" = none := He.free_ok X G (c.fact 64 (f := .free "int") rfl)
  have fr_range : mg "range" = none := He.free_ok X G (c.fact 70 (f := .free "range") rfl)
  have fr_tuple : mg "tuple" = none := He.free_ok X G (c.fact 75 (f := .free "tuple") rfl)
  have c__law_draw := (cal__law_draw (P := P) (w := w) c X G)
  have c__law_pick := (cal__law_pick (P := P) (w := w) c X G)
  refine cal_of (N := N__law_faces) (ps := ps__law_faces) (k := 2) D (He.glo_ok X G (c.fact 50 (f := .glo "_law_faces") rfl)) sc__law_faces (fun _ _ _ _ _ _ us hl => match us, hl with | [_, _], _ => rfl) (fun _ z => nomatch z) (fun base cdv A out s H room gd => ?_)
  · have nd : N__law_faces.Nodup := sc__law_faces.nd
    have u100 := room_u room
    have u64 := room_u64 room
    have u65 := room_u65 room
    exact ss_cons (by exact g_bind ([2] ++ ([3] ++ [])) (by exact sv_tup (by exact svs_cons (by exact sv_cP c__law_draw room (by first | decide | omega) gd rfl (nv 0 rfl rfl rfl rfl) (by exact svs_cons (by exact sv_int) (by exact svs_nil) rfl) rfl rfl rfl) (by exact svs_cons (by exact sv_cP c__law_pick room (by first | decide | omega) gd rfl (nv 0 rfl rfl rfl rfl) (by exact svs_cons (by exact sv_lst (by exact svs_cons (by exact sv_int) (by exact svs_cons (by exact sv_int) (by exact svs_cons (by exact sv_int) (by exact svs_nil) rfl) rfl) rfl)) (by exact svs_nil) rfl) rfl rfl rfl) (by exact svs_nil) rfl) rfl)) (by exact sg_tup rfl (by exact sgs_cons (by exact sg_name (pg_name nd rfl (by first | exact .inl rfl | exact .inr rfl) (.inl rfl))) (by exact sgs_cons (by exact sg_name (pg_name nd rfl (by first | exact .inl rfl | exact .inr rfl) (.inl rfl))) (by exact sgs_nil) rfl) rfl) rfl rfl) rfl rfl rfl) (by exact ss_cons (by exact ss_if (by exact sb_cmp (op_eqA u64) ok_eq (by exact so_v 2 rfl rfl rfl rfl) (by exact so_of (by exact sv_int)) (nomark _)) (by exact ss_cons (by exact g_setLcF false 4 [7] [("state", 7)] (by decide) rfl nd rfl rfl rfl (by exact si_rng1 rfl fr_range (by exact so_v 1 rfl rfl rfl rfl) rfl rfl) (by kernel_rfl) (fun _ _ _ _ _ => by exact sg_name (pg_name nd rfl (by first | exact .inl rfl | exact .inr rfl) (by first | exact .inr rfl | exact .inl rfl))) (fun _ _ _ _ _ => by exact sps_nil) (fun _ _ _ _ _ => by exact sv_bin op_sub ok_sub (by exact so_of (by exact sv_cP c__law_draw room (by first | decide | omega) gd rfl (nv 0 rfl rfl rfl rfl) (by exact svs_cons (by exact sv_int) (by exact svs_nil) rfl) rfl rfl rfl)) (by exact so_of (by exact sv_int))) (fun _ => rfl)) (by exact ss_cons (by exact ss_ret (by exact sv_t1 bt_tuple rfl fr_tuple (by exact so_of (by exact sv_bin op_mulA ok_mul (by exact so_of (by exact sv_lst (by exact svs_cons (by exact sv_t1 bt_tuple rfl fr_tuple (by exact so_v 4 rfl rfl rfl rfl) rfl rfl) (by exact svs_nil) rfl))) (by exact so_v 1 rfl rfl rfl rfl))) rfl rfl)) (by exact ss_nil))) (by exact ss_nil)) (by exact g_nest false 5 [6] [("own", 6)] (by decide) rfl nd rfl rfl rfl (by exact si_rng1 rfl fr_range (by exact so_v 1 rfl rfl rfl rfl) rfl rfl) (by kernel_rfl) (fun _ _ _ _ _ => by exact sg_name (pg_name nd rfl (by first | exact .inl rfl | exact .inr rfl) (by first | exact .inr rfl | exact .inl rfl))) (fun _ _ _ _ _ => g_lc false [7] [("state", 7)] (by decide) rfl nd (by exact si_rng1 rfl fr_range (by exact so_v 1 rfl rfl rfl rfl) rfl rfl) (by kernel_rfl) (fun _ _ _ _ _ => by exact sg_name (pg_name nd rfl (by first | exact .inl rfl | exact .inr rfl) (by first | exact .inr rfl | exact .inl rfl))) (fun _ _ _ _ _ => by exact sps_nil) (fun _ _ _ _ _ => by exact sv_bin op_sub ok_sub (by exact so_of (by exact sv_cP c__law_draw room (by first | decide | omega) gd rfl (nv 0 rfl rfl rfl rfl) (by exact svs_cons (by exact sv_bin op_addA ok_add (by exact so_of (by exact sv_bin op_mulA ok_mul (by exact so_of (by exact sv_int)) (by exact so_v 3 rfl rfl rfl rfl))) (by exact so_of (by exact sv_int))) (by exact svs_nil) rfl) rfl rfl rfl)) (by exact so_v 3 rfl rfl rfl rfl)) (fun _ => rfl)) (fun _ => rfl) (by exact ns_if (by exact sb_cmp (op_eqA u64) ok_eq (by exact so_v 2 rfl rfl rfl rfl) (by exact so_of (by exact sv_int)) (nomark _)) (by exact ns_cons (by exact ns_for false [6] (by decide) PassesOwn.never rfl (by exact si_rng1 rfl fr_range (by exact so_v 1 rfl rfl rfl rfl) rfl rfl) (by exact sg_name (pg_name nd rfl (by first | exact .inl rfl | exact .inr rfl) (.inl rfl))) (by exact ns_cons (by exact ns_set (nv 5 rfl rfl rfl rfl) (by exact sv_bin op_addA ok_add (by exact so_v 3 rfl rfl rfl rfl) (by exact so_of (by exact sv_int))) (by exact so_v 6 rfl rfl rfl rfl) (by exact so_v 6 rfl rfl rfl rfl) (fun _ _ => rfl) rfl rfl rfl (fun _ => rfl)) (by exact ns_cons (by exact ns_set (nv 5 rfl rfl rfl rfl) (by exact sv_bin op_addA ok_add (by exact so_of (by exact sv_bin op_addA ok_add (by exact so_v 3 rfl rfl rfl rfl) (by exact so_of (by exact sv_int)))) (by exact so_of (by exact sv_cP c__law_draw room (by first | decide | omega) gd rfl (nv 0 rfl rfl rfl rfl) (by exact svs_cons (by exact sv_int) (by exact svs_nil) rfl) rfl rfl rfl))) (by exact so_v 6 rfl rfl rfl rfl) (by exact so_of (by exact sv_bin op_modN ok_mod (by exact so_of (by exact sv_t1 bt_int rfl fr_int (by exact so_of (by exact sv_bin op_addA ok_add (by exact so_v 6 rfl rfl rfl rfl) (by exact so_of (by exact sv_int)))) rfl rfl)) (by exact so_v 1 rfl rfl rfl rfl))) (fun _ _ => rfl) rfl rfl rfl (fun _ => rfl)) (by exact ns_nil))) (fun _ => rfl)) (by exact ns_nil)) (by exact ns_nil)) (by exact ss_cons (by exact ss_ret (by exact sv_t1 bt_tuple rfl fr_tuple (by exact so_of (by exact g_lc false [4] [("row", 4)] (by decide) rfl nd (by exact si_seq (by exact sv_v 5 rfl rfl rfl rfl)) (by kernel_rfl) (fun _ _ _ _ _ => by exact sg_name (pg_name nd rfl (by first | exact .inl rfl | exact .inr rfl) (by first | exact .inr rfl | exact .inl rfl))) (fun _ _ _ _ _ => by exact sps_nil) (fun _ _ _ _ _ => by exact sv_t1 bt_tuple rfl fr_tuple (by exact so_v 4 rfl rfl rfl rfl) rfl rfl) (fun _ => rfl))) rfl rfl)) (by exact ss_nil))))
theorem sc__law_messages : FnScope N__law_messages ps__law_messages (defScope (Hd.top 70)) := ⟨rfl, rfl, rfl, by decide +kernel, rfl, by decide +kernel, by decide +kernel⟩
theorem cal__law_messages (c : He.SaysD Hd.fa Hd.fn K) (X : K.In h) (G : h.Ns mainGlobals mg) : Cal P w K mg 3 "_law_messages" ps__law_messages N__law_messages [] m__law_messages := by
  obtain ⟨fd, D⟩ := c.def_ 51 (d := Hd.dd 70 "_law_messages") rfl
  have fr_any : mg "any" = none := He.free_ok X G (c.fact 61 (f := .free "any") rfl)
  have fr_range : mg "range" = none := He.free_ok X G (c.fact 70 (f := .free "range") rfl)
  have fr_sorted : mg "sorted" = none := He.free_ok X G (c.fact 72 (f := .free "sorted") rfl)
  have fr_tuple : mg "tuple" = none := He.free_ok X G (c.fact 75 (f := .free "tuple") rfl)
  have c__law_draw := (cal__law_draw (P := P) (w := w) c X G)
  have c__law_pick := (cal__law_pick (P := P) (w := w) c X G)
  have c__law_sets := (cal__law_sets (P := P) (w := w) c X G)
  refine cal_of (N := N__law_messages) (ps := ps__law_messages) (k := 2) D (He.glo_ok X G (c.fact 51 (f := .glo "_law_messages") rfl)) sc__law_messages (fun _ _ _ _ _ _ us hl => match us, hl with | [_, _], _ => rfl) (fun _ z => nomatch z) (fun base cdv A out s H room gd => ?_)
  · have nd : N__law_messages.Nodup := sc__law_messages.nd
    have u100 := room_u room
    have u64 := room_u64 room
    have u65 := room_u65 room
    exact ss_cons (by exact g_setLc false 2 [4] [("some", 4)] (by decide) rfl nd rfl rfl rfl (by exact si_seq (by exact sv_c c__law_sets room (by first | decide | omega) gd rfl (by exact svs_cons (by exact sv_v 1 rfl rfl rfl rfl) (by exact svs_nil) rfl) rfl rfl rfl)) (by kernel_rfl) (fun _ _ _ _ _ => by exact sg_name (pg_name nd rfl (by first | exact .inl rfl | exact .inr rfl) (by first | exact .inr rfl | exact .inl rfl))) (fun _ _ _ _ _ => by exact sps_one (by exact sb_cmp (op_eqA u64) ok_eq (by exact so_of (by exact sv_cP c__law_draw room (by first | decide | omega) gd rfl (nv 0 rfl rfl rfl rfl) (by exact svs_cons (by exact sv_int) (by exact svs_nil) rfl) rfl rfl rfl)) (by exact so_of (by exact sv_int)) (nomark _))) (fun _ _ _ _ _ => by exact sv_v 4 rfl rfl rfl rfl) (fun _ => rfl)) (by exact ss_cons (by exact g_for false [3] PassesOwn.never rfl (by exact si_rng1 rfl fr_range (by exact so_v 1 rfl rfl rfl rfl) rfl rfl) (by exact sg_name (pg_name nd rfl (by first | exact .inl rfl | exact .inr rfl) (.inl rfl))) (by exact ss_cons (by exact ss_if (by exact sb_not (by exact sb_val (by exact sv_b1 (bi_any rfl) rfl fr_any (by exact so_of (by exact g_lcK 2 [4] [("some", 4)] (by decide) rfl nd (nv 2 rfl rfl rfl rfl) (by kernel_rfl) (fun _ _ _ _ _ => by exact sg_name (pg_name nd rfl (by first | exact .inl rfl | exact .inr rfl) (by first | exact .inr rfl | exact .inl rfl))) (fun _ _ _ _ _ => by exact sps_nil) (fun _ _ _ _ _ => by exact sv_cmp (op_inA u65) ok_in (by exact so_v 3 rfl rfl rfl rfl) (by exact so_v 4 rfl rfl rfl rfl) rfl) (fun _ => rfl))) rfl rfl) (fun _ => rfl))) (by exact ss_cons (by exact g_app 2 (nv 2 rfl rfl rfl rfl) (by exact sv_cP c__law_pick room (by first | decide | omega) gd rfl (nv 0 rfl rfl rfl rfl) (by exact svs_cons (by exact g_lc false [4] [("some", 4)] (by decide) rfl nd (by exact si_seq (by exact sv_c c__law_sets room (by first | decide | omega) gd rfl (by exact svs_cons (by exact sv_v 1 rfl rfl rfl rfl) (by exact svs_nil) rfl) rfl rfl rfl)) (by kernel_rfl) (fun _ _ _ _ _ => by exact sg_name (pg_name nd rfl (by first | exact .inl rfl | exact .inr rfl) (by first | exact .inr rfl | exact .inl rfl))) (fun _ _ _ _ _ => by exact sps_one (by exact sb_cmp (op_inA u65) ok_in (by exact so_v 3 rfl rfl rfl rfl) (by exact so_v 4 rfl rfl rfl rfl) rfl)) (fun _ _ _ _ _ => by exact sv_v 4 rfl rfl rfl rfl) (fun _ => rfl)) (by exact svs_nil) rfl) rfl rfl rfl) ⟨rfl, rfl, rfl, rfl, rfl⟩ rfl) (by exact ss_nil)) (by exact ss_nil)) (by exact ss_nil)) (fun _ => rfl)) (by exact ss_cons (by exact ss_ret (by exact sv_t1 bt_tuple rfl fr_tuple (by exact so_of (by exact sv_b1 (bi_sorted u100) rfl fr_sorted (by exact so_v 2 rfl rfl rfl rfl) rfl rfl)) rfl rfl)) (by exact ss_nil)))
theorem sc__law_envies : FnScope N__law_envies ps__law_envies (defScope (Hd.top 71)) := ⟨rfl, rfl, rfl, by decide +kernel, rfl, by decide +kernel, by decide +kernel⟩
theorem cal__law_envies (c : He.SaysD Hd.fa Hd.fn K) (X : K.In h) (G : h.Ns mainGlobals mg) : Cal P w K mg 1 "_law_envies" ps__law_envies N__law_envies [] m__law_envies := by
  obtain ⟨fd, D⟩ := c.def_ 52 (d := Hd.dd 71 "_law_envies") rfl
  refine cal_of (N := N__law_envies) (ps := ps__law_envies) (k := 0) D (He.glo_ok X G (c.fact 52 (f := .glo "_law_envies") rfl)) sc__law_envies (fun _ _ _ _ _ _ us hl => match us, hl with | [_, _, _], _ => rfl) (fun _ z => nomatch z) (fun base cdv A out s H room gd => ?_)
  · have nd : N__law_envies.Nodup := sc__law_envies.nd
    have u100 := room_u room
    have u64 := room_u64 room
    have u65 := room_u65 room
    exact ss_cons (by exact ss_ret (by exact sv_cmp op_gt ok_gt (by exact so_of (by exact sv_idx (by exact so_of (by exact sv_idx (by exact so_v 0 rfl rfl rfl rfl) (by exact so_v 1 rfl rfl rfl rfl) (fun _ _ => rfl))) (by exact so_v 2 rfl rfl rfl rfl) (fun _ _ => rfl))) (by exact so_of (by exact sv_idx (by exact so_of (by exact sv_idx (by exact so_v 0 rfl rfl rfl rfl) (by exact so_v 1 rfl rfl rfl rfl) (fun _ _ => rfl))) (by exact so_v 1 rfl rfl rfl rfl) (fun _ _ => rfl))) (nomark _))) (by exact ss_nil)
theorem sc__law_rings : FnScope N__law_rings ps__law_rings (defScope (Hd.top 72)) := ⟨rfl, rfl, rfl, by decide +kernel, rfl, by decide +kernel, by decide +kernel⟩
theorem cal__law_rings (c : He.SaysD Hd.fa Hd.fn K) (X : K.In h) (G : h.Ns mainGlobals mg) : Cal P w K mg 2 "_law_rings" ps__law_rings N__law_rings [] m__law_rings := by
  obtain ⟨fd, D⟩ := c.def_ 53 (d := Hd.dd 72 "_law_rings") rfl
  have fr_len : mg "len" = none := He.free_ok X G (c.fact 66 (f := .free "len") rfl)
  have fr_range : mg "range" = none := He.free_ok X G (c.fact 70 (f := .free "range") rfl)
  have c__law_envies := (cal__law_envies (P := P) (w := w) c X G)
  refine cal_of (N := N__law_rings) (ps := ps__law_rings) (k := 1) D (He.glo_ok X G (c.fact 53 (f := .glo "_law_rings") rfl)) sc__law_rings (fun _ _ _ _ _ _ us hl => match us, hl with | [_], _ => rfl) (fun _ z => nomatch z) (fun base cdv A out s H room gd => ?_)
  · have nd : N__law_rings.Nodup := sc__law_rings.nd
    have u100 := room_u room
    have u64 := room_u64 room
    have u65 := room_u65 room
    exact ss_cons (by exact g_par 1 2 rfl nd rfl rfl (by decide) rfl rfl (by exact sv_lst (by exact svs_nil)) (by exact sv_frz (by exact g_lc false [6] [("state", 6)] (by decide) rfl nd (by exact si_rng1 rfl fr_range (by exact so_of (by exact sv_b1 bi_len rfl fr_len (by exact so_v 0 rfl rfl rfl rfl) rfl rfl)) rfl rfl) (by kernel_rfl) (fun _ _ _ _ _ => by exact sg_name (pg_name nd rfl (by first | exact .inl rfl | exact .inr rfl) (by first | exact .inr rfl | exact .inl rfl))) (fun _ _ _ _ _ => by exact sps_nil) (fun _ _ _ _ _ => by exact sv_tup (by exact svs_cons (by exact sv_v 6 rfl rfl rfl rfl) (by exact svs_nil) rfl)) (fun _ => rfl))) rfl rfl rfl rfl) (by exact ss_cons (by exact g_for false [3] PassesOwn.never rfl (by exact si_rng1 rfl fr_range (by exact so_of (by exact sv_bin op_sub ok_sub (by exact so_of (by exact sv_b1 bi_len rfl fr_len (by exact so_v 0 rfl rfl rfl rfl) rfl rfl)) (by exact so_of (by exact sv_int)))) rfl rfl) (by exact sg_name (pg_name nd rfl (by first | exact .inl rfl | exact .inr rfl) (.inl rfl))) (by exact ss_cons (by exact g_set 4 nd rfl (by first | exact .inl rfl | exact .inr rfl) (by exact sv_lst (by exact svs_nil)) rfl (.inl rfl)) (by exact ss_cons (by exact g_for false [5] PassesOwn.never rfl (by exact si_seq (by exact sv_v 2 rfl rfl rfl rfl)) (by exact sg_name (pg_name nd rfl (by first | exact .inl rfl | exact .inr rfl) (.inl rfl))) (by exact ss_cons (by exact g_ext 4 (nv 4 rfl rfl rfl rfl) (by exact g_lc false [6] [("state", 6)] (by decide) rfl nd (by exact si_rng2 rfl fr_range (by exact so_of (by exact sv_bin op_addA ok_add (by exact so_of (by exact sv_idx (by exact so_v 5 rfl rfl rfl rfl) (by exact so_of (by exact sv_int)) (fun _ _ => rfl))) (by exact so_of (by exact sv_int)))) (by exact so_of (by exact sv_b1 bi_len rfl fr_len (by exact so_v 0 rfl rfl rfl rfl) rfl rfl)) rfl rfl rfl rfl) (by kernel_rfl) (fun _ _ _ _ _ => by exact sg_name (pg_name nd rfl (by first | exact .inl rfl | exact .inr rfl) (by first | exact .inr rfl | exact .inl rfl))) (fun _ _ _ _ _ => by exact sps_one (by exact g_pt (by exact sw_and (by exact sb_cmp (op_notInA u65) ok_notin (by exact so_v 6 rfl rfl rfl rfl) (by exact so_v 5 rfl rfl rfl rfl) rfl) (by exact pw_and1 (by exact sb_val (by exact sv_c c__law_envies room (by first | decide | omega) gd rfl (by exact svs_cons (by exact sv_v 0 rfl rfl rfl rfl) (by exact svs_cons (by exact sv_idx (by exact so_v 5 rfl rfl rfl rfl) (by exact so_of (by exact sv_neg (by exact so_of (by exact sv_int)))) (fun _ _ => rfl)) (by exact svs_cons (by exact sv_v 6 rfl rfl rfl rfl) (by exact svs_nil) rfl) rfl) rfl) rfl rfl rfl) (fun _ => rfl)))))) (fun _ _ _ _ _ => by exact sv_bin op_addA ok_add (by exact so_v 5 rfl rfl rfl rfl) (by exact so_of (by exact sv_tup (by exact svs_cons (by exact sv_v 6 rfl rfl rfl rfl) (by exact svs_nil) rfl)))) (fun _ => rfl)) ⟨rfl, rfl, rfl, rfl, rfl⟩ rfl) (by exact ss_nil)) (fun _ => rfl)) (by exact ss_cons (by exact g_ext 1 (nv 1 rfl rfl rfl rfl) (by exact g_lcK 4 [5] [("some", 5)] (by decide) rfl nd (nv 4 rfl rfl rfl rfl) (by kernel_rfl) (fun _ _ _ _ _ => by exact sg_name (pg_name nd rfl (by first | exact .inl rfl | exact .inr rfl) (by first | exact .inr rfl | exact .inl rfl))) (fun _ _ _ _ _ => by exact sps_one (by exact sb_val (by exact sv_c c__law_envies room (by first | decide | omega) gd rfl (by exact svs_cons (by exact sv_v 0 rfl rfl rfl rfl) (by exact svs_cons (by exact sv_idx (by exact so_v 5 rfl rfl rfl rfl) (by exact so_of (by exact sv_neg (by exact so_of (by exact sv_int)))) (fun _ _ => rfl)) (by exact svs_cons (by exact sv_idx (by exact so_v 5 rfl rfl rfl rfl) (by exact so_of (by exact sv_int)) (fun _ _ => rfl)) (by exact svs_nil) rfl) rfl) rfl) rfl rfl rfl) (fun _ => rfl))) (fun _ _ _ _ _ => by exact sv_v 5 rfl rfl rfl rfl) (fun _ => rfl)) ⟨rfl, rfl, rfl, rfl, rfl⟩ rfl) (by exact ss_cons (by exact g_set 2 nd rfl (by first | exact .inl rfl | exact .inr rfl) (by exact sv_v 4 rfl rfl rfl rfl) rfl (.inl rfl)) (by exact ss_nil))))) (fun _ => rfl)) (by exact ss_cons (by exact ss_retv (nv 1 rfl rfl rfl rfl)) (by exact ss_nil)))
theorem sc__law_gains : FnScope N__law_gains ps__law_gains (defScope (Hd.top 73)) := ⟨rfl, rfl, rfl, by decide +kernel, rfl, by decide +kernel, by decide +kernel⟩
theorem cal__law_gains (c : He.SaysD Hd.fa Hd.fn K) (X : K.In h) (G : h.Ns mainGlobals mg) : Cal P w K mg 1 "_law_gains" ps__law_gains N__law_gains [] m__law_gains := by
  obtain ⟨fd, D⟩ := c.def_ 54 (d := Hd.dd 73 "_law_gains") rfl
  have fr_enumerate : mg "enumerate" = none := He.free_ok X G (c.fact 63 (f := .free "enumerate") rfl)
  have fr_sorted : mg "sorted" = none := He.free_ok X G (c.fact 72 (f := .free "sorted") rfl)
  refine cal_of (N := N__law_gains) (ps := ps__law_gains) (k := 0) D (He.glo_ok X G (c.fact 54 (f := .glo "_law_gains") rfl)) sc__law_gains (fun _ _ _ _ _ _ us hl => match us, hl with | [_, _, _], _ => rfl) (fun _ z => nomatch z) (fun base cdv A out s H room gd => ?_)
  · have nd : N__law_gains.Nodup := sc__law_gains.nd
    have u100 := room_u room
    have u64 := room_u64 room
    have u65 := room_u65 room
    exact ss_cons (by exact g_set 3 nd rfl (by first | exact .inl rfl | exact .inr rfl) (by exact sv_lst (by exact svs_nil)) rfl (.inl rfl)) (by exact ss_cons (by exact g_for true ([4] ++ ([5] ++ [])) PassesOwn.never rfl (by exact si_enm rfl fr_enumerate (by exact sv_idx (by exact so_v 2 rfl rfl rfl rfl) (by exact so_of (by exact sv_int)) (fun _ _ => rfl)) rfl rfl) (by exact sg_tup rfl (by exact sgs_cons (by exact sg_name (pg_name nd rfl (by first | exact .inl rfl | exact .inr rfl) (.inl rfl))) (by exact sgs_cons (by exact sg_name (pg_name nd rfl (by first | exact .inl rfl | exact .inr rfl) (.inl rfl))) (by exact sgs_nil) rfl) rfl) rfl rfl) (by exact ss_cons (by exact g_set 6 nd rfl (by first | exact .inl rfl | exact .inr rfl) (by exact sv_idx (by exact so_of (by exact sv_idx (by exact so_v 0 rfl rfl rfl rfl) (by exact so_v 4 rfl rfl rfl rfl) (fun _ _ => rfl))) (by exact so_of (by exact sv_idx (by exact so_of (by exact sv_idx (by exact so_v 2 rfl rfl rfl rfl) (by exact so_of (by exact sv_int)) (fun _ _ => rfl))) (by exact so_v 5 rfl rfl rfl rfl) (fun _ _ => rfl))) (fun _ _ => rfl)) rfl (.inl rfl)) (by exact ss_cons (by exact g_ext 3 (nv 3 rfl rfl rfl rfl) (by exact g_lc true ([7] ++ ([8] ++ [])) [("spot", 7), ("some", 8)] (by decide) rfl nd (by exact si_enm rfl fr_enumerate (by exact sv_v 1 rfl rfl rfl rfl) rfl rfl) (by kernel_rfl) (fun _ _ _ _ _ => by exact sg_tup rfl (by exact sgs_cons (by exact sg_name (pg_name nd rfl (by first | exact .inl rfl | exact .inr rfl) (by first | exact .inr rfl | exact .inl rfl))) (by exact sgs_cons (by exact sg_name (pg_name nd rfl (by first | exact .inl rfl | exact .inr rfl) (by first | exact .inr rfl | exact .inl rfl))) (by exact sgs_nil) rfl) rfl) rfl rfl) (fun _ _ _ _ _ => by exact sps_one (by exact g_pt (by exact sw_and (by exact sb_cmp (op_inA u65) ok_in (by exact so_v 4 rfl rfl rfl rfl) (by exact so_v 8 rfl rfl rfl rfl) rfl) (by exact pw_and1 (by exact sb_cmp op_gt ok_gt (by exact so_of (by exact sv_idx (by exact so_of (by exact sv_idx (by exact so_v 0 rfl rfl rfl rfl) (by exact so_v 4 rfl rfl rfl rfl) (fun _ _ => rfl))) (by exact so_of (by exact sv_idx (by exact so_of (by exact sv_idx (by exact so_v 2 rfl rfl rfl rfl) (by exact so_of (by exact sv_int)) (fun _ _ => rfl))) (by exact so_v 7 rfl rfl rfl rfl) (fun _ _ => rfl))) (fun _ _ => rfl))) (by exact so_v 6 rfl rfl rfl rfl) (nomark _)))))) (fun _ _ _ _ _ => by exact sv_tup (by exact svs_cons (by exact sv_v 4 rfl rfl rfl rfl) (by exact svs_cons (by exact sv_v 7 rfl rfl rfl rfl) (by exact svs_nil) rfl) rfl)) (fun _ => rfl)) ⟨rfl, rfl, rfl, rfl, rfl⟩ rfl) (by exact ss_nil))) (fun _ => rfl)) (by exact ss_cons (by exact ss_ret (by exact sv_b1 (bi_sorted u100) rfl fr_sorted (by exact so_v 3 rfl rfl rfl rfl) rfl rfl)) (by exact ss_nil)))
theorem sc__law_right : FnScope N__law_right ps__law_right (defScope (Hd.top 74)) := ⟨rfl, rfl, rfl, by decide +kernel, rfl, by decide +kernel, by decide +kernel⟩
theorem cal__law_right (c : He.SaysD Hd.fa Hd.fn K) (X : K.In h) (G : h.Ns mainGlobals mg) : Cal P w K mg 7 "_law_right" ps__law_right N__law_right [] m__law_right := by
  obtain ⟨fd, D⟩ := c.def_ 55 (d := Hd.dd 74 "_law_right") rfl
  have fr_any : mg "any" = none := He.free_ok X G (c.fact 61 (f := .free "any") rfl)
  have fr_enumerate : mg "enumerate" = none := He.free_ok X G (c.fact 63 (f := .free "enumerate") rfl)
  have fr_len : mg "len" = none := He.free_ok X G (c.fact 66 (f := .free "len") rfl)
  have fr_min : mg "min" = none := He.free_ok X G (c.fact 69 (f := .free "min") rfl)
  have fr_range : mg "range" = none := He.free_ok X G (c.fact 70 (f := .free "range") rfl)
  have fr_repr : mg "repr" = none := He.free_ok X G (c.fact 71 (f := .free "repr") rfl)
  have fr_tuple : mg "tuple" = none := He.free_ok X G (c.fact 75 (f := .free "tuple") rfl)
  have c_full_messages := (cal_full_messages (P := P) (w := w) c X G)
  have c_envies := (cal_envies (P := P) (w := w) c X G)
  have c_envy_ring := (cal_envy_ring (P := P) (w := w) c X G)
  have c_fit := (cal_fit (P := P) (w := w) c X G)
  have c_gains := (cal_gains (P := P) (w := w) c X G)
  have c__law_pick := (cal__law_pick (P := P) (w := w) c X G)
  have c__law_sets := (cal__law_sets (P := P) (w := w) c X G)
  have c__law_envies := (cal__law_envies (P := P) (w := w) c X G)
  have c__law_rings := (cal__law_rings (P := P) (w := w) c X G)
  have c__law_gains := (cal__law_gains (P := P) (w := w) c X G)
  refine cal_of (N := N__law_right) (ps := ps__law_right) (k := 6) D (He.glo_ok X G (c.fact 55 (f := .glo "_law_right") rfl)) sc__law_right (fun _ _ _ _ _ _ us hl => match us, hl with | [_, _, _], _ => rfl) (fun _ z => nomatch z) (fun base cdv A out s H room gd => ?_)
  · have nd : N__law_right.Nodup := sc__law_right.nd
    have u100 := room_u room
    have u64 := room_u64 room
    have u65 := room_u65 room
    exact ss_cons (by exact g_par 3 4 rfl nd rfl rfl (by decide) rfl rfl (by exact sv_b1 bi_len rfl fr_len (by exact so_v 1 rfl rfl rfl rfl) rfl rfl) (by exact sv_b1 (bi_repr gd u100) rfl fr_repr (by exact so_of (by exact sv_lst (by exact svs_cons (by exact sv_v 1 rfl rfl rfl rfl) (by exact svs_cons (by exact sv_v 2 rfl rfl rfl rfl) (by exact svs_nil) rfl) rfl))) rfl rfl) rfl rfl rfl rfl) (by exact ss_cons (by exact g_par 5 6 rfl nd rfl rfl (by decide) rfl rfl (by exact sv_lst (by exact svs_nil)) (by exact sv_frz (by exact sv_c c__law_rings room (by first | decide | omega) gd rfl (by exact svs_cons (by exact sv_v 1 rfl rfl rfl rfl) (by exact svs_nil) rfl) rfl rfl rfl)) rfl rfl rfl rfl) (by exact ss_cons (by exact g_for false [7] PassesOwn.never rfl (by exact si_rng1 rfl fr_range (by exact so_v 3 rfl rfl rfl rfl) rfl rfl) (by exact sg_name (pg_name nd rfl (by first | exact .inl rfl | exact .inr rfl) (.inl rfl))) (by exact ss_cons (by exact g_ext 5 (nv 5 rfl rfl rfl rfl) (by exact g_lc false [16] [("other", 16)] (by decide) rfl nd (by exact si_rng1 rfl fr_range (by exact so_v 3 rfl rfl rfl rfl) rfl rfl) (by kernel_rfl) (fun _ _ _ _ _ => by exact sg_name (pg_name nd rfl (by first | exact .inl rfl | exact .inr rfl) (by first | exact .inr rfl | exact .inl rfl))) (fun _ _ _ _ _ => by exact sps_one (by exact sb_val (by exact sv_c c__law_envies room (by first | decide | omega) gd rfl (by exact svs_cons (by exact sv_v 1 rfl rfl rfl rfl) (by exact svs_cons (by exact sv_v 7 rfl rfl rfl rfl) (by exact svs_cons (by exact sv_v 16 rfl rfl rfl rfl) (by exact svs_nil) rfl) rfl) rfl) rfl rfl rfl) (fun _ => rfl))) (fun _ _ _ _ _ => by exact sv_tup (by exact svs_cons (by exact sv_v 7 rfl rfl rfl rfl) (by exact svs_cons (by exact sv_v 16 rfl rfl rfl rfl) (by exact svs_nil) rfl) rfl)) (fun _ => rfl)) ⟨rfl, rfl, rfl, rfl, rfl⟩ rfl) (by exact ss_nil)) (fun _ => rfl)) (by exact ss_cons (by exact g_set 8 nd rfl (by first | exact .inl rfl | exact .inr rfl) (by exact sv_frz (by exact sv_ite (by exact sb_cmp (op_neA u64) ok_ne (by exact so_v 6 rfl rfl rfl rfl) (by exact so_of (by exact sv_lst (by exact svs_nil))) (nomark _)) (by exact sv_idx (by exact so_of (by exact sv_b1 (bi_min rfl u100) rfl fr_min (by exact so_of (by exact g_lc false [11] [("some", 11)] (by decide) rfl nd (by exact si_seq (by exact sv_v 6 rfl rfl rfl rfl)) (by kernel_rfl) (fun _ _ _ _ _ => by exact sg_name (pg_name nd rfl (by first | exact .inl rfl | exact .inr rfl) (by first | exact .inr rfl | exact .inl rfl))) (fun _ _ _ _ _ => by exact sps_nil) (fun _ _ _ _ _ => by exact sv_tup (by exact svs_cons (by exact sv_b1 bi_len rfl fr_len (by exact so_v 11 rfl rfl rfl rfl) rfl rfl) (by exact svs_cons (by exact sv_v 11 rfl rfl rfl rfl) (by exact svs_nil) rfl) rfl)) (fun _ => rfl))) rfl rfl)) (by exact so_of (by exact sv_int)) (fun _ _ => rfl)) (by exact sv_non))) rfl (.inl rfl)) (by exact g_frzAt 5 (by exact g_spoil (ma := thenM (retM (pure ⟨.bool false, false⟩)) (pure .nx)) 9 0 nd rfl (by first | exact .inl rfl | exact .inr rfl) (.inl rfl) rfl (by exact sv_c c_envies room (by first | decide | omega) gd rfl (by exact svs_cons (by exact sv_v 1 rfl rfl rfl rfl) (by exact svs_nil) rfl) rfl rfl rfl) (by exact svs_cons (by exact sv_c c_envy_ring room (by first | decide | omega) gd rfl (by exact svs_cons (by exact sv_v 1 rfl rfl rfl rfl) (by exact svs_nil) rfl) rfl rfl rfl) (by exact svs_cons (by exact sv_c c_full_messages room (by first | decide | omega) gd rfl (by exact svs_cons (by exact sv_v 1 rfl rfl rfl rfl) (by exact svs_nil) rfl) rfl rfl rfl) (by exact svs_nil) rfl) rfl) rfl (by exact sb_cmp (op_neA u64) ok_ne (by exact so_of (by exact sv_b1 (bi_repr gd u100) rfl fr_repr (by exact so_v 9 rfl rfl rfl rfl) rfl rfl)) (by exact so_of (by exact sv_b1 (bi_repr gd u100) rfl fr_repr (by exact so_of (by exact sv_lst (by exact svs_cons (by exact sv_v 5 rfl rfl rfl rfl) (by exact svs_cons (by exact sv_v 8 rfl rfl rfl rfl) (by exact svs_cons (by exact sv_t1 bt_tuple rfl fr_tuple (by exact so_of (by exact sv_c c__law_sets room (by first | decide | omega) gd rfl (by exact svs_cons (by exact sv_v 3 rfl rfl rfl rfl) (by exact svs_nil) rfl) rfl rfl rfl)) rfl rfl) (by exact svs_nil) rfl) rfl) rfl))) rfl rfl)) (nomark _)) (by exact ss_cons (by exact ss_ret (by exact sv_bl)) (by exact ss_nil)) (nv 9 rfl rfl rfl rfl) pe_int (fun _ _ => rfl) pe_non ⟨rfl, rfl, rfl, rfl, rfl⟩ rfl (by exact ss_cons (by exact ss_if (by exact sb_cmp (op_neA u64) ok_ne (by exact so_of (by exact sv_b1 (bi_repr gd u100) rfl fr_repr (by exact so_of (by exact sv_lst (by exact svs_cons (by exact sv_cK ["faces"] [0] c_envies (by decide) room (by decide) gd rfl (by exact sk_cons (by exact sv_v 1 rfl rfl rfl rfl) (by exact sk_nil)) rfl rfl rfl rfl) (by exact svs_cons (by exact sv_cK ["faces"] [0] c_envy_ring (by decide) room (by decide) gd rfl (by exact sk_cons (by exact sv_v 1 rfl rfl rfl rfl) (by exact sk_nil)) rfl rfl rfl rfl) (by exact svs_cons (by exact sv_cK ["faces"] [0] c_full_messages (by decide) room (by decide) gd rfl (by exact sk_cons (by exact sv_v 1 rfl rfl rfl rfl) (by exact sk_nil)) rfl rfl rfl rfl) (by exact svs_nil) rfl) rfl) rfl))) rfl rfl)) (by exact so_of (by exact sv_b1 (bi_repr gd u100) rfl fr_repr (by exact so_of (by exact sv_lst (by exact svs_cons (by exact sv_v 5 rfl rfl rfl rfl) (by exact svs_cons (by exact sv_v 8 rfl rfl rfl rfl) (by exact svs_cons (by exact sv_t1 bt_tuple rfl fr_tuple (by exact so_of (by exact sv_c c__law_sets room (by first | decide | omega) gd rfl (by exact svs_cons (by exact sv_v 3 rfl rfl rfl rfl) (by exact svs_nil) rfl) rfl rfl rfl)) rfl rfl) (by exact svs_nil) rfl) rfl) rfl))) rfl rfl)) (nomark _)) (by exact ss_cons (by exact ss_ret (by exact sv_bl)) (by exact ss_nil)) (by exact ss_nil)) (by exact ss_cons (by exact g_for true ([10] ++ ([11] ++ [])) PassesOwn.never rfl (by exact si_enm rfl fr_enumerate (by exact sv_v 2 rfl rfl rfl rfl) rfl rfl) (by exact sg_tup rfl (by exact sgs_cons (by exact sg_name (pg_name nd rfl (by first | exact .inl rfl | exact .inr rfl) (.inl rfl))) (by exact sgs_cons (by exact sg_name (pg_name nd rfl (by first | exact .inl rfl | exact .inr rfl) (.inl rfl))) (by exact sgs_nil) rfl) rfl) rfl rfl) (by exact ss_cons (by exact g_set 12 nd rfl (by first | exact .inl rfl | exact .inr rfl) (by exact sv_t1 bt_tuple rfl fr_tuple (by exact so_of (by exact g_lc false [17] [("state", 17)] (by decide) rfl nd (by exact si_seq (by exact sv_v 11 rfl rfl rfl rfl)) (by kernel_rfl) (fun _ _ _ _ _ => by exact sg_name (pg_name nd rfl (by first | exact .inl rfl | exact .inr rfl) (by first | exact .inr rfl | exact .inl rfl))) (fun _ _ _ _ _ => by exact sps_one (by exact sb_not (by exact sb_val (by exact sv_b1 (bi_any rfl) rfl fr_any (by exact so_of (by exact g_lc false [16] [("other", 16)] (by decide) rfl nd (by exact si_seq (by exact sv_v 11 rfl rfl rfl rfl)) (by kernel_rfl) (fun _ _ _ _ _ => by exact sg_name (pg_name nd rfl (by first | exact .inl rfl | exact .inr rfl) (by first | exact .inr rfl | exact .inl rfl))) (fun _ _ _ _ _ => by exact sps_nil) (fun _ _ _ _ _ => by exact sv_c c__law_envies room (by first | decide | omega) gd rfl (by exact svs_cons (by exact sv_v 1 rfl rfl rfl rfl) (by exact svs_cons (by exact sv_v 16 rfl rfl rfl rfl) (by exact svs_cons (by exact sv_v 17 rfl rfl rfl rfl) (by exact svs_nil) rfl) rfl) rfl) rfl rfl rfl) (fun _ => rfl))) rfl rfl) (fun _ => rfl)))) (fun _ _ _ _ _ => by exact sv_v 17 rfl rfl rfl rfl) (fun _ => rfl))) rfl rfl) rfl (.inl rfl)) (by exact ss_cons (by exact ss_if (by exact sb_cmp (op_neA u64) ok_ne (by exact so_of (by exact sv_b1 (bi_repr gd u100) rfl fr_repr (by exact so_of (by exact sv_lst (by exact svs_cons (by exact sv_c c_fit room (by first | decide | omega) gd rfl (by exact svs_cons (by exact sv_v 1 rfl rfl rfl rfl) (by exact svs_cons (by exact sv_v 2 rfl rfl rfl rfl) (by exact svs_cons (by exact sv_v 10 rfl rfl rfl rfl) (by exact svs_nil) rfl) rfl) rfl) rfl rfl rfl) (by exact svs_cons (by exact sv_cK ["at", "messages", "faces"] [2, 1, 0] c_fit (by decide) room (by decide) gd rfl (by exact sk_cons (by exact sv_v 10 rfl rfl rfl rfl) (by exact sk_cons (by exact sv_v 2 rfl rfl rfl rfl) (by exact sk_cons (by exact sv_v 1 rfl rfl rfl rfl) (by exact sk_nil)))) rfl rfl rfl rfl) (by exact svs_nil) rfl) rfl))) rfl rfl)) (by exact so_of (by exact sv_b1 (bi_repr gd u100) rfl fr_repr (by exact so_of (by exact sv_lst (by exact svs_cons (by exact sv_v 12 rfl rfl rfl rfl) (by exact svs_cons (by exact sv_v 12 rfl rfl rfl rfl) (by exact svs_nil) rfl) rfl))) rfl rfl)) (nomark _)) (by exact ss_cons (by exact ss_ret (by exact sv_bl)) (by exact ss_nil)) (by exact ss_nil)) (by exact ss_nil))) (fun _ => rfl)) (by exact ss_cons (by exact g_for false [13] PassesOwn.never rfl (by exact si_rng1 rfl fr_range (by exact so_of (by exact sv_int)) rfl rfl) (by exact sg_name (pg_name nd rfl (by first | exact .inl rfl | exact .inr rfl) (.inl rfl))) (by exact ss_cons (by exact g_set 14 nd rfl (by first | exact .inl rfl | exact .inr rfl) (by exact sv_t1 bt_tuple rfl fr_tuple (by exact so_of (by exact g_lc false [17] [("state", 17)] (by decide) rfl nd (by exact si_rng1 rfl fr_range (by exact so_v 3 rfl rfl rfl rfl) rfl rfl) (by kernel_rfl) (fun _ _ _ _ _ => by exact sg_name (pg_name nd rfl (by first | exact .inl rfl | exact .inr rfl) (by first | exact .inr rfl | exact .inl rfl))) (fun _ _ _ _ _ => by exact sps_nil) (fun _ _ _ _ _ => by exact sv_cP c__law_pick room (by first | decide | omega) gd rfl (nv 0 rfl rfl rfl rfl) (by exact svs_cons (by exact g_lc true ([10] ++ ([11] ++ [])) [("at", 10), ("some", 11)] (by decide) rfl nd (by exact si_enm rfl fr_enumerate (by exact sv_v 2 rfl rfl rfl rfl) rfl rfl) (by kernel_rfl) (fun _ _ _ _ _ => by exact sg_tup rfl (by exact sgs_cons (by exact sg_name (pg_name nd rfl (by first | exact .inl rfl | exact .inr rfl) (by first | exact .inr rfl | exact .inl rfl))) (by exact sgs_cons (by exact sg_name (pg_name nd rfl (by first | exact .inl rfl | exact .inr rfl) (by first | exact .inr rfl | exact .inl rfl))) (by exact sgs_nil) rfl) rfl) rfl rfl) (fun _ _ _ _ _ => by exact sps_one (by exact sb_cmp (op_inA u65) ok_in (by exact so_v 17 rfl rfl rfl rfl) (by exact so_v 11 rfl rfl rfl rfl) rfl)) (fun _ _ _ _ _ => by exact sv_v 10 rfl rfl rfl rfl) (fun _ => rfl)) (by exact svs_nil) rfl) rfl rfl rfl) (fun _ => rfl))) rfl rfl) rfl (.inl rfl)) (by exact ss_cons (by exact g_set 15 nd rfl (by first | exact .inl rfl | exact .inr rfl) (by exact sv_tup (by exact svs_cons (by exact sv_v 14 rfl rfl rfl rfl) (by exact svs_cons (by exact sv_t1 bt_tuple rfl fr_tuple (by exact so_of (by exact g_lc false [11] [("some", 11)] (by decide) rfl nd (by exact si_seq (by exact sv_v 2 rfl rfl rfl rfl)) (by kernel_rfl) (fun _ _ _ _ _ => by exact sg_name (pg_name nd rfl (by first | exact .inl rfl | exact .inr rfl) (by first | exact .inr rfl | exact .inl rfl))) (fun _ _ _ _ _ => by exact sps_nil) (fun _ _ _ _ _ => by exact sv_cP c__law_pick room (by first | decide | omega) gd rfl (nv 0 rfl rfl rfl rfl) (by exact svs_cons (by exact sv_v 11 rfl rfl rfl rfl) (by exact svs_nil) rfl) rfl rfl rfl) (fun _ => rfl))) rfl rfl) (by exact svs_nil) rfl) rfl)) rfl (.inl rfl)) (by exact ss_cons (by exact g_set 12 nd rfl (by first | exact .inl rfl | exact .inr rfl) (by exact sv_frz (by exact sv_c c__law_gains room (by first | decide | omega) gd rfl (by exact svs_cons (by exact sv_v 1 rfl rfl rfl rfl) (by exact svs_cons (by exact sv_v 2 rfl rfl rfl rfl) (by exact svs_cons (by exact sv_v 15 rfl rfl rfl rfl) (by exact svs_nil) rfl) rfl) rfl) rfl rfl rfl)) rfl (.inl rfl)) (by exact ss_cons (by exact ss_if (by exact sb_cmp (op_neA u64) ok_ne (by exact so_of (by exact sv_b1 (bi_repr gd u100) rfl fr_repr (by exact so_of (by exact sv_lst (by exact svs_cons (by exact sv_c c_gains room (by first | decide | omega) gd rfl (by exact svs_cons (by exact sv_v 1 rfl rfl rfl rfl) (by exact svs_cons (by exact sv_v 2 rfl rfl rfl rfl) (by exact svs_cons (by exact sv_v 15 rfl rfl rfl rfl) (by exact svs_nil) rfl) rfl) rfl) rfl rfl rfl) (by exact svs_cons (by exact sv_cK ["way", "messages", "faces"] [2, 1, 0] c_gains (by decide) room (by decide) gd rfl (by exact sk_cons (by exact sv_v 15 rfl rfl rfl rfl) (by exact sk_cons (by exact sv_v 2 rfl rfl rfl rfl) (by exact sk_cons (by exact sv_v 1 rfl rfl rfl rfl) (by exact sk_nil)))) rfl rfl rfl rfl) (by exact svs_nil) rfl) rfl))) rfl rfl)) (by exact so_of (by exact sv_b1 (bi_repr gd u100) rfl fr_repr (by exact so_of (by exact sv_lst (by exact svs_cons (by exact sv_v 12 rfl rfl rfl rfl) (by exact svs_cons (by exact sv_v 12 rfl rfl rfl rfl) (by exact svs_nil) rfl) rfl))) rfl rfl)) (nomark _)) (by exact ss_cons (by exact ss_ret (by exact sv_bl)) (by exact ss_nil)) (by exact ss_nil)) (by exact ss_nil))))) (fun _ => rfl)) (by exact ss_cons (by exact ss_ret (by exact sv_cmp (op_eqA u64) ok_eq (by exact so_of (by exact sv_b1 (bi_repr gd u100) rfl fr_repr (by exact so_of (by exact sv_lst (by exact svs_cons (by exact sv_v 1 rfl rfl rfl rfl) (by exact svs_cons (by exact sv_v 2 rfl rfl rfl rfl) (by exact svs_nil) rfl) rfl))) rfl rfl)) (by exact so_v 4 rfl rfl rfl rfl) (nomark _))) (by exact ss_nil))))))))))
theorem sc__law_matters_right : FnScope N__law_matters_right ps__law_matters_right (defScope (Hd.top 75)) := ⟨rfl, rfl, rfl, by decide +kernel, rfl, by decide +kernel, by decide +kernel⟩
theorem cal__law_matters_right (c : He.SaysD Hd.fa Hd.fn K) (X : K.In h) (G : h.Ns mainGlobals mg) : Cal P w K mg 8 "_law_matters_right" ps__law_matters_right N__law_matters_right [] m__law_matters_right := by
  obtain ⟨fd, D⟩ := c.def_ 56 (d := Hd.dd 75 "_law_matters_right") rfl
  have fr_max : mg "max" = none := He.free_ok X G (c.fact 68 (f := .free "max") rfl)
  have fr_range : mg "range" = none := He.free_ok X G (c.fact 70 (f := .free "range") rfl)
  have fr_repr : mg "repr" = none := He.free_ok X G (c.fact 71 (f := .free "repr") rfl)
  have fr_tuple : mg "tuple" = none := He.free_ok X G (c.fact 75 (f := .free "tuple") rfl)
  have c_faces_of := (cal_faces_of (P := P) (w := w) c X G)
  have c__law_draw := (cal__law_draw (P := P) (w := w) c X G)
  have c__law_matter := (cal__law_matter (P := P) (w := w) c X G)
  have c__law_messages := (cal__law_messages (P := P) (w := w) c X G)
  have c__law_right := (cal__law_right (P := P) (w := w) c X G)
  refine cal_of (N := N__law_matters_right) (ps := ps__law_matters_right) (k := 7) D (He.glo_ok X G (c.fact 56 (f := .glo "_law_matters_right") rfl)) sc__law_matters_right (fun _ _ _ _ _ _ us hl => match us, hl with | [_], _ => rfl) (fun _ z => nomatch z) (fun base cdv A out s H room gd => ?_)
  · have nd : N__law_matters_right.Nodup := sc__law_matters_right.nd
    have u100 := room_u room
    have u64 := room_u64 room
    have u65 := room_u65 room
    exact ss_cons (by exact g_set 1 nd rfl (by first | exact .inl rfl | exact .inr rfl) (by exact sv_frz (by exact sv_bin op_addA ok_add (by exact so_of (by exact sv_int)) (by exact so_of (by exact sv_cP c__law_draw room (by first | decide | omega) gd rfl (nv 0 rfl rfl rfl rfl) (by exact svs_cons (by exact sv_int) (by exact svs_nil) rfl) rfl rfl rfl)))) rfl (.inl rfl)) (by exact ss_cons (by exact g_par2 2 3 rfl nd rfl rfl (by first | exact .inl rfl | exact .inr rfl) (by first | exact .inl rfl | exact .inr rfl) (.inl rfl) (.inl rfl) (by exact sv_frz (by exact sv_cP c__law_matter room (by first | decide | omega) gd rfl (nv 0 rfl rfl rfl rfl) (by exact svs_cons (by exact sv_tup (by exact svs_cons (by exact sv_bin op_addA ok_add (by exact so_of (by exact sv_int)) (by exact so_of (by exact sv_cP c__law_draw room (by first | decide | omega) gd rfl (nv 0 rfl rfl rfl rfl) (by exact svs_cons (by exact sv_int) (by exact svs_nil) rfl) rfl rfl rfl))) (by exact svs_nil) rfl)) (by exact svs_cons (by exact sv_v 1 rfl rfl rfl rfl) (by exact svs_cons (by exact sv_int) (by exact svs_nil) rfl) rfl) rfl) rfl rfl rfl)) (by exact sv_lst (by exact svs_nil)) rfl rfl rfl rfl rfl rfl rfl rfl rfl) (by exact ss_cons (by exact g_for false [4] PassesOwn.never rfl (by exact si_rng1 rfl fr_range (by exact so_v 1 rfl rfl rfl rfl) rfl rfl) (by exact sg_name (pg_name nd rfl (by first | exact .inl rfl | exact .inr rfl) (.inl rfl))) (by exact ss_cons (by exact g_setLcF false 5 [7] [("row", 7)] (by decide) rfl nd rfl rfl rfl (by exact si_seq (by exact sv_idx (by exact so_of (by exact sv_idx (by exact so_v 2 rfl rfl rfl rfl) (by exact so_of (by exact sv_int)) (fun _ _ => rfl))) (by exact so_of (by exact sv_int)) (fun _ _ => rfl))) (by kernel_rfl) (fun _ _ _ _ _ => by exact sg_name (pg_name nd rfl (by first | exact .inl rfl | exact .inr rfl) (by first | exact .inr rfl | exact .inl rfl))) (fun _ _ _ _ _ => by exact sps_nil) (fun _ _ _ _ _ => by exact sv_idx (by exact so_v 7 rfl rfl rfl rfl) (by exact so_v 4 rfl rfl rfl rfl) (fun _ _ => rfl)) (fun _ => rfl)) (by exact ss_cons (by exact g_app 3 (nv 3 rfl rfl rfl rfl) (by exact sv_index u100 (by exact so_v 5 rfl rfl rfl rfl) (by exact so_of (by exact sv_b1 (bi_max rfl) rfl fr_max (by exact so_v 5 rfl rfl rfl rfl) rfl rfl)) ⟨rfl, rfl, rfl, rfl, rfl⟩ rfl) ⟨rfl, rfl, rfl, rfl, rfl⟩ rfl) (by exact ss_nil))) (fun _ => rfl)) (by exact ss_cons (by exact g_set 6 nd rfl (by first | exact .inl rfl | exact .inr rfl) (by exact sv_t1 bt_tuple rfl fr_tuple (by exact so_of (by exact g_lc false [4] [("state", 4)] (by decide) rfl nd (by exact si_rng1 rfl fr_range (by exact so_v 1 rfl rfl rfl rfl) rfl rfl) (by kernel_rfl) (fun _ _ _ _ _ => by exact sg_name (pg_name nd rfl (by first | exact .inl rfl | exact .inr rfl) (by first | exact .inr rfl | exact .inl rfl))) (fun _ _ _ _ _ => by exact sps_nil) (fun _ _ _ _ _ => by exact sv_t1 bt_tuple rfl fr_tuple (by exact so_of (by exact g_lcK 3 [8] [("deed", 8)] (by decide) rfl nd (nv 3 rfl rfl rfl rfl) (by kernel_rfl) (fun _ _ _ _ _ => by exact sg_name (pg_name nd rfl (by first | exact .inl rfl | exact .inr rfl) (by first | exact .inr rfl | exact .inl rfl))) (fun _ _ _ _ _ => by exact sps_nil) (fun _ _ _ _ _ => by exact sv_idx (by exact so_of (by exact sv_idx (by exact so_of (by exact sv_idx (by exact so_v 2 rfl rfl rfl rfl) (by exact so_of (by exact sv_int)) (fun _ _ => rfl))) (by exact so_v 8 rfl rfl rfl rfl) (fun _ _ => rfl))) (by exact so_v 4 rfl rfl rfl rfl) (fun _ _ => rfl)) (fun _ => rfl))) rfl rfl) (fun _ => rfl))) rfl rfl) rfl (.inl rfl)) (by exact ss_cons (by exact ss_ret (by exact sv_and (by exact sv_asB (by exact sv_cmp (op_eqA u64) ok_eq (by exact so_of (by exact sv_b1 (bi_repr gd u100) rfl fr_repr (by exact so_of (by exact sv_lst (by exact svs_cons (by exact sv_c c_faces_of room (by first | decide | omega) gd rfl (by exact svs_cons (by exact sv_v 2 rfl rfl rfl rfl) (by exact svs_nil) rfl) rfl rfl rfl) (by exact svs_cons (by exact sv_cK ["matter"] [0] c_faces_of (by decide) room (by decide) gd rfl (by exact sk_cons (by exact sv_v 2 rfl rfl rfl rfl) (by exact sk_nil)) rfl rfl rfl rfl) (by exact svs_nil) rfl) rfl))) rfl rfl)) (by exact so_of (by exact sv_b1 (bi_repr gd u100) rfl fr_repr (by exact so_of (by exact sv_lst (by exact svs_cons (by exact sv_v 6 rfl rfl rfl rfl) (by exact svs_cons (by exact sv_v 6 rfl rfl rfl rfl) (by exact svs_nil) rfl) rfl))) rfl rfl)) (nomark _))) (by exact pe_one (by exact sv_asB (by exact sv_cP c__law_right room (by first | decide | omega) gd rfl (nv 0 rfl rfl rfl rfl) (by exact svs_cons (by exact sv_v 6 rfl rfl rfl rfl) (by exact svs_cons (by exact sv_cP c__law_messages room (by first | decide | omega) gd rfl (nv 0 rfl rfl rfl rfl) (by exact svs_cons (by exact sv_v 1 rfl rfl rfl rfl) (by exact svs_nil) rfl) rfl rfl rfl) (by exact svs_nil) rfl) rfl) rfl rfl rfl))))) (by exact ss_nil)))))
theorem sc_law : FnScope N_law ps_law (defScope (Hd.top 76)) := ⟨rfl, rfl, rfl, by decide +kernel, rfl, by decide +kernel, by decide +kernel⟩
theorem fn_law (c : He.SaysD Hd.fa Hd.fn K) (X : K.In h) (G : h.Ns mainGlobals mg) {fd : FuncData} (D : FunD K (Hd.dd 76 "law").name (Hd.dd 76 "law").qual (Hd.dd 76 "law").params (Hd.dd 76 "law").body (Hd.dd 76 "law").scope [] [] (He.fAd K ("law", none)) fd) (base : Heap) : FnM P w K mg base 9 (He.fAd K ("law", none)) fd ps_law N_law m_law := by
  have fr_range : mg "range" = none := He.free_ok X G (c.fact 70 (f := .free "range") rfl)
  have fr_tuple : mg "tuple" = none := He.free_ok X G (c.fact 75 (f := .free "tuple") rfl)
  have c__law_pot := (cal__law_pot (P := P) (w := w) c X G)
  have c__law_draw := (cal__law_draw (P := P) (w := w) c X G)
  have c__law_sets := (cal__law_sets (P := P) (w := w) c X G)
  have c__law_faces := (cal__law_faces (P := P) (w := w) c X G)
  have c__law_messages := (cal__law_messages (P := P) (w := w) c X G)
  have c__law_right := (cal__law_right (P := P) (w := w) c X G)
  have c__law_matters_right := (cal__law_matters_right (P := P) (w := w) c X G)
  refine FnM.of D sc_law (fun cdv A out s H room gd => ?_)
  · have nd : N_law.Nodup := sc_law.nd
    have u100 := room_u room
    have u64 := room_u64 room
    have u65 := room_u65 room
    exact ss_cons (by exact g_set 1 nd rfl (by first | exact .inl rfl | exact .inr rfl) (by exact sv_c c__law_pot room (by first | decide | omega) gd rfl (by exact svs_cons (by exact sv_v 0 rfl rfl rfl rfl) (by exact svs_cons (by exact sv_int) (by exact svs_nil) rfl) rfl) rfl rfl rfl) rfl (.inl rfl)) (by exact ss_cons (by exact g_for false [2] PassesOwn.never rfl (by exact si_rng1 rfl fr_range (by exact so_of (by exact sv_int)) rfl rfl) (by exact sg_name (pg_name nd rfl (by first | exact .inl rfl | exact .inr rfl) (.inl rfl))) (by exact ss_cons (by exact g_set 3 nd rfl (by first | exact .inl rfl | exact .inr rfl) (by exact sv_frz (by exact sv_bin op_addA ok_add (by exact so_of (by exact sv_int)) (by exact so_of (by exact sv_cP c__law_draw room (by first | decide | omega) gd rfl (nv 1 rfl rfl rfl rfl) (by exact svs_cons (by exact sv_int) (by exact svs_nil) rfl) rfl rfl rfl)))) rfl (.inl rfl)) (by exact ss_cons (by exact g_set 4 nd rfl (by first | exact .inl rfl | exact .inr rfl) (by exact sv_frz (by exact sv_cP c__law_faces room (by first | decide | omega) gd rfl (nv 1 rfl rfl rfl rfl) (by exact svs_cons (by exact sv_v 3 rfl rfl rfl rfl) (by exact svs_nil) rfl) rfl rfl rfl)) rfl (.inl rfl)) (by exact ss_cons (by exact ss_if (by exact g_pt (by exact sw_or (by exact sb_not (by exact sb_val (by exact sv_cP c__law_right room (by first | decide | omega) gd rfl (nv 1 rfl rfl rfl rfl) (by exact svs_cons (by exact sv_v 4 rfl rfl rfl rfl) (by exact svs_cons (by exact sv_cP c__law_messages room (by first | decide | omega) gd rfl (nv 1 rfl rfl rfl rfl) (by exact svs_cons (by exact sv_v 3 rfl rfl rfl rfl) (by exact svs_nil) rfl) rfl rfl rfl) (by exact svs_nil) rfl) rfl) rfl rfl rfl) (fun _ => rfl))) (by exact pw_or1 (by exact sb_not (by exact sb_val (by exact sv_cP c__law_right room (by first | decide | omega) gd rfl (nv 1 rfl rfl rfl rfl) (by exact svs_cons (by exact sv_v 4 rfl rfl rfl rfl) (by exact svs_cons (by exact sv_t1 bt_tuple rfl fr_tuple (by exact so_of (by exact sv_c c__law_sets room (by first | decide | omega) gd rfl (by exact svs_cons (by exact sv_v 3 rfl rfl rfl rfl) (by exact svs_nil) rfl) rfl rfl rfl)) rfl rfl) (by exact svs_nil) rfl) rfl) rfl rfl rfl) (fun _ => rfl)))))) (by exact ss_cons (by exact ss_ret (by exact sv_bl)) (by exact ss_nil)) (by exact ss_nil)) (by exact ss_cons (by exact ss_if (by exact sb_not (by exact sb_val (by exact sv_cP c__law_matters_right room (by first | decide | omega) gd rfl (nv 1 rfl rfl rfl rfl) (by exact svs_nil) rfl rfl rfl) (fun _ => rfl))) (by exact ss_cons (by exact ss_ret (by exact sv_bl)) (by exact ss_nil)) (by exact ss_nil)) (by exact ss_nil))))) (fun _ => rfl)) (by exact ss_cons (by exact ss_ret (by exact sv_bl)) (by exact ss_nil)))
end
end Lw

set_option Elab.async false
set_option linter.all false
set_option maxRecDepth 100000
set_option maxHeartbeats 4000000
namespace Lw
open PySem PySem.Spec L2 Ev
abbrev rowD (n : Nat) (f : Nat → Int) : PyData := .tuple ((List.range n).map fun j => .int (f j))
abbrev facesD (n : Nat) (F : Nat → Nat → Int) : PyData := .tuple ((List.range n).map fun i => rowD n (F i))
/-- messages of states below n -/
structure Msg (n : Nat) (m : List Nat) : Prop where
  lt : ∀ s ∈ m, s < n
  len : m.length ≤ 100
theorem r_is_integer (d : PyData) : Ret m_is_integer [.vl d] ⟨.bool (d.isInt && !d.isBool), false⟩ := by
  simp [m_is_integer, isiD, isiF]
theorem r_does_envy {n : Nat} {F : Nat → Nat → Int} {i j : Nat} (hi : i < n) (hj : j < n) : Ret m_does_envy [.vl (facesD n F), .vl (nD i), .vl (nD j)] ⟨.bool (decide (F i i < F i j)), false⟩ := by
  simp [m_does_envy, atI_rng, hi, hj, gtD]
@[simp] theorem k_is_integer (d : PyData) (e : En) : runM N_is_integer.length ps_is_integer.length m_is_integer [d] e = some (.ok ⟨.bool (d.isInt && !d.isBool), false⟩ e) := runM_eq rfl rfl (r_is_integer d)
def posB (d : PyData) (n : Nat) : Bool := match d with
  | .int i => decide (0 ≤ i) && decide (i < n)
  | _ => false
theorem r_is_position (d : PyData) (n : Nat) : Ret m_is_position [.vl d, .vl (nD n)] ⟨.bool (posB d n), false⟩ := by
  cases d <;> simp [m_is_position, PyData.isInt, PyData.isBool, leD, ltD, posB]
@[simp] theorem k_is_position (d : PyData) (n : Nat) (e : En) : runM N_is_position.length ps_is_position.length m_is_position [d, nD n] e = some (.ok ⟨.bool (posB d n), false⟩ e) := runM_eq rfl rfl (r_is_position d n)
@[simp] theorem posB_nD (k n : Nat) : posB (nD k) n = decide (k < n) := by simp [posB]
theorem k_does_envy {n : Nat} {F : Nat → Nat → Int} {i j : Nat} (hi : i < n) (hj : j < n) (e : En) : runM N_does_envy.length ps_does_envy.length m_does_envy [facesD n F, nD i, nD j] e = some (.ok ⟨.bool (decide (F i i < F i j)), false⟩ e) := runM_eq rfl rfl (r_does_envy hi hj)
def fit (F : Nat → Nat → Int) (m : List Nat) : List Nat := m.filter fun s => !(m.any fun o => decide (F o o < F o s))
section
variable {n : Nat} {F : Nat → Nat → Int} {m : List Nat} {s : Nat} {ms : List (List Nat)}
theorem l_fit_of_0 (h : Msg n m) (hs : s < n) : c_fit_of_0 [.vl (facesD n F), .vl (mD m), .vl (nD s), .un] = some (.ok ⟨.list (m.map fun o => .bool (decide (F o o < F o s))), true⟩ [.vl (facesD n F), .vl (mD m), .vl (nD s), .un]) := by
  rw [c_fit_of_0, lc_t nD PyData.bool (fun o => some (decide (F o o < F o s))) (xs := m)]
  · simp
  · simp [seqM, itemsOf]
  · intro o ho
    exact ⟨[.vl (facesD n F), .vl (mD m), .vl (nD s), .vl (nD o)], by simp [turnM, k_does_envy (h.lt o ho) hs], by simp⟩
  · exact big h.len
  · simp
theorem l_fit_of_1 (h : Msg n m) : c_fit_of_1 [.vl (facesD n F), .vl (mD m), .un, .un] = some (.ok ⟨lnD (fit F m), true⟩ [.vl (facesD n F), .vl (mD m), .un, .un]) := by
  rw [c_fit_of_1, lc_t nD nD (fun s => if (!(m.any fun o => decide (F o o < F o s))) = true then some s else none) (xs := m)]
  · rw [filterMap_if, List.map_id']; exact congrArg (fun z => some (Rs.ok (⟨lnD z, true⟩ : RV) _)) (by unfold fit; exact List.filter_congr fun x _ => by rw [Bool.decide_eq_true])
  · simp [seqM, itemsOf]
  · intro s hs
    exact ⟨[.vl (facesD n F), .vl (mD m), .vl (nD s), .un], by simp [turnM, l_fit_of_0 h (h.lt s hs), anyF], by simp⟩
  · exact big h.len
  · simp
theorem k_fit_of (h : Msg n m) (e : En) : runM N_fit_of.length ps_fit_of.length m_fit_of [facesD n F, mD m] e = some (.ok ⟨mD (fit F m), false⟩ e) := runM_eq rfl rfl (by
  show Ret m_fit_of [.vl (facesD n F), .vl (mD m), .un, .un] _
  simp [m_fit_of, l_fit_of_1 h, tupleF])
theorem fit_msg (h : Msg n m) : Msg n (fit F m) := ⟨fun s hs => h.lt s ((List.mem_filter.mp hs).1), Nat.le_trans (List.length_filter_le _ _) h.len⟩
/-- the messages whose fit states a state is among -/
def ownS (F : Nat → Nat → Int) (ms : List (List Nat)) (s : Nat) : List Nat := (ms.zipIdx.filter fun p => decide (s ∈ fit F p.1)).map (·.2)
def ownL (n : Nat) (F : Nat → Nat → Int) (ms : List (List Nat)) : List (List Nat) := (List.range n).map (ownS F ms)
structure Msgs (n : Nat) (ms : List (List Nat)) : Prop where
  ok : ∀ m ∈ ms, Msg n m
  len : ms.length ≤ 100
  nle : n ≤ 100
end
end Lw

set_option Elab.async false
set_option linter.all false
set_option maxRecDepth 100000
set_option maxHeartbeats 4000000
namespace Lw
open PySem PySem.Spec L2 Ev
theorem addD_mD {a b : List Nat} (h : a.length + b.length ≤ most) : addD (mD a) (mD b) = some ⟨mD (a ++ b), false⟩ := by
  simp [addD, h]
@[simp] theorem notin_mD (s : Nat) (m : List Nat) : (inD (nD s) (mD m)).map (!·) = some (!decide (s ∈ m)) := by simp
def tellD : Option (List Nat) → PyData
  | some t => mD t
  | none => .none
/-- as the drawn things are -/
structure Good (n : Nat) (ms : List (List Nat)) : Prop extends Msgs n ms where
  n4 : n ≤ 4
  l15 : ms.length ≤ 15
@[simp] theorem isN_none : isND .none .none = some true := rfl
@[simp] theorem isN_tup (ds : List PyData) : isND (.tuple ds) .none = some false := rfl
@[simp] theorem isN_tell (x : Option (List Nat)) : isND (tellD x) .none = some (decide (x = none)) := by cases x <;> rfl
@[simp] theorem atI_zero {α : Type} (x : α) (xs : List α) : atI (x :: xs) 0 = some x := by
  simp [atI, ixN]
end Lw

set_option Elab.async false
set_option linter.all false
set_option maxRecDepth 100000
set_option maxHeartbeats 4000000
namespace Lw
open PySem PySem.Spec L2 Ev
theorem le_of (a b : PyData) : PySem.W.dataLe false id a b = !PySem.W.dataLt b a := rfl
theorem sort_known {ds ys : List PyData} (hp : ys.Perm ds) (hs : ys.Pairwise fun a b => PySem.W.dataLt b a = false) (anti : ∀ a ∈ ds, ∀ b ∈ ds, PySem.W.dataLt a b = false → PySem.W.dataLt b a = false → a = b) : sortL ds = ys := by
  have tl := PySem.W.sortLe_total (PyProof.Rows.listOrd PyProof.Rows.itemOrd) false fun b : PyData => PySem.W.keyToks (id b)
  have h1 : (sortL ds).Pairwise fun a b => PySem.W.dataLe false id a b = true := List.pairwise_mergeSort tl.trans (fun a b => Bool.or_eq_true_iff.mpr (tl.total a b)) ds
  have h2 : ys.Pairwise fun a b => PySem.W.dataLe false id a b = true := hs.imp fun h => by rw [le_of, h]; rfl
  have p1 : (sortL ds).Perm ds := List.mergeSort_perm ds _
  refine List.Perm.eq_of_pairwise (fun a b ha hb h3 h4 => ?_) h1 h2 (p1.trans hp.symm)
  rw [le_of] at h3 h4
  exact anti a (p1.mem_iff.mp ha) b (hp.mem_iff.mp hb) (by simpa using h4) (by simpa using h3)
theorem ltL_anti : ∀ {a b : List Nat}, ltL a b = false → ltL b a = false → a = b
  | [], [], _, _ => rfl
  | [], _ :: _, h, _ => by simp [ltL] at h
  | _ :: _, [], _, h => by simp [ltL] at h
  | x :: a, y :: b, h1, h2 => by
    unfold ltL at h1 h2
    by_cases e : x = y
    · subst e
      simp at h1 h2
      rw [ltL_anti h1 h2]
    · have e' : ¬ y = x := fun z => e z.symm
      simp [e, e'] at h1 h2
      omega
theorem sort_rows {xs ys : List (List Nat)} (hp : ys.Perm xs) (hs : ys.Pairwise fun a b => ltL b a = false) : sortL (xs.map mD) = ys.map mD := by
  refine sort_known (hp.map mD) (List.pairwise_map.mpr (hs.imp fun h => by rw [dataLt_mD]; exact h)) ?_
  rintro a ha b hb h1 h2
  obtain ⟨x, _, rfl⟩ := List.mem_map.mp ha
  obtain ⟨y, _, rfl⟩ := List.mem_map.mp hb
  rw [dataLt_mD] at h1 h2
  rw [ltL_anti h1 h2]
theorem sortable_rows {xs : List (List Nat)} (h : [] ∉ xs) : sortable (xs.map mD) = true := by
  unfold sortable
  have h1 : (xs.map mD).all notBare = true := by
    simp only [List.all_eq_true, List.mem_map]
    rintro d ⟨a, ha, rfl⟩
    cases a with
    | nil => exact absurd ha h
    | cons x a => rfl
  have h2 : (xs.map mD).all isTupD = true := by
    simp only [List.all_eq_true, List.mem_map]
    rintro d ⟨a, ha, rfl⟩
    rfl
  rw [h1, h2]
  rfl
theorem sortedF_rows {xs ys : List (List Nat)} (h : [] ∉ xs) (hl : xs.length ≤ most) (hp : ys.Perm xs) (hs : ys.Pairwise fun a b => ltL b a = false) : sortedF [lmD xs] = some ⟨lmD ys, true⟩ := by
  show (if alikeL (xs.map mD) = true ∧ sortable (xs.map mD) = true ∧ (xs.map mD).length ≤ most ∧ PyData.depthAll (xs.map mD) ≤ 60 then some (⟨.list (sortL (xs.map mD)), true⟩ : RV) else none) = _
  rw [if_pos ⟨alikeL_mD xs, sortable_rows h, by simpa using hl, depthAll_mD xs⟩, sort_rows hp hs]
def subs (n : Nat) : List (List Nat) := (List.range n).foldl (fun found s => found ++ found.map (fun t => t ++ [s])) [[]]
def fullL : Nat → List (List Nat)
  | 1 => [[0]]
  | 2 => [[0], [0, 1], [1]]
  | 3 => [[0], [0, 1], [0, 1, 2], [0, 2], [1], [1, 2], [2]]
  | 4 => [[0], [0, 1], [0, 1, 2], [0, 1, 2, 3], [0, 1, 3], [0, 2], [0, 2, 3], [0, 3], [1], [1, 2], [1, 2, 3], [1, 3], [2], [2, 3], [3]]
  | _ => []
theorem four {n : Nat} {p : Nat → Prop} (h1 : 1 ≤ n) (h4 : n ≤ 4) (a : p 1) (b : p 2) (c : p 3) (d : p 4) : p n := by
  obtain rfl | rfl | rfl | rfl : n = 1 ∨ n = 2 ∨ n = 3 ∨ n = 4 := by omega
  · exact a
  · exact b
  · exact c
  · exact d
theorem full_perm {n : Nat} (h1 : 1 ≤ n) (h4 : n ≤ 4) : (fullL n).Perm ((subs n).filter fun t => !decide (t = [])) := four (p := fun n => (fullL n).Perm ((subs n).filter fun t => !decide (t = []))) h1 h4 (by decide +kernel) (by decide +kernel) (by decide +kernel) (by decide +kernel)
theorem full_sorted {n : Nat} (h1 : 1 ≤ n) (h4 : n ≤ 4) : (fullL n).Pairwise fun a b => ltL b a = false := four (p := fun n => (fullL n).Pairwise fun a b => ltL b a = false) h1 h4 (by decide +kernel) (by decide +kernel) (by decide +kernel) (by decide +kernel)
theorem subs_len {n : Nat} (h1 : 1 ≤ n) (h4 : n ≤ 4) : (subs n).length ≤ 16 := four (p := fun n => (subs n).length ≤ 16) h1 h4 (by decide +kernel) (by decide +kernel) (by decide +kernel) (by decide +kernel)
section
variable {n : Nat}
theorem l_full_of_0 {found : List (List Nat)} {s : Nat} (a : Sl) (hl : found.length ≤ 100) (ht : ∀ t ∈ found, t.length ≤ 100) : c_full_of_0 [a, .vl (lmD found), .vl (nD s), .un] = some (.ok ⟨lmD (found.map fun t => t ++ [s]), true⟩ [a, .vl (lmD found), .vl (nD s), .un]) := by
  rw [c_full_of_0, lc_t mD mD (fun t => some (t ++ [s])) (xs := found)]
  · simp
  · simp [seqM, itemsOf]
  · intro t hm
    have g : t.length + 1 ≤ most := by have := ht t hm; unfold most; omega
    exact ⟨[a, .vl (lmD found), .vl (nD s), .vl (mD t)], by simp [turnM, addD, g], by simp⟩
  · exact big hl
  · simp
theorem l_b_full_of_0 {found : List (List Nat)} {s : Nat} (a b : Sl) (hl : found.length ≤ 40) (ht : ∀ t ∈ found, t.length ≤ 100) : b_full_of_0 (nD s) [a, .vl (lmD found), b, .un] = some (.ok .nx [a, .vl (lmD (found ++ found.map fun t => t ++ [s])), .vl (nD s), .un]) := by
  have g : found.length + found.length ≤ most := by unfold most; omega
  simp [b_full_of_0, bodyM, l_full_of_0 a (Nat.le_trans hl (by decide)) ht, addD, g]
theorem loop_full (a b : Sl) (h4 : n ≤ 4) : ∃ b', forGo b_full_of_0 ((List.range n).map nD) [a, .vl (lmD [[]]), b, .un] = some (.ok .nx [a, .vl (lmD (subs n)), b', .un]) := by
  have := for_fold (step := b_full_of_0) nD (fun (s : List (List Nat) × Sl) => [a, .vl (lmD s.1), s.2, .un]) (fun s t => (s.1 ++ s.1.map (fun u => u ++ [t]), .vl (nD t))) (fun s xs => s.1.length * 2 ^ xs.length ≤ 16 ∧ ∀ t ∈ s.1, t.length + xs.length ≤ 4) (List.range n) ([[]], b) ⟨by
      simp only [List.length_singleton, Nat.one_mul, List.length_range]
      exact Nat.le_trans (Nat.pow_le_pow_right (by decide) h4) (by decide), by simpa using h4⟩ (fun x xs s ⟨h1, h2⟩ => by
    have e : s.1.length * 2 ^ (xs.length + 1) = (s.1.length + s.1.length) * 2 ^ xs.length := by rw [Nat.pow_succ, Nat.mul_comm (2 ^ xs.length), ← Nat.mul_assoc, Nat.mul_two]
    have h1 : s.1.length * 2 ^ (xs.length + 1) ≤ 16 := h1
    have p1 : 0 < 2 ^ xs.length := Nat.pow_pos (by decide)
    have l : s.1.length + s.1.length ≤ 16 := by
      have : (s.1.length + s.1.length) * 1 ≤ (s.1.length + s.1.length) * 2 ^ xs.length := Nat.mul_le_mul_left _ p1
      omega
    refine ⟨l_b_full_of_0 a s.2 (by omega) (fun t ht => by have := h2 t ht; omega), by simpa using (by omega : (s.1.length + s.1.length) * 2 ^ xs.length ≤ 16), fun t ht => ?_⟩
    have ht : t ∈ s.1 ++ s.1.map (fun u => u ++ [x]) := ht
    rcases List.mem_append.mp ht with ht | ht
    · have := h2 t ht
      simp only [List.length_cons] at this
      omega
    · obtain ⟨u, hu, rfl⟩ := List.mem_map.mp ht
      have := h2 u hu
      simp only [List.length_cons, List.length_append, List.length_nil] at this ⊢
      omega)
  obtain ⟨h1, _⟩ := this
  have fold : ∀ (xs : List Nat) (f : List (List Nat)) (y : Sl), (xs.foldl (fun (s : List (List Nat) × Sl) t => (s.1 ++ s.1.map (fun u => u ++ [t]), Sl.vl (nD t))) (f, y)).1 = xs.foldl (fun found s => found ++ found.map (fun t => t ++ [s])) f := by
    intro xs
    induction xs with
    | nil => intro f y; rfl
    | cons x xs ih => intro f y; exact ih _ _
  exact ⟨_, by rw [show ([a, .vl (lmD [[]]), b, .un] : En) = (fun (s : List (List Nat) × Sl) => [a, .vl (lmD s.1), s.2, .un]) ([[]], b) from rfl, h1, fold]; rfl⟩
theorem l_full_of_1 {found : List (List Nat)} (a b : Sl) (hl : found.length ≤ 100) : c_full_of_1 [a, .vl (lmD found), b, .un] = some (.ok ⟨lmD (found.filter fun t => !decide (t = [])), true⟩ [a, .vl (lmD found), b, .un]) := by
  rw [c_full_of_1, lc_t mD mD (fun t => if t = [] then none else some t) (xs := found)]
  · simp
  · simp [seqM, itemsOf]
  · intro t hm
    refine ⟨[a, .vl (lmD found), b, .vl (mD t)], ?_, by simp⟩
    by_cases h : t = [] <;> simp [turnM, h]
  · exact big hl
  · simp
theorem sorted_subs (h1 : 1 ≤ n) (h4 : n ≤ 4) : sortedF [lmD ((subs n).filter fun t => !decide (t = []))] = some ⟨lmD (fullL n), true⟩ :=
  sortedF_rows (by simp) (Nat.le_trans (List.length_filter_le _ _) (Nat.le_trans (subs_len h1 h4) (by decide))) (full_perm h1 h4) (full_sorted h1 h4)
theorem for_full (h4 : n ≤ 4) : ∃ b', Ev.forM (rng1M (readO 0)) b_full_of_0 [.vl (nD n), .vl (.list [.tuple []]), .un, .un] = some (.ok .nx [.vl (nD n), .vl (lmD (subs n)), b', .un]) := by
  obtain ⟨b', h⟩ := loop_full (.vl (nD n)) .un h4
  exact ⟨b', run_for (by simp [rng1M, rngD_nat (show n ≤ 100 by omega)]) h⟩
theorem r_full_of (h1 : 1 ≤ n) (h4 : n ≤ 4) : Ret m_full_of [.vl (nD n), .un, .un, .un] ⟨msD (fullL n), false⟩ := by
  obtain ⟨b', h2⟩ := for_full h4
  have l := l_full_of_1 (.vl (nD n)) b' (Nat.le_trans (subs_len h1 h4) (by decide))
  refine ret_of (e1 := [.vl (nD n), .vl (lmD (subs n)), b', .un]) ?_
  rw [m_full_of, run_then (e1 := [.vl (nD n), .vl (.list [.tuple []]), .un, .un]) (by simp), run_then h2]
  exact run_thenR (run_ret (by simp [l, sorted_subs h1 h4, tupleF]))
theorem r__law_sets (h1 : 1 ≤ n) (h4 : n ≤ 4) : Ret m__law_sets [.vl (nD n), .un, .un, .un] ⟨lmD (fullL n), true⟩ := by
  obtain ⟨b', h2⟩ := for_full h4
  have h2 : Ev.forM (rng1M (readO 0)) b__law_sets_0 [.vl (nD n), .vl (.list [.tuple []]), .un, .un] = some (.ok .nx [.vl (nD n), .vl (lmD (subs n)), b', .un]) := h2
  have l : c__law_sets_1 [.vl (nD n), .vl (lmD (subs n)), b', .un] = some (.ok ⟨lmD ((subs n).filter fun t => !decide (t = [])), true⟩ [.vl (nD n), .vl (lmD (subs n)), b', .un]) := l_full_of_1 (.vl (nD n)) b' (Nat.le_trans (subs_len h1 h4) (by decide))
  refine ret_of (e1 := [.vl (nD n), .vl (lmD (subs n)), b', .un]) ?_
  rw [m__law_sets, run_then (e1 := [.vl (nD n), .vl (.list [.tuple []]), .un, .un]) (by simp), run_then h2]
  exact run_thenR (run_ret (by simp [l, sorted_subs h1 h4]))
theorem k_full_of (h1 : 1 ≤ n) (h4 : n ≤ 4) (e : En) : runM N_full_of.length ps_full_of.length m_full_of [nD n] e = some (.ok ⟨msD (fullL n), false⟩ e) := runM_eq rfl rfl (r_full_of h1 h4)
theorem k__law_sets (h1 : 1 ≤ n) (h4 : n ≤ 4) (e : En) : runM N__law_sets.length ps__law_sets.length m__law_sets [nD n] e = some (.ok ⟨lmD (fullL n), true⟩ e) := runM_eq rfl rfl (r__law_sets h1 h4)
end
end Lw

set_option Elab.async false
set_option linter.all false
set_option maxRecDepth 100000
set_option maxHeartbeats 4000000
namespace Lw
open PySem PySem.Spec L2 Ev
abbrev pD (p : Nat × List Nat) : PyData := .tuple [nD p.1, mD p.2]
def ltP (p q : Nat × List Nat) : Bool := if p.1 = q.1 then ltL p.2 q.2 else decide (p.1 < q.1)
theorem dataLt_pD (p q : Nat × List Nat) : PySem.W.dataLt (pD p) (pD q) = ltP p q := by
  obtain ⟨i, a⟩ := p
  obtain ⟨j, b⟩ := q
  rw [PySem.W.dataLt_tuple]
  by_cases h : i = j
  · subst h
    rw [PySem.W.dataLt_all_yes (by rfl) (by simp)]
    by_cases e : a = b
    · subst e
      rw [PySem.W.dataLt_all_yes (by simp only [PySem.W.alike]; exact alike_mD a a) (by simp)]
      have : ltL a a = false := by
        cases q : ltL a a with
        | false => rfl
        | true =>
          have self : ∀ a : List Nat, ltL a a = false := fun a => by induction a with
            | nil => rfl
            | cons x a ih => simp [ltL, ih]
          rw [self] at q
          cases q
      simp only [ltP, if_true, this]
      rfl
    · rw [PySem.W.dataLt_all_no (by simp only [PySem.W.alike]; exact alike_mD a b) (by rw [eqv_mD]; simp [e]), dataLt_mD]
      simp [ltP]
  · rw [PySem.W.dataLt_all_no (by rfl) (by rw [eqv_nD]; simp [h]), dataLt_nD]
    simp [ltP, h]
theorem ltP_anti {p q : Nat × List Nat} (h1 : ltP p q = false) (h2 : ltP q p = false) : p = q := by
  obtain ⟨i, a⟩ := p
  obtain ⟨j, b⟩ := q
  unfold ltP at h1 h2
  by_cases e : i = j
  · subst e
    simp at h1 h2
    rw [ltL_anti h1 h2]
  · have e' : ¬ j = i := fun z => e z.symm
    simp [e, e'] at h1 h2
    omega
theorem sortedF_pairs {xs ys : List (Nat × List Nat)} (hl : xs.length ≤ most) (hp : ys.Perm xs) (hs : ys.Pairwise fun a b => ltP b a = false) : sortedF [.list (xs.map pD)] = some ⟨.list (ys.map pD), true⟩ := by
  have h1 : alikeL (xs.map pD) = true := by
    unfold alikeL
    simp only [List.all_eq_true, List.mem_map]
    rintro d ⟨a, _, rfl⟩ d' ⟨b, _, rfl⟩
    simp only [PySem.W.alike, PySem.W.alikeAll, alike_mD, Bool.and_true]
  have h2 : sortable (xs.map pD) = true := by
    unfold sortable
    have a : (xs.map pD).all notBare = true := by
      simp only [List.all_eq_true, List.mem_map]
      rintro d ⟨a, ha, rfl⟩
      rfl
    have b : (xs.map pD).all isTupD = true := by
      simp only [List.all_eq_true, List.mem_map]
      rintro d ⟨a, ha, rfl⟩
      rfl
    rw [a, b]
    rfl
  have h3 : PyData.depthAll (xs.map pD) ≤ 60 := Nat.le_trans (depth_map pD 2 (fun p => by
    have := depth_mD p.2
    simp only [PyData.depth, PyData.depthAll] at this ⊢
    omega) xs) (by decide)
  show (if alikeL (xs.map pD) = true ∧ sortable (xs.map pD) = true ∧ (xs.map pD).length ≤ most ∧ PyData.depthAll (xs.map pD) ≤ 60 then some (⟨.list (sortL (xs.map pD)), true⟩ : RV) else none) = _
  rw [if_pos ⟨h1, h2, by simpa using hl, h3⟩]
  rw [sort_known (hp.map pD) (List.pairwise_map.mpr (hs.imp fun h => by rw [dataLt_pD]; exact h)) ?_]
  rintro a ha b hb h1 h2
  obtain ⟨x, _, rfl⟩ := List.mem_map.mp ha
  obtain ⟨y, _, rfl⟩ := List.mem_map.mp hb
  rw [dataLt_pD] at h1 h2
  rw [ltP_anti h1 h2]
def sized (m : List Nat) : Nat × List Nat := (m.length, m)
section
variable {n : Nat} {F : Nat → Nat → Int} {m : List Nat} {s : Nat} {ms : List (List Nat)}
theorem full_len (h1 : 1 ≤ n) (h4 : n ≤ 4) : (fullL n).length ≤ 15 := four (p := fun n => (fullL n).length ≤ 15) h1 h4 (by decide) (by decide) (by decide) (by decide)
/-! are_short -/
theorem atI_own (hs : s < n) : atI (ownL n F ms) (s : Int) = some (ownS F ms s) := atI_range (ownS F ms) n s hs
def cnt (m : List Nat) : Nat := (distL (m.map Int.ofNat)).length
def shortB (F : Nat → Nat → Int) (ms : List (List Nat)) (t : List Nat) : Bool := decide (cnt (t.flatMap (ownS F ms)) < t.length)
end
end Lw

set_option Elab.async false
set_option linter.all false
set_option maxRecDepth 100000
set_option maxHeartbeats 4000000
namespace Lw
open PySem PySem.Spec L2 Ev
theorem cut_tail {α : Type} (f : α → PyData) (m : List α) : cutD (m.map f) (some 1) none = (m.drop 1).map f := by
  unfold cutD
  cases m with
  | nil => rfl
  | cons x m =>
    have e1 : HT.sIx ((x :: m).map f).length 0 (some 1) = 1 := by simp [HT.sIx]
    have e2 : HT.sIx ((x :: m).map f).length ((x :: m).map f).length none = ((x :: m).map f).length := rfl
    rw [e1, e2]
    simp only [List.map_cons, List.drop_succ_cons, List.drop_zero, List.length_cons, List.length_map, Nat.add_sub_cancel]
    rw [← List.length_map (f := f), List.take_length]
@[simp] theorem zw_map {α β : Type} (f : α → PyData) (g : β → PyData) : ∀ (xs : List α) (ys : List β), List.zipWith (fun d e => PyData.tuple [d, e]) (xs.map f) (ys.map g) = (xs.zip ys).map fun p => .tuple [f p.1, g p.2]
  | [], _ => rfl
  | _ :: _, [] => rfl
  | x :: xs, y :: ys => by simp [zw_map f g xs ys]
@[simp] theorem zw_tail {α : Type} (f : α → PyData) (xs : List α) : List.zipWith (fun d e => PyData.tuple [d, e]) (xs.map f) (xs.map f).tail = (xs.zip xs.tail).map fun p => .tuple [f p.1, f p.2] := by
  rw [← List.map_tail, zw_map]
theorem zip_len {α β : Type} {xs : List α} {ys : List β} (h : xs.length ≤ 100) : (xs.zip ys).length ≤ most := by
  rw [List.length_zip]
  exact Nat.le_trans (Nat.min_le_left _ _) (Nat.le_trans h (by decide))
@[simp] theorem slc_tail {α : Type} (f : α → PyData) (m : List α) : slcD (some 1) none (.tuple (m.map f)) = some ⟨.tuple ((m.drop 1).map f), false⟩ := by
  show lit (.tuple (cutD (m.map f) (some 1) none)) = _
  rw [cut_tail]
@[simp] theorem alls_comp {α : Type} (f : α → Bool) (l : List α) : allF [.list (l.map fun x => PyData.bool (f x))] = some ⟨.bool (l.all f), false⟩ := by
  have : (List.all (l.map f) id) = l.all f := by simp
  simp only [allF, boolsOf_comp, Option.map_some, this]
@[simp] theorem anys_comp {α : Type} (f : α → Bool) (l : List α) : anyF [.list (l.map fun x => PyData.bool (f x))] = some ⟨.bool (l.any f), false⟩ := by
  have : (List.any (l.map f) id) = l.any f := by simp
  simp only [anyF, boolsOf_comp, Option.map_some, this]
def asc (m : List Nat) : Bool := (m.zip m.tail).all fun p => decide (p.1 < p.2)
def ascL (ms : List (List Nat)) : Bool := (ms.zip ms.tail).all fun p => ltL p.1 p.2
section
variable {n : Nat} {F : Nat → Nat → Int} {m : List Nat} {s : Nat} {ms : List (List Nat)}
/-- small worths -/
def Small (n : Nat) (F : Nat → Nat → Int) : Prop := ∀ i j, i < n → j < n → -99 ≤ F i j ∧ F i j ≤ 99
theorem l_row_is_right_shows (f : Nat → Int) (h : ∀ j, j < n → -99 ≤ f j ∧ f j ≤ 99) (h4 : n ≤ 4) (x : Sl) : c_row_is_right_shows_0 [.vl (rowD n f), x, .un] = some (.ok ⟨.list ((List.range n).map fun _ => .bool true), true⟩ [.vl (rowD n f), x, .un]) := by
  rw [c_row_is_right_shows_0, lc_t (fun j : Nat => PyData.int (f j)) (fun b : Bool => PyData.bool b) (fun j => some true) (xs := List.range n)]
  · simp
  · simp [seqM, itemsOf]
  · intro j hj
    obtain ⟨a, b⟩ := h j (List.mem_range.mp hj)
    exact ⟨[.vl (rowD n f), x, .vl (.int (f j))], by simp [turnM, PyData.isInt, PyData.isBool, negD, leD, a, b], by simp⟩
  · simpa using Nat.le_trans h4 (show 4 ≤ most by decide)
  · simp
theorem k_row_is_right_shows (f : Nat → Int) (h : ∀ j, j < n → -99 ≤ f j ∧ f j ≤ 99) (h4 : n ≤ 4) (e : En) : runM N_row_is_right_shows.length ps_row_is_right_shows.length m_row_is_right_shows [rowD n f, nD n] e = some (.ok ⟨.bool true, false⟩ e) := runM_eq rfl rfl (by
  refine ret_of (e1 := [.vl (rowD n f), .vl (nD n), .un]) ?_
  show m_row_is_right_shows [.vl (rowD n f), .vl (nD n), .un] = _
  rw [m_row_is_right_shows, run_then (e1 := [.vl (rowD n f), .vl (nD n), .un]) (by simp [isiD, isiF, PyData.isTuple, lenF])]
  exact run_thenR (run_ret (by simp [l_row_is_right_shows f h h4])))
theorem k_faces_are_right (h : Small n F) (h1 : 1 ≤ n) (h4 : n ≤ 4) (e : En) : runM N_faces_are_right.length ps_faces_are_right.length m_faces_are_right [facesD n F] e = some (.ok ⟨.bool true, false⟩ e) := runM_eq rfl rfl (by
  have l : c_faces_are_right_0 [.vl (facesD n F), .un] = some (.ok ⟨.list ((List.range n).map fun _ => .bool true), true⟩ [.vl (facesD n F), .un]) := by
    rw [c_faces_are_right_0, lc_t (fun i : Nat => rowD n (F i)) (fun b : Bool => PyData.bool b) (fun j => some true) (xs := List.range n)]
    · simp
    · simp [seqM, itemsOf]
    · intro i hi
      exact ⟨[.vl (facesD n F), .vl (rowD n (F i))], by simp [turnM, lenF, k_row_is_right_shows (F i) (fun j hj => h i j (List.mem_range.mp hi) hj) h4], by simp⟩
    · simpa using Nat.le_trans h4 (show 4 ≤ most by decide)
    · simp
  refine ret_of (e1 := [.vl (facesD n F), .un]) ?_
  show m_faces_are_right [.vl (facesD n F), .un] = _
  have g1 : (1 : Int) ≤ n := by omega
  have g4 : (n : Int) ≤ 4 := by omega
  rw [m_faces_are_right, run_then (e1 := [.vl (facesD n F), .un]) (by simp [isiD, isiF, PyData.isTuple, lenF, leD, g1, g4])]
  exact run_thenR (run_ret (by simp [l])))
theorem l_set_is_right_0 (hm : ∀ s ∈ m, s < n) (hl : m.length ≤ 100) : c_set_is_right_0 [.vl (mD m), .vl (nD n), .un, .un, .un] = some (.ok ⟨.list (m.map fun _ => .bool true), true⟩ [.vl (mD m), .vl (nD n), .un, .un, .un]) := by
  rw [c_set_is_right_0, lc_t nD (fun b : Bool => PyData.bool b) (fun j => some true) (xs := m)]
  · simp
  · simp [seqM, itemsOf]
  · intro j hj
    exact ⟨[.vl (mD m), .vl (nD n), .vl (nD j), .un, .un], by simp [turnM, hm j hj], by simp⟩
  · exact big hl
  · simp
theorem l_set_is_right_1 (hl : m.length ≤ 100) (x : Sl) : c_set_is_right_1 [.vl (mD m), x, .un, .un, .un] = some (.ok ⟨.list ((m.zip m.tail).map fun p => .bool (decide (p.1 < p.2))), true⟩ [.vl (mD m), x, .un, .un, .un]) := by
  rw [c_set_is_right_1, lc_t (fun p : Nat × Nat => PyData.tuple [nD p.1, nD p.2]) (fun b : Bool => PyData.bool b) (fun p => some (decide (p.1 < p.2))) (xs := m.zip m.tail)]
  · simp
  · simp [zipM, slcM, partM, itemsOf]
  · intro p hp
    exact ⟨[.vl (mD m), x, .un, .vl (nD p.1), .vl (nD p.2)], by simp [turnM, ltD], by simp⟩
  · exact zip_len hl
  · simp
/-- the messages as they are drawn -/
structure Fine (n : Nat) (ms : List (List Nat)) : Prop extends Good n ms where
  n1 : 1 ≤ n
  one : 1 ≤ ms.length
  ne : ∀ m ∈ ms, m ≠ []
  up : ∀ m ∈ ms, asc m = true
  ups : ascL ms = true
  cov : ∀ s, s < n → (ms.any fun m => decide (s ∈ m)) = true
theorem all_true {α : Type} (l : List α) : (l.all fun _ => true) = true := by simp
theorem k_set_is_right (hm : Msg n m) (h0 : m ≠ []) (ha : asc m = true) (e : En) : runM N_set_is_right.length ps_set_is_right.length m_set_is_right [mD m, nD n] e = some (.ok ⟨.bool true, false⟩ e) := runM_eq rfl rfl (by
  refine ret_of (e1 := [.vl (mD m), .vl (nD n), .un, .un, .un]) ?_
  show m_set_is_right [.vl (mD m), .vl (nD n), .un, .un, .un] = _
  have a : allF [.list ((m.zip m.tail).map fun p => .bool (decide (p.1 < p.2)))] = some ⟨.bool true, false⟩ := by
    rw [alls_comp]
    exact congrArg (fun b => some (⟨.bool b, false⟩ : RV)) ha
  have b : allF [.list (m.map fun _ => .bool true)] = some ⟨.bool true, false⟩ := by
    rw [alls_comp, all_true]
  rw [m_set_is_right, run_then (e1 := [.vl (mD m), .vl (nD n), .un, .un, .un]) (by simp [isiD, isiF, PyData.isTuple, h0, l_set_is_right_0 hm.lt hm.len, -alls_comp, b])]
  exact run_thenR (run_ret (by simp [l_set_is_right_1 hm.len, -alls_comp, a])))
theorem l_msgs_0 (h : Fine n ms) : c_messages_are_right_0 [.vl (facesD n F), .vl (msD ms), .un, .un, .un, .un] = some (.ok ⟨.list (ms.map fun _ => .bool true), true⟩ [.vl (facesD n F), .vl (msD ms), .un, .un, .un, .un]) := by
  rw [c_messages_are_right_0, lc_t mD (fun b : Bool => PyData.bool b) (fun j => some true) (xs := ms)]
  · simp
  · simp [seqM, itemsOf]
  · intro m hm
    exact ⟨[.vl (facesD n F), .vl (msD ms), .vl (mD m), .un, .un, .un], by simp [turnM, lenF, k_set_is_right (h.ok m hm) (h.ne m hm) (h.up m hm)], by simp⟩
  · exact big h.len
  · simp
theorem lt_mDD (a b : List Nat) : ltD (mD a) (mD b) = some (ltL a b) := by
  have hd : PyData.depthAll (a.map nD) ≤ 60 := Nat.le_trans (depth_map nD 0 (fun _ => Nat.le_refl _) a) (by decide)
  show (if PySem.W.alikeAll (a.map nD) (b.map nD) = true ∧ PyData.depthAll (a.map nD) ≤ 60 then some (PySem.W.dataLt (mD a) (mD b)) else none) = _
  rw [if_pos ⟨alike_mD a b, hd⟩, dataLt_mD]
theorem l_msgs_1 (h : Fine n ms) : c_messages_are_right_1 [.vl (facesD n F), .vl (msD ms), .un, .un, .un, .un] = some (.ok ⟨.list ((ms.zip ms.tail).map fun p => .bool (ltL p.1 p.2)), true⟩ [.vl (facesD n F), .vl (msD ms), .un, .un, .un, .un]) := by
  rw [c_messages_are_right_1, lc_t (fun p : List Nat × List Nat => PyData.tuple [mD p.1, mD p.2]) (fun b : Bool => PyData.bool b) (fun p => some (ltL p.1 p.2)) (xs := ms.zip ms.tail)]
  · simp
  · simp [zipM, slcM, partM, itemsOf]
  · intro p hp
    exact ⟨[.vl (facesD n F), .vl (msD ms), .un, .vl (mD p.1), .vl (mD p.2), .un], by simp [turnM, lt_mDD], by simp⟩
  · exact zip_len h.len
  · simp
theorem l_msgs_2 (h : Fine n ms) (s : Nat) : c_messages_are_right_2 [.vl (facesD n F), .vl (msD ms), .un, .un, .un, .vl (nD s)] = some (.ok ⟨.list (ms.map fun m => .bool (decide (s ∈ m))), true⟩ [.vl (facesD n F), .vl (msD ms), .un, .un, .un, .vl (nD s)]) := by
  rw [c_messages_are_right_2, lc_t mD (fun b : Bool => PyData.bool b) (fun m => some (decide (s ∈ m))) (xs := ms)]
  · simp
  · simp [seqM, itemsOf]
  · intro m hm
    exact ⟨[.vl (facesD n F), .vl (msD ms), .vl (mD m), .un, .un, .vl (nD s)], by simp [turnM], by simp⟩
  · exact big h.len
  · simp
theorem l_msgs_3 (h : Fine n ms) : c_messages_are_right_3 [.vl (facesD n F), .vl (msD ms), .un, .un, .un, .un] = some (.ok ⟨.list ((List.range n).map fun s => .bool true), true⟩ [.vl (facesD n F), .vl (msD ms), .un, .un, .un, .un]) := by
  rw [c_messages_are_right_3, lc_t nD (fun b : Bool => PyData.bool b) (fun s => some true) (xs := List.range n)]
  · simp
  · simp [rng1M, lenF, rngD_nat h.nle]
  · intro s hs
    have a : anyF [.list (ms.map fun m => .bool (decide (s ∈ m)))] = some ⟨.bool true, false⟩ := by
      rw [anys_comp]
      exact congrArg (fun b => some (⟨.bool b, false⟩ : RV)) (h.cov s (List.mem_range.mp hs))
    exact ⟨[.vl (facesD n F), .vl (msD ms), .un, .un, .un, .vl (nD s)], by simp [turnM, l_msgs_2 h, -anys_comp, a], by simp⟩
  · exact big (by simpa using h.nle)
  · simp
theorem k_messages_are_right (h : Fine n ms) (e : En) : runM N_messages_are_right.length ps_messages_are_right.length m_messages_are_right [facesD n F, msD ms] e = some (.ok ⟨.bool true, false⟩ e) := runM_eq rfl rfl (by
  refine ret_of (e1 := [.vl (facesD n F), .vl (msD ms), .un, .un, .un, .un]) ?_
  show m_messages_are_right [.vl (facesD n F), .vl (msD ms), .un, .un, .un, .un] = _
  have a : allF [.list ((ms.zip ms.tail).map fun p => .bool (ltL p.1 p.2))] = some ⟨.bool true, false⟩ := by
    rw [alls_comp]
    exact congrArg (fun b => some (⟨.bool b, false⟩ : RV)) h.ups
  have b : allF [.list (ms.map fun _ => .bool true)] = some ⟨.bool true, false⟩ := by rw [alls_comp, all_true]
  have c : allF [.list ((List.range n).map fun _ => .bool true)] = some ⟨.bool true, false⟩ := by rw [alls_comp, all_true]
  have g1 : (1 : Int) ≤ ms.length := by have := h.one; omega
  have g2 : (ms.length : Int) ≤ 15 := by have := h.l15; omega
  rw [m_messages_are_right, run_then (e1 := [.vl (facesD n F), .vl (msD ms), .un, .un, .un, .un]) (by simp [isiD, isiF, PyData.isTuple, lenF, leD, g1, g2]),
    run_then (e1 := [.vl (facesD n F), .vl (msD ms), .un, .un, .un, .un]) (by simp [l_msgs_0 h, -alls_comp, b]), run_then (e1 := [.vl (facesD n F), .vl (msD ms), .un, .un, .un, .un]) (by simp [l_msgs_1 h, -alls_comp, a])]
  exact run_thenR (run_ret (by simp [l_msgs_3 h, -alls_comp, c])))
theorem k_check_faces (h : Small n F) (h1 : 1 ≤ n) (h4 : n ≤ 4) (e : En) : runM N_check_faces.length ps_check_faces.length m_check_faces [facesD n F] e = some (.ok ⟨.none, false⟩ e) := runM_eq rfl rfl (by
  show Ret m_check_faces [.vl (facesD n F)] _
  simp [m_check_faces, k_faces_are_right h h1 h4])
theorem k_check_both (hf : Small n F) (h : Fine n ms) (e : En) : runM N_check_both.length ps_check_both.length m_check_both [facesD n F, msD ms] e = some (.ok ⟨.none, false⟩ e) := runM_eq rfl rfl (by
  show Ret m_check_both [.vl (facesD n F), .vl (msD ms)] _
  simp [m_check_both, k_check_faces hf h.n1 h.n4, k_messages_are_right h])
end
end Lw

set_option Elab.async false
set_option linter.all false
set_option maxRecDepth 100000
set_option maxHeartbeats 4000000
namespace Lw
open PySem PySem.Spec L2 Ev
section
variable {n : Nat} {F : Nat → Nat → Int} {m : List Nat} {s : Nat} {ms : List (List Nat)}
theorem idx_faces {i j : Nat} (hi : i < n) (e : En) : idxD (facesD n F) (nD i) = some ⟨rowD n (F i), false⟩ := by
  rw [idx_tup, atI_rng hi]
  rfl
theorem idx_row {f : Nat → Int} {j : Nat} (hj : j < n) : idxD (rowD n f) (nD j) = some ⟨.int (f j), false⟩ := by
  rw [idx_tup, atI_rng hj]
  rfl
/-- a way as it is told: t tells, r readings -/
structure Way (n : Nat) (ms : List (List Nat)) (t r : List Nat) : Prop where
  tl : t.length = n
  rl : r.length = ms.length
  ta : ∀ a ∈ t, a < ms.length
  ra : ∀ s ∈ r, s < n
/-- no message is better than the own one -/
def Calm (F : Nat → Nat → Int) (ms : List (List Nat)) (t r : List Nat) : Prop :=
  ∀ s, s < t.length → ∀ p ∈ ms.zipIdx, s ∈ p.1 → ¬ F s (r.getD (t.getD s 0) 0) < F s (r.getD p.2 0)
theorem idx_mD {t : List Nat} {i : Nat} (hi : i < t.length) : idxD (mD t) (nD i) = some ⟨nD (t.getD i 0), false⟩ := by
  rw [idx_tup, atI_nat _ _ hi, List.getD_eq_getElem?_getD, List.getElem?_eq_getElem hi]
  rfl
theorem getD_lt {t : List Nat} {k i : Nat} (h : ∀ a ∈ t, a < k) (hi : i < t.length) : t.getD i 0 < k := by
  rw [List.getD_eq_getElem?_getD, List.getElem?_eq_getElem hi]
  exact h _ (List.getElem_mem hi)
theorem loop_gain0 {t r : List Nat} {o : Int} (w : Way n ms t r) (hs : s < n) (hc : ∀ p ∈ ms.zipIdx, s ∈ p.1 → ¬ o < F s (r.getD p.2 0)) (a b c d : Sl) : ∃ q : Sl × Sl, forGo b_gains_of_0 (ms.zipIdx.map fun p => PyData.tuple [nD p.2, mD p.1]) [.vl (facesD n F), .vl (msD ms), a, b, .vl (mD r), .ow false [], .vl (nD s), .vl (.int o), c, d] =
    some (.ok .nx [.vl (facesD n F), .vl (msD ms), a, b, .vl (mD r), .ow false [], .vl (nD s), .vl (.int o), q.1, q.2]) := by
  have := for_find (step := b_gains_of_0) (fun p : List Nat × Nat => PyData.tuple [nD p.2, mD p.1]) (fun q : Sl × Sl => [.vl (facesD n F), .vl (msD ms), a, b, .vl (mD r), .ow false [], .vl (nD s), .vl (.int o), q.1, q.2]) (fun _ => none) ms.zipIdx (c, d) (fun p hp q => by
    refine ⟨(.vl (nD p.2), .vl (mD p.1)), ?_⟩
    have hp2 : p.2 < r.length := by
      rw [w.rl]
      obtain ⟨x, i⟩ := p
      have := List.snd_lt_of_mem_zipIdx hp
      simpa using this
    have hr : r.getD p.2 0 < n := getD_lt w.ra hp2
    have i1 : idxD (facesD n F) (nD s) = some ⟨rowD n (F s), false⟩ := idx_faces (j := 0) hs []
    have i2 := idx_mD hp2
    by_cases z : s ∈ p.1
    · have hno := hc p hp z
      generalize r.getD p.2 0 = v at *
      simp [b_gains_of_0, bodyM, z, -idx_tup, i1, i2, idx_row hr, gtD, hno]
    · simp [b_gains_of_0, bodyM, z])
  obtain ⟨q, h⟩ := this
  refine ⟨q, ?_⟩
  have e : ms.zipIdx.findSome? (fun _ => (none : Option RV)) = none := by simp
  rw [e] at h
  exact h
theorem loop_gain1 {t r : List Nat} (h : Msgs n ms) (w : Way n ms t r) (hc : Calm F ms t r) (a : Sl) : ∃ q : (Sl × Sl) × Sl × Sl, forGo b_gains_of_1 ((List.range n).map nD) [.vl (facesD n F), .vl (msD ms), a, .vl (mD t), .vl (mD r), .ow false [], .un, .un, .un, .un] =
    some (.ok .nx [.vl (facesD n F), .vl (msD ms), a, .vl (mD t), .vl (mD r), .ow false [], q.1.1, q.1.2, q.2.1, q.2.2]) := by
  have := for_find (step := b_gains_of_1) nD (fun q : (Sl × Sl) × Sl × Sl => [.vl (facesD n F), .vl (msD ms), a, .vl (mD t), .vl (mD r), .ow false [], q.1.1, q.1.2, q.2.1, q.2.2]) (fun _ => none) (List.range n) ((.un, .un), .un, .un) (fun s hs q => by
    have hs := List.mem_range.mp hs
    have st : s < t.length := by rw [w.tl]; exact hs
    have i1 : idxD (facesD n F) (nD s) = some ⟨rowD n (F s), false⟩ := idx_faces (j := 0) hs []
    have i2 := idx_mD st
    have hta := getD_lt w.ta st
    have i3 := idx_mD (t := r) (i := t.getD s 0) (by rw [w.rl]; exact hta)
    have hrr : r.getD (t.getD s 0) 0 < n := getD_lt w.ra (by rw [w.rl]; exact hta)
    have hcs := hc s st
    generalize r.getD (t.getD s 0) 0 = v at *
    generalize t.getD s 0 = u at *
    obtain ⟨q2, l⟩ := loop_gain0 (F := F) (o := F s v) w hs hcs a (.vl (mD t)) q.2.1 q.2.2
    refine ⟨((.vl (nD s), .vl (.int (F s v))), q2), ?_⟩
    have s1 : setM 7 (op2 idxD (toO (op2 idxD (readO 0) (readO 6))) (toO (op2 idxD (readO 4) (toO (op2 idxD (readO 3) (readO 6)))))) [.vl (facesD n F), .vl (msD ms), a, .vl (mD t), .vl (mD r), .ow false [], .vl (nD s), q.1.2, q.2.1, q.2.2] = some (.ok .nx [.vl (facesD n F), .vl (msD ms), a, .vl (mD t), .vl (mD r), .ow false [], .vl (nD s), .vl (.int (F s v)), q.2.1, q.2.2]) := by
      simp [-idx_tup, i1, i2, i3, idx_row hrr]
    have f1 := run_for (mi := enumM (readV 1)) (e := [.vl (facesD n F), .vl (msD ms), a, .vl (mD t), .vl (mD r), .ow false [], .vl (nD s), .vl (.int (F s v)), q.2.1, q.2.2]) (by simp [enumM, seqM, itemsOf]) l
    have b0 : nameM 6 (nD s) [.vl (facesD n F), .vl (msD ms), a, .vl (mD t), .vl (mD r), .ow false [], q.1.1, q.1.2, q.2.1, q.2.2] = some (.ok () [.vl (facesD n F), .vl (msD ms), a, .vl (mD t), .vl (mD r), .ow false [], .vl (nD s), q.1.2, q.2.1, q.2.2]) := by simp
    show b_gains_of_1 (nD s) [.vl (facesD n F), .vl (msD ms), a, .vl (mD t), .vl (mD r), .ow false [], q.1.1, q.1.2, q.2.1, q.2.2] = _
    rw [b_gains_of_1, bodyM, run_bind, b0, bndR_ok, run_then s1, run_then f1]
    rfl)
  obtain ⟨q, l⟩ := this
  refine ⟨q, ?_⟩
  have e : (List.range n).findSome? (fun _ => (none : Option RV)) = none := by simp
  rw [e] at l
  exact l
theorem k_gains_of {t r : List Nat} (h : Msgs n ms) (w : Way n ms t r) (hc : Calm F ms t r) (e : En) : runM N_gains_of.length ps_gains_of.length m_gains_of [facesD n F, msD ms, .tuple [mD t, mD r]] e = some (.ok ⟨.list [], true⟩ e) := runM_eq rfl rfl (by
  obtain ⟨q, l⟩ := loop_gain1 (F := F) h w hc (.vl (.tuple [mD t, mD r]))
  have f1 := run_for (mi := rng1M (toO (op1L lenF (readO 0)))) (e := [.vl (facesD n F), .vl (msD ms), .vl (.tuple [mD t, mD r]), .vl (mD t), .vl (mD r), .ow false [], .un, .un, .un, .un]) (by simp [rng1M, lenF, rngD_nat h.nle]) l
  refine ret_of (e1 := [.vl (facesD n F), .vl (msD ms), .vl (.tuple [mD t, mD r]), .vl (mD t), .vl (mD r), .un, q.1.1, q.1.2, q.2.1, q.2.2]) ?_
  show m_gains_of [.vl (facesD n F), .vl (msD ms), .vl (.tuple [mD t, mD r]), .un, .un, .un, .un, .un, .un, .un] = _
  rw [m_gains_of, run_then (e1 := [.vl (facesD n F), .vl (msD ms), .vl (.tuple [mD t, mD r]), .vl (mD t), .vl (mD r), .un, .un, .un, .un, .un]) (by simp), run_then (e1 := [.vl (facesD n F), .vl (msD ms), .vl (.tuple [mD t, mD r]), .vl (mD t), .vl (mD r), .ow false [], .un, .un, .un, .un]) (by simp), run_then f1]
  exact run_thenR (run_ret (by simp)))
end
end Lw

set_option Elab.async false
set_option linter.all false
set_option maxRecDepth 100000
set_option maxHeartbeats 4000000
namespace Lw
open PySem PySem.Spec L2 Ev
section
variable {n : Nat} {F : Nat → Nat → Int} {m : List Nat} {s : Nat} {ms : List (List Nat)}
structure WayOk (n : Nat) (ms : List (List Nat)) (t r : List Nat) : Prop extends Way n ms t r where
  inT : ∀ p ∈ t.zipIdx, p.2 ∈ ms.getD p.1 []
  inR : ∀ p ∈ r.zip ms, p.1 ∈ p.2
theorem idx_msD {i : Nat} (hi : i < ms.length) : idxD (msD ms) (nD i) = some ⟨mD (ms.getD i []), false⟩ := by
  rw [idx_tup, atI_nat _ _ hi, List.getD_eq_getElem?_getD, List.getElem?_eq_getElem hi]
  rfl
theorem alls_true {α : Type} (l : List α) : allF [.list (l.map fun _ => PyData.bool true)] = some ⟨.bool true, false⟩ := by rw [alls_comp, all_true]
variable {t r : List Nat}
abbrev wayV (t r : List Nat) : PyData := .tuple ([t, r].map mD)
theorem l_way_0 (x y a b : Sl) : c_way_is_right_0 [x, y, .vl (wayV t r), a, b, .un, .un, .un, .un] = some (.ok ⟨.list ([t, r].map fun _ => .bool true), true⟩ [x, y, .vl (wayV t r), a, b, .un, .un, .un, .un]) := by
  rw [c_way_is_right_0, lc_t mD (fun b : Bool => PyData.bool b) (fun _ => some true) (xs := [t, r])]
  · simp
  · simp [seqM, itemsOf]
  · intro m hm
    exact ⟨[x, y, .vl (wayV t r), a, b, .vl (mD m), .un, .un, .un], by simp [turnM, isiD, isiF, PyData.isTuple], by simp⟩
  · exact (by decide : 2 ≤ most)
  · simp
theorem l_way_1 (w : Way n ms t r) (h : Msgs n ms) (x z b : Sl) : c_way_is_right_1 [x, .vl (msD ms), z, .vl (mD t), b, .un, .un, .un, .un] = some (.ok ⟨.list (t.map fun _ => .bool true), true⟩ [x, .vl (msD ms), z, .vl (mD t), b, .un, .un, .un, .un]) := by
  rw [c_way_is_right_1, lc_t nD (fun b : Bool => PyData.bool b) (fun _ => some true) (xs := t)]
  · simp
  · simp [seqM, itemsOf]
  · intro m hm
    exact ⟨[x, .vl (msD ms), z, .vl (mD t), b, .un, .vl (nD m), .un, .un], by simp [turnM, lenF, w.ta m hm], by simp⟩
  · exact big (by rw [w.tl]; exact h.nle)
  · simp
theorem l_way_2 (w : Way n ms t r) (h : Msgs n ms) (y z a : Sl) : c_way_is_right_2 [.vl (facesD n F), y, z, a, .vl (mD r), .un, .un, .un, .un] = some (.ok ⟨.list (r.map fun _ => .bool true), true⟩ [.vl (facesD n F), y, z, a, .vl (mD r), .un, .un, .un, .un]) := by
  rw [c_way_is_right_2, lc_t nD (fun b : Bool => PyData.bool b) (fun _ => some true) (xs := r)]
  · simp
  · simp [seqM, itemsOf]
  · intro m hm
    exact ⟨[.vl (facesD n F), y, z, a, .vl (mD r), .un, .un, .vl (nD m), .un], by simp [turnM, lenF, w.ra m hm], by simp⟩
  · exact big (by rw [w.rl]; exact h.len)
  · simp
theorem l_way_3 (w : WayOk n ms t r) (h : Msgs n ms) (x z b : Sl) : c_way_is_right_3 [x, .vl (msD ms), z, .vl (mD t), b, .un, .un, .un, .un] = some (.ok ⟨.list (t.zipIdx.map fun _ => .bool true), true⟩ [x, .vl (msD ms), z, .vl (mD t), b, .un, .un, .un, .un]) := by
  rw [c_way_is_right_3, lc_t (fun p : Nat × Nat => PyData.tuple [nD p.2, nD p.1]) (fun b : Bool => PyData.bool b) (fun _ => some true) (xs := t.zipIdx)]
  · simp
  · simp [enumM, seqM, itemsOf]
  · intro p hp
    have h1 : p.1 < ms.length := w.ta _ (by
      obtain ⟨a, i⟩ := p
      exact List.fst_mem_of_mem_zipIdx hp)
    have h2 := w.inT p hp
    have h3 := idx_msD h1
    generalize ms.getD p.1 [] = m at *
    exact ⟨[x, .vl (msD ms), z, .vl (mD t), b, .un, .vl (nD p.1), .vl (nD p.2), .un], by simp [turnM, -idx_tup, h3, h2], by simp⟩
  · exact big (by rw [List.length_zipIdx, w.tl]; exact h.nle)
  · simp
theorem l_way_4 (w : WayOk n ms t r) (h : Msgs n ms) (x z a : Sl) : c_way_is_right_4 [x, .vl (msD ms), z, a, .vl (mD r), .un, .un, .un, .un] = some (.ok ⟨.list ((r.zip ms).map fun _ => .bool true), true⟩ [x, .vl (msD ms), z, a, .vl (mD r), .un, .un, .un, .un]) := by
  rw [c_way_is_right_4, lc_t (fun p : Nat × List Nat => PyData.tuple [nD p.1, mD p.2]) (fun b : Bool => PyData.bool b) (fun _ => some true) (xs := r.zip ms)]
  · simp
  · simp [zipM, itemsOf, List.zip_eq_zipWith, List.map_zipWith]
  · intro p hp
    exact ⟨[x, .vl (msD ms), z, a, .vl (mD r), .un, .un, .vl (nD p.1), .vl (mD p.2)], by simp [turnM, w.inR p hp], by simp⟩
  · exact zip_len (by rw [w.rl]; exact h.len)
  · simp
theorem k_way_is_right (w : WayOk n ms t r) (h : Msgs n ms) (e : En) : runM N_way_is_right.length ps_way_is_right.length m_way_is_right [facesD n F, msD ms, wayV t r] e = some (.ok ⟨.bool true, false⟩ e) := runM_eq rfl rfl (by
  refine ret_of (e1 := [.vl (facesD n F), .vl (msD ms), .vl (wayV t r), .vl (mD t), .vl (mD r), .un, .un, .un, .un]) ?_
  show m_way_is_right [.vl (facesD n F), .vl (msD ms), .vl (wayV t r), .un, .un, .un, .un, .un, .un] = _
  have s1 : ifM (Ev.orM (Ev.notM (asB (op1 (isiD "tuple") (readO 2)))) (Ev.orM (asB (op2 (cmpD .ne) (toO (op1L lenF (readO 2))) (toO (pure ⟨.int 2, false⟩)))) (Ev.notM (asB (op1L allF (toO (c_way_is_right_0))))))) (thenM (retM (pure ⟨.bool false, false⟩)) (pure .nx)) (pure .nx) [.vl (facesD n F), .vl (msD ms), .vl (wayV t r), .un, .un, .un, .un, .un, .un] = some (.ok .nx [.vl (facesD n F), .vl (msD ms), .vl (wayV t r), .un, .un, .un, .un, .un, .un]) := by
    have l := l_way_0 (t := t) (r := r) (.vl (facesD n F)) (.vl (msD ms)) .un .un
    have e1 : allF [.list ([t, r].map fun _ => PyData.bool true)] = some ⟨.bool true, false⟩ := alls_true _
    simp only [List.map_cons, List.map_nil] at l e1 ⊢
    simp [isiD, isiF, PyData.isTuple, lenF, l, e1]
  have s2 : bindM (readV 2) (tupT 2 (consM (nameM 3) (consM (nameM 4) (nilM)))) [.vl (facesD n F), .vl (msD ms), .vl (wayV t r), .un, .un, .un, .un, .un, .un] = some (.ok .nx [.vl (facesD n F), .vl (msD ms), .vl (wayV t r), .vl (mD t), .vl (mD r), .un, .un, .un, .un]) := by simp
  rw [m_way_is_right, run_then s1, run_then s2,
    run_then (e1 := [.vl (facesD n F), .vl (msD ms), .vl (wayV t r), .vl (mD t), .vl (mD r), .un, .un, .un, .un]) (by simp [lenF, w.tl, w.rl]),
    run_then (e1 := [.vl (facesD n F), .vl (msD ms), .vl (wayV t r), .vl (mD t), .vl (mD r), .un, .un, .un, .un]) (by simp [l_way_1 w.toWay h, -alls_comp, alls_true]),
    run_then (e1 := [.vl (facesD n F), .vl (msD ms), .vl (wayV t r), .vl (mD t), .vl (mD r), .un, .un, .un, .un]) (by simp [l_way_2 w.toWay h, -alls_comp, alls_true]),
    run_then (e1 := [.vl (facesD n F), .vl (msD ms), .vl (wayV t r), .vl (mD t), .vl (mD r), .un, .un, .un, .un]) (by simp [l_way_3 w h, -alls_comp, alls_true])]
  exact run_thenR (run_ret (by simp [l_way_4 w h, -alls_comp, alls_true])))
end
end Lw

set_option Elab.async false
set_option linter.all false
set_option maxRecDepth 100000
set_option maxHeartbeats 4000000
namespace Lw
open PySem PySem.Spec L2 Ev
/-- a run with a lent list -/
def RetP (m : M Fl) (e : En) (r : RV) (ds : List PyData) : Prop := ∃ e2, m e = some (.ok (.rt r) e2) ∧ lentD e2 = some ds
theorem runPM_eq {i n np : Nat} {m : M Fl} {ds ds0 ds1 : List PyData} {b : Bool} {r : RV} {e env : En} (hi : e[i]? = some (.ow b ds0)) (hl : ds.length + 1 = np) (he : .ow true ds0 :: (ds.map Sl.vl ++ List.replicate (n - np) Sl.un) = env) (h : RetP m env r ds1) : runPM i n np m ds e = some (.ok r (e.set i (.ow b ds1))) := by
  obtain ⟨e2, h1, h2⟩ := h
  subst he
  unfold runPM
  rw [hi]
  simp only [hl, if_true, h1, h2, Option.map_some]
/-- the pot: two numbers -/
abbrev potL (a b : Int) : List PyData := [.int a, .int b]
theorem pot0 (a b : Int) : idxD (.list (potL a b)) (.int 0) = some ⟨.int a, false⟩ := rfl
theorem pot1 (a b : Int) : idxD (.list (potL a b)) (.int 1) = some ⟨.int b, false⟩ := rfl
theorem set0 (a b c : Int) : ((ixN (potL a b).length 0).map fun n => (potL a b).set n (.int c)) = some (potL c b) := rfl
theorem set1 (a b c : Int) : ((ixN (potL a b).length 1).map fun n => (potL a b).set n (.int c)) = some (potL a c) := rfl
theorem mod_nat {x : Int} {k : Nat} (hk : 1 ≤ k) : ∃ v : Nat, v < k ∧ modD (.int x) (nD k) = some ⟨nD v, false⟩ := by
  have k0 : (k : Int) ≠ 0 := by omega
  have h1 : 0 ≤ x.fmod k := Int.fmod_nonneg_of_pos x (by omega)
  have h2 : x.fmod k < k := Int.fmod_lt_of_pos x (by omega)
  refine ⟨(x.fmod k).toNat, by omega, ?_⟩
  show (if (k : Int) ≠ 0 then lit (.int (x.fmod k)) else none) = _
  rw [if_pos k0]
  congr 3
  exact (Int.toNat_of_nonneg h1).symm
theorem div_nat {x : Int} {k : Nat} (hk : 1 ≤ k) (hk2 : k ≤ 1000) : fdivD (.int x) (nD k) = some ⟨.int (x.fdiv k), false⟩ := by
  show (if ((k : Int) ≠ 0 ∧ (k : Int).natAbs < 1073741824) ∨ (0 < (k : Int) ∧ (k : Int).natAbs.log2 < 9000) then lit (.int (x.fdiv k)) else none) = _
  rw [if_pos (.inl ⟨by omega, by omega⟩)]
theorem draw_big {a b : Int} {k : Nat} (ha : 0 < a) (hk : 1 ≤ k) (hk2 : k ≤ 1000) : ∃ (v : Nat) (a' : Int), v < k ∧ RetP m__law_draw [.ow true (potL a b), .vl (nD k), .un] ⟨nD v, false⟩ (potL a' b) := by
  obtain ⟨v, hv, e1⟩ := mod_nat (x := a) hk
  have e2 := div_nat (x := a) hk hk2
  have p0 := pot0 a b
  have w0 := set0 a b (a.fdiv k)
  refine ⟨v, a.fdiv k, hv, [.ow true (potL (a.fdiv k) b), .vl (nD k), .vl (nD v)], ?_, rfl⟩
  rw [m__law_draw]
  refine run_thenR ?_
  generalize potL a b = q at *
  generalize potL (a.fdiv k) b = q2 at *
  rw [run_if (e1 := [.ow true q, .vl (nD k), .un]) (t := true) (by simp [p0, gtD, ha]), if_pos rfl,
    run_then (e1 := [.ow true q, .vl (nD k), .vl (nD v)]) (by simp [p0, intF, e1]),
    run_then (e1 := [.ow true q2, .vl (nD k), .vl (nD v)]) (by simp [p0, intF, e2, subT, intO, w0])]
  exact run_thenR (run_ret (by simp))
theorem log_lt {x : Int} (h0 : 0 ≤ x) (h : x < 4294967296) : x.natAbs.log2 ≤ 32 := by
  by_cases z : x.natAbs = 0
  · rw [z]; decide
  · have : x.natAbs.log2 < 33 := (Nat.log2_lt z).mpr (by omega)
    omega
theorem mul_ok {x y : Int} (h0 : 0 ≤ x) (h : x < 4294967296) (g0 : 0 ≤ y) (g : y < 4294967296) : mulD (.int x) (.int y) = some ⟨.int (x * y), false⟩ := by
  have a := log_lt h0 h
  have b := log_lt g0 g
  show (if x.natAbs.log2 + y.natAbs.log2 < 1000000 then lit (.int (x * y)) else none) = _
  rw [if_pos (by omega)]
theorem add_ok (x y : Int) : addD (.int x) (.int y) = some ⟨.int (x + y), false⟩ := rfl
theorem mod_ok {x y : Int} (h : 0 < y) : modD (.int x) (.int y) = some ⟨.int (x.fmod y), false⟩ := by
  show (if y ≠ 0 then lit (.int (x.fmod y)) else none) = _
  rw [if_pos (by omega)]
theorem fdiv_ok {x y : Int} (h : 0 < y) (h2 : y < 1000) : fdivD (.int x) (.int y) = some ⟨.int (x.fdiv y), false⟩ := by
  show (if (y ≠ 0 ∧ y.natAbs < 1073741824) ∨ (0 < y ∧ y.natAbs.log2 < 9000) then lit (.int (x.fdiv y)) else none) = _
  rw [if_pos (.inl ⟨by omega, by omega⟩)]
theorem draw_small {a b : Int} {k : Nat} (ha : ¬ 0 < a) (b0 : 0 ≤ b) (b1 : b < 4294967296) (hk : 1 ≤ k) : ∃ (v : Nat) (b' : Int), v < k ∧ 0 ≤ b' ∧ b' < 4294967296 ∧ RetP m__law_draw [.ow true (potL a b), .vl (nD k), .un] ⟨nD v, false⟩ (potL a b') := by
  have c0 : 0 ≤ (b * 39373 + 4177).fmod 2147483549 := Int.fmod_nonneg_of_pos _ (by decide)
  have c1 : (b * 39373 + 4177).fmod 2147483549 < 2147483549 := Int.fmod_lt_of_pos _ (by decide)
  have m1 := mul_ok b0 b1 (y := 39373) (by decide) (by decide)
  have a1 := add_ok (b * 39373) 4177
  have o1 := mod_ok (x := b * 39373 + 4177) (y := 2147483549) (by decide)
  generalize (b * 39373 + 4177).fmod 2147483549 = c at *
  have m2 := mul_ok c0 (by omega) c0 (by omega)
  have o2 := mod_ok (x := c * c) (y := 2147483563) (by decide)
  have f2 := fdiv_ok (x := (c * c).fmod 2147483563) (y := 19) (by decide) (by decide)
  obtain ⟨v, hv, e1⟩ := mod_nat (x := ((c * c).fmod 2147483563).fdiv 19) hk
  have p0 := pot0 a b
  have p1 := pot1 a b
  have p2 := pot1 a c
  have w0 := set1 a b c
  refine ⟨v, c, hv, c0, by omega, [.ow true (potL a c), .vl (nD k), .un], ?_, rfl⟩
  rw [m__law_draw]
  generalize b * 39373 + 4177 = x1 at *
  generalize b * 39373 = x2 at *
  generalize ((c * c).fmod 2147483563).fdiv 19 = x3 at *
  generalize (c * c).fmod 2147483563 = x4 at *
  generalize c * c = x5 at *
  generalize potL a b = q at *
  generalize potL a c = q2 at *
  rw [run_then (e1 := [.ow true q, .vl (nD k), .un]) (by
      rw [run_if (e1 := [.ow true q, .vl (nD k), .un]) (t := false) (by simp [p0, gtD]; omega), if_neg (by simp)]
      exact (rfl)),
    run_then (e1 := [.ow true q2, .vl (nD k), .un]) (by simp [p1, intF, m1, a1, o1, subT, intO, w0])]
  exact run_thenR (run_ret (by simp [p2, intF, m2, o2, f2, e1]))
/-- a pot that may be drawn from -/
structure Pot (a b : Int) : Prop where
  b0 : 0 ≤ b
  b1 : b < 4294967296
theorem draw_run {a b : Int} {k : Nat} (p : Pot a b) (hk : 1 ≤ k) (hk2 : k ≤ 1000) : ∃ (v : Nat) (a' b' : Int), v < k ∧ Pot a' b' ∧ RetP m__law_draw [.ow true (potL a b), .vl (nD k), .un] ⟨nD v, false⟩ (potL a' b') := by
  by_cases ha : 0 < a
  · obtain ⟨v, a', h1, h2⟩ := draw_big (b := b) ha hk hk2
    exact ⟨v, a', b, h1, ⟨p.b0, p.b1⟩, h2⟩
  · obtain ⟨v, b', h1, h2, h3, h4⟩ := draw_small ha p.b0 p.b1 hk
    exact ⟨v, a, b', h1, ⟨h2, h3⟩, h4⟩
/-- a draw, wherever the pot lies -/
theorem k_draw {a b : Int} {k i : Nat} {c : Bool} {e : En} (p : Pot a b) (hk : 1 ≤ k) (hk2 : k ≤ 1000) (hi : e[i]? = some (.ow c (potL a b))) : ∃ (v : Nat) (a' b' : Int), v < k ∧ Pot a' b' ∧ runPM i N__law_draw.length ps__law_draw.length m__law_draw [nD k] e = some (.ok ⟨nD v, false⟩ (e.set i (.ow c (potL a' b')))) := by
  obtain ⟨v, a', b', h1, h2, h3⟩ := draw_run p hk hk2
  exact ⟨v, a', b', h1, h2, runPM_eq hi rfl rfl h3⟩
end Lw

set_option Elab.async false
set_option linter.all false
set_option maxRecDepth 100000
set_option maxHeartbeats 4000000
namespace Lw
open PySem PySem.Spec L2 Ev
theorem cell_run (nums : List Int) (a b : Sl) : ∃ c : Int, 0 ≤ c ∧ setM 2 (frzM (iteM (asB (op2 (cmpD .lt) (readO 1) (toO (op1L lenF (readO 0))))) (op1L absF (toO (op2 idxD (readO 0) (readO 1)))) (op2 addD (toO (op2 mulD (toO (pure ⟨.int 613, false⟩)) (readO 1))) (toO (pure ⟨.int 859, false⟩))))) [.vl (.list (nums.map PyData.int)), .vl (.int 0), a, b] = some (.ok .nx [.vl (.list (nums.map PyData.int)), .vl (.int 0), .vl (.int c), b]) := by
  cases nums with
  | nil =>
    refine ⟨859, by decide, ?_⟩
    have m1 : mulD (.int 613) (.int 0) = some ⟨.int 0, false⟩ := by
      show (if (613 : Int).natAbs.log2 + (0 : Int).natAbs.log2 < 1000000 then lit (.int (613 * 0)) else none) = _
      rw [if_pos (by decide)]
      rfl
    have a1 := add_ok 0 859
    simp [lenF, ltD, m1, a1]
  | cons x xs =>
    have i1 : idxD (.list ((x :: xs).map PyData.int)) (.int 0) = some ⟨.int x, false⟩ := by rw [idx_lst, atI_zero]; rfl
    have l1 : lenF [.list ((x :: xs).map PyData.int)] = some ⟨.int ((xs.length : Int) + 1), false⟩ := by simp [lenF]
    have g : (0 : Int) < (xs.length : Int) + 1 := by omega
    generalize PyData.list ((x :: xs).map PyData.int) = z at *
    refine ⟨if x < 0 then -x else x, by split <;> omega, ?_⟩
    simp [l1, i1, ltD, g, absF]
theorem r__law_pot (nums : List Int) : ∃ a b : Int, Pot a b ∧ Ret m__law_pot [.vl (.list (nums.map PyData.int)), .vl (.int 0), .un, .un] ⟨.list (potL a b), true⟩ := by
  obtain ⟨c, c0, s1⟩ := cell_run nums .un .un
  have d0 : 0 ≤ c.fmod 2147483549 := Int.fmod_nonneg_of_pos _ (by decide)
  have d1 : c.fmod 2147483549 < 2147483549 := Int.fmod_lt_of_pos _ (by decide)
  have o1 := mod_ok (x := c) (y := 2147483549) (by decide)
  generalize c.fmod 2147483549 = d at *
  have m1 := mul_ok d0 (by omega) (y := 39373) (by decide) (by decide)
  have m2 := mul_ok (x := 4177) (y := 0) (by decide) (by decide) (by decide) (by decide)
  have a1 := add_ok (d * 39373) (4177 * 0)
  have a2 := add_ok (d * 39373 + 4177 * 0) 101
  have f0 : 0 ≤ (d * 39373 + 4177 * 0 + 101).fmod 2147483563 := Int.fmod_nonneg_of_pos _ (by decide)
  have f1 : (d * 39373 + 4177 * 0 + 101).fmod 2147483563 < 2147483563 := Int.fmod_lt_of_pos _ (by decide)
  have o2 := mod_ok (x := d * 39373 + 4177 * 0 + 101) (y := 2147483563) (by decide)
  generalize (d * 39373 + 4177 * 0 + 101).fmod 2147483563 = g at *
  have a3 := add_ok g 1
  generalize d * 39373 + 4177 * 0 + 101 = y1 at *
  generalize d * 39373 + 4177 * 0 = y2 at *
  generalize d * 39373 = y3 at *
  have s2 : setM 3 (frzM (op2 addD (toO (op2 modD (toO (op1L intF (toO (op2 addD (toO (op2 addD (toO (op2 mulD (toO (op2 modD (toO (op1L intF (readO 2))) (toO (pure ⟨.int 2147483549, false⟩)))) (toO (pure ⟨.int 39373, false⟩)))) (toO (op2 mulD (toO (pure ⟨.int 4177, false⟩)) (readO 1))))) (toO (pure ⟨.int 101, false⟩)))))) (toO (pure ⟨.int 2147483563, false⟩)))) (toO (pure ⟨.int 1, false⟩)))) [.vl (.list (nums.map PyData.int)), .vl (.int 0), .vl (.int c), .un] = some (.ok .nx [.vl (.list (nums.map PyData.int)), .vl (.int 0), .vl (.int c), .vl (.int (g + 1))]) := by
    generalize PyData.list (nums.map PyData.int) = z at *
    generalize (4177 : Int) * 0 = y4 at *
    simp [intF, o1, m1, m2, a1, a2, o2, a3]
  have p18 : powD (.int 10) (.int 18) = some ⟨.int 1000000000000000000, false⟩ := by rfl
  refine ⟨if c - 1000000000000000000 > 0 then c - 1000000000000000000 else 0, g + 1, ⟨by omega, by omega⟩, ?_⟩
  have sb : subD (.int c) (.int 1000000000000000000) = some ⟨.int (c - 1000000000000000000), false⟩ := rfl
  have mx : maxF [.int 0, .int (c - 1000000000000000000)] = some ⟨.int (if c - 1000000000000000000 > 0 then c - 1000000000000000000 else 0), false⟩ := rfl
  refine ret_of (e1 := [.vl (.list (nums.map PyData.int)), .vl (.int 0), .vl (.int c), .vl (.int (g + 1))]) ?_
  generalize (if c - 1000000000000000000 > 0 then c - 1000000000000000000 else 0) = w at *
  generalize c - 1000000000000000000 = w2 at *
  rw [m__law_pot, run_then s1, run_then s2]
  generalize PyData.list (nums.map PyData.int) = z at *
  exact run_thenR (run_ret (by simp [p18, sb, mx]))
end Lw

set_option Elab.async false
set_option linter.all false
set_option maxRecDepth 100000
set_option maxHeartbeats 4000000
namespace Lw
open PySem PySem.Spec L2 Ev
/-- the rings longer by one -/
def rstep (n : Nat) (t : List Nat) : List (List Nat) := (((List.range (n - (t.headD 0 + 1))).map fun k => t.headD 0 + 1 + k).filter fun a => decide (a ∉ t)).map fun a => t ++ [a]
def rline (n : Nat) : Nat → List (List Nat)
  | 0 => (List.range n).map fun i => [i]
  | k + 1 => (rline n k).flatMap (rstep n)
def ringL (n : Nat) : List (List Nat) := (List.range (n - 1)).flatMap fun k => rline n (k + 1)
theorem rng2_nat {a n : Nat} (ha : a ≤ 100) (hn : n ≤ 100) : rngD [nD (a + 1), nD n] = some (((List.range (n - (a + 1))).map fun k => a + 1 + k).map nD) := by
  show (if -1000000 < ((a + 1 : Nat) : Int) ∧ ((a + 1 : Nat) : Int) < 1000000 ∧ -1000000 < (n : Int) ∧ (n : Int) < 1000000 then some (rngI ((a + 1 : Nat) : Int) (((n : Int) - ((a + 1 : Nat) : Int)).toNat)) else none) = _
  rw [if_pos (by omega), show ((n : Int) - ((a + 1 : Nat) : Int)).toNat = n - (a + 1) by omega]
  simp [rngI, Function.comp_def]
section
variable {n : Nat}
theorem l_rings_of_0 (h4 : n ≤ 100) (a b c d e : Sl) : c_rings_of_0 [.vl (nD n), a, b, c, d, e, .un] = some (.ok ⟨lmD (rline n 0), true⟩ [.vl (nD n), a, b, c, d, e, .un]) := by
  rw [c_rings_of_0, lc_t nD mD (fun i => some [i]) (xs := List.range n)]
  · simp [rline, Function.comp_def]
  · simp [rng1M, rngD_nat h4]
  · intro i hi
    exact ⟨[.vl (nD n), a, b, c, d, e, .vl (nD i)], by simp [turnM], by simp⟩
  · exact big (by simpa using h4)
  · simp
theorem l_rings_of_1 {t : List Nat} (hn : n ≤ 100) (t0 : t ≠ []) (tl : t.length ≤ 100) (tm : ∀ a ∈ t, a ≤ 100) (a b c d : Sl) : c_rings_of_1 [.vl (nD n), a, b, c, d, .vl (mD t), .un] = some (.ok ⟨lmD (rstep n t), true⟩ [.vl (nD n), a, b, c, d, .vl (mD t), .un]) := by
  obtain ⟨x, xs, rfl⟩ := List.exists_cons_of_ne_nil t0
  have i1 : idxD (mD (x :: xs)) (.int 0) = some ⟨nD x, false⟩ := by rw [idx_tup, atI_zero]; rfl
  have a1 : addD (nD x) (.int 1) = some ⟨nD (x + 1), false⟩ := add_ok x 1
  have r1 := rng2_nat (tm x List.mem_cons_self) hn
  rw [c_rings_of_1, lc_t nD mD (fun k => if k ∉ x :: xs then some ((x :: xs) ++ [k]) else none) (xs := (List.range (n - (x + 1))).map fun k => x + 1 + k)]
  · simp [rstep, Function.comp_def, List.filter_map]
  · generalize mD (x :: xs) = z at *
    simp [rng2M, i1, a1, r1]
  · intro k hk
    refine ⟨[.vl (nD n), a, b, c, d, .vl (mD (x :: xs)), .vl (nD k)], ?_, by simp⟩
    have g : (x :: xs).length + [k].length ≤ most := by unfold most; simp only [List.length_singleton]; omega
    have a2 := addD_mD g
    have q := notin_mD k (x :: xs)
    generalize (x :: xs) = t at *
    by_cases h : k ∈ t <;> simp [turnM, h, show addD (mD t) (.tuple [nD k]) = some ⟨mD (t ++ [k]), false⟩ from a2]
  · exact big (by simp; omega)
  · simp
end
end Lw

set_option Elab.async false
set_option linter.all false
set_option maxRecDepth 100000
set_option maxHeartbeats 4000000
namespace Lw
open PySem PySem.Spec L2 Ev
/-- a line of rings -/
structure Line (n : Nat) (line : List (List Nat)) : Prop where
  ne : ∀ t ∈ line, t ≠ []
  len : ∀ t ∈ line, t.length ≤ 100
  lt : ∀ t ∈ line, ∀ a ∈ t, a ≤ 100
section
variable {n : Nat}
theorem rstep_len {t : List Nat} : (rstep n t).length ≤ n := by
  unfold rstep
  rw [List.length_map]
  refine Nat.le_trans (List.length_filter_le _ _) ?_
  simp
theorem l_b_rings_of_0 {t : List Nat} {acc : List (List Nat)} (hn : n ≤ 100) (t0 : t ≠ []) (tl : t.length ≤ 100) (tm : ∀ a ∈ t, a ≤ 100) (a b c y : Sl) (hz : acc.length + n ≤ most) :
    b_rings_of_0 (mD t) [.vl (nD n), a, b, c, .ow false (acc.map mD), y, .un] = some (.ok .nx [.vl (nD n), a, b, c, .ow false ((acc ++ rstep n t).map mD), .vl (mD t), .un]) := by
  have g : acc.length + (rstep n t).length ≤ most := by have := rstep_len (n := n) (t := t); omega
  simp [b_rings_of_0, bodyM, extM, l_rings_of_1 hn t0 tl tm a b c, itL, g]
theorem fold_ring : ∀ (line acc : List (List Nat)) (y : Sl), (line.foldl (fun (s : List (List Nat) × Sl) t => (s.1 ++ rstep n t, Sl.vl (mD t))) (acc, y)).1 = acc ++ line.flatMap (rstep n)
  | [], acc, y => by simp
  | t :: line, acc, y => by
    rw [List.foldl_cons, fold_ring line]
    simp
theorem inner_ring {line : List (List Nat)} (a b c y : Sl) (hn : n ≤ 100) (hl : Line n line) (hz : line.length * n + n ≤ most) :
    ∃ y', forGo b_rings_of_0 (line.map mD) [.vl (nD n), a, b, c, .ow false [], y, .un] = some (.ok .nx [.vl (nD n), a, b, c, .ow false ((line.flatMap (rstep n)).map mD), y', .un]) := by
  have := for_fold (step := b_rings_of_0) mD (fun (s : List (List Nat) × Sl) => [.vl (nD n), a, b, c, .ow false (s.1.map mD), s.2, .un]) (fun s t => (s.1 ++ rstep n t, .vl (mD t))) (fun s xs => Line n xs ∧ s.1.length + xs.length * n + n ≤ most) line ([], y) ⟨hl, by simpa using hz⟩ (fun t xs s h => by
    obtain ⟨h1, h2⟩ := h
    simp only [List.length_cons, Nat.succ_mul] at h2
    refine ⟨l_b_rings_of_0 hn (h1.ne t List.mem_cons_self) (h1.len t List.mem_cons_self) (h1.lt t List.mem_cons_self) a b c s.2 (by omega), ⟨fun u hu => h1.ne u (List.mem_cons_of_mem _ hu), fun u hu => h1.len u (List.mem_cons_of_mem _ hu), fun u hu => h1.lt u (List.mem_cons_of_mem _ hu)⟩, ?_⟩
    have := rstep_len (n := n) (t := t)
    simp only [List.length_append]
    omega)
  obtain ⟨h1, _⟩ := this
  exact ⟨_, by rw [show ([.vl (nD n), a, b, c, .ow false [], y, .un] : En) = (fun (s : List (List Nat) × Sl) => [.vl (nD n), a, b, c, .ow false (s.1.map mD), s.2, .un]) ([], y) from rfl, h1, fold_ring]; rfl⟩
theorem l_b_rings_of_1 {line found : List (List Nat)} (k : Nat) (c d y : Sl) (hn : n ≤ 100) (hl : Line n line) (hz : line.length * n + n ≤ most)
    (hq : [] ∉ line.flatMap (rstep n)) (hs : (line.flatMap (rstep n)).Pairwise fun a b => ltL b a = false) (hf : found.length + (line.flatMap (rstep n)).length ≤ most) (hm : (line.flatMap (rstep n)).length ≤ most) :
    ∃ y', b_rings_of_1 (nD k) [.vl (nD n), .ow false (found.map mD), .vl (lmD line), c, d, y, .un] = some (.ok .nx [.vl (nD n), .ow false ((found ++ line.flatMap (rstep n)).map mD), .vl (lmD (line.flatMap (rstep n))), .vl (nD k), .ow false ((line.flatMap (rstep n)).map mD), y', .un]) := by
  obtain ⟨y', h⟩ := inner_ring (.ow false (found.map mD)) (.vl (lmD line)) (.vl (nD k)) y hn hl hz
  have s := sortedF_rows hq hm (List.Perm.refl _) hs
  generalize line.flatMap (rstep n) = nw at *
  exact ⟨y', by simp [b_rings_of_1, bodyM, Ev.forM, seqM, itemsOf, h, s, extM, itL, hf]⟩
end
end Lw

set_option Elab.async false
set_option linter.all false
set_option maxRecDepth 100000
set_option maxHeartbeats 4000000
namespace Lw
open PySem PySem.Spec L2 Ev
def lineOk (n : Nat) (line : List (List Nat)) : Bool := line.all (fun t => !decide (t = []) && decide (t.length ≤ 4) && t.all fun a => decide (a ≤ 4)) && decide (line.length ≤ 100)
def nextOk (n : Nat) (line : List (List Nat)) : Bool := decide ([] ∉ line.flatMap (rstep n)) && decide ((line.flatMap (rstep n)).length ≤ 100) && decide ((line.flatMap (rstep n)).Pairwise fun a b => ltL b a = false)
theorem line_of {n : Nat} {line : List (List Nat)} (h : lineOk n line = true) : Line n line ∧ line.length ≤ 100 := by
  simp only [lineOk, Bool.and_eq_true, List.all_eq_true, decide_eq_true_eq, Bool.not_eq_true', decide_eq_false_iff_not] at h
  refine ⟨⟨fun t ht => (h.1 t ht).1.1, fun t ht => Nat.le_trans (h.1 t ht).1.2 (by decide), fun t ht a ha => Nat.le_trans ((h.1 t ht).2 a ha) (by decide)⟩, h.2⟩
theorem ring_loop {n : Nat} (hn : n ≤ 4) : ∀ (ks : List Nat) (k0 : Nat) (found : List (List Nat)) (c d y : Sl), found.length + ks.length * 100 ≤ 1000 → (∀ k, k0 ≤ k → k < k0 + ks.length → lineOk n (rline n k) = true ∧ nextOk n (rline n k) = true) →
    ∃ c' d' y', forGo b_rings_of_1 (ks.map nD) [.vl (nD n), .ow false (found.map mD), .vl (lmD (rline n k0)), c, d, y, .un] = some (.ok .nx [.vl (nD n), .ow false ((found ++ (List.range ks.length).flatMap fun j => rline n (k0 + j + 1)).map mD), .vl (lmD (rline n (k0 + ks.length))), c', d', y', .un])
  | [], k0, found, c, d, y, _, _ => ⟨c, d, y, by simp [forGo]⟩
  | k :: ks, k0, found, c, d, y, hf, ok => by
    obtain ⟨o1, o2⟩ := ok k0 (Nat.le_refl _) (by simp)
    obtain ⟨l1, l2⟩ := line_of o1
    simp only [nextOk, Bool.and_eq_true, decide_eq_true_eq] at o2
    have m1 : (rline n k0).length * n ≤ 100 * 4 := Nat.mul_le_mul l2 hn
    simp only [List.length_cons] at hf
    obtain ⟨y', h⟩ := l_b_rings_of_1 (line := rline n k0) (found := found) k c d y (by omega) l1 (by unfold most; omega) o2.1.1 o2.2 (by unfold most; omega) (by unfold most; omega)
    obtain ⟨c2, d2, y2, h2⟩ := ring_loop hn ks (k0 + 1) (found ++ rline n (k0 + 1)) (.vl (nD k)) (.ow false ((rline n (k0 + 1)).map mD)) y' (by
      have : (rline n (k0 + 1)).length ≤ 100 := o2.1.2
      simp only [List.length_append]
      omega) (fun j j1 j2 => ok j (by omega) (by simp only [List.length_cons]; omega))
    refine ⟨c2, d2, y2, ?_⟩
    rw [List.map_cons]
    unfold forGo
    rw [run_bind, h, bndR_ok]
    refine Eq.trans h2 ?_
    have e : (found ++ rline n (k0 + 1)) ++ ((List.range ks.length).flatMap fun j => rline n (k0 + 1 + j + 1)) = found ++ (List.range (k :: ks).length).flatMap fun j => rline n (k0 + j + 1) := by
      rw [List.length_cons, List.range_succ_eq_map, List.flatMap_cons, List.append_assoc, List.flatMap_map]
      simp [Nat.add_assoc, Nat.add_comm 1]
    rw [e, show k0 + 1 + ks.length = k0 + (k :: ks).length by simp; omega]
end Lw

set_option Elab.async false
set_option linter.all false
set_option maxRecDepth 100000
set_option maxHeartbeats 4000000
namespace Lw
open PySem PySem.Spec L2 Ev
section
variable {n : Nat}
theorem lines_ok (h1 : 1 ≤ n) (h4 : n ≤ 4) : ∀ k, 0 ≤ k → k < 0 + (List.range (n - 1)).length → lineOk n (rline n k) = true ∧ nextOk n (rline n k) = true := by
  have := four (p := fun n => ∀ k, k < n - 1 → lineOk n (rline n k) = true ∧ nextOk n (rline n k) = true) h1 h4 (by decide +kernel) (by decide +kernel) (by decide +kernel) (by decide +kernel)
  intro k _ hk
  exact this k (by simpa using hk)
theorem r_rings_of (h1 : 1 ≤ n) (h4 : n ≤ 4) : Ret m_rings_of [.vl (nD n), .un, .un, .un, .un, .un, .un] ⟨lmD (ringL n), true⟩ := by
  obtain ⟨c, d, y, h⟩ := ring_loop h4 (List.range (n - 1)) 0 [] .un .un .un (by simp; omega) (lines_ok h1 h4)
  have s1 : subD (nD n) (.int 1) = some ⟨nD (n - 1), false⟩ := by
    show some (⟨.int ((n : Int) - 1), false⟩ : RV) = _
    rw [show ((n : Int) - 1) = ((n - 1 : Nat) : Int) by omega]
  have e : (([] : List (List Nat)) ++ (List.range (List.range (n - 1)).length).flatMap fun j => rline n (0 + j + 1)) = ringL n := by simp [ringL]
  rw [e] at h
  refine ret_of (e1 := [.vl (nD n), .un, .vl (lmD (rline n (0 + (List.range (n - 1)).length))), c, d, y, .un]) ?_
  have f := run_for (mi := rng1M (toO (op2 subD (readO 0) (toO (pure ⟨.int 1, false⟩))))) (step := b_rings_of_1) (e := [.vl (nD n), .ow false [], .vl (lmD (rline n 0)), .un, .un, .un, .un]) (by simp [rng1M, s1, rngD_nat (show n - 1 ≤ 100 by omega)]) h
  have l := l_rings_of_0 (show n ≤ 100 by omega) .un .un .un .un .un
  generalize rline n 0 = z at *
  generalize rline n (0 + (List.range (n - 1)).length) = z2 at *
  rw [m_rings_of, run_then (e1 := [.vl (nD n), .ow false [], .vl (lmD z), .un, .un, .un, .un]) (by simp [l]), run_then f]
  exact run_thenR (run_ret (by simp))
theorem k_rings_of (h1 : 1 ≤ n) (h4 : n ≤ 4) (e : En) : runM N_rings_of.length ps_rings_of.length m_rings_of [nD n] e = some (.ok ⟨lmD (ringL n), true⟩ e) := runM_eq rfl rfl (r_rings_of h1 h4)
end
end Lw

set_option Elab.async false
set_option linter.all false
set_option maxRecDepth 100000
set_option maxHeartbeats 4000000
namespace Lw
open PySem PySem.Spec L2 Ev
/-- neighbours on a ring -/
def around (t : List Nat) : List (Nat × Nat) := t.zip (t.drop 1 ++ t.take 1)
def envyB (F : Nat → Nat → Int) (t : List Nat) : Bool := (around t).all fun p => decide (F p.1 p.1 < F p.1 p.2)
theorem slc_hi (t : List Nat) : slcD none (some 1) (mD t) = some ⟨mD (t.take 1), false⟩ := by
  show lit (.tuple (cutD (t.map nD) none (some 1))) = _
  have : cutD (t.map nD) none (some 1) = (t.take 1).map nD := by
    unfold cutD
    cases t with
    | nil => rfl
    | cons x m =>
      have e1 : HT.sIx ((x :: m).map nD).length ((x :: m).map nD).length (some 1) = 1 := by simp [HT.sIx]
      have e2 : HT.sIx ((x :: m).map nD).length 0 none = 0 := rfl
      rw [e1, e2]
      simp
  rw [this]
section
variable {n : Nat} {F : Nat → Nat → Int}
theorem ring_facts (h1 : 1 ≤ n) (h4 : n ≤ 4) : ∀ t ∈ ringL n, t.length ≤ 4 ∧ ∀ s ∈ t, s < n := four (p := fun n => ∀ t ∈ ringL n, t.length ≤ 4 ∧ ∀ s ∈ t, s < n) h1 h4 (by decide +kernel) (by decide +kernel) (by decide +kernel) (by decide +kernel)
theorem around_mem {t : List Nat} {p : Nat × Nat} (h : p ∈ around t) : p.1 ∈ t ∧ p.2 ∈ t := by
  obtain ⟨a, b⟩ := p
  have h1 := List.of_mem_zip h
  refine ⟨h1.1, ?_⟩
  rcases List.mem_append.mp h1.2 with h2 | h2
  · exact List.mem_of_mem_drop h2
  · exact List.mem_of_mem_take h2
theorem l_ring_by_0 {t : List Nat} (tl : t.length ≤ 4) (tm : ∀ s ∈ t, s < n) : c_ring_by_0 [.vl (facesD n F), .vl (mD t), .un, .un] = some (.ok ⟨.list ((around t).map fun p => .bool (decide (F p.1 p.1 < F p.1 p.2))), true⟩ [.vl (facesD n F), .vl (mD t), .un, .un]) := by
  have g : (t.drop 1).length + (t.take 1).length ≤ most := by unfold most; simp only [List.length_drop, List.length_take]; omega
  rw [c_ring_by_0, lc_t (fun p : Nat × Nat => PyData.tuple [nD p.1, nD p.2]) PyData.bool (fun p => some (decide (F p.1 p.1 < F p.1 p.2))) (xs := around t)]
  · simp
  · have sl : slcD (some 1) none (mD t) = some ⟨mD (t.drop 1), false⟩ := slc_tail nD t
    have sh := slc_hi t
    have ad := addD_mD g
    have z1 : List.zipWith (fun d e => PyData.tuple [d, e]) (t.map nD) ((t.drop 1 ++ t.take 1).map nD) = (around t).map fun p => PyData.tuple [nD p.1, nD p.2] := by
      unfold around
      generalize t.drop 1 ++ t.take 1 = u
      simp [List.zip_eq_zipWith, List.map_zipWith, List.zipWith_map]
    have i1 : itemsOf (mD t) = some (t.map nD) := rfl
    have i2 : itemsOf (mD (t.drop 1 ++ t.take 1)) = some ((t.drop 1 ++ t.take 1).map nD) := rfl
    generalize mD (t.drop 1 ++ t.take 1) = z4 at *
    generalize mD (t.drop 1) = za at *
    generalize mD (t.take 1) = zb at *
    generalize List.map nD (t.drop 1 ++ t.take 1) = li at *
    generalize mD t = z at *
    generalize facesD n F = zf at *
    simp [zipM, slcM, partM, sl, sh, ad, i1, i2, z1]
  · intro p hp
    obtain ⟨p1, p2⟩ := around_mem hp
    exact ⟨[.vl (facesD n F), .vl (mD t), .vl (nD p.1), .vl (nD p.2)], by simp [turnM, k_does_envy (tm _ p1) (tm _ p2)], by simp⟩
  · refine big ?_
    have : (around t).length ≤ t.length := by unfold around; rw [List.length_zip]; omega
    omega
  · simp
end
end Lw

set_option Elab.async false
set_option linter.all false
set_option maxRecDepth 100000
set_option maxHeartbeats 4000000
namespace Lw
open PySem PySem.Spec L2 Ev
section
variable {n : Nat} {F : Nat → Nat → Int}
theorem l_b_ring_by_0 {t : List Nat} (x : Sl) (tl : t.length ≤ 4) (tm : ∀ s ∈ t, s < n) : b_ring_by_0 (mD t) [.vl (facesD n F), x, .un, .un] = some (.ok (if envyB F t = true then .rt ⟨mD t, false⟩ else .nx) [.vl (facesD n F), .vl (mD t), .un, .un]) := by
  have l := l_ring_by_0 (F := F) tl tm
  have a := alls_comp (fun p : Nat × Nat => decide (F p.1 p.1 < F p.1 p.2)) (around t)
  have a : allF [.list ((around t).map fun p => PyData.bool (decide (F p.1 p.1 < F p.1 p.2)))] = some ⟨.bool (envyB F t), false⟩ := a
  generalize ((around t).map fun p => PyData.bool (decide (F p.1 p.1 < F p.1 p.2))) = li at *
  generalize envyB F t = b at *
  generalize facesD n F = zf at *
  generalize mD t = z at *
  have s1 : nameM 1 z [.vl zf, x, .un, .un] = some (.ok () [.vl zf, .vl z, .un, .un]) := by simp
  have s2 : asB (op1L allF (toO c_ring_by_0)) [.vl zf, .vl z, .un, .un] = some (.ok b [.vl zf, .vl z, .un, .un]) := by simp [l, a]
  rw [b_ring_by_0, bodyM, run_bind, s1, bndR_ok]
  cases b with
  | true =>
    exact run_thenR ((run_if s2).trans (run_thenR (run_ret (by simp))))
  | false =>
    refine (run_then (e1 := [.vl zf, .vl z, .un, .un]) ((run_if s2).trans (by simp))).trans (by simp)
def ringS (n : Nat) (F : Nat → Nat → Int) : Option (List Nat) := (ringL n).find? fun t => envyB F t
theorem r_ring_by (h1 : 1 ≤ n) (h4 : n ≤ 4) : Ret m_ring_by [.vl (facesD n F), .un, .un, .un] ⟨tellD (ringS n F), false⟩ := by
  have lp := for_find (step := b_ring_by_0) mD (fun s : Sl => [.vl (facesD n F), s, .un, .un]) (fun t => if envyB F t = true then some (⟨mD t, false⟩ : RV) else none) (ringL n) .un (fun t ht s => by
    obtain ⟨f1, f2⟩ := ring_facts h1 h4 t ht
    refine ⟨.vl (mD t), ?_⟩
    rw [l_b_ring_by_0 s f1 f2]
    split <;> rfl)
  obtain ⟨s', h⟩ := lp
  have e : ((ringL n).findSome? fun t => if envyB F t = true then some (⟨mD t, false⟩ : RV) else none) = (ringS n F).map fun t => (⟨mD t, false⟩ : RV) := by
    unfold ringS
    induction ringL n with
    | nil => rfl
    | cons x xs ih =>
      rw [List.findSome?_cons, List.find?_cons]
      cases q : envyB F x with
      | true => rfl
      | false => exact ih
  rw [e] at h
  have k := k_rings_of h1 h4
  have f1 := run_for (mi := seqM (callM N_rings_of.length ps_rings_of.length m_rings_of (do let d ← valM (op1L lenF (readO 0)); let ds ← (pure []); pure (d :: ds)))) (e := [.vl (facesD n F), .un, .un, .un]) (by simp [seqM, itemsOf, lenF, k]) h
  refine ret_of (e1 := [.vl (facesD n F), s', .un, .un]) ?_
  rw [m_ring_by]
  cases q : ringS n F with
  | some t =>
    rw [q] at f1
    exact run_thenR f1
  | none =>
    rw [q] at f1
    have f1 : Ev.forM (seqM (callM N_rings_of.length ps_rings_of.length m_rings_of (do let d ← valM (op1L lenF (readO 0)); let ds ← (pure []); pure (d :: ds)))) b_ring_by_0 [.vl (facesD n F), .un, .un, .un] = some (.ok .nx [.vl (facesD n F), s', .un, .un]) := f1
    rw [run_then f1]
    exact run_thenR (run_ret (by simp [tellD]))
theorem k_ring_by (h1 : 1 ≤ n) (h4 : n ≤ 4) (e : En) : runM N_ring_by.length ps_ring_by.length m_ring_by [facesD n F] e = some (.ok ⟨tellD (ringS n F), false⟩ e) := runM_eq rfl rfl (r_ring_by h1 h4)
theorem k_envy_ring (hf : Small n F) (h1 : 1 ≤ n) (h4 : n ≤ 4) (e : En) : runM N_envy_ring.length ps_envy_ring.length m_envy_ring [facesD n F] e = some (.ok ⟨tellD (ringS n F), false⟩ e) := runM_eq rfl rfl (by
  show Ret m_envy_ring [.vl (facesD n F)] _
  simp [m_envy_ring, k_check_faces hf h1 h4, k_ring_by h1 h4])
end
end Lw

set_option Elab.async false
set_option linter.all false
set_option maxRecDepth 100000
set_option maxHeartbeats 4000000
namespace Lw
open PySem PySem.Spec L2 Ev
def minP (p : Nat × List Nat) (ps : List (Nat × List Nat)) : Nat × List Nat := ps.foldl (fun a y => if ltP y a then y else a) p
theorem minD_pD : ∀ (ps : List (Nat × List Nat)) (p : Nat × List Nat), PySem.W.minD (pD p) (ps.map pD) = pD (minP p ps)
  | [], _ => rfl
  | y :: ys, p => by
    have ih := minD_pD ys
    unfold PySem.W.minD minP at *
    rw [List.map_cons, List.foldl_cons, List.foldl_cons, dataLt_pD]
    split
    · exact ih y
    · exact ih p
theorem minG_pD (p : Nat × List Nat) (ps : List (Nat × List Nat)) : minG [.list ((p :: ps).map pD)] = some ⟨pD (minP p ps), false⟩ := by
  have h1 : minF [.list ((p :: ps).map pD)] = none := rfl
  have h2 : alikeL ((p :: ps).map pD) = true := by
    unfold alikeL
    simp only [List.all_eq_true, List.mem_map]
    rintro d ⟨a, _, rfl⟩ d' ⟨b, _, rfl⟩
    simp only [PySem.W.alike, PySem.W.alikeAll, alike_mD, Bool.and_true]
  have h3 : ((p :: ps).map pD).all notNone = true := by
    simp only [List.all_eq_true, List.mem_map]
    rintro d ⟨a, _, rfl⟩
    rfl
  have h4 : PyData.depthAll ((p :: ps).map pD) ≤ 60 := Nat.le_trans (depth_map pD 2 (fun p => by
    have := depth_mD p.2
    simp only [PyData.depth, PyData.depthAll] at this ⊢
    omega) _) (by decide)
  unfold minG orF
  rw [h1]
  show (if alikeL ((p :: ps).map pD) = true ∧ ((p :: ps).map pD).all notNone = true ∧ PyData.depthAll ((p :: ps).map pD) ≤ 60 then lit (PySem.W.minD (pD p) (ps.map pD)) else none) = _
  rw [if_pos ⟨h2, h3, h4⟩, minD_pD]
section
variable {n : Nat} {F : Nat → Nat → Int} {m : List Nat} {s : Nat} {ms : List (List Nat)}
theorem full_lt (h1 : 1 ≤ n) (h4 : n ≤ 4) : ∀ t ∈ fullL n, (∀ s ∈ t, s < n) ∧ t.length ≤ 4 := four (p := fun n => ∀ t ∈ fullL n, (∀ s ∈ t, s < n) ∧ t.length ≤ 4) h1 h4 (by decide) (by decide) (by decide) (by decide)
theorem full_nodup (h1 : 1 ≤ n) (h4 : n ≤ 4) : ∀ t ∈ fullL n, t.Nodup ∧ t ≠ [] ∧ asc t = true := four (p := fun n => ∀ t ∈ fullL n, t.Nodup ∧ t ≠ [] ∧ asc t = true) h1 h4 (by decide +kernel) (by decide +kernel) (by decide +kernel) (by decide +kernel)
theorem ltL_trans : ∀ {a b c : List Nat}, ltL b a = false → ltL c b = false → ltL c a = false
  | [], b, c, h1, h2 => by
    cases c with
    | nil => rfl
    | cons z c =>
      cases b with
      | nil => rfl
      | cons y b => rfl
  | x :: a, [], c, h1, h2 => by simp [ltL] at h1
  | x :: a, y :: b, [], h1, h2 => by simp [ltL] at h2
  | x :: a, y :: b, z :: c, h1, h2 => by
    unfold ltL at h1 h2 ⊢
    by_cases e : y = x
    · subst e
      rw [if_pos rfl] at h1
      by_cases e2 : z = y
      · subst e2
        rw [if_pos rfl] at h2 ⊢
        exact ltL_trans h1 h2
      · rw [if_neg e2] at h2 ⊢
        exact h2
    · rw [if_neg e] at h1
      simp at h1
      by_cases e2 : z = y
      · subst e2
        rw [if_neg e]
        simpa using h1
      · rw [if_neg e2] at h2
        simp at h2
        rw [if_neg (by omega)]
        simp
        omega
theorem ltP_trans {p q r : Nat × List Nat} (h1 : ltP q p = false) (h2 : ltP r q = false) : ltP r p = false := by
  obtain ⟨i, a⟩ := p
  obtain ⟨j, b⟩ := q
  obtain ⟨k, c⟩ := r
  unfold ltP at h1 h2 ⊢
  simp only at h1 h2 ⊢
  by_cases e : j = i
  · subst e
    rw [if_pos rfl] at h1
    by_cases e2 : k = j
    · subst e2
      rw [if_pos rfl] at h2 ⊢
      exact ltL_trans h1 h2
    · rw [if_neg e2] at h2 ⊢
      exact h2
  · rw [if_neg e] at h1
    simp at h1
    by_cases e2 : k = j
    · subst e2
      rw [if_neg e]
      simpa using h1
    · rw [if_neg e2] at h2
      simp at h2
      rw [if_neg (by omega)]
      simp
      omega
theorem ltL_asym : ∀ {a b : List Nat}, ltL a b = true → ltL b a = false
  | [], [], h => by cases h
  | [], _ :: _, _ => rfl
  | _ :: _, [], h => by cases h
  | x :: a, y :: b, h => by
    unfold ltL at h ⊢
    by_cases e : x = y
    · subst e
      rw [if_pos rfl] at h ⊢
      exact ltL_asym h
    · rw [if_neg e] at h
      rw [if_neg (Ne.symm e)]
      simp at h ⊢
      omega
theorem ltP_asym {p q : Nat × List Nat} (h : ltP p q = true) : ltP q p = false := by
  obtain ⟨i, a⟩ := p
  obtain ⟨j, b⟩ := q
  unfold ltP at h ⊢
  simp only at h ⊢
  by_cases e : i = j
  · subst e
    rw [if_pos rfl] at h ⊢
    exact ltL_asym h
  · rw [if_neg e] at h
    rw [if_neg (Ne.symm e)]
    simp at h ⊢
    omega
theorem ltP_self (p : Nat × List Nat) : ltP p p = false := by
  cases q : ltP p p with
  | false => rfl
  | true => rw [← q]; exact ltP_asym q
theorem minP_spec : ∀ (ps : List (Nat × List Nat)) (p : Nat × List Nat), minP p ps ∈ p :: ps ∧ ∀ q ∈ p :: ps, ltP q (minP p ps) = false
  | [], p => ⟨List.mem_cons_self, fun q hq => by
    have : q = p := by simpa using hq
    subst this
    exact ltP_self q⟩
  | y :: ps, p => by
    have e : minP p (y :: ps) = minP (if ltP y p then y else p) ps := rfl
    obtain ⟨h1, h2⟩ := minP_spec ps (if ltP y p then y else p)
    rw [e]
    have h3 := h2 _ List.mem_cons_self
    by_cases c : ltP y p = true
    · simp only [c, if_true] at h1 h2 h3 ⊢
      refine ⟨List.mem_cons_of_mem _ h1, fun q hq => ?_⟩
      rcases List.mem_cons.mp hq with rfl | hq
      · exact ltP_trans h3 (ltP_asym c)
      · exact h2 q hq
    · simp only [c, if_false] at h1 h2 h3 ⊢
      refine ⟨?_, fun q hq => ?_⟩
      · rcases List.mem_cons.mp h1 with h1 | h1
        · rw [h1]; exact List.mem_cons_self
        · exact List.mem_cons_of_mem _ (List.mem_cons_of_mem _ h1)
      · rcases List.mem_cons.mp hq with rfl | hq
        · exact h3
        · rcases List.mem_cons.mp hq with rfl | hq
          · exact ltP_trans h3 (by simpa using c)
          · exact h2 q (List.mem_cons_of_mem _ hq)
theorem find_least {γ : Type} {r : γ → γ → Prop} {p : γ → Bool} : ∀ {l : List γ} {x : γ}, l.Pairwise r → l.find? p = some x → x ∈ l ∧ p x = true ∧ ∀ y ∈ l, p y = true → y = x ∨ r x y
  | [], x, _, h => by cases h
  | a :: l, x, hp, h => by
    obtain ⟨h1, h2⟩ := List.pairwise_cons.mp hp
    rw [List.find?_cons] at h
    by_cases c : p a = true
    · simp only [c] at h
      cases h
      refine ⟨List.mem_cons_self, c, fun y hy _ => ?_⟩
      rcases List.mem_cons.mp hy with rfl | hy
      · exact .inl rfl
      · exact .inr (h1 y hy)
    · have c' : p a = false := by simpa using c
      simp only [c'] at h
      obtain ⟨a1, a2, a3⟩ := find_least h2 h
      refine ⟨List.mem_cons_of_mem _ a1, a2, fun y hy py => ?_⟩
      rcases List.mem_cons.mp hy with rfl | hy
      · exact absurd py c
      · exact a3 y hy py
theorem mem_fit {s : Nat} : s ∈ fit F m ↔ s ∈ m ∧ ∀ o ∈ m, ¬ F o o < F o s := by
  unfold fit
  rw [List.mem_filter]
  simp
theorem getD_at {l : List Nat} {i d : Nat} (h : i < l.length) : l.getD i d = l[i] := by
  rw [List.getD_eq_getElem?_getD, List.getElem?_eq_getElem h]
  rfl
theorem full_strict (h1 : 1 ≤ n) (h4 : n ≤ 4) : (fullL n).Pairwise fun a b => ltL a b = true := four (p := fun n => (fullL n).Pairwise fun a b => ltL a b = true) h1 h4 (by decide +kernel) (by decide +kernel) (by decide +kernel) (by decide +kernel)
theorem asc_of : ∀ {l : List (List Nat)}, l.Pairwise (fun a b => ltL a b = true) → ascL l = true
  | [], _ => rfl
  | [_], _ => rfl
  | a :: b :: l, h => by
    obtain ⟨h1, h2⟩ := List.pairwise_cons.mp h
    have ih := asc_of h2
    unfold ascL at ih ⊢
    simp only [List.tail_cons, List.zip_cons_cons, List.all_cons] at ih ⊢
    rw [h1 b List.mem_cons_self]
    simpa using ih
theorem full_len' (h1 : 1 ≤ n) (h4 : n ≤ 4) : (fullL n).length + 1 = 2 ^ n ∧ (fullL n).length ≤ 15 := four (p := fun n => (fullL n).length + 1 = 2 ^ n ∧ (fullL n).length ≤ 15) h1 h4 (by decide) (by decide) (by decide) (by decide)
theorem fine_of (h1 : 1 ≤ n) (h4 : n ≤ 4) (p : List Nat → Bool) (cov : ∀ s, s < n → ∃ m ∈ (fullL n).filter p, s ∈ m) : Fine n ((fullL n).filter p) := by
  have sub := List.filter_sublist (p := p) (l := fullL n)
  have l15 : ((fullL n).filter p).length ≤ 15 := Nat.le_trans (List.length_filter_le _ _) (full_len' h1 h4).2
  have mem : ∀ m ∈ (fullL n).filter p, m ∈ fullL n := fun m hm => sub.subset hm
  refine { ok := fun m hm => ⟨(full_lt h1 h4 m (mem m hm)).1, Nat.le_trans (full_lt h1 h4 m (mem m hm)).2 (by decide)⟩, len := by omega, nle := by omega, n4 := h4, l15 := l15, n1 := h1, one := ?_, ne := fun m hm => (full_nodup h1 h4 m (mem m hm)).2.1, up := fun m hm => (full_nodup h1 h4 m (mem m hm)).2.2, ups := asc_of ((full_strict h1 h4).sublist sub), cov := fun s hs => ?_ }
  · obtain ⟨m, hm, _⟩ := cov 0 (by omega)
    exact List.length_pos_of_mem hm
  · obtain ⟨m, hm, h⟩ := cov s hs
    exact List.any_eq_true.mpr ⟨m, hm, by simpa using h⟩
theorem full_all (h1 : 1 ≤ n) (h4 : n ≤ 4) {p : List Nat → Bool} (h : ((fullL n).filter p).length + 1 = 2 ^ n) : (fullL n).filter p = fullL n := by
  refine List.Sublist.eq_of_length List.filter_sublist ?_
  have := (full_len' h1 h4).1
  omega
theorem full_cov (h1 : 1 ≤ n) (h4 : n ≤ 4) : ∀ s, s < n → ∃ m ∈ fullL n, s ∈ m := four (p := fun n => ∀ s, s < n → ∃ m ∈ fullL n, s ∈ m) h1 h4 (by decide +kernel) (by decide +kernel) (by decide +kernel) (by decide +kernel)
theorem filter_true (l : List (List Nat)) : l.filter (fun _ => true) = l := by simp
theorem drawn_perm (h1 : 1 ≤ n) (h4 : n ≤ 4) {found : List (List Nat)} (nd : found.Nodup) (sub : ∀ m ∈ found, m ∈ fullL n) : ((fullL n).filter fun m => decide (m ∈ found)).Perm found := by
  have nf : (fullL n).Nodup := four (p := fun n => (fullL n).Nodup) h1 h4 (by decide +kernel) (by decide +kernel) (by decide +kernel) (by decide +kernel)
  refine (List.perm_ext_iff_of_nodup (nf.filter _) nd).mpr fun m => ?_
  rw [List.mem_filter]
  simp only [decide_eq_true_eq]
  exact ⟨fun h => h.2, fun h => ⟨sub m h, h⟩⟩
end
end Lw

set_option Elab.async false
set_option linter.all false
set_option maxRecDepth 100000
set_option maxHeartbeats 4000000
namespace Lw
open PySem PySem.Spec L2 Ev
/-- one of a list -/
theorem pick_run {α : Type} {a b : Int} (f : α → PyData) (xs : List α) (p : Pot a b) (h0 : xs ≠ []) (hl : xs.length ≤ 1000) : ∃ (x : α) (a' b' : Int), x ∈ xs ∧ Pot a' b' ∧ RetP m__law_pick [.ow true (potL a b), .vl (.list (xs.map f))] ⟨f x, false⟩ (potL a' b') := by
  have l1 : 1 ≤ xs.length := by
    cases xs with
    | nil => exact absurd rfl h0
    | cons => simp
  obtain ⟨v, a', b', hv, hp, hr⟩ := k_draw (i := 0) (c := true) (e := [.ow true (potL a b), .vl (.list (xs.map f))]) p l1 hl rfl
  have hr : runPM 0 N__law_draw.length ps__law_draw.length m__law_draw [nD xs.length] [.ow true (potL a b), .vl (.list (xs.map f))] = some (.ok ⟨nD v, false⟩ [.ow true (potL a' b'), .vl (.list (xs.map f))]) := hr
  have hi : idxD (.list (xs.map f)) (nD v) = some ⟨f xs[v], false⟩ := by
    rw [idx_lst, atI_nat _ _ hv]
    rfl
  have hn : lenF [.list (xs.map f)] = some ⟨nD xs.length, false⟩ := by simp [lenF]
  refine ⟨xs[v], a', b', List.getElem_mem hv, hp, [.ow true (potL a' b'), .vl (.list (xs.map f))], ?_, rfl⟩
  generalize f xs[v] = y at *
  generalize PyData.list (xs.map f) = z at *
  generalize potL a b = q at *
  generalize potL a' b' = q' at *
  rw [m__law_pick]
  exact run_thenR (run_ret (by simp [hn, hr, hi]))
theorem k_pick {α : Type} {a b : Int} {i : Nat} {c : Bool} {e : En} (f : α → PyData) (xs : List α) (p : Pot a b) (h0 : xs ≠ []) (hl : xs.length ≤ 1000) (hi : e[i]? = some (.ow c (potL a b))) : ∃ (x : α) (a' b' : Int), x ∈ xs ∧ Pot a' b' ∧ runPM i N__law_pick.length ps__law_pick.length m__law_pick [.list (xs.map f)] e = some (.ok ⟨f x, false⟩ (e.set i (.ow c (potL a' b')))) := by
  obtain ⟨x, a', b', h1, h2, h3⟩ := pick_run f xs p h0 hl
  exact ⟨x, a', b', h1, h2, runPM_eq hi rfl rfl h3⟩
/-! faces -/
def Bd (k : Int) (vs : List Int) : Prop := ∀ v ∈ vs, -k ≤ v ∧ v ≤ k
abbrev iD (vs : List Int) : PyData := .list (vs.map PyData.int)
theorem l_faces_0 {a b : Int} {n : Nat} (hn : n ≤ 100) (p : Pot a b) (x2 x3 x4 x5 x6 : Sl) : ∃ (vs : List Int) (a' b' : Int), vs.length = n ∧ Bd 3 vs ∧ Pot a' b' ∧
    c__law_faces_0 [.ow true (potL a b), .vl (nD n), x2, x3, x4, x5, x6, .un] = some (.ok ⟨iD vs, true⟩ [.ow true (potL a' b'), .vl (nD n), x2, x3, x4, x5, x6, .un]) := by
  have := lc_inv (own := [7]) (mi := rng1M (readO 1)) (step := turnM (nameM 7) (pure true) (op2 subD (toO (callPM 0 N__law_draw.length ps__law_draw.length m__law_draw (do let d ← valM (pure ⟨.int 7, false⟩); let ds ← (pure []); pure (d :: ds)))) (toO (pure ⟨.int 3, false⟩)))) (e := [.ow true (potL a b), .vl (nD n), x2, x3, x4, x5, x6, .un]) nD (fun s : Int × Int => [.ow true (potL s.1 s.2), .vl (nD n), x2, x3, x4, x5, x6, .un]) (fun s rem acc => Pot s.1 s.2 ∧ ∃ vs : List Int, acc = vs.map PyData.int ∧ vs.length + rem.length = n ∧ Bd 3 vs) (List.range n) (a, b) (by simp [rng1M, rngD_nat hn]) ⟨p, [], rfl, by simp, by intro v hv; cases hv⟩ (fun x rem s acc ⟨hp, vs, h1, h2, h3⟩ => by
      obtain ⟨v, a', b', hv, hp', hr⟩ := k_draw (i := 0) (c := true) (k := 7) (e := [.ow true (potL s.1 s.2), .vl (nD n), x2, x3, x4, x5, x6, .vl (nD x)]) hp (by decide) (by decide) rfl
      have hr : runPM 0 N__law_draw.length ps__law_draw.length m__law_draw [.int 7] [.ow true (potL s.1 s.2), .vl (nD n), x2, x3, x4, x5, x6, .vl (nD x)] = some (.ok ⟨nD v, false⟩ [.ow true (potL a' b'), .vl (nD n), x2, x3, x4, x5, x6, .vl (nD x)]) := hr
      have hs : subD (nD v) (.int 3) = some ⟨.int ((v : Int) - 3), false⟩ := rfl
      refine ⟨some (.int ((v : Int) - 3)), (a', b'), [.ow true (potL a' b'), .vl (nD n), x2, x3, x4, x5, x6, .vl (nD x)], ?_, rfl, hp', vs ++ [(v : Int) - 3], by simp [h1], by simp at h2 ⊢; omega, ?_⟩
      · generalize potL s.1 s.2 = q at *
        generalize potL a' b' = q' at *
        generalize (v : Int) - 3 = w at *
        generalize nD v = y at *
        simp [turnM, hr, hs]
      · intro w hw
        rcases List.mem_append.mp hw with hw | hw
        · exact h3 w hw
        · have : w = (v : Int) - 3 := by simpa using hw
          omega) (by simp; exact Nat.le_trans hn (by decide)) (fun s => rfl)
  obtain ⟨s, ds, ⟨hp, vs, h1, h2, h3⟩, hr⟩ := this
  subst h1
  exact ⟨vs, s.1, s.2, by simpa using h2, h3, hp, hr⟩
theorem l_faces_1 {a b : Int} {n k : Nat} (hn : n ≤ 100) (hk : k ≤ 4) (p : Pot a b) (x2 x4 x5 x6 : Sl) : ∃ (vs : List Int) (a' b' : Int), vs.length = n ∧ Bd 4 vs ∧ Pot a' b' ∧
    c__law_faces_1 [.ow true (potL a b), .vl (nD n), x2, .vl (nD k), x4, x5, x6, .un] = some (.ok ⟨iD vs, true⟩ [.ow true (potL a' b'), .vl (nD n), x2, .vl (nD k), x4, x5, x6, .un]) := by
  have := lc_inv (own := [7]) (mi := rng1M (readO 1)) (step := turnM (nameM 7) (pure true) (op2 subD (toO (callPM 0 N__law_draw.length ps__law_draw.length m__law_draw (do let d ← valM (op2 addD (toO (op2 mulD (toO (pure ⟨.int 2, false⟩)) (readO 3))) (toO (pure ⟨.int 1, false⟩))); let ds ← (pure []); pure (d :: ds)))) (readO 3))) (e := [.ow true (potL a b), .vl (nD n), x2, .vl (nD k), x4, x5, x6, .un]) nD (fun s : Int × Int => [.ow true (potL s.1 s.2), .vl (nD n), x2, .vl (nD k), x4, x5, x6, .un]) (fun s rem acc => Pot s.1 s.2 ∧ ∃ vs : List Int, acc = vs.map PyData.int ∧ vs.length + rem.length = n ∧ Bd 4 vs) (List.range n) (a, b) (by simp [rng1M, rngD_nat hn]) ⟨p, [], rfl, by simp, by intro v hv; cases hv⟩ (fun x rem s acc ⟨hp, vs, h1, h2, h3⟩ => by
      obtain ⟨v, a', b', hv, hp', hr⟩ := k_draw (i := 0) (c := true) (k := 2 * k + 1) (e := [.ow true (potL s.1 s.2), .vl (nD n), x2, .vl (nD k), x4, x5, x6, .vl (nD x)]) hp (by omega) (by omega) rfl
      have hr : runPM 0 N__law_draw.length ps__law_draw.length m__law_draw [nD (2 * k + 1)] [.ow true (potL s.1 s.2), .vl (nD n), x2, .vl (nD k), x4, x5, x6, .vl (nD x)] = some (.ok ⟨nD v, false⟩ [.ow true (potL a' b'), .vl (nD n), x2, .vl (nD k), x4, x5, x6, .vl (nD x)]) := hr
      have hs : subD (nD v) (nD k) = some ⟨.int ((v : Int) - (k : Int)), false⟩ := rfl
      have hm : mulD (.int 2) (nD k) = some ⟨nD (2 * k), false⟩ := by
        have := mul_ok (x := 2) (y := (k : Int)) (by decide) (by decide) (by omega) (by omega)
        rw [this]
        simp
      have ha : addD (nD (2 * k)) (.int 1) = some ⟨nD (2 * k + 1), false⟩ := add_ok _ _
      refine ⟨some (.int ((v : Int) - (k : Int))), (a', b'), [.ow true (potL a' b'), .vl (nD n), x2, .vl (nD k), x4, x5, x6, .vl (nD x)], ?_, rfl, hp', vs ++ [(v : Int) - (k : Int)], by simp [h1], by simp at h2 ⊢; omega, ?_⟩
      · generalize potL s.1 s.2 = q at *
        generalize potL a' b' = q' at *
        generalize (v : Int) - (k : Int) = w at *
        generalize nD v = y at *
        generalize nD (2 * k + 1) = y2 at *
        generalize nD (2 * k) = y3 at *
        simp [turnM, hm, ha, hr, hs]
      · intro w hw
        rcases List.mem_append.mp hw with hw | hw
        · exact h3 w hw
        · have : w = (v : Int) - (k : Int) := by simpa using hw
          omega) (by simp; exact Nat.le_trans hn (by decide)) (fun s => rfl)
  obtain ⟨s, ds, ⟨hp, vs, h1, h2, h3⟩, hr⟩ := this
  subst h1
  exact ⟨vs, s.1, s.2, by simpa using h2, h3, hp, hr⟩
end Lw

set_option Elab.async false
set_option linter.all false
set_option maxRecDepth 100000
set_option maxHeartbeats 4000000
namespace Lw
open PySem PySem.Spec L2 Ev
theorem range_getD {α : Type} (vs : List α) (d : α) : (List.range vs.length).map (fun j => vs.getD j d) = vs := by
  refine List.ext_getElem (by simp) fun i h1 h2 => ?_
  rw [List.getElem_map, List.getElem_range, List.getD_eq_getElem?_getD, List.getElem?_eq_getElem h2]
  rfl
theorem rowD_of {vs : List Int} {n : Nat} (h : vs.length = n) : rowD n (fun j => vs.getD j 0) = .tuple (vs.map PyData.int) := by
  subst h
  show PyData.tuple ((List.range vs.length).map fun j => .int (vs.getD j 0)) = _
  have := congrArg (List.map PyData.int) (range_getD vs 0)
  rw [List.map_map] at this
  exact congrArg PyData.tuple this
/-- rows that are written -/
def rowsF (n : Nat) (F : Nat → Nat → Int) : List (List PyData) := (List.range n).map fun i => (List.range n).map fun j => PyData.int (F i j)
def updF (F : Nat → Nat → Int) (x y : Nat) (v : Int) : Nat → Nat → Int := fun i j => if i = x ∧ j = y then v else F i j
theorem set_range {α : Type} (f : Nat → α) (n x : Nat) (v : α) : ((List.range n).map f).set x v = (List.range n).map fun i => if i = x then v else f i := by
  refine List.ext_getElem (by simp) fun i h1 h2 => ?_
  rw [List.getElem_set]
  simp only [List.getElem_map, List.getElem_range]
  by_cases e : x = i
  · subst e; simp
  · have : ¬ i = x := fun w => e w.symm
    simp [e, this]
theorem ix_nat {l i : Nat} (h : i < l) : ixN l (i : Int) = some i := by
  unfold ixN
  rw [if_pos (by omega), if_pos (by omega)]
  simp
section
variable {n x y : Nat} {F : Nat → Nat → Int} {v : Int}
theorem rowAt_F (hx : x < n) : rowAt (rowsF n F) (nD x) = some x := by
  show (ixN (rowsF n F).length (x : Int)) = some x
  exact ix_nat (by simpa [rowsF] using hx)
theorem putAt_F (hx : x < n) (hy : y < n) : putAt (rowsF n F) x (nD y) (.int v) = some (rowsF n (updF F x y v)) := by
  have h1 : (rowsF n F)[x]? = some ((List.range n).map fun j => PyData.int (F x j)) := by simp [rowsF, hx]
  show ((rowsF n F)[x]?).bind (fun r => (ixN r.length (y : Int)).map fun y => (rowsF n F).set x (r.set y (.int v))) = _
  rw [h1, Option.bind_some, ix_nat (by simpa using hy), Option.map_some]
  congr 1
  unfold rowsF
  rw [set_range]
  refine List.map_congr_left fun i _ => ?_
  by_cases e : i = x
  · subst e
    rw [if_pos rfl, set_range]
    refine List.map_congr_left fun j _ => ?_
    by_cases e2 : j = y
    · simp [updF, e2]
    · simp [updF, e2]
  · rw [if_neg e]
    refine List.map_congr_left fun j _ => ?_
    simp [updF, e]
theorem small_upd (h : Small n F) (h1 : -99 ≤ v) (h2 : v ≤ 99) : Small n (updF F x y v) := fun i j hi hj => by
  unfold updF
  split
  · exact ⟨h1, h2⟩
  · exact h i j hi hj
end
/-- the ring written -/
def ringM : List (List PyData) → M (List (List PyData)) := nthenM (nsetM 5 (op2 addD (readO 3) (toO (pure ⟨.int 1, false⟩))) (readO 6) (readO 6)) (nthenM (nsetM 5 (op2 addD (toO (op2 addD (readO 3) (toO (pure ⟨.int 1, false⟩)))) (toO (callPM 0 N__law_draw.length ps__law_draw.length m__law_draw (do let d ← valM (pure ⟨.int 2, false⟩); let ds ← (pure []); pure (d :: ds))))) (readO 6) (toO (op2 modD (toO (op1L intF (toO (op2 addD (readO 6) (toO (pure ⟨.int 1, false⟩)))))) (readO 1)))) (nnilM))
theorem ring_step {a b : Int} {n k x : Nat} {F : Nat → Nat → Int} (n1 : 1 ≤ n) (hk : k ≤ 4) (p : Pot a b) (hf : Small n F) (hx : x < n) (w : Nat) (x4 x6 : Sl) : ∃ (F' : Nat → Nat → Int) (a' b' : Int), Pot a' b' ∧ Small n F' ∧
    (do keepM 5 (nameM 6 (nD x)); ringM (rowsF n F)) [.ow true (potL a b), .vl (nD n), .vl (nD w), .vl (nD k), x4, .un, x6, .un] = some (.ok (rowsF n F') [.ow true (potL a' b'), .vl (nD n), .vl (nD w), .vl (nD k), x4, .un, .vl (nD x), .un]) := by
  obtain ⟨v, a', b', hv, hp', hr⟩ := k_draw (i := 0) (c := true) (k := 2) (e := [.ow true (potL a b), .vl (nD n), .vl (nD w), .vl (nD k), x4, .un, .vl (nD x), .un]) p (by decide) (by decide) rfl
  have hr : runPM 0 N__law_draw.length ps__law_draw.length m__law_draw [.int 2] [.ow true (potL a b), .vl (nD n), .vl (nD w), .vl (nD k), x4, .un, .vl (nD x), .un] = some (.ok ⟨nD v, false⟩ [.ow true (potL a' b'), .vl (nD n), .vl (nD w), .vl (nD k), x4, .un, .vl (nD x), .un]) := hr
  have hm : (((x : Int) + 1).fmod (n : Int)).toNat < n := by
    have h1 := Int.fmod_nonneg_of_pos ((x : Int) + 1) (b := (n : Int)) (by omega)
    have h2 := Int.fmod_lt_of_pos ((x : Int) + 1) (b := (n : Int)) (by omega)
    omega
  have o1 : modD (.int ((x : Int) + 1)) (nD n) = some ⟨nD (((x : Int) + 1).fmod (n : Int)).toNat, false⟩ := by
    rw [mod_ok (by omega)]
    have h1 := Int.fmod_nonneg_of_pos ((x : Int) + 1) (b := (n : Int)) (by omega)
    show some (⟨.int (((x : Int) + 1).fmod (n : Int)), false⟩ : RV) = some ⟨.int (((((x : Int) + 1).fmod (n : Int)).toNat : Nat) : Int), false⟩
    rw [Int.toNat_of_nonneg h1]
  generalize (((x : Int) + 1).fmod (n : Int)).toNat = y at *
  have a1 : addD (nD k) (.int 1) = some ⟨.int ((k : Int) + 1), false⟩ := rfl
  have a2 : addD (.int ((k : Int) + 1)) (nD v) = some ⟨.int ((k : Int) + 1 + v), false⟩ := rfl
  have a3 : addD (nD x) (.int 1) = some ⟨.int ((x : Int) + 1), false⟩ := rfl
  have i1 : intF [.int ((x : Int) + 1)] = some ⟨.int ((x : Int) + 1), false⟩ := rfl
  have f1 : Small n (updF F x x ((k : Int) + 1)) := small_upd hf (by omega) (by omega)
  have f2 : Small n (updF (updF F x x ((k : Int) + 1)) x y ((k : Int) + 1 + v)) := small_upd f1 (by omega) (by omega)
  have r1 := rowAt_F (F := F) hx
  have r2 := putAt_F (F := F) (v := (k : Int) + 1) hx hx
  have r3 := rowAt_F (F := updF F x x ((k : Int) + 1)) hx
  have r4 := putAt_F (F := updF F x x ((k : Int) + 1)) (v := (k : Int) + 1 + v) hx hm
  refine ⟨_, a', b', hp', f2, ?_⟩
  generalize updF (updF F x x ((k : Int) + 1)) x y ((k : Int) + 1 + v) = F2 at *
  generalize updF F x x ((k : Int) + 1) = F1 at *
  generalize (k : Int) + 1 + v = z1 at *
  generalize (k : Int) + 1 = z2 at *
  generalize (x : Int) + 1 = z3 at *
  generalize rowsF n F2 = R2 at *
  generalize rowsF n F1 = R1 at *
  generalize rowsF n F = R at *
  generalize potL a b = q at *
  generalize potL a' b' = q' at *
  have s0 : keepM 5 (nameM 6 (nD x)) [.ow true q, .vl (nD n), .vl (nD w), .vl (nD k), x4, .un, x6, .un] = some (.ok () [.ow true q, .vl (nD n), .vl (nD w), .vl (nD k), x4, .un, .vl (nD x), .un]) := run_keep (by simp) rfl
  have s1 := run_nset (i := 5) (mv := op2 addD (readO 3) (toO (pure ⟨.int 1, false⟩))) (mj := readO 6) (mk := readO 6) (e := [.ow true q, .vl (nD n), .vl (nD w), .vl (nD k), x4, .un, .vl (nD x), .un]) (e1 := [.ow true q, .vl (nD n), .vl (nD w), .vl (nD k), x4, .un, .vl (nD x), .un]) (e2 := [.ow true q, .vl (nD n), .vl (nD w), .vl (nD k), x4, .un, .vl (nD x), .un]) (e3 := [.ow true q, .vl (nD n), .vl (nD w), .vl (nD k), x4, .un, .vl (nD x), .un]) (r := ⟨.int z2, false⟩) (o := .vl (nD x)) (o2 := .vl (nD x)) (by simp [a1]) rfl (by simp) rfl (by simp) r1 (by simp) rfl (by simp) r2
  have s2 := run_nset (i := 5) (mv := op2 addD (toO (op2 addD (readO 3) (toO (pure ⟨.int 1, false⟩)))) (toO (callPM 0 N__law_draw.length ps__law_draw.length m__law_draw (do let d ← valM (pure ⟨.int 2, false⟩); let ds ← (pure []); pure (d :: ds))))) (mj := readO 6) (mk := toO (op2 modD (toO (op1L intF (toO (op2 addD (readO 6) (toO (pure ⟨.int 1, false⟩)))))) (readO 1))) (e := [.ow true q, .vl (nD n), .vl (nD w), .vl (nD k), x4, .un, .vl (nD x), .un]) (e1 := [.ow true q', .vl (nD n), .vl (nD w), .vl (nD k), x4, .un, .vl (nD x), .un]) (e2 := [.ow true q', .vl (nD n), .vl (nD w), .vl (nD k), x4, .un, .vl (nD x), .un]) (e3 := [.ow true q', .vl (nD n), .vl (nD w), .vl (nD k), x4, .un, .vl (nD x), .un]) (r := ⟨.int z1, false⟩) (o := .vl (nD x)) (o2 := .vl (nD y)) (by simp [a1, a2, hr]) rfl (by simp) rfl (by simp) r3 (by simp [a3, i1, o1]) rfl (by simp) r4
  rw [run_bind, s0, bndR_ok, ringM, run_nthen s1, run_nthen s2]
  rfl
end Lw

set_option Elab.async false
set_option linter.all false
set_option maxRecDepth 100000
set_option maxHeartbeats 4000000
namespace Lw
open PySem PySem.Spec L2 Ev
theorem getD_of {α : Type} {l : List α} {i : Nat} {d : α} (h : i < l.length) : l.getD i d = l[i] := by
  rw [List.getD_eq_getElem?_getD, List.getElem?_eq_getElem h]
  rfl
theorem rowsF_of {vss : List (List Int)} {n : Nat} (h : vss.length = n) (h2 : ∀ vs ∈ vss, vs.length = n) : vss.map (fun vs => vs.map PyData.int) = rowsF n (fun i j => (vss.getD i []).getD j 0) := by
  unfold rowsF
  refine List.ext_getElem (by simp [h]) fun i h3 h4 => ?_
  have hi : i < vss.length := by simpa using h3
  rw [List.getElem_map, List.getElem_map, List.getElem_range]
  simp only [getD_of hi]
  have hl := h2 _ (List.getElem_mem hi)
  refine List.ext_getElem (by simp [hl]) fun j h5 h6 => ?_
  have hj : j < vss[i].length := by simpa using h5
  rw [List.getElem_map, List.getElem_map, List.getElem_range, getD_of hj]
theorem small_of {vss : List (List Int)} {n : Nat} (h : vss.length = n) (h2 : ∀ vs ∈ vss, vs.length = n ∧ Bd 4 vs) : Small n (fun i j => (vss.getD i []).getD j 0) := fun i j hi hj => by
  have hi : i < vss.length := by omega
  simp only [getD_of hi]
  obtain ⟨l, b⟩ := h2 _ (List.getElem_mem hi)
  have hj : j < vss[i].length := by omega
  rw [getD_of hj]
  have := b _ (List.getElem_mem hj)
  omega
/-- the rows drawn -/
theorem rows_drawn {a b : Int} {n k w : Nat} (hn : n ≤ 100) (hk : k ≤ 4) (p : Pot a b) : ∃ (F : Nat → Nat → Int) (a' b' : Int), Small n F ∧ Pot a' b' ∧
    ∃ ds, lcM [6] (rng1M (readO 1)) (turnN (nameM 6) c__law_faces_1) [.ow true (potL a b), .vl (nD n), .vl (nD w), .vl (nD k), .un, .un, .un, .un] = some (.ok ⟨.list ds, true⟩ [.ow true (potL a' b'), .vl (nD n), .vl (nD w), .vl (nD k), .un, .un, .un, .un]) ∧ rowsD (.list ds) = some (rowsF n F) := by
  have := lc_inv (own := [6]) (mi := rng1M (readO 1)) (step := turnN (nameM 6) c__law_faces_1) (e := [.ow true (potL a b), .vl (nD n), .vl (nD w), .vl (nD k), .un, .un, .un, .un]) nD (fun s : Int × Int => [.ow true (potL s.1 s.2), .vl (nD n), .vl (nD w), .vl (nD k), .un, .un, .un, .un]) (fun s rem acc => Pot s.1 s.2 ∧ ∃ vss : List (List Int), acc = vss.map iD ∧ vss.length + rem.length = n ∧ ∀ vs ∈ vss, vs.length = n ∧ Bd 4 vs) (List.range n) (a, b) (by simp [rng1M, rngD_nat hn]) ⟨p, [], rfl, by simp, by intro v hv; cases hv⟩ (fun x rem s acc ⟨hp, vss, h1, h2, h3⟩ => by
      obtain ⟨vs, a', b', q1, q2, hp', hr⟩ := l_faces_1 (n := n) hn hk hp (.vl (nD w)) .un .un (.vl (nD x))
      refine ⟨some (iD vs), (a', b'), [.ow true (potL a' b'), .vl (nD n), .vl (nD w), .vl (nD k), .un, .un, .vl (nD x), .un], ?_, rfl, hp', vss ++ [vs], by simp [h1], by simp at h2 ⊢; omega, ?_⟩
      · have f1 : freshL ⟨iD vs, true⟩ = some (iD vs) := rfl
        generalize potL s.1 s.2 = q at *
        generalize potL a' b' = q' at *
        generalize iD vs = y at *
        simp [turnN, hr, f1]
      · intro w hw
        rcases List.mem_append.mp hw with hw | hw
        · exact h3 w hw
        · have : w = vs := by simpa using hw
          subst this
          exact ⟨q1, q2⟩) (by simp; exact Nat.le_trans hn (by decide)) (fun s => rfl)
  obtain ⟨s, ds, ⟨hp, vss, h1, h2, h3⟩, hr⟩ := this
  have h2 : vss.length = n := by simpa using h2
  refine ⟨fun i j => (vss.getD i []).getD j 0, s.1, s.2, small_of h2 h3, hp, ds, hr, ?_⟩
  rw [← rowsF_of h2 fun vs hv => (h3 vs hv).1, h1]
  show rowsOf (vss.map iD) = _
  have : vss.map iD = (vss.map fun vs => vs.map PyData.int).map PyData.list := by simp [iD]
  rw [this, rowsOf_map]
/-- the ring written, or not -/
theorem rows_ring {a b : Int} {n k w : Nat} {F : Nat → Nat → Int} (n1 : 1 ≤ n) (hn : n ≤ 100) (hk : k ≤ 4) (p : Pot a b) (hf : Small n F) : ∃ (F' : Nat → Nat → Int) (a' b' : Int) (x6 : Sl), Small n F' ∧ Pot a' b' ∧
    noX ((nifM 5 (asB (op2 (cmpD .eq) (readO 2) (toO (pure ⟨.int 1, false⟩)))) (nthenM (nforM 5 (rng1M (readO 1)) (nameM 6) ringM) (nnilM)) (nnilM)) (rowsF n F)) [.ow true (potL a b), .vl (nD n), .vl (nD w), .vl (nD k), .un, .un, .un, .un] = some (.ok (rowsF n F') [.ow true (potL a' b'), .vl (nD n), .vl (nD w), .vl (nD k), .un, .un, x6, .un]) := by
  have c1 : (asB (op2 (cmpD .eq) (readO 2) (toO (pure ⟨.int 1, false⟩)))) [.ow true (potL a b), .vl (nD n), .vl (nD w), .vl (nD k), .un, .un, .un, .un] = some (.ok (decide ((w : Int) = 1)) [.ow true (potL a b), .vl (nD n), .vl (nD w), .vl (nD k), .un, .un, .un, .un]) := by
    generalize potL a b = q at *
    simp
  by_cases hw : (w : Int) = 1
  · rw [decide_eq_true hw] at c1
    have lp := nfor_inv (step := fun d rows => do keepM 5 (nameM 6 d); ringM rows) nD (fun s : (Int × Int) × (Nat → Nat → Int) × Sl => [.ow true (potL s.1.1 s.1.2), .vl (nD n), .vl (nD w), .vl (nD k), .un, .un, s.2.2, .un]) (fun s => rowsF n s.2.1) (fun s rem => Pot s.1.1 s.1.2 ∧ Small n s.2.1 ∧ ∀ x ∈ rem, x < n) (fun x rem s ⟨hp, hs, hr⟩ => by
      obtain ⟨F', a', b', h1, h2, h3⟩ := ring_step n1 hk hp hs (hr x List.mem_cons_self) w .un s.2.2
      exact ⟨((a', b'), F', .vl (nD x)), h3, h1, h2, fun y hy => hr y (List.mem_cons_of_mem _ hy)⟩) (List.range n) ((a, b), F, .un) ⟨p, hf, fun x hx => List.mem_range.mp hx⟩
    obtain ⟨s, h1, hp, hs, _⟩ := lp
    refine ⟨s.2.1, s.1.1, s.1.2, s.2.2, hs, hp, run_noX ?_⟩
    rw [run_nif c1 rfl, if_pos rfl]
    have m0 : rng1M (readO 1) [.ow true (potL a b), .vl (nD n), .vl (nD w), .vl (nD k), .un, .un, .un, .un] = some (.ok ((List.range n).map nD) [.ow true (potL a b), .vl (nD n), .vl (nD w), .vl (nD k), .un, .un, .un, .un]) := by simp [rng1M, rngD_nat hn]
    rw [run_nthen (run_nfor m0 rfl h1)]
    rfl
  · rw [decide_eq_false hw] at c1
    refine ⟨F, a, b, .un, hf, p, run_noX ?_⟩
    rw [run_nif c1 rfl, if_neg (by simp)]
    rfl
theorem l_faces_2 {n : Nat} {F : Nat → Nat → Int} (hn : n ≤ 100) (x0 x1 x2 x3 x4 x6 x7 : Sl) : c__law_faces_2 [x0, x1, x2, x3, x4, .vl (.list ((rowsF n F).map PyData.list)), x6, x7] = some (.ok ⟨.list ((List.range n).map fun i => rowD n (F i)), true⟩ [x0, x1, x2, x3, x4, .vl (.list ((rowsF n F).map PyData.list)), x6, x7]) := by
  have e : (rowsF n F).map PyData.list = (List.range n).map fun i => PyData.list ((List.range n).map fun j => PyData.int (F i j)) := by simp [rowsF]
  rw [e, c__law_faces_2, lc_t (fun i => PyData.list ((List.range n).map fun j => PyData.int (F i j))) (fun i => rowD n (F i)) (fun i => some i) (xs := List.range n)]
  · simp
  · have it : itemsOf (PyData.list ((List.range n).map fun i => PyData.list ((List.range n).map fun j => PyData.int (F i j)))) = some ((List.range n).map fun i => PyData.list ((List.range n).map fun j => PyData.int (F i j))) := rfl
    generalize PyData.list ((List.range n).map fun i => PyData.list ((List.range n).map fun j => PyData.int (F i j))) = z at *
    simp [seqM, it]
  · intro i hi
    have t1 : tupleF [PyData.list ((List.range n).map fun j => PyData.int (F i j))] = some ⟨rowD n (F i), false⟩ := rfl
    refine ⟨[x0, x1, x2, x3, .vl (PyData.list ((List.range n).map fun j => PyData.int (F i j))), .vl (.list ((List.range n).map fun i => PyData.list ((List.range n).map fun j => PyData.int (F i j)))), x6, x7], ?_, by simp⟩
    generalize PyData.list ((List.range n).map fun j => PyData.int (F i j)) = z at *
    simp [turnM, t1]
  · exact big (by simpa using hn)
  · simp
/-- faces are drawn -/
theorem faces_run {a b : Int} {n : Nat} (n1 : 1 ≤ n) (n4 : n ≤ 4) (p : Pot a b) : ∃ (F : Nat → Nat → Int) (a' b' : Int), Small n F ∧ Pot a' b' ∧ RetP m__law_faces [.ow true (potL a b), .vl (nD n), .un, .un, .un, .un, .un, .un] ⟨facesD n F, false⟩ (potL a' b') := by
  have hn : n ≤ 100 := by omega
  obtain ⟨w, a1, b1, hw, p1, r1⟩ := k_draw (i := 0) (c := true) (k := 4) (e := [.ow true (potL a b), .vl (nD n), .un, .un, .un, .un, .un, .un]) p (by decide) (by decide) rfl
  have r1 : runPM 0 N__law_draw.length ps__law_draw.length m__law_draw [.int 4] [.ow true (potL a b), .vl (nD n), .un, .un, .un, .un, .un, .un] = some (.ok ⟨nD w, false⟩ [.ow true (potL a1 b1), .vl (nD n), .un, .un, .un, .un, .un, .un]) := r1
  obtain ⟨k, a2, b2, hk, p2, r2⟩ := k_pick (i := 0) (c := true) (e := [.ow true (potL a1 b1), .vl (nD n), .un, .un, .un, .un, .un, .un]) nD [1, 2, 4] p1 (by simp) (by simp) rfl
  have r2 : runPM 0 N__law_pick.length ps__law_pick.length m__law_pick [.list [.int 1, .int 2, .int 4]] [.ow true (potL a1 b1), .vl (nD n), .un, .un, .un, .un, .un, .un] = some (.ok ⟨nD k, false⟩ [.ow true (potL a2 b2), .vl (nD n), .un, .un, .un, .un, .un, .un]) := r2
  have hk : k ≤ 4 := by
    have : k = 1 ∨ k = 2 ∨ k = 4 := by simpa using hk
    omega
  have s1 : bindM (tupM (do let d ← valM (callPM 0 N__law_draw.length ps__law_draw.length m__law_draw (do let d ← valM (pure ⟨.int 4, false⟩); let ds ← (pure []); pure (d :: ds))); let ds ← (do let d ← valM (callPM 0 N__law_pick.length ps__law_pick.length m__law_pick (do let d ← valM (lstM (do let d ← valM (pure ⟨.int 1, false⟩); let ds ← (do let d ← valM (pure ⟨.int 2, false⟩); let ds ← (do let d ← valM (pure ⟨.int 4, false⟩); let ds ← (pure []); pure (d :: ds)); pure (d :: ds)); pure (d :: ds))); let ds ← (pure []); pure (d :: ds))); let ds ← (pure []); pure (d :: ds)); pure (d :: ds))) (tupT 2 (consM (nameM 2) (consM (nameM 3) (nilM)))) [.ow true (potL a b), .vl (nD n), .un, .un, .un, .un, .un, .un] = some (.ok .nx [.ow true (potL a2 b2), .vl (nD n), .vl (nD w), .vl (nD k), .un, .un, .un, .un]) := by
    generalize potL a b = q at *
    generalize potL a1 b1 = q1 at *
    generalize potL a2 b2 = q2 at *
    simp [r1, r2]
  have c1 : (asB (op2 (cmpD .eq) (readO 2) (toO (pure ⟨.int 0, false⟩)))) [.ow true (potL a2 b2), .vl (nD n), .vl (nD w), .vl (nD k), .un, .un, .un, .un] = some (.ok (decide ((w : Int) = 0)) [.ow true (potL a2 b2), .vl (nD n), .vl (nD w), .vl (nD k), .un, .un, .un, .un]) := by
    generalize potL a2 b2 = q2 at *
    simp
  by_cases h0 : (w : Int) = 0
  · rw [decide_eq_true h0] at c1
    obtain ⟨vs, a3, b3, hl, hb, p3, r3⟩ := l_faces_0 (n := n) hn p2 (.vl (nD w)) (.vl (nD k)) .un .un .un
    have t1 : tupleF [iD vs] = some ⟨.tuple (vs.map PyData.int), false⟩ := rfl
    have m1 : mulD (.list [.tuple (vs.map PyData.int)]) (nD n) = some ⟨.list ((List.range n).map fun _ => .tuple (vs.map PyData.int)), true⟩ := by
      show (if (n : Int) < 1000000 ∧ -1000000 < (n : Int) ∧ ([PyData.tuple (vs.map PyData.int)] : List PyData).length * (n : Int).toNat ≤ most then some (⟨.list (List.replicate (n : Int).toNat [PyData.tuple (vs.map PyData.int)]).flatten, true⟩ : RV) else none) = _
      rw [if_pos ⟨by omega, by omega, by simp only [List.length_singleton, Int.toNat_natCast]; unfold most; omega⟩, Int.toNat_natCast]
      simp [List.map_const']
    have f1 : PyData.tuple ((List.range n).map fun _ => .tuple (vs.map PyData.int)) = facesD n (fun _ j => vs.getD j 0) := by
      have := rowD_of hl
      rw [← this]
    have t2 : tupleF [.list ((List.range n).map fun _ => .tuple (vs.map PyData.int))] = some ⟨facesD n (fun _ j => vs.getD j 0), false⟩ := by
      rw [← f1]
      rfl
    refine ⟨fun _ j => vs.getD j 0, a3, b3, fun i j hi hj => ?_, p3, [.ow true (potL a3 b3), .vl (nD n), .vl (nD w), .vl (nD k), .vl (iD vs), .un, .un, .un], ?_, rfl⟩
    · have hj : j < vs.length := by omega
      simp only [getD_of hj]
      have := hb _ (List.getElem_mem hj)
      omega
    · rw [m__law_faces, run_then s1]
      refine run_thenR ?_
      rw [run_if c1, if_pos rfl]
      generalize facesD n (fun _ j => vs.getD j 0) = z at *
      generalize (List.range n).map (fun _ => PyData.tuple (vs.map PyData.int)) = z1 at *
      generalize PyData.tuple (vs.map PyData.int) = z2 at *
      generalize potL a2 b2 = q2 at *
      generalize potL a3 b3 = q3 at *
      generalize iD vs = z3 at *
      rw [run_then (e1 := [.ow true q3, .vl (nD n), .vl (nD w), .vl (nD k), .vl z3, .un, .un, .un]) (by simp [r3])]
      exact run_thenR (run_ret (by simp [t1, m1, t2]))
  · rw [decide_eq_false h0] at c1
    obtain ⟨F, a3, b3, f3, p3, ds, r3, q3⟩ := rows_drawn (w := w) hn hk p2
    obtain ⟨F', a4, b4, x6, f4, p4, r4⟩ := rows_ring (w := w) n1 hn hk p3 f3
    have r5 := l_faces_2 (F := F') hn (.ow true (potL a4 b4)) (.vl (nD n)) (.vl (nD w)) (.vl (nD k)) .un x6 .un
    have t5 : tupleF [.list ((List.range n).map fun i => rowD n (F' i))] = some ⟨facesD n F', false⟩ := rfl
    refine ⟨F', a4, b4, f4, p4, [.ow true (potL a4 b4), .vl (nD n), .vl (nD w), .vl (nD k), .un, .vl (.list ((rowsF n F').map PyData.list)), x6, .un], ?_, rfl⟩
    have i1 : ifM (asB (op2 (cmpD .eq) (readO 2) (toO (pure ⟨.int 0, false⟩)))) (thenM (setM 4 (frzM (c__law_faces_0))) (thenM (retM (op1L tupleF (toO (op2 mulD (toO (lstM (do let d ← valM (op1L tupleF (readO 4)); let ds ← (pure []); pure (d :: ds)))) (readO 1))))) (pure .nx))) (pure .nx) [.ow true (potL a2 b2), .vl (nD n), .vl (nD w), .vl (nD k), .un, .un, .un, .un] = some (.ok .nx [.ow true (potL a2 b2), .vl (nD n), .vl (nD w), .vl (nD k), .un, .un, .un, .un]) := by
      rw [run_if c1, if_neg (by simp)]
      rfl
    rw [m__law_faces, run_then s1, run_then i1, nestM, run_bind, r3, bndR_ok, run_bind, q3, run_lift_some, bndR_ok, run_bind, run_un, if_pos (by simp), bndR_ok, run_bind]
    have r4 : noX ((nifM 5 (asB (op2 (cmpD .eq) (readO 2) (toO (pure ⟨.int 1, false⟩)))) (nthenM (nforM 5 (rng1M (readO 1)) (nameM 6) ringM) (nnilM)) (nnilM)) (rowsF n F)) ([.ow true (potL a3 b3), .vl (nD n), .vl (nD w), .vl (nD k), .un, .un, .un, .un].set 5 .un) = _ := r4
    unfold ringM at r4
    rw [r4, bndR_ok, run_bind, run_store, if_pos (by simp), bndR_ok]
    have e5 : ([.ow true (potL a4 b4), .vl (nD n), .vl (nD w), .vl (nD k), .un, .un, x6, .un] : En).set 5 (Sl.of ⟨.list ((rowsF n F').map PyData.list), false⟩) = [.ow true (potL a4 b4), .vl (nD n), .vl (nD w), .vl (nD k), .un, .vl (.list ((rowsF n F').map PyData.list)), x6, .un] := rfl
    rw [e5]
    generalize facesD n F' = z at *
    generalize (List.range n).map (fun i => rowD n (F' i)) = z1 at *
    generalize PyData.list ((rowsF n F').map PyData.list) = z2 at *
    generalize potL a4 b4 = q4 at *
    exact run_thenR (run_ret (by simp [r5, t5]))
theorem k_faces {a b : Int} {n i : Nat} {c : Bool} {e : En} (n1 : 1 ≤ n) (n4 : n ≤ 4) (p : Pot a b) (hi : e[i]? = some (.ow c (potL a b))) : ∃ (F : Nat → Nat → Int) (a' b' : Int), Small n F ∧ Pot a' b' ∧ runPM i N__law_faces.length ps__law_faces.length m__law_faces [nD n] e = some (.ok ⟨facesD n F, false⟩ (e.set i (.ow c (potL a' b')))) := by
  obtain ⟨F, a', b', h1, h2, h3⟩ := faces_run n1 n4 p
  exact ⟨F, a', b', h1, h2, runPM_eq hi rfl rfl h3⟩
end Lw

set_option Elab.async false
set_option linter.all false
set_option maxRecDepth 100000
set_option maxHeartbeats 4000000
namespace Lw
open PySem PySem.Spec L2 Ev
theorem l_msg_0 {a b : Int} {n : Nat} (n1 : 1 ≤ n) (n4 : n ≤ 4) (p : Pot a b) : ∃ (fs : List (List Nat)) (a' b' : Int), fs.Sublist (fullL n) ∧ Pot a' b' ∧
    c__law_messages_0 [.ow true (potL a b), .vl (nD n), .un, .un, .un] = some (.ok ⟨lmD fs, true⟩ [.ow true (potL a' b'), .vl (nD n), .un, .un, .un]) := by
  have k0 := fun e => k__law_sets (n := n) n1 n4 e
  have := lc_inv (own := [4]) (mi := seqM (callM N__law_sets.length ps__law_sets.length m__law_sets (do let d ← valM (readV 1); let ds ← (pure []); pure (d :: ds)))) (step := turnM (nameM 4) (asB (op2 (cmpD .eq) (toO (callPM 0 N__law_draw.length ps__law_draw.length m__law_draw (do let d ← valM (pure ⟨.int 3, false⟩); let ds ← (pure []); pure (d :: ds)))) (toO (pure ⟨.int 0, false⟩)))) (readV 4)) (e := [.ow true (potL a b), .vl (nD n), .un, .un, .un]) mD (fun s : Int × Int => [.ow true (potL s.1 s.2), .vl (nD n), .un, .un, .un]) (fun s rem acc => Pot s.1 s.2 ∧ ∃ fs : List (List Nat), acc = fs.map mD ∧ (fs ++ rem).Sublist (fullL n)) (fullL n) (a, b) (by
      have it : itemsOf (lmD (fullL n)) = some ((fullL n).map mD) := rfl
      generalize lmD (fullL n) = z at *
      generalize potL a b = q at *
      simp [seqM, k0, it]) ⟨p, [], rfl, by simp⟩ (fun x rem s acc ⟨hp, fs, h1, h2⟩ => by
      obtain ⟨v, a', b', hv, hp', hr⟩ := k_draw (i := 0) (c := true) (k := 3) (e := [.ow true (potL s.1 s.2), .vl (nD n), .un, .un, .vl (mD x)]) hp (by decide) (by decide) rfl
      have hr : runPM 0 N__law_draw.length ps__law_draw.length m__law_draw [.int 3] [.ow true (potL s.1 s.2), .vl (nD n), .un, .un, .vl (mD x)] = some (.ok ⟨nD v, false⟩ [.ow true (potL a' b'), .vl (nD n), .un, .un, .vl (mD x)]) := hr
      by_cases hv0 : (v : Int) = 0
      · refine ⟨some (mD x), (a', b'), [.ow true (potL a' b'), .vl (nD n), .un, .un, .vl (mD x)], ?_, rfl, hp', fs ++ [x], by simp [h1], by simpa using h2⟩
        generalize potL s.1 s.2 = q at *
        generalize potL a' b' = q' at *
        generalize mD x = y at *
        simp [turnM, hr, hv0]
      · refine ⟨none, (a', b'), [.ow true (potL a' b'), .vl (nD n), .un, .un, .vl (mD x)], ?_, rfl, hp', fs, by simp [h1], ((List.Sublist.refl fs).append (List.sublist_cons_self x rem)).trans h2⟩
        generalize potL s.1 s.2 = q at *
        generalize potL a' b' = q' at *
        generalize mD x = y at *
        simp [turnM, hr, show ¬ v = 0 by omega]) (by have := full_len n1 n4; unfold most; omega) (fun s => rfl)
  obtain ⟨s, ds, ⟨hp, fs, h1, h2⟩, hr⟩ := this
  subst h1
  exact ⟨fs, s.1, s.2, by simpa using h2, hp, hr⟩
theorem l_msg_1 {n : Nat} {x : Nat} {found : List (List Nat)} (hl : found.length ≤ 100) (x0 : Sl) : c__law_messages_1 [x0, .vl (nD n), .ow false (found.map mD), .vl (nD x), .un] = some (.ok ⟨.list (found.map fun m => .bool (decide (x ∈ m))), true⟩ [x0, .vl (nD n), .ow false (found.map mD), .vl (nD x), .un]) := by
  rw [c__law_messages_1, lcK_t (b := false) mD (fun b : Bool => PyData.bool b) (fun m => some (decide (x ∈ m))) (xs := found) rfl]
  · simp
  · intro m hm
    exact ⟨[x0, .vl (nD n), .un, .vl (nD x), .vl (mD m)], by simp [turnM], by simp⟩
  · exact big hl
  · simp
  · rfl
  · rfl
theorem l_msg_2 {n : Nat} {x : Nat} (n1 : 1 ≤ n) (n4 : n ≤ 4) (x0 x2 : Sl) : c__law_messages_2 [x0, .vl (nD n), x2, .vl (nD x), .un] = some (.ok ⟨lmD ((fullL n).filter fun m => decide (x ∈ m)), true⟩ [x0, .vl (nD n), x2, .vl (nD x), .un]) := by
  have k0 := fun e => k__law_sets (n := n) n1 n4 e
  rw [c__law_messages_2, lc_t mD mD (fun m => if x ∈ m then some m else none) (xs := fullL n)]
  · simp
  · have it : itemsOf (lmD (fullL n)) = some ((fullL n).map mD) := rfl
    generalize lmD (fullL n) = z at *
    simp [seqM, k0, it]
  · intro m hm
    refine ⟨[x0, .vl (nD n), x2, .vl (nD x), .vl (mD m)], ?_, by simp⟩
    by_cases q : x ∈ m <;> simp [turnM, q]
  · have := full_len n1 n4
    unfold most
    omega
  · simp
/-- found so far -/
structure Found (n : Nat) (found : List (List Nat)) (rem : List Nat) : Prop where
  nd : found.Nodup
  sub : ∀ m ∈ found, m ∈ fullL n
  cov : ∀ s, s < n → s ∉ rem → ∃ m ∈ found, s ∈ m
  lt : ∀ x ∈ rem, x < n
  len : found.length + rem.length ≤ 20
theorem msg_step {a b : Int} {n x : Nat} {found : List (List Nat)} {rem : List Nat} (n1 : 1 ≤ n) (n4 : n ≤ 4) (p : Pot a b) (f : Found n found (x :: rem)) (y : Sl) : ∃ (found' : List (List Nat)) (a' b' : Int), Pot a' b' ∧ Found n found' rem ∧
    b__law_messages_0 (nD x) [.ow true (potL a b), .vl (nD n), .ow false (found.map mD), y, .un] = some (.ok .nx [.ow true (potL a' b'), .vl (nD n), .ow false (found'.map mD), .vl (nD x), .un]) := by
  have hx := f.lt x List.mem_cons_self
  have fl := f.len
  simp only [List.length_cons] at fl
  have l1 := l_msg_1 (n := n) (x := x) (found := found) (by omega) (.ow true (potL a b))
  have a1 : anyF [.list (found.map fun m => PyData.bool (decide (x ∈ m)))] = some ⟨.bool (found.any fun m => decide (x ∈ m)), false⟩ := anys_comp (fun m : List Nat => decide (x ∈ m)) found
  have s0 : nameM 3 (nD x) [.ow true (potL a b), .vl (nD n), .ow false (found.map mD), y, .un] = some (.ok () [.ow true (potL a b), .vl (nD n), .ow false (found.map mD), .vl (nD x), .un]) := by simp
  have c1 : (Ev.notM (asB (op1L anyF (toO (c__law_messages_1))))) [.ow true (potL a b), .vl (nD n), .ow false (found.map mD), .vl (nD x), .un] = some (.ok (!found.any fun m => decide (x ∈ m)) [.ow true (potL a b), .vl (nD n), .ow false (found.map mD), .vl (nD x), .un]) := by
    generalize (found.map fun m => PyData.bool (decide (x ∈ m))) = z at *
    generalize (found.any fun m => decide (x ∈ m)) = t at *
    generalize potL a b = q at *
    simp [l1, a1]
  by_cases hc : (found.any fun m => decide (x ∈ m)) = true
  · rw [hc] at c1
    refine ⟨found, a, b, p, ⟨f.nd, f.sub, fun s hs hr => ?_, fun z hz => f.lt z (List.mem_cons_of_mem _ hz), by omega⟩, ?_⟩
    · by_cases e : s = x
      · subst e
        obtain ⟨m, hm, h⟩ := List.any_eq_true.mp hc
        exact ⟨m, hm, by simpa using h⟩
      · exact f.cov s hs fun w => by
          rcases List.mem_cons.mp w with w | w
          · exact e w
          · exact hr w
    · rw [b__law_messages_0, bodyM, run_bind, s0, bndR_ok, run_then (e1 := [.ow true (potL a b), .vl (nD n), .ow false (found.map mD), .vl (nD x), .un]) (by rw [run_if c1, if_neg (by simp)]; rfl)]
      rfl
  · have hc' : (found.any fun m => decide (x ∈ m)) = false := by simpa using hc
    rw [hc'] at c1
    have l2 := l_msg_2 (n := n) (x := x) n1 n4 (.ow true (potL a b)) (.ow false (found.map mD))
    have h0 : ((fullL n).filter fun m => decide (x ∈ m)) ≠ [] := fun w => by
      obtain ⟨m, hm, h⟩ := full_cov n1 n4 x hx
      have : m ∈ (fullL n).filter fun m => decide (x ∈ m) := List.mem_filter.mpr ⟨hm, by simpa using h⟩
      rw [w] at this
      cases this
    have hl : ((fullL n).filter fun m => decide (x ∈ m)).length ≤ 1000 := by
      have := full_len n1 n4
      have := List.length_filter_le (fun m => decide (x ∈ m)) (fullL n)
      omega
    obtain ⟨m, a', b', hm, hp', hr⟩ := k_pick (i := 0) (c := true) (e := [.ow true (potL a b), .vl (nD n), .ow false (found.map mD), .vl (nD x), .un]) mD _ p h0 hl rfl
    obtain ⟨hm1, hm2⟩ := List.mem_filter.mp hm
    have hm2 : x ∈ m := by simpa using hm2
    have hr : runPM 0 N__law_pick.length ps__law_pick.length m__law_pick [lmD ((fullL n).filter fun m => decide (x ∈ m))] [.ow true (potL a b), .vl (nD n), .ow false (found.map mD), .vl (nD x), .un] = some (.ok ⟨mD m, false⟩ [.ow true (potL a' b'), .vl (nD n), .ow false (found.map mD), .vl (nD x), .un]) := hr
    have new : m ∉ found := fun w => hc (List.any_eq_true.mpr ⟨m, w, by simpa using hm2⟩)
    refine ⟨found ++ [m], a', b', hp', ⟨?_, fun z hz => ?_, fun s hs hr => ?_, fun z hz => f.lt z (List.mem_cons_of_mem _ hz), by simp; omega⟩, ?_⟩
    · refine List.nodup_append.mpr ⟨f.nd, by simp, fun u hu v hv e => ?_⟩
      have : v = m := by simpa using hv
      exact new (by rw [← this, ← e]; exact hu)
    · rcases List.mem_append.mp hz with hz | hz
      · exact f.sub z hz
      · have : z = m := by simpa using hz
        rw [this]; exact hm1
    · by_cases e : s = x
      · subst e
        exact ⟨m, by simp, hm2⟩
      · obtain ⟨u, hu, h⟩ := f.cov s hs fun w => by
          rcases List.mem_cons.mp w with w | w
          · exact e w
          · exact hr w
        exact ⟨u, by simp [hu], h⟩
    · have ef : (found ++ [m]).map mD = found.map mD ++ [mD m] := by simp
      have g : (found.map mD).length < most := by rw [List.length_map]; unfold most; omega
      rw [ef, b__law_messages_0, bodyM, run_bind, s0, bndR_ok, run_then (e1 := [.ow true (potL a' b'), .vl (nD n), .ow false (found.map mD ++ [mD m]), .vl (nD x), .un]) (by
        rw [run_if c1, if_pos (by simp)]
        refine (run_then (e1 := [.ow true (potL a' b'), .vl (nD n), .ow false (found.map mD ++ [mD m]), .vl (nD x), .un]) ?_).trans rfl
        generalize lmD ((fullL n).filter fun m => decide (x ∈ m)) = z at *
        generalize found.map mD = fd at *
        generalize mD m = md at *
        generalize potL a b = q at *
        generalize potL a' b' = q' at *
        simp [appM, l2, hr, g])]
      rfl
/-- messages are drawn -/
theorem msgs_run {a b : Int} {n : Nat} (n1 : 1 ≤ n) (n4 : n ≤ 4) (p : Pot a b) : ∃ (q : List Nat → Bool) (a' b' : Int), Fine n ((fullL n).filter q) ∧ Pot a' b' ∧ RetP m__law_messages [.ow true (potL a b), .vl (nD n), .un, .un, .un] ⟨msD ((fullL n).filter q), false⟩ (potL a' b') := by
  obtain ⟨fs, a1, b1, h1, p1, r1⟩ := l_msg_0 n1 n4 p
  have nf : (fullL n).Nodup := four (p := fun n => (fullL n).Nodup) n1 n4 (by decide +kernel) (by decide +kernel) (by decide +kernel) (by decide +kernel)
  have l15 := full_len n1 n4
  have lp := for_inv (step := b__law_messages_0) nD (fun s : (Int × Int) × List (List Nat) × Sl => [.ow true (potL s.1.1 s.1.2), .vl (nD n), .ow false (s.2.1.map mD), s.2.2, .un]) (fun s rem => Pot s.1.1 s.1.2 ∧ Found n s.2.1 rem) (fun x rem s ⟨hp, hf⟩ => by
    obtain ⟨f', a', b', q1, q2, q3⟩ := msg_step n1 n4 hp hf s.2.2
    exact ⟨((a', b'), f', .vl (nD x)), q3, q1, q2⟩) (List.range n) ((a1, b1), fs, .un) ⟨p1, nf.sublist h1, fun m hm => h1.subset hm, fun s hs hr => absurd (List.mem_range.mpr hs) hr, fun x hx => List.mem_range.mp hx, by have := h1.length_le; simp; omega⟩
  obtain ⟨s, r2, hp, hf⟩ := lp
  have pm := drawn_perm n1 n4 hf.nd hf.sub
  have srt := sortedF_rows (xs := s.2.1) (ys := (fullL n).filter fun m => decide (m ∈ s.2.1)) (fun w => (full_nodup n1 n4 _ (hf.sub _ w)).2.1 rfl) (by have := hf.len; unfold most; omega) pm ((full_sorted n1 n4).sublist List.filter_sublist)
  refine ⟨fun m => decide (m ∈ s.2.1), s.1.1, s.1.2, fine_of n1 n4 _ fun x hx => ?_, hp, [.ow true (potL s.1.1 s.1.2), .vl (nD n), .ow false (s.2.1.map mD), s.2.2, .un], ?_, rfl⟩
  · obtain ⟨m, hm, h⟩ := hf.cov x hx (by simp)
    exact ⟨m, List.mem_filter.mpr ⟨hf.sub m hm, by simpa using hm⟩, h⟩
  · have m0 : rng1M (readO 1) [.ow true (potL a1 b1), .vl (nD n), .ow false (fs.map mD), .un, .un] = some (.ok ((List.range n).map nD) [.ow true (potL a1 b1), .vl (nD n), .ow false (fs.map mD), .un, .un]) := by
      generalize potL a1 b1 = q1 at *
      simp [rng1M, rngD_nat (show n ≤ 100 by omega)]
    have f2 := run_for m0 r2
    have t1 : tupleF [lmD ((fullL n).filter fun m => decide (m ∈ s.2.1))] = some ⟨msD ((fullL n).filter fun m => decide (m ∈ s.2.1)), false⟩ := rfl
    generalize msD ((fullL n).filter fun m => decide (m ∈ s.2.1)) = z1 at *
    generalize lmD ((fullL n).filter fun m => decide (m ∈ s.2.1)) = z2 at *
    rw [m__law_messages, run_then (e1 := [.ow true (potL a1 b1), .vl (nD n), .ow false (fs.map mD), .un, .un]) (by
      generalize potL a b = q at *
      generalize potL a1 b1 = q1 at *
      simp [r1]), run_then f2]
    generalize potL s.1.1 s.1.2 = q2 at *
    exact run_thenR (run_ret (by simp [srt, t1]))
theorem k_msgs {a b : Int} {n i : Nat} {c : Bool} {e : En} (n1 : 1 ≤ n) (n4 : n ≤ 4) (p : Pot a b) (hi : e[i]? = some (.ow c (potL a b))) : ∃ (q : List Nat → Bool) (a' b' : Int), Fine n ((fullL n).filter q) ∧ Pot a' b' ∧ runPM i N__law_messages.length ps__law_messages.length m__law_messages [nD n] e = some (.ok ⟨msD ((fullL n).filter q), false⟩ (e.set i (.ow c (potL a' b')))) := by
  obtain ⟨F, a', b', h1, h2, h3⟩ := msgs_run n1 n4 p
  exact ⟨F, a', b', h1, h2, runPM_eq hi rfl rfl h3⟩
end Lw

set_option Elab.async false
set_option linter.all false
set_option maxRecDepth 100000
set_option maxHeartbeats 4000000
namespace Lw
open PySem PySem.Spec L2 Ev
/-- data whose text is short -/
structure Tame (k w : Nat) (d : PyData) : Prop where
  sh : d.showable = true
  dp : d.depth ≤ k
  lv : d.leavesShort 13 = true
  wt : d.weight ≤ w
theorem Tame.up {k w k' w' : Nat} {d : PyData} (h : Tame k w d) (hk : k ≤ k') (hw : w ≤ w') : Tame k' w' d := ⟨h.sh, Nat.le_trans h.dp hk, h.lv, Nat.le_trans h.wt hw⟩
theorem tame_none : Tame 0 0 .none := ⟨rfl, Nat.le_refl _, rfl, Nat.le_refl _⟩
theorem tame_bool (b : Bool) : Tame 0 0 (.bool b) := ⟨rfl, Nat.le_refl _, rfl, Nat.le_refl _⟩
theorem tame_int {i : Int} (h : i.natAbs < 1000) : Tame 0 11 (.int i) := by
  have l : i.natAbs.log2 ≤ 10 := by
    by_cases z : i.natAbs = 0
    · rw [z]; decide
    · have : i.natAbs.log2 < 10 := (Nat.log2_lt z).mpr (by omega)
      omega
  refine ⟨?_, Nat.le_refl _, ?_, ?_⟩
  · show decide (i.natAbs.log2 < 1920) = true
    exact decide_eq_true (by omega)
  · show decide ((PyData.shown (.int i)).length ≤ 13) = true
    exact decide_eq_true (PyData.shown_int_le (by omega))
  · show (if i == 0 then 0 else i.natAbs.log2 + 1) ≤ 11
    split <;> omega
theorem tame_nat {i : Nat} (h : i < 1000) : Tame 0 11 (nD i) := tame_int (by omega)
theorem tame_all {k w : Nat} : ∀ {ds : List PyData}, (∀ d ∈ ds, Tame k w d) → PyData.showableAll ds = true ∧ PyData.depthAll ds ≤ k ∧ PyData.leavesShortAll 13 ds = true ∧ PyData.weightAll ds ≤ ds.length * (w + 1)
  | [], _ => ⟨rfl, Nat.zero_le _, rfl, Nat.zero_le _⟩
  | d :: ds, h => by
    obtain ⟨a, b, c, e⟩ := tame_all (ds := ds) fun x hx => h x (List.mem_cons_of_mem _ hx)
    have t := h d List.mem_cons_self
    refine ⟨?_, ?_, ?_, ?_⟩
    · simp only [PyData.showableAll, t.sh, a, Bool.and_self]
    · simp only [PyData.depthAll]
      exact Nat.max_le.mpr ⟨t.dp, b⟩
    · simp only [PyData.leavesShortAll, t.lv, c, Bool.and_self]
    · have := t.wt
      simp only [PyData.weightAll, List.length_cons, Nat.succ_mul]
      omega
theorem tame_tup {k w l : Nat} {ds : List PyData} (h : ∀ d ∈ ds, Tame k w d) (hl : ds.length ≤ l) : Tame (k + 1) (l * (w + 1)) (.tuple ds) := by
  obtain ⟨a, b, c, e⟩ := tame_all h
  have := Nat.mul_le_mul_right (w + 1) hl
  refine ⟨by simpa only [PyData.showable] using a, ?_, by simpa only [PyData.leavesShort] using c, ?_⟩
  · simp only [PyData.depth]; omega
  · simp only [PyData.weight]; omega
theorem tame_lst {k w l : Nat} {ds : List PyData} (h : ∀ d ∈ ds, Tame k w d) (hl : ds.length ≤ l) : Tame (k + 1) (l * (w + 1)) (.list ds) := by
  obtain ⟨a, b, c, e⟩ := tame_all h
  have := Nat.mul_le_mul_right (w + 1) hl
  refine ⟨by simpa only [PyData.showable] using a, ?_, by simpa only [PyData.leavesShort] using c, ?_⟩
  · simp only [PyData.depth]; omega
  · simp only [PyData.weight]; omega
theorem repr_ok {k w : Nat} {d : PyData} (h : Tame k w d) (hk : k ≤ 60) (hw : w ≤ 60000) : reprF [d] = some ⟨.str d.shown, false⟩ := by
  have s := PyData.shown_le 13 (by decide) d h.lv
  have g : (13 + 2) * d.weight ≤ 15 * 60000 := Nat.mul_le_mul (by decide) (Nat.le_trans h.wt hw)
  show (if d.showable = true ∧ d.depth ≤ 60 ∧ d.shown.length ≤ most then lit (.str d.shown) else none) = _
  rw [if_pos ⟨h.sh, Nat.le_trans h.dp hk, by unfold most; omega⟩]
theorem tame_two {k w : Nat} {a b : PyData} (ha : Tame k w a) (hb : Tame k w b) : Tame (k + 1) (2 * (w + 1)) (.list [a, b]) := tame_lst (fun d hd => by
  rcases List.mem_cons.mp hd with rfl | hd
  · exact ha
  · have : d = b := by simpa using hd
    rw [this]; exact hb) (Nat.le_refl _)
theorem tame_mD {m : List Nat} {l : Nat} (h : ∀ s ∈ m, s < 1000) (hl : m.length ≤ l) : Tame 1 (l * 12) (mD m) := tame_tup (fun d hd => by
  obtain ⟨s, hs, rfl⟩ := List.mem_map.mp hd
  exact tame_nat (h s hs)) (by simpa using hl)
section
variable {n : Nat} {F : Nat → Nat → Int} {m : List Nat} {s : Nat} {ms : List (List Nat)}
theorem tame_faces (h : Small n F) (h4 : n ≤ 4) : Tame 2 20000 (facesD n F) := by
  have : Tame 2 (4 * (4 * 12 + 1)) (facesD n F) := tame_tup (fun d hd => by
    obtain ⟨i, hi, rfl⟩ := List.mem_map.mp hd
    refine tame_tup (k := 0) (w := 11) (fun d hd => ?_) (by simpa using h4)
    obtain ⟨j, hj, rfl⟩ := List.mem_map.mp hd
    have := h i j (List.mem_range.mp hi) (List.mem_range.mp hj)
    exact tame_int (by omega)) (by simpa using h4)
  exact this.up (by decide) (by decide)
theorem tame_msgs (h : Good n ms) : Tame 2 20000 (msD ms) := by
  have : Tame 2 (15 * (100 * 12 + 1)) (msD ms) := tame_tup (fun d hd => by
    obtain ⟨m, hm, rfl⟩ := List.mem_map.mp hd
    have hh := h.ok m hm
    exact tame_mD (fun s hs => by have := hh.lt s hs; have := h.n4; omega) hh.len) (by simpa using h.l15)
  exact this.up (by decide) (by decide)
end
end Lw

set_option Elab.async false
set_option linter.all false
set_option maxRecDepth 100000
set_option maxHeartbeats 4000000
namespace Lw
open PySem PySem.Spec L2 Ev
abbrev ppD (p : Nat × Nat) : PyData := .tuple [nD p.1, nD p.2]
section
variable {n : Nat} {F : Nat → Nat → Int} {m : List Nat} {s : Nat} {ms : List (List Nat)}
/-- what a state has more by other messages -/
def gain1 (F : Nat → Nat → Int) (ms : List (List Nat)) (r : List Nat) (s : Nat) (o : Int) : List (Nat × Nat) := (ms.zipIdx.filter fun p => decide (s ∈ p.1) && decide (o < F s (r.getD p.2 0))).map fun p => (s, p.2)
def gainL (n : Nat) (F : Nat → Nat → Int) (ms : List (List Nat)) (t r : List Nat) : List (Nat × Nat) := (List.range n).flatMap fun s => gain1 F ms r s (F s (r.getD (t.getD s 0) 0))
theorem gain1_len {r : List Nat} {o : Int} : (gain1 F ms r s o).length ≤ ms.length := by
  unfold gain1
  rw [List.length_map]
  exact Nat.le_trans (List.length_filter_le _ _) (by simp)
theorem gen_gain0 {t r : List Nat} {o : Int} (w : Way n ms t r) (hs : s < n) (acc : List (Nat × Nat)) (hz : acc.length + ms.length ≤ 1000) (a b c d : Sl) : ∃ q : Sl × Sl, forGo b_gains_of_0 (ms.zipIdx.map fun p => PyData.tuple [nD p.2, mD p.1]) [.vl (facesD n F), .vl (msD ms), a, b, .vl (mD r), .ow false (acc.map ppD), .vl (nD s), .vl (.int o), c, d] =
    some (.ok .nx [.vl (facesD n F), .vl (msD ms), a, b, .vl (mD r), .ow false ((acc ++ gain1 F ms r s o).map ppD), .vl (nD s), .vl (.int o), q.1, q.2]) := by
  have lp := for_inv (step := b_gains_of_0) (fun p : List Nat × Nat => PyData.tuple [nD p.2, mD p.1]) (fun q : List (Nat × Nat) × Sl × Sl => [.vl (facesD n F), .vl (msD ms), a, b, .vl (mD r), .ow false (q.1.map ppD), .vl (nD s), .vl (.int o), q.2.1, q.2.2]) (fun q rem => q.1.length + rem.length ≤ 1000 ∧ (∀ p ∈ rem, p.2 < ms.length) ∧ q.1 ++ (rem.filter fun p => decide (s ∈ p.1) && decide (o < F s (r.getD p.2 0))).map (fun p => (s, p.2)) = acc ++ gain1 F ms r s o) (fun p rem q ⟨h1, h2, h3⟩ => by
    have hp2 : p.2 < r.length := by rw [w.rl]; exact h2 p List.mem_cons_self
    have hr : r.getD p.2 0 < n := getD_lt w.ra hp2
    have i1 : idxD (facesD n F) (nD s) = some ⟨rowD n (F s), false⟩ := idx_faces (j := 0) hs []
    have i2 := idx_mD hp2
    have i3 := idx_row (f := F s) hr
    simp only [List.length_cons] at h1
    have g : (q.1.map ppD).length < most := by rw [List.length_map]; unfold most; omega
    rw [List.filter_cons] at h3
    generalize r.getD p.2 0 = v at *
    by_cases z : s ∈ p.1
    · by_cases z2 : o < F s v
      · refine ⟨(q.1 ++ [(s, p.2)], .vl (nD p.2), .vl (mD p.1)), ?_, by simp; omega, fun x hx => h2 x (List.mem_cons_of_mem _ hx), ?_⟩
        · have ec : (q.1 ++ [(s, p.2)]).map ppD = q.1.map ppD ++ [ppD (s, p.2)] := by simp
          simp only [ec]
          generalize q.1.map ppD = ac at *
          simp [b_gains_of_0, bodyM, z, -idx_tup, i1, i2, i3, gtD, z2, appM, g]
        · rw [← h3]
          simp [z, z2]
      · refine ⟨(q.1, .vl (nD p.2), .vl (mD p.1)), ?_, (by show q.1.length + rem.length ≤ 1000; omega), fun x hx => h2 x (List.mem_cons_of_mem _ hx), ?_⟩
        · simp [b_gains_of_0, bodyM, z, -idx_tup, i1, i2, i3, gtD, z2]
        · rw [← h3]
          simp [z2]
    · refine ⟨(q.1, .vl (nD p.2), .vl (mD p.1)), ?_, (by show q.1.length + rem.length ≤ 1000; omega), fun x hx => h2 x (List.mem_cons_of_mem _ hx), ?_⟩
      · simp [b_gains_of_0, bodyM, z]
      · rw [← h3]
        simp [z]) ms.zipIdx (acc, c, d) ⟨by simpa using hz, fun p hp => by
        obtain ⟨x, i⟩ := p
        have := List.snd_lt_of_mem_zipIdx hp
        simpa using this, rfl⟩
  obtain ⟨q, h, _, _, h3⟩ := lp
  have h3 : q.1 = acc ++ gain1 F ms r s o := by simpa using h3
  rw [h3] at h
  exact ⟨q.2, h⟩
theorem gen_gain1 {t r : List Nat} (h : Good n ms) (w : Way n ms t r) (a : Sl) : ∃ q : (Sl × Sl) × Sl × Sl, forGo b_gains_of_1 ((List.range n).map nD) [.vl (facesD n F), .vl (msD ms), a, .vl (mD t), .vl (mD r), .ow false [], .un, .un, .un, .un] =
    some (.ok .nx [.vl (facesD n F), .vl (msD ms), a, .vl (mD t), .vl (mD r), .ow false ((gainL n F ms t r).map ppD), q.1.1, q.1.2, q.2.1, q.2.2]) := by
  have lp := for_inv (step := b_gains_of_1) nD (fun q : List (Nat × Nat) × (Sl × Sl) × Sl × Sl => [.vl (facesD n F), .vl (msD ms), a, .vl (mD t), .vl (mD r), .ow false (q.1.map ppD), q.2.1.1, q.2.1.2, q.2.2.1, q.2.2.2]) (fun q rem => q.1.length + rem.length * 15 ≤ 900 ∧ (∀ s ∈ rem, s < n) ∧ q.1 ++ (rem.flatMap fun s => gain1 F ms r s (F s (r.getD (t.getD s 0) 0))) = gainL n F ms t r) (fun s rem q ⟨h1, h2, h3⟩ => by
    have hs := h2 s List.mem_cons_self
    have st : s < t.length := by rw [w.tl]; exact hs
    have i1 : idxD (facesD n F) (nD s) = some ⟨rowD n (F s), false⟩ := idx_faces (j := 0) hs []
    have i2 := idx_mD st
    have hta := getD_lt w.ta st
    have i3 := idx_mD (t := r) (i := t.getD s 0) (by rw [w.rl]; exact hta)
    have hrr : r.getD (t.getD s 0) 0 < n := getD_lt w.ra (by rw [w.rl]; exact hta)
    have l15 := h.l15
    rw [List.flatMap_cons] at h3
    simp only [List.length_cons] at h1
    generalize r.getD (t.getD s 0) 0 = v at *
    generalize t.getD s 0 = u at *
    have gl := gain1_len (F := F) (ms := ms) (r := r) (s := s) (o := F s v)
    obtain ⟨q2, l⟩ := gen_gain0 (F := F) (o := F s v) w hs q.1 (by omega) a (.vl (mD t)) q.2.2.1 q.2.2.2
    refine ⟨(q.1 ++ gain1 F ms r s (F s v), (.vl (nD s), .vl (.int (F s v))), q2), ?_, by rw [List.length_append]; omega, fun x hx => h2 x (List.mem_cons_of_mem _ hx), by rw [← h3, List.append_assoc]⟩
    have s1 : setM 7 (op2 idxD (toO (op2 idxD (readO 0) (readO 6))) (toO (op2 idxD (readO 4) (toO (op2 idxD (readO 3) (readO 6)))))) [.vl (facesD n F), .vl (msD ms), a, .vl (mD t), .vl (mD r), .ow false (q.1.map ppD), .vl (nD s), q.2.1.2, q.2.2.1, q.2.2.2] = some (.ok .nx [.vl (facesD n F), .vl (msD ms), a, .vl (mD t), .vl (mD r), .ow false (q.1.map ppD), .vl (nD s), .vl (.int (F s v)), q.2.2.1, q.2.2.2]) := by
      generalize q.1.map ppD = ac at *
      simp [-idx_tup, i1, i2, i3, idx_row hrr]
    have m0 : enumM (readV 1) [.vl (facesD n F), .vl (msD ms), a, .vl (mD t), .vl (mD r), .ow false (q.1.map ppD), .vl (nD s), .vl (.int (F s v)), q.2.2.1, q.2.2.2] = some (.ok (ms.zipIdx.map fun p => PyData.tuple [nD p.2, mD p.1]) [.vl (facesD n F), .vl (msD ms), a, .vl (mD t), .vl (mD r), .ow false (q.1.map ppD), .vl (nD s), .vl (.int (F s v)), q.2.2.1, q.2.2.2]) := by
      generalize q.1.map ppD = ac at *
      simp [enumM, seqM, itemsOf]
    have f1 := run_for m0 l
    have b0 : nameM 6 (nD s) [.vl (facesD n F), .vl (msD ms), a, .vl (mD t), .vl (mD r), .ow false (q.1.map ppD), q.2.1.1, q.2.1.2, q.2.2.1, q.2.2.2] = some (.ok () [.vl (facesD n F), .vl (msD ms), a, .vl (mD t), .vl (mD r), .ow false (q.1.map ppD), .vl (nD s), q.2.1.2, q.2.2.1, q.2.2.2]) := by
      generalize q.1.map ppD = ac at *
      simp
    rw [b_gains_of_1, bodyM, run_bind, b0, bndR_ok, run_then s1, run_then f1]
    rfl) (List.range n) ([], (.un, .un), .un, .un) ⟨by have := h.n4; simp; omega, fun s hs => List.mem_range.mp hs, rfl⟩
  obtain ⟨q, h, _, _, h3⟩ := lp
  have h3 : q.1 = gainL n F ms t r := by simpa using h3
  rw [h3] at h
  exact ⟨q.2, h⟩
theorem gen_gains_of {t r : List Nat} (h : Good n ms) (w : Way n ms t r) (e : En) : runM N_gains_of.length ps_gains_of.length m_gains_of [facesD n F, msD ms, wayV t r] e = some (.ok ⟨.list ((gainL n F ms t r).map ppD), true⟩ e) := runM_eq rfl rfl (by
  obtain ⟨q, l⟩ := gen_gain1 (F := F) h w (.vl (wayV t r))
  have m0 : rng1M (toO (op1L lenF (readO 0))) [.vl (facesD n F), .vl (msD ms), .vl (wayV t r), .vl (mD t), .vl (mD r), .ow false [], .un, .un, .un, .un] = some (.ok ((List.range n).map nD) [.vl (facesD n F), .vl (msD ms), .vl (wayV t r), .vl (mD t), .vl (mD r), .ow false [], .un, .un, .un, .un]) := by
    have lm : lenF [facesD n F] = some ⟨nD n, false⟩ := by simp [lenF]
    generalize wayV t r = z at *
    generalize facesD n F = z2 at *
    simp [rng1M, lm, rngD_nat h.nle]
  have f1 := run_for m0 l
  refine ret_of (e1 := [.vl (facesD n F), .vl (msD ms), .vl (wayV t r), .vl (mD t), .vl (mD r), .un, q.1.1, q.1.2, q.2.1, q.2.2]) ?_
  show m_gains_of [.vl (facesD n F), .vl (msD ms), .vl (wayV t r), .un, .un, .un, .un, .un, .un, .un] = _
  rw [m_gains_of, run_then (e1 := [.vl (facesD n F), .vl (msD ms), .vl (wayV t r), .vl (mD t), .vl (mD r), .un, .un, .un, .un, .un]) (by simp), run_then (e1 := [.vl (facesD n F), .vl (msD ms), .vl (wayV t r), .vl (mD t), .vl (mD r), .ow false [], .un, .un, .un, .un]) (by simp), run_then f1]
  generalize (gainL n F ms t r).map ppD = z at *
  exact run_thenR (run_ret (by simp)))
end
end Lw

set_option Elab.async false
set_option linter.all false
set_option maxRecDepth 100000
set_option maxHeartbeats 4000000
namespace Lw
open PySem PySem.Spec L2 Ev
section
variable {n : Nat} {F : Nat → Nat → Int} {m : List Nat} {s : Nat} {ms : List (List Nat)}
theorem pickT_run {a b : Int} (xs : List Nat) (p : Pot a b) (h0 : xs ≠ []) (hl : xs.length ≤ 1000) : ∃ (x : Nat) (a' b' : Int), x ∈ xs ∧ Pot a' b' ∧ RetP m__law_pick [.ow true (potL a b), .vl (mD xs)] ⟨nD x, false⟩ (potL a' b') := by
  have l1 : 1 ≤ xs.length := by
    cases xs with
    | nil => exact absurd rfl h0
    | cons => simp
  obtain ⟨v, a', b', hv, hp, hr⟩ := k_draw (i := 0) (c := true) (e := [.ow true (potL a b), .vl (mD xs)]) p l1 hl rfl
  have hr : runPM 0 N__law_draw.length ps__law_draw.length m__law_draw [nD xs.length] [.ow true (potL a b), .vl (mD xs)] = some (.ok ⟨nD v, false⟩ [.ow true (potL a' b'), .vl (mD xs)]) := hr
  have hi : idxD (mD xs) (nD v) = some ⟨nD xs[v], false⟩ := by
    rw [idx_tup, atI_nat _ _ hv]
    rfl
  have hn : lenF [mD xs] = some ⟨nD xs.length, false⟩ := by simp [lenF]
  refine ⟨xs[v], a', b', List.getElem_mem hv, hp, [.ow true (potL a' b'), .vl (mD xs)], ?_, rfl⟩
  generalize nD xs[v] = y at *
  generalize mD xs = z at *
  generalize potL a b = q at *
  generalize potL a' b' = q' at *
  rw [m__law_pick]
  exact run_thenR (run_ret (by simp [hn, hr, hi]))
theorem k_pickT {a b : Int} {i : Nat} {c : Bool} {e : En} (xs : List Nat) (p : Pot a b) (h0 : xs ≠ []) (hl : xs.length ≤ 1000) (hi : e[i]? = some (.ow c (potL a b))) : ∃ (x : Nat) (a' b' : Int), x ∈ xs ∧ Pot a' b' ∧ runPM i N__law_pick.length ps__law_pick.length m__law_pick [mD xs] e = some (.ok ⟨nD x, false⟩ (e.set i (.ow c (potL a' b')))) := by
  obtain ⟨x, a', b', h1, h2, h3⟩ := pickT_run xs p h0 hl
  exact ⟨x, a', b', h1, h2, runPM_eq hi rfl rfl h3⟩
def haveL (ms : List (List Nat)) (s : Nat) : List Nat := (ms.zipIdx.filter fun p => decide (s ∈ p.1)).map (·.2)
theorem have_facts (h : Fine n ms) (hs : s < n) : haveL ms s ≠ [] ∧ (haveL ms s).length ≤ 15 ∧ ∀ a ∈ haveL ms s, a < ms.length := by
  refine ⟨fun w => ?_, ?_, fun a ha => ?_⟩
  · obtain ⟨m, hm, c⟩ := List.any_eq_true.mp (h.cov s hs)
    obtain ⟨i, hi, rfl⟩ := List.mem_iff_getElem.mp hm
    have : i ∈ haveL ms s := List.mem_map.mpr ⟨(ms[i], i), List.mem_filter.mpr ⟨List.mem_zipIdx_iff_getElem?.mpr (by simp [hi]), by simpa using c⟩, rfl⟩
    rw [w] at this
    cases this
  · unfold haveL
    rw [List.length_map]
    refine Nat.le_trans (List.length_filter_le _ _) ?_
    simpa using h.l15
  · obtain ⟨p, hp, rfl⟩ := List.mem_map.mp ha
    obtain ⟨m, i⟩ := p
    have := List.snd_lt_of_mem_zipIdx (List.mem_filter.mp hp).1
    simpa using this
theorem isi_tuple (d : PyData) : isiD "tuple" d = some ⟨.bool d.isTuple, false⟩ := rfl
theorem isi_str (d : PyData) : isiD "str" d = some ⟨.bool d.isStr, false⟩ := rfl
theorem tup_of {d : PyData} (h : d.isTuple = true) : ∃ ds, d = .tuple ds := by
  cases d <;> first | exact ⟨_, rfl⟩ | cases h
theorem str_of {d : PyData} (h : d.isStr = true) : ∃ s, d = .str s := by
  cases d <;> first | exact ⟨_, rfl⟩ | cases h
theorem len_tup (ds : List PyData) : lenF [.tuple ds] = some ⟨nD ds.length, false⟩ := rfl
def inT (ms : List (List Nat)) (t : List Nat) : Bool := t.zipIdx.all fun p => decide (p.2 ∈ ms.getD p.1 [])
def inR (ms : List (List Nat)) (r : List Nat) : Bool := (r.zip ms).all fun p => decide (p.1 ∈ p.2)
theorem l_w3 {t : List Nat} (ht : ∀ a ∈ t, a < ms.length) (hl : t.length ≤ 100) (x z b : Sl) : c_way_is_right_3 [x, .vl (msD ms), z, .vl (mD t), b, .un, .un, .un, .un] = some (.ok ⟨.list (t.zipIdx.map fun p => .bool (decide (p.2 ∈ ms.getD p.1 []))), true⟩ [x, .vl (msD ms), z, .vl (mD t), b, .un, .un, .un, .un]) := by
  rw [c_way_is_right_3, lc_t (fun p : Nat × Nat => PyData.tuple [nD p.2, nD p.1]) PyData.bool (fun p => some (decide (p.2 ∈ ms.getD p.1 []))) (xs := t.zipIdx)]
  · simp
  · simp [enumM, seqM, itemsOf]
  · intro p hp
    have h1 : p.1 < ms.length := ht _ (by
      obtain ⟨a, i⟩ := p
      exact List.fst_mem_of_mem_zipIdx hp)
    have h3 := idx_msD h1
    generalize ms.getD p.1 [] = m at *
    exact ⟨[x, .vl (msD ms), z, .vl (mD t), b, .un, .vl (nD p.1), .vl (nD p.2), .un], by simp [turnM, -idx_tup, h3], by simp⟩
  · exact big (by rw [List.length_zipIdx]; exact hl)
  · simp
theorem l_w4 {r : List Nat} (hl : r.length ≤ 100) (x z a : Sl) : c_way_is_right_4 [x, .vl (msD ms), z, a, .vl (mD r), .un, .un, .un, .un] = some (.ok ⟨.list ((r.zip ms).map fun p => .bool (decide (p.1 ∈ p.2))), true⟩ [x, .vl (msD ms), z, a, .vl (mD r), .un, .un, .un, .un]) := by
  rw [c_way_is_right_4, lc_t (fun p : Nat × List Nat => PyData.tuple [nD p.1, mD p.2]) PyData.bool (fun p => some (decide (p.1 ∈ p.2))) (xs := r.zip ms)]
  · simp
  · simp [zipM, itemsOf, List.zip_eq_zipWith, List.map_zipWith]
  · intro p hp
    exact ⟨[x, .vl (msD ms), z, a, .vl (mD r), .un, .un, .vl (nD p.1), .vl (mD p.2)], by simp [turnM], by simp⟩
  · exact zip_len hl
  · simp
theorem ret_false {c : M Bool} {rest : M Fl} {e e1 : En} (h : c e = some (.ok true e1)) : thenM (ifM c (thenM (retM (pure ⟨.bool false, false⟩)) (pure .nx)) (pure .nx)) rest e = some (.ok (.rt ⟨.bool false, false⟩) e1) :=
  run_thenR (by rw [run_if h, if_pos rfl]; exact run_thenR (run_ret rfl))
theorem ret_pass {c : M Bool} {rest : M Fl} {e e1 : En} (h : c e = some (.ok false e1)) : thenM (ifM c (thenM (retM (pure ⟨.bool false, false⟩)) (pure .nx)) (pure .nx)) rest e = rest e1 :=
  run_then (by rw [run_if h, if_neg (by simp)]; exact (rfl))
end
end Lw

set_option Elab.async false
set_option linter.all false
set_option maxRecDepth 100000
set_option maxHeartbeats 4000000
namespace Lw
open PySem PySem.Spec L2 Ev
section
variable {n : Nat} {F : Nat → Nat → Int} {m : List Nat} {s : Nat} {ms : List (List Nat)}
/-- whom a state envies -/
def envy1 (n : Nat) (F : Nat → Nat → Int) (i : Nat) : List (Nat × Nat) := ((List.range n).filter fun j => decide (F i i < F i j)).map fun j => (i, j)
def envyL (n : Nat) (F : Nat → Nat → Int) : List (Nat × Nat) := (List.range n).flatMap (envy1 n F)
theorem envy1_len (i : Nat) : (envy1 n F i).length ≤ n := by
  unfold envy1
  rw [List.length_map]
  refine Nat.le_trans (List.length_filter_le _ _) ?_
  simp
theorem lrg_n {mo : M OV} {e : En} {o : OV} (h : mo e = some (.ok o e)) (hd : der o e = some (.ok (nD n) e)) (hn : n ≤ 100) : lrgM mo e = some (.ok ⟨lnD (List.range n), true⟩ e) := by
  rw [lrgM, rng1M, run_bind, run_bind, h, bndR_ok, run_bind, hd, bndR_ok, rngD_nat hn, run_lift_some, bndR_ok]
  rfl
theorem en_0 {i : Nat} (hi : i < n) (hn : n ≤ 100) (x2 : Sl) : c_envies_of_0 [.vl (facesD n F), .vl (lnD (List.range n)), x2, .vl (nD i), .un] = some (.ok ⟨.list ((envy1 n F i).map ppD), true⟩ [.vl (facesD n F), .vl (lnD (List.range n)), x2, .vl (nD i), .un]) := by
  rw [c_envies_of_0, lc_t nD ppD (fun j => if F i i < F i j then some (i, j) else none) (xs := List.range n)]
  · simp [envy1]
  · have it : itemsOf (lnD (List.range n)) = some ((List.range n).map nD) := rfl
    generalize lnD (List.range n) = z at *
    generalize facesD n F = fd at *
    simp [seqM, it]
  · intro j hj
    refine ⟨[.vl (facesD n F), .vl (lnD (List.range n)), x2, .vl (nD i), .vl (nD j)], ?_, by simp⟩
    by_cases q : F i i < F i j <;> simp [turnM, k_does_envy hi (List.mem_range.mp hj), q]
  · exact big (by simpa using hn)
  · simp
theorem k_envies_of (hn : n ≤ 4) (e : En) : runM N_envies_of.length ps_envies_of.length m_envies_of [facesD n F] e = some (.ok ⟨.list ((envyL n F).map ppD), true⟩ e) := runM_eq rfl rfl (by
  have l0 : lenF [facesD n F] = some ⟨nD n, false⟩ := by simp [lenF]
  show Ret m_envies_of [.vl (facesD n F), .un, .un, .un, .un] _
  have lp := for_inv (step := b_envies_of_0) nD (fun s : List (Nat × Nat) × Sl => [.vl (facesD n F), .vl (lnD (List.range n)), .ow false (s.1.map ppD), s.2, .un]) (fun s rem => s.1.length + rem.length * 4 ≤ 20 ∧ (∀ x ∈ rem, x < n) ∧ s.1 ++ rem.flatMap (envy1 n F) = envyL n F) (fun x rem s ⟨h1, h2, h3⟩ => by
    have hx := h2 x List.mem_cons_self
    have c := en_0 (F := F) hx (by omega) (.ow false (s.1.map ppD))
    have el := envy1_len (n := n) (F := F) x
    simp only [List.length_cons] at h1
    refine ⟨(s.1 ++ envy1 n F x, .vl (nD x)), ?_, by rw [List.length_append]; omega, fun y hy => h2 y (List.mem_cons_of_mem _ hy), by rw [← h3, List.flatMap_cons, List.append_assoc]⟩
    have g : (s.1.map ppD).length + ((envy1 n F x).map ppD).length ≤ most := by rw [List.length_map, List.length_map]; unfold most; omega
    have ea : (s.1 ++ envy1 n F x).map ppD = s.1.map ppD ++ (envy1 n F x).map ppD := by simp
    simp only [ea]
    generalize (envy1 n F x).map ppD = z1 at *
    generalize s.1.map ppD = z2 at *
    generalize facesD n F = fd at *
    generalize lnD (List.range n) = z3 at *
    simp [b_envies_of_0, bodyM, extM, c, itL, g]) (List.range n) ([], .un) ⟨by simp; omega, fun x hx => List.mem_range.mp hx, rfl⟩
  obtain ⟨s, h, _, _, h3⟩ := lp
  have h3 : s.1 = envyL n F := by simpa using h3
  rw [h3] at h
  have r1 : lrgM (toO (op1L lenF (readO 0))) [.vl (facesD n F), .un, .un, .un, .un] = some (.ok ⟨lnD (List.range n), true⟩ [.vl (facesD n F), .un, .un, .un, .un]) := lrg_n (o := .vl (nD n)) (by
    generalize facesD n F = fd at *
    simp [l0]) rfl (by omega)
  have m0 : seqM (readV 1) [.vl (facesD n F), .vl (lnD (List.range n)), .ow false [], .un, .un] = some (.ok ((List.range n).map nD) [.vl (facesD n F), .vl (lnD (List.range n)), .ow false [], .un, .un]) := by
    have it : itemsOf (lnD (List.range n)) = some ((List.range n).map nD) := rfl
    generalize lnD (List.range n) = z at *
    generalize facesD n F = fd at *
    simp [seqM, it]
  have f1 := run_for m0 h
  refine ret_of (e1 := [.vl (facesD n F), .vl (lnD (List.range n)), .un, s.2, .un]) ?_
  have s1 : setM 1 (frzM (lrgM (toO (op1L lenF (readO 0))))) [.vl (facesD n F), .un, .un, .un, .un] = some (.ok .nx [.vl (facesD n F), .vl (lnD (List.range n)), .un, .un, .un]) := by
    generalize lrgM (toO (op1L lenF (readO 0))) = mm at *
    generalize lnD (List.range n) = z at *
    generalize facesD n F = fd at *
    simp [r1]
  have s2 : setM 2 (lstM (pure [])) [.vl (facesD n F), .vl (lnD (List.range n)), .un, .un, .un] = some (.ok .nx [.vl (facesD n F), .vl (lnD (List.range n)), .ow false [], .un, .un]) := by
    generalize lnD (List.range n) = z at *
    generalize facesD n F = fd at *
    simp
  rw [m_envies_of, run_then s1, run_then s2, run_then f1]
  generalize lnD (List.range n) = z at *
  generalize facesD n F = fd at *
  generalize (envyL n F).map ppD = zz at *
  exact run_thenR (run_ret (by simp)))
theorem k_envies (hf : Small n F) (h1 : 1 ≤ n) (h4 : n ≤ 4) (e : En) : runM N_envies.length ps_envies.length m_envies [facesD n F] e = some (.ok ⟨.list ((envyL n F).map ppD), true⟩ e) := runM_eq rfl rfl (by
  have kc := k_check_faces hf h1 h4
  have ke := k_envies_of (F := F) h4
  show Ret m_envies [.vl (facesD n F)] _
  generalize facesD n F = fd at *
  generalize (envyL n F).map ppD = zz at *
  simp [m_envies, kc, ke])
theorem k_full_messages (hf : Small n F) (h1 : 1 ≤ n) (h4 : n ≤ 4) (e : En) : runM N_full_messages.length ps_full_messages.length m_full_messages [facesD n F] e = some (.ok ⟨msD (fullL n), false⟩ e) := runM_eq rfl rfl (by
  have kc := k_check_faces hf h1 h4
  have ke := k_full_of h1 h4
  have l0 : lenF [facesD n F] = some ⟨nD n, false⟩ := by simp [lenF]
  show Ret m_full_messages [.vl (facesD n F)] _
  generalize facesD n F = fd at *
  generalize msD (fullL n) = zz at *
  generalize nD n = z at *
  simp [m_full_messages, kc, l0, ke])
theorem k_fit (hf : Small n F) (h : Fine n ms) {i : Nat} (hi : i < ms.length) (e : En) : runM N_fit.length ps_fit.length m_fit [facesD n F, msD ms, nD i] e = some (.ok ⟨mD (fit F (ms.getD i [])), false⟩ e) := runM_eq rfl rfl (by
  have kc := k_check_both hf h
  have l1 : lenF [msD ms] = some ⟨nD ms.length, false⟩ := by simp [lenF]
  have kp := k_is_position (nD i) ms.length
  rw [posB_nD, decide_eq_true hi] at kp
  have ix := idx_msD hi
  have hm : Msg n (ms.getD i []) := by rw [getD_of hi]; exact h.ok _ (List.getElem_mem hi)
  have kf := k_fit_of (F := F) hm
  show Ret m_fit [.vl (facesD n F), .vl (msD ms), .vl (nD i)] _
  generalize mD (fit F (ms.getD i [])) = zz at *
  generalize mD (ms.getD i []) = zm at *
  generalize facesD n F = fd at *
  generalize msD ms = md at *
  generalize nD ms.length = z at *
  generalize nD i = zi at *
  simp [m_fit, kc, l1, kp, ix, kf])
theorem k_gains (hf : Small n F) (h : Fine n ms) {t r : List Nat} (w : Way n ms t r) (h1 : inT ms t = true) (h2 : inR ms r = true) (e : En) : runM N_gains.length ps_gains.length m_gains [facesD n F, msD ms, wayV t r] e = some (.ok ⟨.list ((gainL n F ms t r).map ppD), true⟩ e) := runM_eq rfl rfl (by
  have kc := k_check_both hf h
  have wo : WayOk n ms t r := { w with inT := fun p hp => by simpa using List.all_eq_true.mp h1 p hp, inR := fun p hp => by simpa using List.all_eq_true.mp h2 p hp }
  have kw := k_way_is_right (F := F) wo h.toMsgs
  have kg := gen_gains_of (F := F) h.toGood w
  show Ret m_gains [.vl (facesD n F), .vl (msD ms), .vl (wayV t r)] _
  generalize wayV t r = v at *
  generalize facesD n F = fd at *
  generalize msD ms = md at *
  generalize (gainL n F ms t r).map ppD = zz at *
  simp [m_gains, kc, kw, kg])
/-! the law's own -/
theorem k__law_envies {i j : Nat} (hi : i < n) (hj : j < n) (e : En) : runM N__law_envies.length ps__law_envies.length m__law_envies [facesD n F, nD i, nD j] e = some (.ok ⟨.bool (decide (F i i < F i j)), false⟩ e) := runM_eq rfl rfl (r_does_envy hi hj)
end
end Lw

set_option Elab.async false
set_option linter.all false
set_option maxRecDepth 100000
set_option maxHeartbeats 4000000
namespace Lw
open PySem PySem.Spec L2 Ev
def lastN (t : List Nat) : Nat := t.getLastD 0
def envB (F : Nat → Nat → Int) (i j : Nat) : Bool := decide (F i i < F i j)
def chainB (F : Nat → Nat → Int) (t : List Nat) : Bool := (t.zip t.tail).all fun p => envB F p.1 p.2
def closeB (F : Nat → Nat → Int) (t : List Nat) : Bool := envB F (lastN t) (t.headD 0)
def rstepE (n : Nat) (F : Nat → Nat → Int) (t : List Nat) : List (List Nat) := (((List.range (n - (t.headD 0 + 1))).map fun k => t.headD 0 + 1 + k).filter fun a => decide (a ∉ t) && envB F (lastN t) a).map fun a => t ++ [a]
def lline (n : Nat) (F : Nat → Nat → Int) (k : Nat) : List (List Nat) := (rline n k).filter (chainB F)
theorem chain_app (F : Nat → Nat → Int) : ∀ (t : List Nat) (a : Nat), t ≠ [] → chainB F (t ++ [a]) = (chainB F t && envB F (lastN t) a)
  | [], _, h => absurd rfl h
  | [x], a, _ => by simp [chainB, lastN]
  | x :: y :: t, a, _ => by
    have ih := chain_app F (y :: t) a (by simp)
    have e1 : chainB F (x :: y :: t ++ [a]) = (envB F x y && chainB F (y :: t ++ [a])) := rfl
    have e2 : chainB F (x :: y :: t) = (envB F x y && chainB F (y :: t)) := rfl
    have e3 : lastN (x :: y :: t) = lastN (y :: t) := rfl
    rw [e1, e2, e3, ih, Bool.and_assoc]
theorem close_app (F : Nat → Nat → Int) : ∀ (t : List Nat) (h : Nat), t ≠ [] → ((t.zip (t.tail ++ [h])).all fun p => envB F p.1 p.2) = (chainB F t && envB F (lastN t) h)
  | [], _, h => absurd rfl h
  | [x], a, _ => by simp [chainB, lastN]
  | x :: y :: t, a, _ => by
    have ih := close_app F (y :: t) a (by simp)
    have e1 : (((x :: y :: t).zip ((x :: y :: t).tail ++ [a])).all fun p => envB F p.1 p.2) = (envB F x y && (((y :: t).zip ((y :: t).tail ++ [a])).all fun p => envB F p.1 p.2)) := rfl
    have e2 : chainB F (x :: y :: t) = (envB F x y && chainB F (y :: t)) := rfl
    have e3 : lastN (x :: y :: t) = lastN (y :: t) := rfl
    rw [e1, e2, e3, ih, Bool.and_assoc]
theorem envy_split {F : Nat → Nat → Int} {t : List Nat} (h : t ≠ []) : envyB F t = (chainB F t && closeB F t) := by
  unfold envyB around closeB
  cases t with
  | nil => exact absurd rfl h
  | cons x t => exact close_app F (x :: t) x (by simp)
theorem step_filter {n : Nat} {F : Nat → Nat → Int} {t : List Nat} (h : t ≠ []) : (rstep n t).filter (chainB F) = if chainB F t = true then rstepE n F t else [] := by
  unfold rstep rstepE
  generalize (List.range (n - (t.headD 0 + 1))).map (fun k => t.headD 0 + 1 + k) = c
  rw [List.filter_map, List.filter_filter]
  by_cases hc : chainB F t = true
  · rw [if_pos hc]
    congr 1
    refine List.filter_congr fun a _ => ?_
    simp only [Function.comp, chain_app F t a h, hc, Bool.true_and]
    rw [Bool.and_comm]
  · rw [if_neg hc]
    have hc' : chainB F t = false := by simpa using hc
    have : (c.filter fun a => (chainB F ∘ fun a => t ++ [a]) a && decide (a ∉ t)) = [] := by
      rw [List.filter_eq_nil_iff]
      intro a _
      simp [Function.comp, chain_app F t a h, hc']
    rw [this]
    rfl
theorem rline_ne {n : Nat} : ∀ {k : Nat}, ∀ t ∈ rline n k, t ≠ []
  | 0, t, h => by
    obtain ⟨i, _, rfl⟩ := List.mem_map.mp h
    simp
  | k + 1, t, h => by
    obtain ⟨u, _, h⟩ := List.mem_flatMap.mp h
    obtain ⟨a, _, rfl⟩ := List.mem_map.mp h
    simp
theorem lline_succ {n k : Nat} {F : Nat → Nat → Int} : (lline n F k).flatMap (rstepE n F) = lline n F (k + 1) := by
  have e : rline n (k + 1) = (rline n k).flatMap (rstep n) := rfl
  unfold lline
  rw [e]
  have ne := rline_ne (n := n) (k := k)
  generalize rline n k = l at *
  clear e
  induction l with
  | nil => rfl
  | cons t l ih =>
    have ih := ih fun u hu => ne u (List.mem_cons_of_mem _ hu)
    rw [List.flatMap_cons, List.filter_append, step_filter (ne t List.mem_cons_self), List.filter_cons]
    by_cases hc : chainB F t = true
    · rw [if_pos hc, if_pos hc, List.flatMap_cons, ih]
    · rw [if_neg hc, if_neg hc, ih]
      rfl
theorem lline_zero {n : Nat} {F : Nat → Nat → Int} : lline n F 0 = rline n 0 := by
  unfold lline
  rw [List.filter_eq_self]
  intro t h
  obtain ⟨i, _, rfl⟩ := List.mem_map.mp h
  rfl
/-- the law's own rings -/
def lrings (n : Nat) (F : Nat → Nat → Int) : List (List Nat) := (List.range (n - 1)).flatMap fun k => (lline n F (k + 1)).filter (closeB F)
theorem lrings_eq {n : Nat} {F : Nat → Nat → Int} : lrings n F = (ringL n).filter (envyB F) := by
  unfold lrings ringL
  rw [List.filter_flatMap]
  congr 1
  funext k
  unfold lline
  rw [List.filter_filter]
  refine List.filter_congr fun t ht => ?_
  rw [envy_split (rline_ne t ht), Bool.and_comm]
theorem rings_sorted {n : Nat} (h1 : 1 ≤ n) (h4 : n ≤ 4) : (ringL n).Pairwise fun a b => ltP (sized b) (sized a) = false := four (p := fun n => (ringL n).Pairwise fun a b => ltP (sized b) (sized a) = false) h1 h4 (by decide +kernel) (by decide +kernel) (by decide +kernel) (by decide +kernel)
theorem find_filter {α : Type} (p : α → Bool) : ∀ l : List α, l.find? p = (l.filter p).head?
  | [] => rfl
  | x :: l => by
    rw [List.find?_cons, List.filter_cons]
    cases p x with
    | true => rfl
    | false => exact find_filter p l
theorem min_first {p : Nat × List Nat} : ∀ {ps : List (Nat × List Nat)}, (∀ q ∈ ps, ltP q p = false) → minP p ps = p
  | [], _ => rfl
  | q :: ps, h => by
    have e : minP p (q :: ps) = minP (if ltP q p then q else p) ps := rfl
    rw [e, h q List.mem_cons_self]
    exact min_first fun r hr => h r (List.mem_cons_of_mem _ hr)
/-- the least ring by size is the told one -/
theorem ring_min {n : Nat} {F : Nat → Nat → Int} (h1 : 1 ≤ n) (h4 : n ≤ 4) : (lrings n F = [] → ringS n F = none) ∧ ∀ t ts, lrings n F = t :: ts → ringS n F = some t ∧ minP (sized t) (ts.map sized) = sized t := by
  have e : ringS n F = (lrings n F).head? := by rw [lrings_eq, ← find_filter]; rfl
  refine ⟨fun h => by rw [e, h]; rfl, fun t ts h => ⟨by rw [e, h]; rfl, min_first fun q hq => ?_⟩⟩
  obtain ⟨u, hu, rfl⟩ := List.mem_map.mp hq
  have pw := (rings_sorted h1 h4).sublist (List.filter_sublist (p := envyB F) (l := ringL n))
  rw [← lrings_eq, h] at pw
  exact (List.pairwise_cons.mp pw).1 u hu
section
variable {n : Nat} {F : Nat → Nat → Int}
theorem rline_facts (h1 : 1 ≤ n) (h4 : n ≤ 4) : ∀ k, k < n → (rline n k).length ≤ 24 ∧ ∀ t ∈ rline n k, t.length ≤ 4 ∧ ∀ a ∈ t, a < n := four (p := fun n => ∀ k, k < n → (rline n k).length ≤ 24 ∧ ∀ t ∈ rline n k, t.length ≤ 4 ∧ ∀ a ∈ t, a < n) h1 h4 (by decide +kernel) (by decide +kernel) (by decide +kernel) (by decide +kernel)
theorem lline_facts (h1 : 1 ≤ n) (h4 : n ≤ 4) {k : Nat} (hk : k < n) : (lline n F k).length ≤ 24 ∧ ∀ t ∈ lline n F k, t ≠ [] ∧ t.length ≤ 4 ∧ ∀ a ∈ t, a < n := by
  obtain ⟨a, b⟩ := rline_facts h1 h4 k hk
  unfold lline
  exact ⟨Nat.le_trans (List.length_filter_le _ _) a, fun t ht => ⟨rline_ne t (List.mem_filter.mp ht).1, b t (List.mem_filter.mp ht).1⟩⟩
theorem idx_last {t : List Nat} (h : t ≠ []) : idxD (mD t) (.int (-1)) = some ⟨nD (lastN t), false⟩ := by
  have l1 : 1 ≤ t.length := by
    cases t with
    | nil => exact absurd rfl h
    | cons => simp
  rw [idx_tup]
  have e : atI t (-1) = some (lastN t) := by
    unfold atI ixN
    rw [if_neg (by omega), if_pos (by omega)]
    have e2 : ((-1 : Int) + (t.length : Int)).toNat = t.length - 1 := by omega
    rw [Option.bind_some, e2]
    unfold lastN
    rw [List.getLastD_eq_getLast?, List.getLast?_eq_getElem?]
    rw [List.getElem?_eq_getElem (by omega)]
    rfl
  rw [e]
  rfl
theorem g_0 (hn : n ≤ 100) (x1 x2 x3 x4 x5 : Sl) : c__law_rings_0 [.vl (facesD n F), x1, x2, x3, x4, x5, .un] = some (.ok ⟨lmD (rline n 0), true⟩ [.vl (facesD n F), x1, x2, x3, x4, x5, .un]) := by
  have l0 : lenF [facesD n F] = some ⟨nD n, false⟩ := by simp [lenF]
  rw [c__law_rings_0, lc_t nD mD (fun i => some [i]) (xs := List.range n)]
  · simp [rline, Function.comp_def]
  · generalize facesD n F = fd at *
    simp [rng1M, l0, rngD_nat hn]
  · intro i hi
    exact ⟨[.vl (facesD n F), x1, x2, x3, x4, x5, .vl (nD i)], by simp [turnM], by simp⟩
  · exact big (by simpa using hn)
  · simp
theorem last_mem {t : List Nat} (h : t ≠ []) : lastN t ∈ t := by
  unfold lastN
  rw [List.getLastD_eq_getLast?, List.getLast?_eq_some_getLast h]
  exact List.getLast_mem h
theorem g_1 {t : List Nat} (hn : n ≤ 100) (t0 : t ≠ []) (tl : t.length ≤ 100) (tm : ∀ a ∈ t, a < n) (x1 x2 x3 x4 : Sl) : c__law_rings_1 [.vl (facesD n F), x1, x2, x3, x4, .vl (mD t), .un] = some (.ok ⟨lmD (rstepE n F t), true⟩ [.vl (facesD n F), x1, x2, x3, x4, .vl (mD t), .un]) := by
  have l0 : lenF [facesD n F] = some ⟨nD n, false⟩ := by simp [lenF]
  have il := idx_last t0
  have ng : negD (.int 1) = some ⟨.int (-1), false⟩ := rfl
  obtain ⟨x, xs, rfl⟩ := List.exists_cons_of_ne_nil t0
  have i1 : idxD (mD (x :: xs)) (.int 0) = some ⟨nD x, false⟩ := by rw [idx_tup, atI_zero]; rfl
  have a1 : addD (nD x) (.int 1) = some ⟨nD (x + 1), false⟩ := add_ok x 1
  have xn := tm x List.mem_cons_self
  have r1 := rng2_nat (a := x) (n := n) (by omega) hn
  have hl := tm _ (last_mem t0)
  have e : ((List.range (n - (x + 1))).map fun k => x + 1 + k).filterMap (fun k => if (decide (k ∉ x :: xs) && envB F (lastN (x :: xs)) k) = true then some ((x :: xs) ++ [k]) else none) = rstepE n F (x :: xs) := by
    rw [filterMap_if]
    unfold rstepE
    simp only [List.headD_cons]
    generalize (List.range (n - (x + 1))).map (fun k => x + 1 + k) = l
    have ef : (l.filter fun k => decide ((decide (k ∉ x :: xs) && envB F (lastN (x :: xs)) k) = true)) = l.filter fun a => decide (a ∉ x :: xs) && envB F (lastN (x :: xs)) a := List.filter_congr fun a _ => by
      generalize (decide (a ∉ x :: xs) && envB F (lastN (x :: xs)) a) = b
      cases b <;> rfl
    rw [ef]
  rw [← e, c__law_rings_1, lc_t nD mD (fun k => if (decide (k ∉ x :: xs) && envB F (lastN (x :: xs)) k) = true then some ((x :: xs) ++ [k]) else none) (xs := (List.range (n - (x + 1))).map fun k => x + 1 + k)]
  · generalize facesD n F = fd at *
    generalize mD (x :: xs) = z at *
    simp [rng2M, i1, a1, l0, r1]
  · intro k hk
    have hkn : k < n := by
      obtain ⟨j, hj, rfl⟩ := List.mem_map.mp hk
      have := List.mem_range.mp hj
      omega
    have ke := k__law_envies (F := F) hl hkn
    refine ⟨[.vl (facesD n F), x1, x2, x3, x4, .vl (mD (x :: xs)), .vl (nD k)], ?_, by simp⟩
    have g : (x :: xs).length + [k].length ≤ most := by unfold most; simp only [List.length_singleton]; omega
    have a2 := addD_mD g
    have eb : envB F (lastN (x :: xs)) k = decide (F (lastN (x :: xs)) (lastN (x :: xs)) < F (lastN (x :: xs)) k) := rfl
    rw [← eb] at ke
    generalize envB F (lastN (x :: xs)) k = b at *
    generalize lastN (x :: xs) = lt at *
    generalize facesD n F = fd at *
    generalize (x :: xs) = t at *
    by_cases h : k ∈ t
    · simp [turnM, h]
    · cases b <;> simp [turnM, h, il, ng, ke, show addD (mD t) (.tuple [nD k]) = some ⟨mD (t ++ [k]), false⟩ from a2]
  · exact big (by simp; omega)
  · simp
theorem rstepE_len {t : List Nat} : (rstepE n F t).length ≤ n := by
  unfold rstepE
  rw [List.length_map]
  refine Nat.le_trans (List.length_filter_le _ _) ?_
  simp
theorem g_b0 {t : List Nat} {acc : List (List Nat)} (hn : n ≤ 100) (t0 : t ≠ []) (tl : t.length ≤ 100) (tm : ∀ a ∈ t, a < n) (x1 x2 x3 y : Sl) (hz : acc.length + n ≤ most) :
    b__law_rings_0 (mD t) [.vl (facesD n F), x1, x2, x3, .ow false (acc.map mD), y, .un] = some (.ok .nx [.vl (facesD n F), x1, x2, x3, .ow false ((acc ++ rstepE n F t).map mD), .vl (mD t), .un]) := by
  have g : (acc.map mD).length + (rstepE n F t).length ≤ most := by have := rstepE_len (n := n) (F := F) (t := t); rw [List.length_map]; omega
  have c := g_1 (F := F) hn t0 tl tm x1 x2 x3 (.ow false (acc.map mD))
  have ea : (acc ++ rstepE n F t).map mD = acc.map mD ++ (rstepE n F t).map mD := by simp
  rw [ea]
  generalize acc.map mD = z2 at *
  generalize facesD n F = fd at *
  generalize mD t = td at *
  simp [b__law_rings_0, bodyM, extM, c, itL, g]
theorem g_2 {l : List (List Nat)} (hl : l.length ≤ 100) (lf : ∀ t ∈ l, t ≠ [] ∧ t.length ≤ 4 ∧ ∀ a ∈ t, a < n) (x1 x2 x3 x5 x6 : Sl) : c__law_rings_2 [.vl (facesD n F), x1, x2, x3, .ow false (l.map mD), x5, x6] = some (.ok ⟨lmD (l.filter (closeB F)), true⟩ [.vl (facesD n F), x1, x2, x3, .ow false (l.map mD), x5, x6]) := by
  have ng : negD (.int 1) = some ⟨.int (-1), false⟩ := rfl
  rw [c__law_rings_2, lcK_t (b := false) mD mD (fun t => if closeB F t = true then some t else none) (xs := l) rfl]
  · rw [filterMap_if, List.map_id']
    refine congrArg (fun z => some (Rs.ok (⟨lmD z, true⟩ : RV) _)) ?_
    exact List.filter_congr fun a _ => by simp
  · intro t ht
    obtain ⟨t0, _, tm⟩ := lf t ht
    have il := idx_last t0
    have i1 : idxD (mD t) (.int 0) = some ⟨nD (t.headD 0), false⟩ := by
      cases t with
      | nil => exact absurd rfl t0
      | cons x xs => rw [idx_tup, atI_zero]; rfl
    have hh : t.headD 0 ∈ t := by
      cases t with
      | nil => exact absurd rfl t0
      | cons x xs => simp
    have ke := k__law_envies (F := F) (tm _ (last_mem t0)) (tm _ hh)
    have eb : closeB F t = decide (F (lastN t) (lastN t) < F (lastN t) (t.headD 0)) := rfl
    rw [← eb] at ke
    refine ⟨[.vl (facesD n F), x1, x2, x3, .un, .vl (mD t), x6], ?_, by simp⟩
    generalize closeB F t = b at *
    generalize facesD n F = fd at *
    generalize nD (lastN t) = z1 at *
    generalize nD (t.headD 0) = z2 at *
    have e0 : wipeE ([.vl fd, x1, x2, x3, .ow false (l.map mD), x5, x6].set 4 .un) [5] = [.vl fd, x1, x2, x3, .un, .un, x6] := rfl
    rw [e0]
    cases b <;> simp [turnM, ng, il, i1, ke]
  · exact big hl
  · rfl
  · rfl
  · rfl
end
end Lw

set_option Elab.async false
set_option linter.all false
set_option maxRecDepth 100000
set_option maxHeartbeats 4000000
namespace Lw
open PySem PySem.Spec L2 Ev
section
variable {n : Nat} {F : Nat → Nat → Int} {m : List Nat} {s : Nat} {ms : List (List Nat)}
theorem g_in (h1 : 1 ≤ n) (h4 : n ≤ 4) {k : Nat} (hk : k < n) (x1 x2 x3 y : Sl) : ∃ y', forGo b__law_rings_0 ((lline n F k).map mD) [.vl (facesD n F), x1, x2, x3, .ow false [], y, .un] = some (.ok .nx [.vl (facesD n F), x1, x2, x3, .ow false ((lline n F (k + 1)).map mD), y', .un]) := by
  obtain ⟨l24, lf⟩ := lline_facts (F := F) h1 h4 hk
  have lp := for_inv (step := b__law_rings_0) mD (fun s : List (List Nat) × Sl => [.vl (facesD n F), x1, x2, x3, .ow false (s.1.map mD), s.2, .un]) (fun s rem => s.1.length + rem.length * 4 ≤ 200 ∧ (∀ t ∈ rem, t ≠ [] ∧ t.length ≤ 4 ∧ ∀ a ∈ t, a < n) ∧ s.1 ++ rem.flatMap (rstepE n F) = (lline n F k).flatMap (rstepE n F)) (fun t rem s ⟨z1, z2, z3⟩ => by
    obtain ⟨t0, tl, tm⟩ := z2 t List.mem_cons_self
    have el := rstepE_len (n := n) (F := F) (t := t)
    simp only [List.length_cons] at z1
    have c := g_b0 (F := F) (acc := s.1) (by omega) t0 (by omega) tm x1 x2 x3 s.2 (by unfold most; omega)
    exact ⟨(s.1 ++ rstepE n F t, .vl (mD t)), c, by rw [List.length_append]; omega, fun u hu => z2 u (List.mem_cons_of_mem _ hu), by rw [← z3, List.flatMap_cons, List.append_assoc]⟩) (lline n F k) ([], y) ⟨by simp; omega, lf, rfl⟩
  obtain ⟨s, h, _, _, h3⟩ := lp
  have h3 : s.1 = lline n F (k + 1) := by
    have : s.1 = (lline n F k).flatMap (rstepE n F) := by simpa using h3
    rw [this, lline_succ]
  rw [h3] at h
  exact ⟨s.2, h⟩
theorem g_b1 (h1 : 1 ≤ n) (h4 : n ≤ 4) {k : Nat} (hk : k + 1 < n) {found : List (List Nat)} (hf : found.length ≤ 1000) (d : Nat) (x3 x4 y : Sl) : ∃ y', b__law_rings_1 (nD d) [.vl (facesD n F), .ow false (found.map mD), .vl (lmD (lline n F k)), x3, x4, y, .un] = some (.ok .nx [.vl (facesD n F), .ow false ((found ++ (lline n F (k + 1)).filter (closeB F)).map mD), .vl (lmD (lline n F (k + 1))), .vl (nD d), .vl (lmD (lline n F (k + 1))), y', .un]) := by
  obtain ⟨l24, lf⟩ := lline_facts (F := F) h1 h4 (k := k + 1) hk
  obtain ⟨y', r⟩ := g_in (F := F) h1 h4 (k := k) (by omega) (.ow false (found.map mD)) (.vl (lmD (lline n F k))) (.vl (nD d)) y
  have c2 := fun x6 => g_2 (F := F) (l := lline n F (k + 1)) (by omega) lf (.ow false (found.map mD)) (.vl (lmD (lline n F k))) (.vl (nD d)) x6
  have fl : ((lline n F (k + 1)).filter (closeB F)).length ≤ 24 := Nat.le_trans (List.length_filter_le _ _) l24
  have m0 : seqM (readV 2) [.vl (facesD n F), .ow false (found.map mD), .vl (lmD (lline n F k)), .vl (nD d), .ow false [], y, .un] = some (.ok ((lline n F k).map mD) [.vl (facesD n F), .ow false (found.map mD), .vl (lmD (lline n F k)), .vl (nD d), .ow false [], y, .un]) := by
    have it : itemsOf (lmD (lline n F k)) = some ((lline n F k).map mD) := rfl
    generalize lmD (lline n F k) = z1 at *
    generalize found.map mD = z2 at *
    generalize facesD n F = fd at *
    simp [seqM, it]
  have f1 := run_for m0 r
  have c2 := c2 y' .un
  have s0 : nameM 3 (nD d) [.vl (facesD n F), .ow false (found.map mD), .vl (lmD (lline n F k)), x3, x4, y, .un] = some (.ok () [.vl (facesD n F), .ow false (found.map mD), .vl (lmD (lline n F k)), .vl (nD d), x4, y, .un]) := by simp
  have s1 : setM 4 (lstM (pure [])) [.vl (facesD n F), .ow false (found.map mD), .vl (lmD (lline n F k)), .vl (nD d), x4, y, .un] = some (.ok .nx [.vl (facesD n F), .ow false (found.map mD), .vl (lmD (lline n F k)), .vl (nD d), .ow false [], y, .un]) := by
    generalize lmD (lline n F k) = z1 at *
    generalize found.map mD = z2 at *
    generalize facesD n F = fd at *
    simp
  have g : (found.map mD).length + ((lline n F (k + 1)).filter (closeB F)).length ≤ most := by rw [List.length_map]; unfold most; omega
  have ea : (found ++ (lline n F (k + 1)).filter (closeB F)).map mD = found.map mD ++ ((lline n F (k + 1)).filter (closeB F)).map mD := by simp
  refine ⟨y', ?_⟩
  rw [b__law_rings_1, bodyM, run_bind, s0, bndR_ok, run_then s1, run_then f1, ea]
  generalize (lline n F (k + 1)).filter (closeB F) = fl' at *
  generalize found.map mD = z2 at *
  generalize lline n F (k + 1) = l2 at *
  generalize lmD (lline n F k) = z1 at *
  generalize facesD n F = fd at *
  rw [run_then (e1 := [.vl fd, .ow false (z2 ++ fl'.map mD), .vl z1, .vl (nD d), .ow false (l2.map mD), y', .un]) (by simp [extM, c2, itL, g])]
  refine (run_then (e1 := [.vl fd, .ow false (z2 ++ fl'.map mD), .vl (lmD l2), .vl (nD d), .vl (lmD l2), y', .un]) (by simp)).trans rfl
theorem k__law_rings (h1 : 1 ≤ n) (h4 : n ≤ 4) (e : En) : runM N__law_rings.length ps__law_rings.length m__law_rings [facesD n F] e = some (.ok ⟨lmD (lrings n F), true⟩ e) := runM_eq rfl rfl (by
  have l0 : lenF [facesD n F] = some ⟨nD n, false⟩ := by simp [lenF]
  show Ret m__law_rings [.vl (facesD n F), .un, .un, .un, .un, .un, .un] _
  have lp := for_inv (step := b__law_rings_1) nD (fun s : (Nat × List (List Nat)) × Sl × Sl × Sl => [.vl (facesD n F), .ow false (s.1.2.map mD), .vl (lmD (lline n F s.1.1)), s.2.1, s.2.2.1, s.2.2.2, .un]) (fun s rem => s.1.1 + rem.length = n - 1 ∧ s.1.2.length + rem.length * 24 ≤ 200 ∧ s.1.2 ++ ((List.range rem.length).flatMap fun j => (lline n F (s.1.1 + j + 1)).filter (closeB F)) = lrings n F) (fun d rem s ⟨z1, z2, z3⟩ => by
    simp only [List.length_cons] at z1 z2 z3
    obtain ⟨y', r⟩ := g_b1 (F := F) h1 h4 (k := s.1.1) (by omega) (found := s.1.2) (by omega) d s.2.1 s.2.2.1 s.2.2.2
    have fl : ((lline n F (s.1.1 + 1)).filter (closeB F)).length ≤ 24 := Nat.le_trans (List.length_filter_le _ _) (lline_facts (F := F) h1 h4 (k := s.1.1 + 1) (by omega)).1
    refine ⟨((s.1.1 + 1, s.1.2 ++ (lline n F (s.1.1 + 1)).filter (closeB F)), .vl (nD d), .vl (lmD (lline n F (s.1.1 + 1))), y'), r, by show s.1.1 + 1 + rem.length = n - 1; omega, by show (s.1.2 ++ (lline n F (s.1.1 + 1)).filter (closeB F)).length + rem.length * 24 ≤ 200; rw [List.length_append]; omega, ?_⟩
    rw [← z3, List.range_succ_eq_map, List.flatMap_cons, List.flatMap_map]
    simp [Nat.add_assoc, Nat.add_comm 1]) (List.range (n - 1)) ((0, []), .un, .un, .un) ⟨by simp, by simp; omega, by simp [lrings]⟩
  obtain ⟨s, h, z1, _, z3⟩ := lp
  have z3 : s.1.2 = lrings n F := by simpa using z3
  rw [z3] at h
  have s1 : subD (nD n) (.int 1) = some ⟨nD (n - 1), false⟩ := by
    show some (⟨.int ((n : Int) - 1), false⟩ : RV) = _
    rw [show ((n : Int) - 1) = ((n - 1 : Nat) : Int) by omega]
  have h : forGo b__law_rings_1 ((List.range (n - 1)).map nD) [.vl (facesD n F), .ow false [], .vl (lmD (lline n F 0)), .un, .un, .un, .un] = _ := h
  rw [lline_zero] at h
  have m0 : rng1M (toO (op2 subD (toO (op1L lenF (readO 0))) (toO (pure ⟨.int 1, false⟩)))) [.vl (facesD n F), .ow false [], .vl (lmD (rline n 0)), .un, .un, .un, .un] = some (.ok ((List.range (n - 1)).map nD) [.vl (facesD n F), .ow false [], .vl (lmD (rline n 0)), .un, .un, .un, .un]) := by
    have rg := rngD_nat (n := n - 1) (by omega)
    generalize nD (n - 1) = zz at *
    generalize lmD (rline n 0) = z1 at *
    generalize facesD n F = fd at *
    simp [rng1M, l0, s1, rg]
  have f1 := run_for m0 h
  have c0 := g_0 (F := F) (show n ≤ 100 by omega) .un .un .un .un .un
  have s0 : parM 1 2 (lstM (pure [])) (frzM (c__law_rings_0)) [.vl (facesD n F), .un, .un, .un, .un, .un, .un] = some (.ok .nx [.vl (facesD n F), .ow false [], .vl (lmD (rline n 0)), .un, .un, .un, .un]) := by
    generalize lmD (rline n 0) = z1 at *
    generalize facesD n F = fd at *
    simp [c0]
  refine ret_of (e1 := [.vl (facesD n F), .un, .vl (lmD (lline n F s.1.1)), s.2.1, s.2.2.1, s.2.2.2, .un]) ?_
  rw [m__law_rings, run_then s0, run_then f1]
  generalize lmD (lline n F s.1.1) = z1 at *
  generalize facesD n F = fd at *
  generalize lrings n F = lr at *
  exact run_thenR (run_ret (by simp)))
/-! pairs, one behind another -/
theorem p_0 {i : Nat} (hi : i < n) (hn : n ≤ 100) (x0 x2 x4 x5 x6 x8 x9 x10 x11 x12 x13 x14 x15 x17 : Sl) : c__law_right_0 [x0, .vl (facesD n F), x2, .vl (nD n), x4, x5, x6, .vl (nD i), x8, x9, x10, x11, x12, x13, x14, x15, .un, x17] = some (.ok ⟨.list ((envy1 n F i).map ppD), true⟩ [x0, .vl (facesD n F), x2, .vl (nD n), x4, x5, x6, .vl (nD i), x8, x9, x10, x11, x12, x13, x14, x15, .un, x17]) := by
  rw [c__law_right_0, lc_t nD ppD (fun j => if F i i < F i j then some (i, j) else none) (xs := List.range n)]
  · simp [envy1]
  · have rg := rngD_nat hn
    generalize facesD n F = fd at *
    simp [rng1M, rg]
  · intro j hj
    refine ⟨[x0, .vl (facesD n F), x2, .vl (nD n), x4, x5, x6, .vl (nD i), x8, x9, x10, x11, x12, x13, x14, x15, .vl (nD j), x17], ?_, by simp⟩
    by_cases q : F i i < F i j <;> simp [turnM, k__law_envies hi (List.mem_range.mp hj), q]
  · exact big (by simpa using hn)
  · simp
theorem p_loop (h4 : n ≤ 4) (x0 x2 x4 x6 x7 x8 x9 x10 x11 x12 x13 x14 x15 x17 : Sl) : ∃ y, (y = x7 ∨ ∃ d, y = .vl d) ∧ forGo b__law_right_0 ((List.range n).map nD) [x0, .vl (facesD n F), x2, .vl (nD n), x4, .ow false [], x6, x7, x8, x9, x10, x11, x12, x13, x14, x15, .un, x17] = some (.ok .nx [x0, .vl (facesD n F), x2, .vl (nD n), x4, .ow false ((envyL n F).map ppD), x6, y, x8, x9, x10, x11, x12, x13, x14, x15, .un, x17]) := by
  have lp := for_inv (step := b__law_right_0) nD (fun s : List (Nat × Nat) × Sl => [x0, .vl (facesD n F), x2, .vl (nD n), x4, .ow false (s.1.map ppD), x6, s.2, x8, x9, x10, x11, x12, x13, x14, x15, .un, x17]) (fun s rem => s.1.length + rem.length * 4 ≤ 20 ∧ (∀ x ∈ rem, x < n) ∧ s.1 ++ rem.flatMap (envy1 n F) = envyL n F ∧ (s.2 = x7 ∨ ∃ d, s.2 = .vl d)) (fun x rem s ⟨h1, h2, h3, h5⟩ => by
    have hx := h2 x List.mem_cons_self
    have c := p_0 (F := F) hx (by omega) x0 x2 x4 (.ow false (s.1.map ppD)) x6 x8 x9 x10 x11 x12 x13 x14 x15 x17
    have el := envy1_len (n := n) (F := F) x
    simp only [List.length_cons] at h1
    refine ⟨(s.1 ++ envy1 n F x, .vl (nD x)), ?_, by rw [List.length_append]; omega, fun y hy => h2 y (List.mem_cons_of_mem _ hy), by rw [← h3, List.flatMap_cons, List.append_assoc], .inr ⟨_, rfl⟩⟩
    have g : (s.1.map ppD).length + ((envy1 n F x).map ppD).length ≤ most := by rw [List.length_map, List.length_map]; unfold most; omega
    have ea : (s.1 ++ envy1 n F x).map ppD = s.1.map ppD ++ (envy1 n F x).map ppD := by simp
    simp only [ea]
    generalize (envy1 n F x).map ppD = z1 at *
    generalize s.1.map ppD = z2 at *
    generalize facesD n F = fd at *
    simp [b__law_right_0, bodyM, extM, c, itL, g]) (List.range n) ([], x7) ⟨by simp; omega, fun x hx => List.mem_range.mp hx, rfl, .inl rfl⟩
  obtain ⟨s, h, _, _, h3, h5⟩ := lp
  have h3 : s.1 = envyL n F := by simpa using h3
  rw [h3] at h
  exact ⟨s.2, h5, h⟩
end
end Lw

set_option Elab.async false
set_option linter.all false
set_option maxRecDepth 100000
set_option maxHeartbeats 4000000
namespace Lw
open PySem PySem.Spec L2 Ev
section
variable {n : Nat} {F : Nat → Nat → Int} {m : List Nat} {s : Nat} {ms : List (List Nat)}
theorem zip_range {t : List Nat} : t.zipIdx = (List.range t.length).map fun s => (t.getD s 0, s) := by
  refine List.ext_getElem (by simp) fun i h1 h2 => ?_
  have hi : i < t.length := by simpa using h1
  rw [List.getElem_zipIdx, List.getElem_map, List.getElem_range, getD_of hi]
  simp
theorem gain1_mem {r : List Nat} {o : Int} : ∀ p ∈ gain1 F ms r s o, p.1 = s ∧ p.2 < ms.length := fun p hp => by
  obtain ⟨q, hq, rfl⟩ := List.mem_map.mp hp
  obtain ⟨x, i⟩ := q
  have := List.snd_lt_of_mem_zipIdx (List.mem_filter.mp hq).1
  exact ⟨rfl, by simpa using this⟩
theorem gain1_up {r : List Nat} {o : Int} : (gain1 F ms r s o).Pairwise fun a b => a.2 < b.2 := by
  unfold gain1
  refine List.pairwise_map.mpr (List.Pairwise.filter _ ?_)
  have : ∀ (l : List (List Nat)) (k : Nat), (l.zipIdx k).Pairwise fun a b => a.2 < b.2 := by
    intro l
    induction l with
    | nil => intro k; simp
    | cons x l ih =>
      intro k
      rw [List.zipIdx_cons]
      refine List.pairwise_cons.mpr ⟨fun p hp => ?_, ih _⟩
      obtain ⟨y, i⟩ := p
      have := List.le_snd_of_mem_zipIdx hp
      simp at this ⊢
      omega
  exact this ms 0
theorem gain_len (h : Good n ms) (t r : List Nat) : (gainL n F ms t r).length ≤ 60 := by
  have key : ∀ l : List Nat, (l.flatMap fun s => gain1 F ms r s (F s (r.getD (t.getD s 0) 0))).length ≤ l.length * 15 := by
    intro l
    induction l with
    | nil => simp
    | cons x l ih =>
      have := gain1_len (F := F) (ms := ms) (r := r) (s := x) (o := F x (r.getD (t.getD x 0) 0))
      have := h.l15
      rw [List.flatMap_cons, List.length_append, List.length_cons]
      omega
  have := key (List.range n)
  have := h.n4
  unfold gainL
  simp at *
  omega
theorem gain_up (t r : List Nat) : (gainL n F ms t r).Pairwise fun a b => ltL [b.1, b.2] [a.1, a.2] = false := by
  unfold gainL
  rw [List.pairwise_flatMap]
  refine ⟨fun s _ => ?_, ?_⟩
  · have h1 := gain1_up (F := F) (ms := ms) (r := r) (s := s) (o := F s (r.getD (t.getD s 0) 0))
    refine (List.Pairwise.imp_of_mem fun ha hb h => ?_) h1
    have e1 := (gain1_mem _ ha).1
    have e2 := (gain1_mem _ hb).1
    simp only [ltL, e1, e2, if_true]
    rw [if_neg (by omega)]
    simp
    omega
  · refine List.Pairwise.imp ?_ (List.pairwise_lt_range)
    intro a b hab x hx y hy
    have e1 := (gain1_mem _ hx).1
    have e2 := (gain1_mem _ hy).1
    simp only [ltL, e1, e2]
    rw [if_neg (by omega)]
    simp
    omega
theorem gain_sorted (h : Good n ms) (t r : List Nat) : sortedF [.list ((gainL n F ms t r).map ppD)] = some ⟨.list ((gainL n F ms t r).map ppD), true⟩ := by
  have l := gain_len (F := F) h t r
  have u := gain_up (n := n) (F := F) (ms := ms) t r
  generalize gainL n F ms t r = g at *
  have e : g.map ppD = (g.map fun p => [p.1, p.2]).map mD := by simp
  have := sortedF_rows (xs := g.map fun p => [p.1, p.2]) (ys := g.map fun p => [p.1, p.2]) (by simp) (by rw [List.length_map]; unfold most; omega) (List.Perm.refl _) (List.pairwise_map.mpr u)
  rw [e]
  exact this
theorem lg_0 {t r : List Nat} (w : Way n ms t r) (h : Good n ms) (hs : s < n) {o : Int} (x3 x5 : Sl) : c__law_gains_0 [.vl (facesD n F), .vl (msD ms), .vl (wayV t r), x3, .vl (nD s), x5, .vl (.int o), .un, .un] = some (.ok ⟨.list ((gain1 F ms r s o).map ppD), true⟩ [.vl (facesD n F), .vl (msD ms), .vl (wayV t r), x3, .vl (nD s), x5, .vl (.int o), .un, .un]) := by
  have e : gain1 F ms r s o = ms.zipIdx.filterMap fun p => if (decide (s ∈ p.1) && decide (o < F s (r.getD p.2 0))) = true then some (s, p.2) else none := by
    unfold gain1
    rw [filterMap_if]
    congr 1
    exact List.filter_congr fun p _ => by
      generalize (decide (s ∈ p.1) && decide (o < F s (r.getD p.2 0))) = b
      cases b <;> rfl
  have i1 : idxD (wayV t r) (.int 1) = some ⟨mD r, false⟩ := rfl
  rw [e, c__law_gains_0, lc_t (fun p : List Nat × Nat => PyData.tuple [nD p.2, mD p.1]) ppD (fun p => if (decide (s ∈ p.1) && decide (o < F s (r.getD p.2 0))) = true then some (s, p.2) else none) (xs := ms.zipIdx)]
  · simp [enumM, seqM, itemsOf]
  · intro p hp
    have hp2 : p.2 < r.length := by
      rw [w.rl]
      obtain ⟨x, i⟩ := p
      have := List.snd_lt_of_mem_zipIdx hp
      simpa using this
    have j1 : idxD (facesD n F) (nD s) = some ⟨rowD n (F s), false⟩ := idx_faces (j := 0) hs []
    have j2 := idx_mD hp2
    have j3 := idx_row (f := F s) (getD_lt w.ra hp2)
    generalize r.getD p.2 0 = u at *
    refine ⟨[.vl (facesD n F), .vl (msD ms), .vl (wayV t r), x3, .vl (nD s), x5, .vl (.int o), .vl (nD p.2), .vl (mD p.1)], ?_, by simp⟩
    have e0 : wipeE [.vl (facesD n F), .vl (msD ms), .vl (wayV t r), x3, .vl (nD s), x5, .vl (.int o), .un, .un] [7, 8] = [.vl (facesD n F), .vl (msD ms), .vl (wayV t r), x3, .vl (nD s), x5, .vl (.int o), .un, .un] := rfl
    rw [e0]
    generalize wayV t r = v at *
    generalize msD ms = md at *
    by_cases c : s ∈ p.1
    · by_cases c2 : o < F s u
      · simp [turnM, c, c2, i1, -idx_tup, j1, j2, j3, gtD]
      · simp [turnM, c, c2, i1, -idx_tup, j1, j2, j3, gtD]
    · simp [turnM, c]
  · exact big (by simpa using h.len)
  · simp
theorem k__law_gains (h : Good n ms) {t r : List Nat} (w : Way n ms t r) (e : En) : runM N__law_gains.length ps__law_gains.length m__law_gains [facesD n F, msD ms, wayV t r] e = some (.ok ⟨.list ((gainL n F ms t r).map ppD), true⟩ e) := runM_eq rfl rfl (by
  have i0 : idxD (wayV t r) (.int 0) = some ⟨mD t, false⟩ := rfl
  have i1 : idxD (wayV t r) (.int 1) = some ⟨mD r, false⟩ := rfl
  have l15 := h.l15
  have n4 := h.n4
  show Ret m__law_gains [.vl (facesD n F), .vl (msD ms), .vl (wayV t r), .un, .un, .un, .un, .un, .un] _
  have lp := for_inv (step := b__law_gains_0) (fun p : Nat × Nat => PyData.tuple [nD p.2, nD p.1]) (fun s : List (Nat × Nat) × Sl × Sl × Sl => [.vl (facesD n F), .vl (msD ms), .vl (wayV t r), .ow false (s.1.map ppD), s.2.1, s.2.2.1, s.2.2.2, .un, .un]) (fun s rem => s.1.length + rem.length * 15 ≤ 60 ∧ (∀ p ∈ rem, p.2 < n ∧ p.1 < ms.length) ∧ s.1 ++ (rem.flatMap fun p => gain1 F ms r p.2 (F p.2 (r.getD p.1 0))) = t.zipIdx.flatMap fun p => gain1 F ms r p.2 (F p.2 (r.getD p.1 0))) (fun p rem s ⟨h1, h2, h3⟩ => by
    obtain ⟨hs, ha⟩ := h2 p List.mem_cons_self
    have gl := gain1_len (F := F) (ms := ms) (r := r) (s := p.2) (o := F p.2 (r.getD p.1 0))
    have hr : p.1 < r.length := by rw [w.rl]; exact ha
    have j1 : idxD (facesD n F) (nD p.2) = some ⟨rowD n (F p.2), false⟩ := idx_faces (j := 0) hs []
    have j2 := idx_mD hr
    have j3 := idx_row (f := F p.2) (getD_lt w.ra hr)
    simp only [List.length_cons] at h1
    rw [List.flatMap_cons] at h3
    generalize r.getD p.1 0 = u at *
    have c := lg_0 (F := F) w h hs (o := F p.2 u) (.ow false (s.1.map ppD)) (.vl (nD p.1))
    refine ⟨(s.1 ++ gain1 F ms r p.2 (F p.2 u), .vl (nD p.2), .vl (nD p.1), .vl (.int (F p.2 u))), ?_, by rw [List.length_append]; omega, fun q hq => h2 q (List.mem_cons_of_mem _ hq), by rw [← h3, List.append_assoc]⟩
    have g : (s.1.map ppD).length + (gain1 F ms r p.2 (F p.2 u)).length ≤ most := by rw [List.length_map]; unfold most; omega
    have ea : (s.1 ++ gain1 F ms r p.2 (F p.2 u)).map ppD = s.1.map ppD ++ (gain1 F ms r p.2 (F p.2 u)).map ppD := by simp
    simp only [ea]
    have s0 : tupT 2 (consM (nameM 4) (consM (nameM 5) (nilM))) (.tuple [nD p.2, nD p.1]) [.vl (facesD n F), .vl (msD ms), .vl (wayV t r), .ow false (s.1.map ppD), s.2.1, s.2.2.1, s.2.2.2, .un, .un] = some (.ok () [.vl (facesD n F), .vl (msD ms), .vl (wayV t r), .ow false (s.1.map ppD), .vl (nD p.2), .vl (nD p.1), s.2.2.2, .un, .un]) := by simp
    rw [b__law_gains_0, bodyM, run_bind, s0, bndR_ok]
    generalize s.1.map ppD = ac at *
    generalize gain1 F ms r p.2 (F p.2 u) = gg at *
    generalize wayV t r = v at *
    generalize msD ms = md at *
    rw [run_then (e1 := [.vl (facesD n F), .vl md, .vl v, .ow false ac, .vl (nD p.2), .vl (nD p.1), .vl (.int (F p.2 u)), .un, .un]) (by simp [i1, -idx_tup, j1, j2, j3])]
    generalize facesD n F = fd at *
    refine (run_then (e1 := [.vl fd, .vl md, .vl v, .ow false (ac ++ gg.map ppD), .vl (nD p.2), .vl (nD p.1), .vl (.int (F p.2 u)), .un, .un]) (by simp [extM, c, itL, g])).trans rfl) t.zipIdx ([], .un, .un, .un) ⟨by have := w.tl; simp; omega, fun p hp => by
      obtain ⟨a, i⟩ := p
      refine ⟨?_, w.ta _ (List.fst_mem_of_mem_zipIdx hp)⟩
      have := List.snd_lt_of_mem_zipIdx hp
      have := w.tl
      simp at *
      omega, rfl⟩
  obtain ⟨s, f, _, _, h3⟩ := lp
  have h3 : s.1 = gainL n F ms t r := by
    have : s.1 = t.zipIdx.flatMap fun p => gain1 F ms r p.2 (F p.2 (r.getD p.1 0)) := by simpa using h3
    rw [this, zip_range, List.flatMap_map, w.tl]
    rfl
  rw [h3] at f
  have m0 : enumM (op2 idxD (readO 2) (toO (pure ⟨.int 0, false⟩))) [.vl (facesD n F), .vl (msD ms), .vl (wayV t r), .ow false [], .un, .un, .un, .un, .un] = some (.ok (t.zipIdx.map fun p => PyData.tuple [nD p.2, nD p.1]) [.vl (facesD n F), .vl (msD ms), .vl (wayV t r), .ow false [], .un, .un, .un, .un, .un]) := by
    have it : itemsOf (mD t) = some (t.map nD) := rfl
    generalize wayV t r = v at *
    generalize msD ms = md at *
    generalize facesD n F = fd at *
    generalize mD t = td at *
    simp [enumM, seqM, i0, it]
  have f1 := run_for m0 f
  have so := gain_sorted (F := F) h t r
  refine ret_of (e1 := [.vl (facesD n F), .vl (msD ms), .vl (wayV t r), .ow false ((gainL n F ms t r).map ppD), s.2.1, s.2.2.1, s.2.2.2, .un, .un]) ?_
  have s1 : setM 3 (lstM (pure [])) [.vl (facesD n F), .vl (msD ms), .vl (wayV t r), .un, .un, .un, .un, .un, .un] = some (.ok .nx [.vl (facesD n F), .vl (msD ms), .vl (wayV t r), .ow false [], .un, .un, .un, .un, .un]) := by
    generalize wayV t r = v at *
    generalize msD ms = md at *
    generalize facesD n F = fd at *
    simp
  rw [m__law_gains, run_then s1, run_then f1]
  generalize (gainL n F ms t r).map ppD = gg at *
  generalize wayV t r = v at *
  generalize msD ms = md at *
  generalize facesD n F = fd at *
  exact run_thenR (run_ret (by simp [so])))
theorem tame_pp {g : List (Nat × Nat)} {k : Nat} (hl : g.length ≤ k) (hg : ∀ p ∈ g, p.1 < 1000 ∧ p.2 < 1000) : Tame 2 (k * 25) (.list (g.map ppD)) := tame_lst (k := 1) (w := 24) (fun d hd => by
  obtain ⟨p, hp, rfl⟩ := List.mem_map.mp hd
  obtain ⟨a, b⟩ := hg p hp
  exact tame_tup (k := 0) (w := 11) (l := 2) (fun d hd => by
    have : d = nD p.1 ∨ d = nD p.2 := by simpa using hd
    rcases this with rfl | rfl
    · exact tame_nat a
    · exact tame_nat b) (by simp)) (by simpa using hl)
theorem tame_gain (h : Good n ms) (t r : List Nat) : Tame 2 1500 (.list ((gainL n F ms t r).map ppD)) := tame_pp (gain_len h t r) fun p hp => by
  unfold gainL at hp
  obtain ⟨s, hs, hp⟩ := List.mem_flatMap.mp hp
  obtain ⟨e1, e2⟩ := gain1_mem p hp
  have := List.mem_range.mp hs
  have := h.n4
  have := h.l15
  exact ⟨by omega, by omega⟩
theorem tame_envy (h4 : n ≤ 4) : Tame 2 500 (.list ((envyL n F).map ppD)) := by
  have key : ∀ l : List Nat, (l.flatMap (envy1 n F)).length ≤ l.length * 4 := by
    intro l
    induction l with
    | nil => simp
    | cons x l ih =>
      have := envy1_len (n := n) (F := F) x
      rw [List.flatMap_cons, List.length_append, List.length_cons]
      omega
  have k1 := key (List.range n)
  rw [List.length_range] at k1
  have : Tame 2 (16 * 25) (.list ((envyL n F).map ppD)) := tame_pp (by unfold envyL; omega) fun p hp => by
    unfold envyL at hp
    obtain ⟨s, hs, hp⟩ := List.mem_flatMap.mp hp
    unfold envy1 at hp
    obtain ⟨j, hj, rfl⟩ := List.mem_map.mp hp
    have := List.mem_range.mp hs
    have := List.mem_range.mp (List.mem_filter.mp hj).1
    exact ⟨by show s < 1000; omega, by show j < 1000; omega⟩
  exact this.up (by decide) (by decide)
end
end Lw

set_option Elab.async false
set_option linter.all false
set_option maxRecDepth 100000
set_option maxHeartbeats 4000000
namespace Lw
open PySem PySem.Spec L2 Ev
section
variable {n : Nat} {F : Nat → Nat → Int} {m : List Nat} {s : Nat} {ms : List (List Nat)}
theorem f_2 (h : Msg n m) (hs : s < n) (x0 x2 x3 x4 x5 x6 x7 x8 x9 x10 x12 x13 x14 x15 : Sl) : c__law_right_2 [x0, .vl (facesD n F), x2, x3, x4, x5, x6, x7, x8, x9, x10, .vl (mD m), x12, x13, x14, x15, .un, .vl (nD s)] = some (.ok ⟨.list (m.map fun o => .bool (decide (F o o < F o s))), true⟩ [x0, .vl (facesD n F), x2, x3, x4, x5, x6, x7, x8, x9, x10, .vl (mD m), x12, x13, x14, x15, .un, .vl (nD s)]) := by
  rw [c__law_right_2, lc_t nD PyData.bool (fun o => some (decide (F o o < F o s))) (xs := m)]
  · simp
  · simp [seqM, itemsOf]
  · intro o ho
    exact ⟨[x0, .vl (facesD n F), x2, x3, x4, x5, x6, x7, x8, x9, x10, .vl (mD m), x12, x13, x14, x15, .vl (nD o), .vl (nD s)], by simp [turnM, k__law_envies (h.lt o ho) hs], by simp⟩
  · exact big h.len
  · simp
theorem f_3 (h : Msg n m) (x0 x2 x3 x4 x5 x6 x7 x8 x9 x10 x12 x13 x14 x15 : Sl) : c__law_right_3 [x0, .vl (facesD n F), x2, x3, x4, x5, x6, x7, x8, x9, x10, .vl (mD m), x12, x13, x14, x15, .un, .un] = some (.ok ⟨lnD (fit F m), true⟩ [x0, .vl (facesD n F), x2, x3, x4, x5, x6, x7, x8, x9, x10, .vl (mD m), x12, x13, x14, x15, .un, .un]) := by
  rw [c__law_right_3, lc_t nD nD (fun s => if (!(m.any fun o => decide (F o o < F o s))) = true then some s else none) (xs := m)]
  · rw [filterMap_if, List.map_id']
    exact congrArg (fun z => some (Rs.ok (⟨lnD z, true⟩ : RV) _)) (by unfold fit; exact List.filter_congr fun x _ => by rw [Bool.decide_eq_true])
  · simp [seqM, itemsOf]
  · intro s hs
    exact ⟨[x0, .vl (facesD n F), x2, x3, x4, x5, x6, x7, x8, x9, x10, .vl (mD m), x12, x13, x14, x15, .un, .vl (nD s)], by simp [turnM, f_2 h (h.lt s hs), anyF], by simp⟩
  · exact big h.len
  · simp
theorem fit_sub (h : Fine n ms) (hm : m ∈ ms) : Tame 1 1200 (mD (fit F m)) := tame_mD (l := 100) (fun a ha => by
  have := (h.ok m hm).lt a ((List.mem_filter.mp ha).1)
  have := h.n4
  omega) (Nat.le_trans (List.length_filter_le _ _) (h.ok m hm).len)
theorem es (s : Str) : eqD (.str s) (.str s) = some true := by rw [eqD_str]; simp
theorem fit_step (hf : Small n F) (h : Fine n ms) {q : List Nat × Nat} (hi : q.2 < ms.length) (hq : ms.getD q.2 [] = q.1) (x0 x3 x4 x5 x6 x7 x8 x9 x10 x11 x12 x13 x14 x15 : Sl) : ∃ y12, b__law_right_1 (.tuple [nD q.2, mD q.1]) [x0, .vl (facesD n F), .vl (msD ms), x3, x4, x5, x6, x7, x8, x9, x10, x11, x12, x13, x14, x15, .un, .un] = some (.ok .nx [x0, .vl (facesD n F), .vl (msD ms), x3, x4, x5, x6, x7, x8, x9, .vl (nD q.2), .vl (mD q.1), y12, x13, x14, x15, .un, .un]) := by
  have hm : q.1 ∈ ms := by rw [← hq, getD_of hi]; exact List.getElem_mem hi
  have c := f_3 (F := F) (h.ok _ hm) x0 (.vl (msD ms)) x3 x4 x5 x6 x7 x8 x9 (.vl (nD q.2)) x12 x13 x14 x15
  have kf := k_fit hf h hi
  rw [hq] at kf
  have tm := fit_sub (F := F) h hm
  have r1 := repr_ok (tame_two tm tm) (by decide) (by decide)
  have t1 : tupleF [lnD (fit F q.1)] = some ⟨mD (fit F q.1), false⟩ := rfl
  have s0 : tupT 2 (consM (nameM 10) (consM (nameM 11) (nilM))) (.tuple [nD q.2, mD q.1]) [x0, .vl (facesD n F), .vl (msD ms), x3, x4, x5, x6, x7, x8, x9, x10, x11, x12, x13, x14, x15, .un, .un] = some (.ok () [x0, .vl (facesD n F), .vl (msD ms), x3, x4, x5, x6, x7, x8, x9, .vl (nD q.2), .vl (mD q.1), x12, x13, x14, x15, .un, .un]) := by simp
  refine ⟨.vl (mD (fit F q.1)), ?_⟩
  rw [b__law_right_1, bodyM, run_bind, s0, bndR_ok]
  generalize (PyData.list [mD (fit F q.1), mD (fit F q.1)]).shown = st at *
  generalize lnD (fit F q.1) = z1 at *
  generalize mD (fit F q.1) = z2 at *
  generalize mD q.1 = z3 at *
  generalize nD q.2 = z4 at *
  generalize facesD n F = fd at *
  generalize msD ms = md at *
  rw [run_then (e1 := [x0, .vl fd, .vl md, x3, x4, x5, x6, x7, x8, x9, .vl z4, .vl z3, .vl z2, x13, x14, x15, .un, .un]) (by simp [c, t1])]
  exact (run_then (e1 := [x0, .vl fd, .vl md, x3, x4, x5, x6, x7, x8, x9, .vl z4, .vl z3, .vl z2, x13, x14, x15, .un, .un]) (by simp [mixL, kf, r1, es])).trans rfl
/-! ways drawn -/
theorem w_4 (hl : ms.length ≤ 100) (x0 x1 x3 x4 x5 x6 x7 x8 x9 x10 x11 x12 x13 x14 x15 x16 : Sl) : c__law_right_4 [x0, x1, .vl (msD ms), x3, x4, x5, x6, x7, x8, x9, x10, x11, x12, x13, x14, x15, x16, .vl (nD s)] = some (.ok ⟨lnD (haveL ms s), true⟩ [x0, x1, .vl (msD ms), x3, x4, x5, x6, x7, x8, x9, x10, x11, x12, x13, x14, x15, x16, .vl (nD s)]) := by
  rw [c__law_right_4, lc_t (fun p : List Nat × Nat => PyData.tuple [nD p.2, mD p.1]) nD (fun p => if s ∈ p.1 then some p.2 else none) (xs := ms.zipIdx)]
  · simp [haveL]
  · simp [enumM, seqM, itemsOf]
  · intro p hp
    refine ⟨[x0, x1, .vl (msD ms), x3, x4, x5, x6, x7, x8, x9, .vl (nD p.2), .vl (mD p.1), x12, x13, x14, x15, x16, .vl (nD s)], ?_, by simp⟩
    have e0 : wipeE [x0, x1, .vl (msD ms), x3, x4, x5, x6, x7, x8, x9, x10, x11, x12, x13, x14, x15, x16, .vl (nD s)] [10, 11] = [x0, x1, .vl (msD ms), x3, x4, x5, x6, x7, x8, x9, .un, .un, x12, x13, x14, x15, x16, .vl (nD s)] := rfl
    rw [e0]
    by_cases c : s ∈ p.1 <;> simp [turnM, c]
  · exact big (by simpa using hl)
  · simp
theorem have_in {a : Nat} (ha : a ∈ haveL ms s) : a < ms.length ∧ s ∈ ms.getD a [] := by
  obtain ⟨p, hp, rfl⟩ := List.mem_map.mp ha
  obtain ⟨m, i⟩ := p
  obtain ⟨h1, h2⟩ := List.mem_filter.mp hp
  obtain ⟨hi, e⟩ := List.getElem?_eq_some_iff.mp (List.mem_zipIdx_iff_getElem?.mp h1)
  refine ⟨hi, ?_⟩
  rw [getD_of hi]
  have e : ms[i] = m := e
  rw [e]
  simpa using h2
theorem w_5 {a b : Int} (h : Fine n ms) (p : Pot a b) (x1 x4 x5 x6 x7 x8 x9 x10 x11 x12 x13 x14 x15 x16 : Sl) : ∃ (t : List Nat) (a' b' : Int), t.length = n ∧ (∀ q ∈ t.zipIdx, q.1 < ms.length ∧ q.2 ∈ ms.getD q.1 []) ∧ Pot a' b' ∧
    c__law_right_5 [.ow true (potL a b), x1, .vl (msD ms), .vl (nD n), x4, x5, x6, x7, x8, x9, x10, x11, x12, x13, x14, x15, x16, .un] = some (.ok ⟨lnD t, true⟩ [.ow true (potL a' b'), x1, .vl (msD ms), .vl (nD n), x4, x5, x6, x7, x8, x9, x10, x11, x12, x13, x14, x15, x16, .un]) := by
  have := lc_inv (own := [17]) (mi := rng1M (readO 3)) (step := turnM (nameM 17) (pure true) (callPM 0 N__law_pick.length ps__law_pick.length m__law_pick (do let d ← valM (c__law_right_4); let ds ← (pure []); pure (d :: ds)))) (e := [.ow true (potL a b), x1, .vl (msD ms), .vl (nD n), x4, x5, x6, x7, x8, x9, x10, x11, x12, x13, x14, x15, x16, .un]) nD (fun s : Int × Int => [.ow true (potL s.1 s.2), x1, .vl (msD ms), .vl (nD n), x4, x5, x6, x7, x8, x9, x10, x11, x12, x13, x14, x15, x16, .un]) (fun s rem acc => Pot s.1 s.2 ∧ ∃ (t dn : List Nat), acc = t.map nD ∧ List.range n = dn ++ rem ∧ t.length = dn.length ∧ ∀ q ∈ t.zip dn, q.1 < ms.length ∧ q.2 ∈ ms.getD q.1 []) (List.range n) (a, b) (by
      have rg := rngD_nat (n := n) h.nle
      generalize msD ms = md at *
      generalize potL a b = q at *
      simp [rng1M, rg]) ⟨p, [], [], rfl, rfl, rfl, by simp⟩ (fun x rem s acc ⟨hp, t, dn, h1, h2, h3, h4⟩ => by
      have hx : x < n := List.mem_range.mp (by rw [h2]; simp)
      obtain ⟨f1, f2, f3⟩ := have_facts h hx
      obtain ⟨v, a', b', hv, hp', hr'⟩ := k_pick (i := 0) (c := true) (e := [.ow true (potL s.1 s.2), x1, .vl (msD ms), .vl (nD n), x4, x5, x6, x7, x8, x9, x10, x11, x12, x13, x14, x15, x16, .vl (nD x)]) nD _ hp f1 (by omega) rfl
      have hr' : runPM 0 N__law_pick.length ps__law_pick.length m__law_pick [lnD (haveL ms x)] [.ow true (potL s.1 s.2), x1, .vl (msD ms), .vl (nD n), x4, x5, x6, x7, x8, x9, x10, x11, x12, x13, x14, x15, x16, .vl (nD x)] = some (.ok ⟨nD v, false⟩ [.ow true (potL a' b'), x1, .vl (msD ms), .vl (nD n), x4, x5, x6, x7, x8, x9, x10, x11, x12, x13, x14, x15, x16, .vl (nD x)]) := hr'
      have c0 := w_4 (s := x) h.len (.ow true (potL s.1 s.2)) x1 (.vl (nD n)) x4 x5 x6 x7 x8 x9 x10 x11 x12 x13 x14 x15 x16
      refine ⟨some (nD v), (a', b'), [.ow true (potL a' b'), x1, .vl (msD ms), .vl (nD n), x4, x5, x6, x7, x8, x9, x10, x11, x12, x13, x14, x15, x16, .vl (nD x)], ?_, rfl, hp', t ++ [v], dn ++ [x], by simp [h1], by rw [h2]; simp, by simp [h3], fun q hq => ?_⟩
      · generalize lnD (haveL ms x) = z at *
        generalize potL s.1 s.2 = q at *
        generalize potL a' b' = q' at *
        generalize msD ms = md at *
        simp [turnM, c0, hr']
      · rw [List.zip_append h3] at hq
        rcases List.mem_append.mp hq with hq | hq
        · exact h4 q hq
        · have : q = (v, x) := by simpa using hq
          subst this
          exact have_in hv) (by have := h.n4; rw [List.length_range]; unfold most; omega) (fun s => rfl)
  obtain ⟨s, ds, ⟨hp, t, dn, h1, h2, h3, h4⟩, hr⟩ := this
  subst h1
  have h2 : dn = List.range n := by simpa using h2.symm
  subst h2
  have tl : t.length = n := by simpa using h3
  refine ⟨t, s.1, s.2, tl, fun q hq => h4 q ?_, hp, hr⟩
  rw [zip_range, tl] at hq
  obtain ⟨i, hi, rfl⟩ := List.mem_map.mp hq
  have hi := List.mem_range.mp hi
  refine List.mem_iff_getElem.mpr ⟨i, by simp [tl]; omega, ?_⟩
  rw [List.getElem_zip, List.getElem_range, getD_of (by omega)]
theorem w_6 {a b : Int} (h : Fine n ms) (p : Pot a b) (x1 x3 x4 x5 x6 x7 x8 x9 x10 x11 x12 x13 x14 x15 x16 x17 : Sl) : ∃ (r : List Nat) (a' b' : Int), r.length = ms.length ∧ (∀ q ∈ r.zip ms, q.1 < n ∧ q.1 ∈ q.2) ∧ Pot a' b' ∧
    c__law_right_6 [.ow true (potL a b), x1, .vl (msD ms), x3, x4, x5, x6, x7, x8, x9, x10, x11, x12, x13, x14, x15, x16, x17] = some (.ok ⟨lnD r, true⟩ [.ow true (potL a' b'), x1, .vl (msD ms), x3, x4, x5, x6, x7, x8, x9, x10, x11, x12, x13, x14, x15, x16, x17]) := by
  have := lc_inv (own := [11]) (mi := seqM (readV 2)) (step := turnM (nameM 11) (pure true) (callPM 0 N__law_pick.length ps__law_pick.length m__law_pick (do let d ← valM (readV 11); let ds ← (pure []); pure (d :: ds)))) (e := [.ow true (potL a b), x1, .vl (msD ms), x3, x4, x5, x6, x7, x8, x9, x10, x11, x12, x13, x14, x15, x16, x17]) mD (fun s : Int × Int => [.ow true (potL s.1 s.2), x1, .vl (msD ms), x3, x4, x5, x6, x7, x8, x9, x10, x11, x12, x13, x14, x15, x16, x17]) (fun s rem acc => Pot s.1 s.2 ∧ ∃ (t : List Nat) (dn : List (List Nat)), acc = t.map nD ∧ ms = dn ++ rem ∧ t.length = dn.length ∧ ∀ q ∈ t.zip dn, q.1 < n ∧ q.1 ∈ q.2) ms (a, b) (by
      have it : itemsOf (msD ms) = some (ms.map mD) := rfl
      generalize msD ms = md at *
      generalize potL a b = q at *
      simp [seqM, it]) ⟨p, [], [], rfl, rfl, rfl, by simp⟩ (fun x rem s acc ⟨hp, t, dn, h1, h2, h3, h4⟩ => by
      have hx : x ∈ ms := by rw [h2]; simp
      obtain ⟨v, a', b', hv, hp', hr'⟩ := k_pickT (i := 0) (c := true) (e := [.ow true (potL s.1 s.2), x1, .vl (msD ms), x3, x4, x5, x6, x7, x8, x9, x10, .vl (mD x), x12, x13, x14, x15, x16, x17]) x hp (h.ne _ hx) (by have := (h.ok _ hx).len; omega) rfl
      have hr' : runPM 0 N__law_pick.length ps__law_pick.length m__law_pick [mD x] [.ow true (potL s.1 s.2), x1, .vl (msD ms), x3, x4, x5, x6, x7, x8, x9, x10, .vl (mD x), x12, x13, x14, x15, x16, x17] = some (.ok ⟨nD v, false⟩ [.ow true (potL a' b'), x1, .vl (msD ms), x3, x4, x5, x6, x7, x8, x9, x10, .vl (mD x), x12, x13, x14, x15, x16, x17]) := hr'
      refine ⟨some (nD v), (a', b'), [.ow true (potL a' b'), x1, .vl (msD ms), x3, x4, x5, x6, x7, x8, x9, x10, .vl (mD x), x12, x13, x14, x15, x16, x17], ?_, rfl, hp', t ++ [v], dn ++ [x], by simp [h1], by simpa using h2, by simp [h3], fun q hq => ?_⟩
      · have e0 : wipeE [.ow true (potL s.1 s.2), x1, .vl (msD ms), x3, x4, x5, x6, x7, x8, x9, x10, x11, x12, x13, x14, x15, x16, x17] [11] = [.ow true (potL s.1 s.2), x1, .vl (msD ms), x3, x4, x5, x6, x7, x8, x9, x10, .un, x12, x13, x14, x15, x16, x17] := rfl
        rw [e0]
        generalize mD x = z at *
        generalize potL s.1 s.2 = q at *
        generalize potL a' b' = q' at *
        generalize msD ms = md at *
        simp [turnM, hr']
      · rw [List.zip_append h3] at hq
        rcases List.mem_append.mp hq with hq | hq
        · exact h4 q hq
        · have : q = (v, x) := by simpa using hq
          subst this
          exact ⟨(h.ok _ hx).lt v hv, hv⟩) (by have := h.l15; unfold most; omega) (fun s => rfl)
  obtain ⟨s, ds, ⟨hp, t, dn, h1, h2, h3, h4⟩, hr⟩ := this
  subst h1
  have h2 : ms = dn := by simpa using h2
  subst h2
  exact ⟨t, s.1, s.2, h3, h4, hp, hr⟩
theorem way_step (hf : Small n F) (h : Fine n ms) {a b : Int} (p : Pot a b) (d : PyData) (x4 x5 x6 x7 x8 x9 x10 x11 x12 x13 x14 x15 : Sl) : ∃ (a' b' : Int) (y12 y14 y15 : Sl), Pot a' b' ∧ b__law_right_2 d [.ow true (potL a b), .vl (facesD n F), .vl (msD ms), .vl (nD n), x4, x5, x6, x7, x8, x9, x10, x11, x12, x13, x14, x15, .un, .un] = some (.ok .nx [.ow true (potL a' b'), .vl (facesD n F), .vl (msD ms), .vl (nD n), x4, x5, x6, x7, x8, x9, x10, x11, y12, .vl d, y14, y15, .un, .un]) := by
  obtain ⟨t, a1, b1, tl, tz, p1, r1⟩ := w_5 h p (.vl (facesD n F)) x4 x5 x6 x7 x8 x9 x10 x11 x12 (.vl d) x14 x15 .un
  obtain ⟨r, a2, b2, rl, rz, p2, r2⟩ := w_6 h p1 (.vl (facesD n F)) (.vl (nD n)) x4 x5 x6 x7 x8 x9 x10 x11 x12 (.vl d) (.vl (mD t)) x15 .un .un
  have w : Way n ms t r := ⟨tl, rl, fun a ha => by
    obtain ⟨i, hi, rfl⟩ := List.mem_iff_getElem.mp ha
    exact (tz (t[i], i) (List.mem_zipIdx_iff_getElem?.mpr (by simp [hi]))).1, fun s hs => by
    obtain ⟨i, hi, rfl⟩ := List.mem_iff_getElem.mp hs
    have hi2 : i < ms.length := by omega
    exact (rz (r[i], ms[i]) (List.mem_iff_getElem.mpr ⟨i, by simp; omega, by simp⟩)).1⟩
  have iT : inT ms t = true := List.all_eq_true.mpr fun q hq => by simpa using (tz q hq).2
  have iR : inR ms r = true := List.all_eq_true.mpr fun q hq => by simpa using (rz q hq).2
  have kl := k__law_gains (F := F) h.toGood w
  have kg := k_gains (F := F) hf h w iT iR
  have tm := tame_gain (F := F) h.toGood t r
  have rp := repr_ok (tame_two tm tm) (by decide) (by decide)
  have t1 : tupleF [lnD t] = some ⟨mD t, false⟩ := rfl
  have t2 : tupleF [lnD r] = some ⟨mD r, false⟩ := rfl
  have s0 : nameM 13 d [.ow true (potL a b), .vl (facesD n F), .vl (msD ms), .vl (nD n), x4, x5, x6, x7, x8, x9, x10, x11, x12, x13, x14, x15, .un, .un] = some (.ok () [.ow true (potL a b), .vl (facesD n F), .vl (msD ms), .vl (nD n), x4, x5, x6, x7, x8, x9, x10, x11, x12, .vl d, x14, x15, .un, .un]) := by simp
  have s2 : setM 15 (tupM (do let d ← valM (readV 14); let ds ← (do let d ← valM (op1L tupleF (toO (c__law_right_6))); let ds ← (pure []); pure (d :: ds)); pure (d :: ds))) [.ow true (potL a1 b1), .vl (facesD n F), .vl (msD ms), .vl (nD n), x4, x5, x6, x7, x8, x9, x10, x11, x12, .vl d, .vl (mD t), x15, .un, .un] = some (.ok .nx [.ow true (potL a2 b2), .vl (facesD n F), .vl (msD ms), .vl (nD n), x4, x5, x6, x7, x8, x9, x10, x11, x12, .vl d, .vl (mD t), .vl (wayV t r), .un, .un]) := by
    generalize potL a1 b1 = q1 at *
    generalize potL a2 b2 = q2 at *
    generalize lnD r = lr at *
    generalize facesD n F = fd at *
    generalize msD ms = md at *
    generalize nD n = zn at *
    simp [r2, t2]
  refine ⟨a2, b2, .vl (.list ((gainL n F ms t r).map ppD)), .vl (mD t), .vl (wayV t r), p2, ?_⟩
  rw [b__law_right_2, bodyM, run_bind, s0, bndR_ok]
  generalize (PyData.list [.list ((gainL n F ms t r).map ppD), .list ((gainL n F ms t r).map ppD)]).shown = st at *
  have s1 : setM 14 (op1L tupleF (toO (c__law_right_5))) [.ow true (potL a b), .vl (facesD n F), .vl (msD ms), .vl (nD n), x4, x5, x6, x7, x8, x9, x10, x11, x12, .vl d, x14, x15, .un, .un] = some (.ok .nx [.ow true (potL a1 b1), .vl (facesD n F), .vl (msD ms), .vl (nD n), x4, x5, x6, x7, x8, x9, x10, x11, x12, .vl d, .vl (mD t), x15, .un, .un]) := by
    clear s2
    generalize potL a1 b1 = q1 at *
    generalize potL a b = q at *
    generalize lnD t = lt at *
    generalize mD t = td at *
    generalize facesD n F = fd at *
    generalize msD ms = md at *
    generalize nD n = zn at *
    simp [r1, t1]
  rw [run_then s1, run_then s2]
  generalize (gainL n F ms t r).map ppD = gg at *
  generalize wayV t r = v at *
  generalize mD t = td at *
  generalize potL a2 b2 = q2 at *
  generalize facesD n F = fd at *
  generalize msD ms = md at *
  generalize nD n = zn at *
  rw [run_then (e1 := [.ow true q2, .vl fd, .vl md, .vl zn, x4, x5, x6, x7, x8, x9, x10, x11, .vl (.list gg), .vl d, .vl td, .vl v, .un, .un]) (by simp [kl])]
  exact (run_then (e1 := [.ow true q2, .vl fd, .vl md, .vl zn, x4, x5, x6, x7, x8, x9, x10, x11, .vl (.list gg), .vl d, .vl td, .vl v, .un, .un]) (by simp [mixL, kg, rp, es])).trans rfl
end
end Lw

set_option Elab.async false
set_option linter.all false
set_option maxRecDepth 100000
set_option maxHeartbeats 4000000
namespace Lw
open PySem PySem.Spec L2 Ev
theorem eqD_l0 (ms : List (List Nat)) : eqD (lmD ms) (.list []) = some (decide (ms = [])) := by
  have : PyData.eqv (lmD ms) (.list []) = decide (ms = []) := by cases ms <;> rfl
  simp [eqD, this]
section
variable {n : Nat} {F : Nat → Nat → Int} {m : List Nat} {s : Nat} {ms : List (List Nat)}
theorem rg_1 {l : List (List Nat)} (hl : l.length ≤ 1000) (x0 x1 x2 x3 x4 x5 x7 x8 x9 x10 x12 x13 x14 x15 x16 x17 : Sl) : c__law_right_1 [x0, x1, x2, x3, x4, x5, .vl (lmD l), x7, x8, x9, x10, .un, x12, x13, x14, x15, x16, x17] = some (.ok ⟨.list ((l.map sized).map pD), true⟩ [x0, x1, x2, x3, x4, x5, .vl (lmD l), x7, x8, x9, x10, .un, x12, x13, x14, x15, x16, x17]) := by
  rw [c__law_right_1, lc_t mD pD (fun t => some (sized t)) (xs := l)]
  · simp
  · have it : itemsOf (lmD l) = some (l.map mD) := rfl
    generalize lmD l = z at *
    simp [seqM, it]
  · intro t ht
    have l1 : lenF [mD t] = some ⟨nD t.length, false⟩ := by simp [lenF]
    exact ⟨[x0, x1, x2, x3, x4, x5, .vl (lmD l), x7, x8, x9, x10, .vl (mD t), x12, x13, x14, x15, x16, x17], by
      generalize lmD l = z at *
      simp [turnM, l1, sized], by simp⟩
  · unfold most; omega
  · simp
theorem lrings_len (h1 : 1 ≤ n) (h4 : n ≤ 4) : (lrings n F).length ≤ 1000 := by
  have key : ∀ l : List Nat, (∀ k ∈ l, k + 1 < n) → (l.flatMap fun k => (lline n F (k + 1)).filter (closeB F)).length ≤ l.length * 24 := by
    intro l
    induction l with
    | nil => intro _; simp
    | cons x l ih =>
      intro h
      have a := ih fun k hk => h k (List.mem_cons_of_mem _ hk)
      have b : ((lline n F (x + 1)).filter (closeB F)).length ≤ 24 := Nat.le_trans (List.length_filter_le _ _) (lline_facts (F := F) h1 h4 (k := x + 1) (h x List.mem_cons_self)).1
      rw [List.flatMap_cons, List.length_append, List.length_cons]
      omega
  have := key (List.range (n - 1)) fun k hk => by have := List.mem_range.mp hk; omega
  unfold lrings
  simp at *
  omega
/-- the told ring -/
theorem ring_set (h1 : 1 ≤ n) (h4 : n ≤ 4) (x0 x1 x2 x3 x4 x5 x7 x8 x9 x10 x12 x13 x14 x15 x16 x17 : Sl) : setM 8 (frzM (iteM (asB (op2 (cmpD .ne) (readO 6) (toO (lstM (pure []))))) (op2 idxD (toO (op1L minG (toO (c__law_right_1)))) (toO (pure ⟨.int 1, false⟩))) (pure ⟨.none, false⟩))) [x0, x1, x2, x3, x4, x5, .vl (lmD (lrings n F)), x7, x8, x9, x10, .un, x12, x13, x14, x15, x16, x17] = some (.ok .nx [x0, x1, x2, x3, x4, x5, .vl (lmD (lrings n F)), x7, .vl (tellD (ringS n F)), x9, x10, .un, x12, x13, x14, x15, x16, x17]) := by
  obtain ⟨r0, r1⟩ := ring_min (n := n) (F := F) h1 h4
  have hl := lrings_len (F := F) h1 h4
  have c1 := rg_1 hl x0 x1 x2 x3 x4 x5 x7 x8 x9 x10 x12 x13 x14 x15 x16 x17
  have q0 := eqD_l0 (lrings n F)
  cases h : lrings n F with
  | nil =>
    rw [r0 h]
    rw [h] at q0
    have nd : decide (([] : List (List Nat)) = []) = true := by simp
    rw [nd] at q0
    generalize lmD [] = z2 at *
    simp [q0, tellD]
  | cons t ts =>
    obtain ⟨e1, e2⟩ := r1 t ts h
    rw [h] at c1 q0
    have mg := minG_pD (sized t) (ts.map sized)
    rw [e2] at mg
    have mg : minG [.list (((t :: ts).map sized).map pD)] = some ⟨pD (sized t), false⟩ := mg
    have i1 : idxD (pD (sized t)) (.int 1) = some ⟨mD t, false⟩ := rfl
    rw [e1]
    have nd : decide (t :: ts = []) = false := by simp
    rw [nd] at q0
    generalize pD (sized t) = z0 at *
    generalize ((t :: ts).map sized).map pD = z1 at *
    generalize lmD (t :: ts) = z2 at *
    simp [q0, c1, mg, i1, tellD]
theorem tame_full (h1 : 1 ≤ n) (h4 : n ≤ 4) : Tame 2 1000 (msD (fullL n)) := by
  have : Tame 2 (15 * (4 * 12 + 1)) (msD (fullL n)) := tame_tup (fun d hd => by
    obtain ⟨m, hm, rfl⟩ := List.mem_map.mp hd
    obtain ⟨a, b⟩ := full_lt h1 h4 m hm
    exact tame_mD (fun s hs => by have := a s hs; omega) b) (by simpa using (full_len' h1 h4).2)
  exact this.up (by decide) (by decide)
theorem tame_tell (h1 : 1 ≤ n) (h4 : n ≤ 4) : Tame 2 1000 (tellD (ringS n F)) := by
  cases q : ringS n F with
  | none => exact tame_none.up (by decide) (by decide)
  | some t =>
    obtain ⟨a, b⟩ := ring_facts h1 h4 t (List.mem_of_find?_eq_some q)
    have : Tame 1 (4 * 12) (mD t) := tame_mD (fun s hs => by have := b s hs; omega) a
    exact this.up (by decide) (by decide)
/-- what is told -/
abbrev toldD (n : Nat) (F : Nat → Nat → Int) : PyData := .list [.list ((envyL n F).map ppD), tellD (ringS n F), msD (fullL n)]
theorem tame_told (h1 : 1 ≤ n) (h4 : n ≤ 4) : Tame 3 3003 (toldD n F) := tame_lst (k := 2) (w := 1000) (l := 3) (fun d hd => by
  have : d = .list ((envyL n F).map ppD) ∨ d = tellD (ringS n F) ∨ d = msD (fullL n) := by simpa using hd
  rcases this with rfl | rfl | rfl
  · exact (tame_envy (F := F) h4).up (by decide) (by decide)
  · exact tame_tell h1 h4
  · exact tame_full h1 h4) (Nat.le_refl 3)
theorem envyL_len (h4 : n ≤ 4) : (envyL n F).length ≤ 20 := by
  have key : ∀ l : List Nat, (l.flatMap (envy1 n F)).length ≤ l.length * 4 := by
    intro l
    induction l with
    | nil => simp
    | cons x l ih =>
      have := envy1_len (n := n) (F := F) x
      rw [List.flatMap_cons, List.length_append, List.length_cons]
      omega
  have := key (List.range n)
  rw [List.length_range] at this
  unfold envyL
  omega
end
end Lw

set_option Elab.async false
set_option linter.all false
set_option maxRecDepth 100000
set_option maxHeartbeats 4000000
namespace Lw
open PySem PySem.Spec L2 Ev
section
variable {n : Nat} {F : Nat → Nat → Int} {m : List Nat} {s : Nat} {ms : List (List Nat)}
theorem fl_pot (d1 d2 d3 d4 d5 d6 d8 : PyData) (y : Sl) (hy : y = .un ∨ ∃ d, y = .vl d) : Flat [.un, .vl d1, .vl d2, .vl d3, .vl d4, .vl d5, .vl d6, y, .vl d8, .un, .un, .un, .un, .un, .un, .un, .un, .un] := fun j b es h => by
  match j with
  | 7 => rcases hy with rfl | ⟨d, rfl⟩ <;> simp at h
  | 0 | 1 | 2 | 3 | 4 | 5 | 6 | 8 | 9 | 10 | 11 | 12 | 13 | 14 | 15 | 16 | 17 => simp at h
  | k + 18 => simp at h
/-- told once more, by names; the loops; the end -/
def restM : M Fl := (thenM (ifM (asB (op2 (cmpD .ne) (toO (op1L reprF (toO (lstM (do let d ← valM (callKM [0] N_envies.length ps_envies.length m_envies (do let d ← valM (readV 1); let ds ← (pure []); pure (d :: ds))); let ds ← (do let d ← valM (callKM [0] N_envy_ring.length ps_envy_ring.length m_envy_ring (do let d ← valM (readV 1); let ds ← (pure []); pure (d :: ds))); let ds ← (do let d ← valM (callKM [0] N_full_messages.length ps_full_messages.length m_full_messages (do let d ← valM (readV 1); let ds ← (pure []); pure (d :: ds))); let ds ← (pure []); pure (d :: ds)); pure (d :: ds)); pure (d :: ds)))))) (toO (op1L reprF (toO (lstM (do let d ← valM (readV 5); let ds ← (do let d ← valM (readV 8); let ds ← (do let d ← valM (op1L tupleF (toO (callM N__law_sets.length ps__law_sets.length m__law_sets (do let d ← valM (readV 3); let ds ← (pure []); pure (d :: ds))))); let ds ← (pure []); pure (d :: ds)); pure (d :: ds)); pure (d :: ds)))))))) (thenM (retM (pure ⟨.bool false, false⟩)) (pure .nx)) (pure .nx)) (thenM (forM (enumM (readV 2)) (b__law_right_1)) (thenM (forM (rng1M (toO (pure ⟨.int 4, false⟩))) (b__law_right_2)) (thenM (retM (op2 (cmpD .eq) (toO (op1L reprF (toO (lstM (do let d ← valM (readV 1); let ds ← (do let d ← valM (readV 2); let ds ← (pure []); pure (d :: ds)); pure (d :: ds)))))) (readO 4))) (pure .nx)))))
theorem rest_run (hf : Small n F) (h : Fine n ms) {a b : Int} (p : Pot a b) (x6 y : Sl) : ∃ (a' b' : Int), Pot a' b' ∧ RetP restM [.ow true (potL a b), .vl (facesD n F), .vl (msD ms), .vl (nD n), .vl (.str (PyData.list [facesD n F, msD ms]).shown), .vl (.list ((envyL n F).map ppD)), x6, y, .vl (tellD (ringS n F)), .un, .un, .un, .un, .un, .un, .un, .un, .un] ⟨.bool true, false⟩ (potL a' b') := by
  have h1 := h.n1
  have h4 := h.n4
  have k1 := fun e => k_envies hf h1 h4 e
  have k2 := fun e => k_envy_ring hf h1 h4 e
  have k3 := fun e => k_full_messages hf h1 h4 e
  have k4 := fun e => k__law_sets (n := n) h1 h4 e
  have r0 := repr_ok (tame_told (F := F) h1 h4) (by decide) (by decide)
  have rs := repr_ok (tame_two (tame_faces hf h4) (tame_msgs h.toGood)) (by decide) (by decide)
  have tu : tupleF [lmD (fullL n)] = some ⟨msD (fullL n), false⟩ := rfl
  obtain ⟨s1, f1, i1⟩ := for_inv (step := b__law_right_1) (fun q : List Nat × Nat => PyData.tuple [nD q.2, mD q.1]) (fun s : Sl × Sl × Sl => [.ow true (potL a b), .vl (facesD n F), .vl (msD ms), .vl (nD n), .vl (.str (PyData.list [facesD n F, msD ms]).shown), .vl (.list ((envyL n F).map ppD)), x6, y, .vl (tellD (ringS n F)), .un, s.1, s.2.1, s.2.2, .un, .un, .un, .un, .un]) (fun s rem => ∀ q ∈ rem, q.2 < ms.length ∧ ms.getD q.2 [] = q.1) (fun q rem s hq => by
    obtain ⟨g1, g2⟩ := hq q List.mem_cons_self
    obtain ⟨y12, r⟩ := fit_step hf h g1 g2 (.ow true (potL a b)) (.vl (nD n)) (.vl (.str (PyData.list [facesD n F, msD ms]).shown)) (.vl (.list ((envyL n F).map ppD))) x6 y (.vl (tellD (ringS n F))) .un s.1 s.2.1 s.2.2 .un .un .un
    exact ⟨(.vl (nD q.2), .vl (mD q.1), y12), r, fun q hq' => hq q (List.mem_cons_of_mem _ hq')⟩) ms.zipIdx (.un, .un, .un) (fun q hq => by
    obtain ⟨m, i⟩ := q
    obtain ⟨hi, e⟩ := List.getElem?_eq_some_iff.mp (List.mem_zipIdx_iff_getElem?.mp hq)
    exact ⟨hi, by rw [getD_of hi]; exact e⟩)
  obtain ⟨s2, f2, p2⟩ := for_inv (step := b__law_right_2) nD (fun s : (Int × Int) × Sl × Sl × Sl × Sl => [.ow true (potL s.1.1 s.1.2), .vl (facesD n F), .vl (msD ms), .vl (nD n), .vl (.str (PyData.list [facesD n F, msD ms]).shown), .vl (.list ((envyL n F).map ppD)), x6, y, .vl (tellD (ringS n F)), .un, s1.1, s1.2.1, s.2.1, s.2.2.1, s.2.2.2.1, s.2.2.2.2, .un, .un]) (fun s rem => Pot s.1.1 s.1.2) (fun x rem s hs => by
    obtain ⟨a', b', y12, y14, y15, q1, q2⟩ := way_step (F := F) hf h hs (nD x) (.vl (.str (PyData.list [facesD n F, msD ms]).shown)) (.vl (.list ((envyL n F).map ppD))) x6 y (.vl (tellD (ringS n F))) .un s1.1 s1.2.1 s.2.1 s.2.2.1 s.2.2.2.1 s.2.2.2.2
    exact ⟨((a', b'), y12, .vl (nD x), y14, y15), q2, q1⟩) (List.range 4) ((a, b), s1.2.2, .un, .un, .un) p
  refine ⟨s2.1.1, s2.1.2, p2, [.ow true (potL s2.1.1 s2.1.2), .vl (facesD n F), .vl (msD ms), .vl (nD n), .vl (.str (PyData.list [facesD n F, msD ms]).shown), .vl (.list ((envyL n F).map ppD)), x6, y, .vl (tellD (ringS n F)), .un, s1.1, s1.2.1, s2.2.1, s2.2.2.1, s2.2.2.2.1, s2.2.2.2.2, .un, .un], ?_, rfl⟩
  have m1 : enumM (readV 2) [.ow true (potL a b), .vl (facesD n F), .vl (msD ms), .vl (nD n), .vl (.str (PyData.list [facesD n F, msD ms]).shown), .vl (.list ((envyL n F).map ppD)), x6, y, .vl (tellD (ringS n F)), .un, .un, .un, .un, .un, .un, .un, .un, .un] = some (.ok (ms.zipIdx.map fun q : List Nat × Nat => PyData.tuple [nD q.2, mD q.1]) [.ow true (potL a b), .vl (facesD n F), .vl (msD ms), .vl (nD n), .vl (.str (PyData.list [facesD n F, msD ms]).shown), .vl (.list ((envyL n F).map ppD)), x6, y, .vl (tellD (ringS n F)), .un, .un, .un, .un, .un, .un, .un, .un, .un]) := by
    clear f1 f2 r0 rs k1 k2 k3 k4
    generalize PyData.str (PyData.list [facesD n F, msD ms]).shown = st at *
    generalize potL a b = q at *
    generalize (envyL n F).map ppD = ev at *
    generalize tellD (ringS n F) = tl at *
    generalize facesD n F = fd at *
    simp [enumM, seqM, itemsOf]
  have F1 := run_for m1 f1
  have m2 : rng1M (toO (pure ⟨.int 4, false⟩)) [.ow true (potL a b), .vl (facesD n F), .vl (msD ms), .vl (nD n), .vl (.str (PyData.list [facesD n F, msD ms]).shown), .vl (.list ((envyL n F).map ppD)), x6, y, .vl (tellD (ringS n F)), .un, s1.1, s1.2.1, s1.2.2, .un, .un, .un, .un, .un] = some (.ok ((List.range 4).map nD) [.ow true (potL a b), .vl (facesD n F), .vl (msD ms), .vl (nD n), .vl (.str (PyData.list [facesD n F, msD ms]).shown), .vl (.list ((envyL n F).map ppD)), x6, y, .vl (tellD (ringS n F)), .un, s1.1, s1.2.1, s1.2.2, .un, .un, .un, .un, .un]) := by
    have : rngD [.int 4] = some ((List.range 4).map nD) := rngD_nat (n := 4) (by decide)
    clear f1 f2 r0 rs k1 k2 k3 k4 F1 m1
    generalize (List.range 4).map nD = w at *
    simp [rng1M, this]
  have F2 := run_for m2 f2
  have es2 := es (PyData.list [facesD n F, msD ms]).shown
  have es1 := es (toldD n F).shown
  unfold restM
  unfold toldD at r0 es1
  generalize (PyData.list [.list ((envyL n F).map ppD), tellD (ringS n F), msD (fullL n)]).shown = sh1 at *
  generalize potL a b = q1 at *
  generalize potL s2.1.1 s2.1.2 = q2 at *
  rw [ret_pass (e1 := [.ow true q1, .vl (facesD n F), .vl (msD ms), .vl (nD n), .vl (.str (PyData.list [facesD n F, msD ms]).shown), .vl (.list ((envyL n F).map ppD)), x6, y, .vl (tellD (ringS n F)), .un, .un, .un, .un, .un, .un, .un, .un, .un]) (by
    clear f1 f2 F1 F2 rs m1 m2
    generalize PyData.str (PyData.list [facesD n F, msD ms]).shown = st at *
    generalize (envyL n F).map ppD = ev at *
    generalize tellD (ringS n F) = tl at *
    generalize facesD n F = fd at *
    generalize msD ms = md at *
    generalize lmD (fullL n) = z1 at *
    generalize msD (fullL n) = z2 at *
    simp [mixL, k1, k2, k3, k4, tu, r0, es1]), run_then F1, run_then F2]
  clear f1 f2 F1 F2 m1 m2 r0 k1 k2 k3 k4
  generalize (PyData.list [facesD n F, msD ms]).shown = st at *
  generalize (envyL n F).map ppD = ev at *
  generalize tellD (ringS n F) = tl at *
  generalize facesD n F = fd at *
  generalize msD ms = md at *
  exact run_thenR (run_ret (by simp [rs, es2]))
end
end Lw

set_option Elab.async false
set_option linter.all false
set_option maxRecDepth 100000
set_option maxHeartbeats 4000000
namespace Lw
open PySem PySem.Spec L2 Ev
section
variable {n : Nat} {F : Nat → Nat → Int} {m : List Nat} {s : Nat} {ms : List (List Nat)}
theorem frz_run {j : Nat} {m : M Fl} {e : En} {ds : List PyData} (h : e[j]? = some (.ow false ds)) : frzAt j m e = m ((e.set j .un).set j (.vl (.list ds))) := by
  unfold frzAt
  rw [h]
theorem right_run (hf : Small n F) (h : Fine n ms) {a b : Int} (p : Pot a b) : ∃ (a' b' : Int), Pot a' b' ∧ RetP m__law_right [.ow true (potL a b), .vl (facesD n F), .vl (msD ms), .un, .un, .un, .un, .un, .un, .un, .un, .un, .un, .un, .un, .un, .un, .un] ⟨.bool true, false⟩ (potL a' b') := by
  have h1 := h.n1
  have h4 := h.n4
  obtain ⟨y, hy, lp⟩ := p_loop (F := F) h4 (.ow true (potL a b)) (.vl (msD ms)) (.vl (.str (PyData.list [facesD n F, msD ms]).shown)) (.vl (lmD (lrings n F))) .un .un .un .un .un .un .un .un .un .un
  obtain ⟨a', b', p', e2, hr, hl⟩ := rest_run (F := F) hf h p (.vl (lmD (lrings n F))) y
  refine ⟨a', b', p', e2, ?_, hl⟩
  clear hl
  have k0 := fun e => k__law_rings (F := F) h1 h4 e
  have k1 := fun e => k_envies hf h1 h4 e
  have k2 := fun e => k_envy_ring hf h1 h4 e
  have k3 := fun e => k_full_messages hf h1 h4 e
  have k4 := fun e => k__law_sets (n := n) h1 h4 e
  have tu : tupleF [lmD (fullL n)] = some ⟨msD (fullL n), false⟩ := rfl
  have r0 := repr_ok (tame_told (F := F) h1 h4) (by decide) (by decide)
  have rs := repr_ok (tame_two (tame_faces hf h4) (tame_msgs h.toGood)) (by decide) (by decide)
  have es1 := es (toldD n F).shown
  have rgs := ring_set (F := F) h1 h4 (.ow true (potL a b)) (.vl (facesD n F)) (.vl (msD ms)) (.vl (nD n)) (.vl (.str (PyData.list [facesD n F, msD ms]).shown)) (.ow false ((envyL n F).map ppD)) y .un .un .un .un .un .un .un .un .un
  have l0 : lenF [facesD n F] = some ⟨nD n, false⟩ := by simp [lenF]
  have el := envyL_len (n := n) (F := F) h4
  have ell : ((envyL n F).map ppD).length < most := by rw [List.length_map]; unfold most; omega
  have rg := rngD_nat (n := n) (by omega)
  have lp := run_for (mi := rng1M (readO 3)) (e := [.ow true (potL a b), .vl (facesD n F), .vl (msD ms), .vl (nD n), .vl (.str (PyData.list [facesD n F, msD ms]).shown), .ow false [], .vl (lmD (lrings n F)), .un, .un, .un, .un, .un, .un, .un, .un, .un, .un, .un]) (by
    clear lp hr rgs r0 rs k0 k1 k2 k3 k4
    generalize PyData.str (PyData.list [facesD n F, msD ms]).shown = st at *
    generalize potL a b = q at *
    generalize (List.range n).map nD = zz at *
    generalize nD n = zn at *
    simp [rng1M, rg]) lp
  unfold toldD at r0 es1
  generalize (PyData.list [.list ((envyL n F).map ppD), tellD (ringS n F), msD (fullL n)]).shown = sh1 at *
  generalize (PyData.list [facesD n F, msD ms]).shown = st at *
  rw [m__law_right]
  generalize potL a b = q1 at *
  generalize lmD (lrings n F) = z3 at *
  generalize tellD (ringS n F) = tl at *
  rw [run_then (e1 := [.ow true q1, .vl (facesD n F), .vl (msD ms), .vl (nD n), .vl (.str st), .un, .un, .un, .un, .un, .un, .un, .un, .un, .un, .un, .un, .un]) (by
    clear lp hr rgs r0 k0 k1 k2 k3 k4 es1
    generalize facesD n F = fd at *
    generalize msD ms = md at *
    simp [l0, rs])]
  rw [run_then (e1 := [.ow true q1, .vl (facesD n F), .vl (msD ms), .vl (nD n), .vl (.str st), .ow false [], .vl z3, .un, .un, .un, .un, .un, .un, .un, .un, .un, .un, .un]) (by
    clear lp hr rgs r0 k1 k2 k3 k4 es1
    generalize facesD n F = fd at *
    generalize msD ms = md at *
    simp [k0]), run_then lp, run_then rgs]
  have fl := fl_pot (facesD n F) (msD ms) (nD n) (.str st) (.list ((envyL n F).map ppD)) z3 tl y hy
  clear lp rgs
  refine (frz_run (j := 5) (ds := (envyL n F).map ppD) rfl).trans ?_
  show spoilM 9 0 _ _ _ restM [.ow true q1, .vl (facesD n F), .vl (msD ms), .vl (nD n), .vl (.str st), .vl (.list ((envyL n F).map ppD)), .vl z3, y, .vl tl, .un, .un, .un, .un, .un, .un, .un, .un, .un] = _
  rw [run_spoil (i := 9) (l := 0) (ds0 := (envyL n F).map ppD) (ds := [tl, msD (fullL n)]) (pd := q1) (e1 := [.ow true q1, .vl (facesD n F), .vl (msD ms), .vl (nD n), .vl (.str st), .vl (.list ((envyL n F).map ppD)), .vl z3, y, .vl tl, .un, .un, .un, .un, .un, .un, .un, .un, .un]) (e2 := [.ow true q1, .vl (facesD n F), .vl (msD ms), .vl (nD n), .vl (.str st), .vl (.list ((envyL n F).map ppD)), .vl z3, y, .vl tl, .un, .un, .un, .un, .un, .un, .un, .un, .un]) ?_ ?_ rfl (by decide) (by simp) ell (by show 2 < most; decide) fl ?_]
  · exact hr
  · clear hr fl r0 es1
    generalize facesD n F = fd at *
    generalize msD ms = md at *
    simp [k1]
  · clear hr fl r0 es1
    generalize facesD n F = fd at *
    generalize msD (fullL n) = mf at *
    generalize msD ms = md at *
    simp [k2, k3]
  · clear hr fl
    show asB _ [.un, .vl (facesD n F), .vl (msD ms), .vl (nD n), .vl (.str st), .vl (.list ((envyL n F).map ppD)), .vl z3, y, .vl tl, .vl (.list [.list ((envyL n F).map ppD), tl, msD (fullL n)]), .un, .un, .un, .un, .un, .un, .un, .un] = some (.ok false [.un, .vl (facesD n F), .vl (msD ms), .vl (nD n), .vl (.str st), .vl (.list ((envyL n F).map ppD)), .vl z3, y, .vl tl, .vl (.list [.list ((envyL n F).map ppD), tl, msD (fullL n)]), .un, .un, .un, .un, .un, .un, .un, .un])
    generalize (envyL n F).map ppD = ev at *
    generalize facesD n F = fd at *
    generalize lmD (fullL n) = lf at *
    generalize msD (fullL n) = mf at *
    generalize msD ms = md at *
    simp [k4, tu, r0, es1]
end
end Lw

set_option Elab.async false
set_option linter.all false
set_option maxRecDepth 100000
set_option maxHeartbeats 4000000
namespace Lw
open PySem PySem.Spec L2 Ev
/-- one side of a matter of one player -/
abbrev sideD (c n : Nat) (G : Nat → Nat → Int) : PyData := .tuple ((List.range c).map fun d => rowD n (G d))
abbrev matV (c n : Nat) (pl : List Nat) (G H : Nat → Nat → Int) : PyData := .tuple [.str "matter", mD pl, .tuple [nD c], .tuple [sideD c n G], sideD c n H]
/-- worths within bounds -/
def Near (c n : Nat) (G : Nat → Nat → Int) : Prop := ∀ d j, d < c → j < n → -99 ≤ G d j ∧ G d j ≤ 99
/-- as the drawn matters are -/
structure Mat (c n : Nat) (pl : List Nat) (G H : Nat → Nat → Int) : Prop where
  c1 : 1 ≤ c
  c4 : c ≤ 4
  n1 : 1 ≤ n
  n4 : n ≤ 4
  len : pl.length = n
  pr : ∀ s ∈ pl, 1 ≤ s ∧ s ≤ 99
  g : Near c n G
  h : Near c n H
theorem k_is_count (x : Nat) (e : En) : runM N_is_count.length ps_is_count.length m_is_count [nD x] e = some (.ok ⟨.bool true, false⟩ e) := runM_eq rfl rfl (by
  show Ret m_is_count [.vl (nD x)] _
  have : (0 : Int) ≤ (x : Int) := by omega
  simp [m_is_count, geD, leD, PyData.isInt, PyData.isBool, this])
section
variable {n c : Nat} {G H : Nat → Nat → Int} {pl : List Nat}
theorem l_prior (h : ∀ s ∈ pl, 1 ≤ s ∧ s ≤ 99) (hl : pl.length ≤ 100) : c_prior_is_right_0 [.vl (mD pl), .un] = some (.ok ⟨.list (pl.map fun _ => .bool true), true⟩ [.vl (mD pl), .un]) := by
  rw [c_prior_is_right_0, lc_t nD (fun b : Bool => PyData.bool b) (fun _ => some true) (xs := pl)]
  · simp
  · simp [seqM, itemsOf]
  · intro x hx
    obtain ⟨a, b⟩ := h x hx
    have a : (1 : Int) ≤ (x : Int) := by omega
    have b : (x : Int) ≤ 99 := by omega
    exact ⟨[.vl (mD pl), .vl (nD x)], by simp [turnM, k_is_count, leD, a, b], by simp⟩
  · exact big hl
  · simp
theorem k_prior (h : Mat c n pl G H) (e : En) : runM N_prior_is_right.length ps_prior_is_right.length m_prior_is_right [mD pl] e = some (.ok ⟨.bool true, false⟩ e) := runM_eq rfl rfl (by
  have n4 := h.n4
  have n1 := h.n1
  have l := l_prior h.pr (by rw [h.len]; omega)
  have a := alls_true pl
  have l0 : lenF [mD pl] = some ⟨nD n, false⟩ := by simp [lenF, h.len]
  have n1 : (1 : Int) ≤ (n : Int) := by omega
  have n4 : (n : Int) ≤ 4 := by omega
  have t : (mD pl).isTuple = true := rfl
  show Ret m_prior_is_right [.vl (mD pl), .un] _
  generalize mD pl = z at *
  simp [m_prior_is_right, leD, isi_tuple, t, l0, n1, n4, l, a])
theorem l_counts (h : c ≤ 4) (c1 : 1 ≤ c) : c_counts_are_right_0 [.vl (.tuple [nD c]), .vl (.int 4), .un] = some (.ok ⟨.list [.bool true], true⟩ [.vl (.tuple [nD c]), .vl (.int 4), .un]) := by
  rw [c_counts_are_right_0, lc_t nD (fun b : Bool => PyData.bool b) (fun _ => some true) (xs := [c])]
  · simp
  · simp [seqM, itemsOf]
  · intro x hx
    have : x = c := by simpa using hx
    subst this
    have a : (1 : Int) ≤ (x : Int) := by omega
    have b : (x : Int) ≤ 4 := by omega
    exact ⟨[.vl (.tuple [nD x]), .vl (.int 4), .vl (nD x)], by simp [turnM, k_is_count, leD, a, b], by simp⟩
  · exact big (by simp)
  · simp
theorem k_counts (h : c ≤ 4) (c1 : 1 ≤ c) (e : En) : runM N_counts_are_right.length ps_counts_are_right.length m_counts_are_right [.tuple [nD c]] e = some (.ok ⟨.bool true, false⟩ e) := runM_eq rfl rfl (by
  have l := l_counts h c1
  have a : allF [.list [.bool true]] = some ⟨.bool true, false⟩ := rfl
  show Ret m_counts_are_right [.vl (.tuple [nD c]), .un, .un] _
  have l0 : lenF [.tuple [nD c]] = some ⟨.int 1, false⟩ := rfl
  have t : (PyData.tuple [nD c]).isTuple = true := rfl
  generalize PyData.tuple [nD c] = z at *
  simp [m_counts_are_right, leD, isi_tuple, t, l0, l, a])
theorem k_row_is_right_matters (f : Nat → Int) (h : ∀ j, j < n → -99 ≤ f j ∧ f j ≤ 99) (h4 : n ≤ 4) (e : En) : runM N_row_is_right_matters.length ps_row_is_right_matters.length m_row_is_right_matters [rowD n f, nD n] e = some (.ok ⟨.bool true, false⟩ e) := k_row_is_right_shows f h h4 e
theorem l_numbers (h : Near c n G) (n4 : n ≤ 4) (c4 : c ≤ 4) : c_numbers_are_right_0 [.vl (sideD c n G), .vl (nD c), .vl (nD n), .un] = some (.ok ⟨.list ((List.range c).map fun _ => .bool true), true⟩ [.vl (sideD c n G), .vl (nD c), .vl (nD n), .un]) := by
  rw [c_numbers_are_right_0, lc_t (fun d => rowD n (G d)) (fun b : Bool => PyData.bool b) (fun _ => some true) (xs := List.range c)]
  · simp
  · simp [seqM, itemsOf]
  · intro x hx
    have k := k_row_is_right_matters (G x) (h x · (List.mem_range.mp hx)) n4
    generalize rowD n (G x) = z at *
    exact ⟨[.vl (sideD c n G), .vl (nD c), .vl (nD n), .vl z], by simp [turnM, k], by simp⟩
  · exact big (by simp; omega)
  · simp
theorem k_numbers (h : Near c n G) (n4 : n ≤ 4) (c4 : c ≤ 4) (e : En) : runM N_numbers_are_right.length ps_numbers_are_right.length m_numbers_are_right [sideD c n G, nD c, nD n] e = some (.ok ⟨.bool true, false⟩ e) := runM_eq rfl rfl (by
  have l := l_numbers h n4 c4
  have a := alls_true (List.range c)
  have l0 : lenF [sideD c n G] = some ⟨nD c, false⟩ := by simp [lenF]
  have t : (sideD c n G).isTuple = true := rfl
  show Ret m_numbers_are_right [.vl (sideD c n G), .vl (nD c), .vl (nD n), .un] _
  generalize sideD c n G = z at *
  generalize (List.range c).map (fun _ => PyData.bool true) = y at *
  simp [m_numbers_are_right, isi_tuple, t, l0, l, a])
end
end Lw

set_option Elab.async false
set_option linter.all false
set_option maxRecDepth 100000
set_option maxHeartbeats 4000000
namespace Lw
open PySem PySem.Spec L2 Ev
section
variable {n c : Nat} {G H : Nat → Nat → Int} {pl : List Nat}
/-- the profiles of one player -/
def profL (c : Nat) : List PyData := (List.range c).map fun d => .tuple [nD d]
theorem l_prof (hc : c ≤ 100) (x0 x1 x3 : Sl) : c_profiles_by_0 [x0, x1, .vl (nD c), x3, .vl (.tuple []), .un] = some (.ok ⟨.list (profL c), true⟩ [x0, x1, .vl (nD c), x3, .vl (.tuple []), .un]) := by
  rw [c_profiles_by_0, lc_t nD (fun d => PyData.tuple [nD d]) (fun d => some d) (xs := List.range c)]
  · simp [profL]
  · simp [rng1M, rngD_nat hc]
  · intro d hd
    have a : addD (.tuple []) (.tuple [nD d]) = some ⟨.tuple [nD d], false⟩ := rfl
    exact ⟨[x0, x1, .vl (nD c), x3, .vl (.tuple []), .vl (nD d)], by simp [turnM, a], by simp⟩
  · exact big (by simpa using hc)
  · simp
theorem r_prof (hc : c ≤ 4) : Ret m_profiles_by [.vl (.tuple [nD c]), .un, .un, .un, .un, .un] ⟨.list (profL c), false⟩ := by
  have l := l_prof (c := c) (by omega) (.vl (.tuple [nD c])) (.vl (.list [.tuple []])) (.ow false [])
  have g : (profL c).length ≤ most := by unfold profL most; rw [List.length_map, List.length_range]; omega
  generalize profL c = z at *
  have b0 : b_profiles_by_0 (.tuple []) [.vl (.tuple [nD c]), .vl (.list [.tuple []]), .vl (nD c), .ow false [], .un, .un] = some (.ok .nx [.vl (.tuple [nD c]), .vl (.list [.tuple []]), .vl (nD c), .ow false z, .vl (.tuple []), .un]) := by
    simp [b_profiles_by_0, bodyM, extM, l, itL, g]
  have b1 : b_profiles_by_1 (nD c) [.vl (.tuple [nD c]), .vl (.list [.tuple []]), .un, .un, .un, .un] = some (.ok .nx [.vl (.tuple [nD c]), .vl (.list z), .vl (nD c), .vl (.list z), .vl (.tuple []), .un]) := by
    simp [b_profiles_by_1, bodyM, Ev.forM, seqM, itemsOf, forGo, b0]
  refine ret_of (e1 := [.vl (.tuple [nD c]), .vl (.list z), .vl (nD c), .vl (.list z), .vl (.tuple []), .un]) ?_
  have f1 : Ev.forM (seqM (readV 0)) (b_profiles_by_1) [.vl (.tuple [nD c]), .vl (.list [.tuple []]), .un, .un, .un, .un] = some (.ok .nx [.vl (.tuple [nD c]), .vl (.list z), .vl (nD c), .vl (.list z), .vl (.tuple []), .un]) := by
    simp [Ev.forM, seqM, itemsOf, forGo, b1]
  rw [m_profiles_by, run_then (e1 := [.vl (.tuple [nD c]), .vl (.list [.tuple []]), .un, .un, .un, .un]) (by simp), run_then f1]
  exact run_thenR (run_ret (by simp))
theorem k_prof (hc : c ≤ 4) (e : En) : runM N_profiles_by.length ps_profiles_by.length m_profiles_by [.tuple [nD c]] e = some (.ok ⟨.list (profL c), false⟩ e) := runM_eq rfl rfl (r_prof hc)
theorem k_lprof (hc : c ≤ 4) (e : En) : runM N__law_profiles.length ps__law_profiles.length m__law_profiles [.tuple [nD c]] e = some (.ok ⟨.list (profL c), false⟩ e) := runM_eq rfl rfl (r_prof hc)
theorem prof_len : lenF [.list (profL c)] = some ⟨nD c, false⟩ := by simp [lenF, profL]
theorem mat0 : idxD (matV c n pl G H) (.int 0) = some ⟨.str "matter", false⟩ := rfl
theorem mat1 : idxD (matV c n pl G H) (.int 1) = some ⟨mD pl, false⟩ := rfl
theorem mat2 : idxD (matV c n pl G H) (.int 2) = some ⟨.tuple [nD c], false⟩ := rfl
theorem mat3 : idxD (matV c n pl G H) (.int 3) = some ⟨.tuple [sideD c n G], false⟩ := rfl
theorem mat4 : idxD (matV c n pl G H) (.int 4) = some ⟨sideD c n H, false⟩ := rfl
theorem l_mat (h : Mat c n pl G H) : c_matter_is_right_0 [.vl (matV c n pl G H), .vl (nD c), .vl (nD n), .un] = some (.ok ⟨.list [.bool true], true⟩ [.vl (matV c n pl G H), .vl (nD c), .vl (nD n), .un]) := by
  have k := fun e => k_numbers h.g h.n4 h.c4 e
  have i3 := mat3 (c := c) (n := n) (pl := pl) (G := G) (H := H)
  generalize matV c n pl G H = z at *
  rw [c_matter_is_right_0, lc_t (fun _ => sideD c n G) (fun b : Bool => PyData.bool b) (fun _ => some true) (xs := [0])]
  · simp
  · generalize sideD c n G = y at *
    simp [seqM, i3, itemsOf]
  · intro x hx
    generalize sideD c n G = y at *
    exact ⟨[.vl z, .vl (nD c), .vl (nD n), .vl y], by simp [turnM, k], by simp⟩
  · exact big (by simp)
  · simp
theorem k_matter (h : Mat c n pl G H) (e : En) : runM N_matter_is_right.length ps_matter_is_right.length m_matter_is_right [matV c n pl G H] e = some (.ok ⟨.bool true, false⟩ e) := runM_eq rfl rfl (by
  have i0 := mat0 (c := c) (n := n) (pl := pl) (G := G) (H := H)
  have i1 := mat1 (c := c) (n := n) (pl := pl) (G := G) (H := H)
  have i2 := mat2 (c := c) (n := n) (pl := pl) (G := G) (H := H)
  have i3 := mat3 (c := c) (n := n) (pl := pl) (G := G) (H := H)
  have i4 := mat4 (c := c) (n := n) (pl := pl) (G := G) (H := H)
  have t0 : (matV c n pl G H).isTuple = true := rfl
  have l0 : lenF [matV c n pl G H] = some ⟨.int 5, false⟩ := rfl
  have lm := l_mat h
  have kp := fun e => k_prior h e
  have kc := fun e => k_counts h.c4 h.c1 e
  have kk := fun e => k_prof h.c4 e
  have kn := fun e => k_numbers h.h h.n4 h.c4 e
  have pl0 := prof_len (c := c)
  have l1 : lenF [mD pl] = some ⟨nD n, false⟩ := by simp [lenF, h.len]
  have t3 : (PyData.tuple [sideD c n G]).isTuple = true := rfl
  have l3 : lenF [.tuple [sideD c n G]] = some ⟨.int 1, false⟩ := rfl
  have l2 : lenF [.tuple [nD c]] = some ⟨.int 1, false⟩ := rfl
  have a1 : allF [.list [.bool true]] = some ⟨.bool true, false⟩ := rfl
  refine ret_of (e1 := [.vl (matV c n pl G H), .vl (nD c), .vl (nD n), .un]) ?_
  show m_matter_is_right [.vl (matV c n pl G H), .un, .un, .un] = _
  generalize matV c n pl G H = z at *
  generalize mD pl = y1 at *
  generalize PyData.tuple [nD c] = y2 at *
  generalize PyData.tuple [sideD c n G] = y3 at *
  generalize sideD c n H = y4 at *
  generalize PyData.list (profL c) = y5 at *
  rw [m_matter_is_right, ret_pass (e1 := [.vl z, .un, .un, .un]) (by simp [isi_tuple, isi_str, t0, l0, i0, PyData.isStr, es])]
  rw [ret_pass (e1 := [.vl z, .un, .un, .un]) (by simp [i1, i2, kp, kc])]
  rw [run_then (e1 := [.vl z, .vl (nD c), .vl (nD n), .un]) (by simp [bindM, i1, i2, kk, pl0, l1])]
  rw [ret_pass (e1 := [.vl z, .vl (nD c), .vl (nD n), .un]) (by simp [i2, i3, isi_tuple, t3, l3, l2])]
  rw [ret_pass (e1 := [.vl z, .vl (nD c), .vl (nD n), .un]) (by simp [lm, a1])]
  exact run_thenR (run_ret (by simp [i4, kn])))
end
end Lw

set_option Elab.async false
set_option linter.all false
set_option maxRecDepth 100000
set_option maxHeartbeats 4000000
namespace Lw
open PySem PySem.Spec L2 Ev
theorem shaped_iD (vs : List Int) : SeqAt.shaped (iD vs) = true := by
  unfold SeqAt.shaped
  have a : (iD vs).canLay0 = true := canLay_map PyData.int (fun _ => rfl) vs
  have b : (iD vs).depth ≤ 64 := by
    have : PyData.depthAll (vs.map PyData.int) ≤ 0 := depth_map PyData.int 0 (fun _ => Nat.le_refl _) vs
    simp only [PyData.depth]
    omega
  rw [a]
  simpa using b
/-- where the best first stands -/
def bestI (vs : List Int) : Nat := (idxOfD (.int (maxOf vs.tail (vs.headD 0))) (vs.map PyData.int) 0).getD 0
theorem idxOf_mem {k : Int} : ∀ {vs : List Int} (i : Nat), k ∈ vs → ∃ j, idxOfD (.int k) (vs.map PyData.int) i = some j ∧ j < i + vs.length
  | [], _, h => by cases h
  | x :: vs, i, h => by
    rw [List.map_cons]
    unfold idxOfD
    by_cases c : x = k
    · subst c
      exact ⟨i, by simp [PyData.eqv], by simp⟩
    · have h' : k ∈ vs := by
        rcases List.mem_cons.mp h with rfl | h
        · exact absurd rfl c
        · exact h
      obtain ⟨j, h1, h2⟩ := idxOf_mem (i + 1) h'
      refine ⟨j, ?_, by simp only [List.length_cons]; omega⟩
      rw [if_neg (by simp [PyData.eqv, c])]
      exact h1
theorem best_ok {vs : List Int} (h : vs ≠ []) : ∃ m, maxF [iD vs] = some ⟨.int m, false⟩ ∧ indexD (iD vs) (.int m) = some ⟨nD (bestI vs), false⟩ ∧ bestI vs < vs.length := by
  cases vs with
  | nil => exact absurd rfl h
  | cons x xs =>
    have mem : maxOf xs x ∈ x :: xs := by
      rcases (maxOf_mem xs x).1 with h | h
      · rw [h]; exact List.mem_cons_self
      · exact List.mem_cons_of_mem _ h
    obtain ⟨j, h1, h2⟩ := idxOf_mem 0 mem
    have e : bestI (x :: xs) = j := by
      unfold bestI
      show (idxOfD (.int (maxOf xs x)) ((x :: xs).map PyData.int) 0).getD 0 = j
      rw [h1]
      rfl
    refine ⟨maxOf xs x, ?_, ?_, by rw [e]; omega⟩
    · show (match intsOf ((x :: xs).map PyData.int) with | some (n :: ns) => lit (.int (maxOf ns n)) | _ => none) = _
      rw [intsOf_map]
    · rw [e]
      have : indexD (iD (x :: xs)) (.int (maxOf xs x)) = if SeqAt.shaped (iD (x :: xs)) = true ∧ SeqAt.shaped (.int (maxOf xs x)) = true then (idxOfD (.int (maxOf xs x)) ((x :: xs).map PyData.int) 0).map fun j => ⟨.int (j : Nat), false⟩ else none := rfl
      rw [this, if_pos ⟨shaped_iD _, rfl⟩, h1]
      rfl
section
variable {n c : Nat} {G H : Nat → Nat → Int} {pl : List Nat}
/-- what the deeds bring in a state -/
def colI (c : Nat) (G : Nat → Nat → Int) (s : Nat) : List Int := (List.range c).map fun d => G d s
def deedI (c : Nat) (G : Nat → Nat → Int) (s : Nat) : Nat := bestI (colI c G s)
theorem col_ne (h : 1 ≤ c) (s : Nat) : colI c G s ≠ [] := by
  unfold colI
  intro w
  have := congrArg List.length w
  simp at this
  omega
theorem deed_lt (h : 1 ≤ c) (s : Nat) : deedI c G s < c := by
  obtain ⟨m, _, _, h3⟩ := best_ok (col_ne (G := G) h s)
  unfold deedI
  simpa [colI] using h3
theorem index_run {mo : M OV} {e : En} {vs : List Int} {m : Int} (h : mo e = some (.ok (.vl (iD vs)) e)) (h1 : maxF [iD vs] = some ⟨.int m, false⟩) (h2 : indexD (iD vs) (.int m) = some ⟨nD (bestI vs), false⟩) : indexM mo (toO (op1L maxF mo)) e = some (.ok ⟨nD (bestI vs), false⟩ e) := by
  have t1 : isLst (iD vs) = true := rfl
  generalize iD vs = z at *
  simp [indexM, h, t1, h1, h2]
theorem fb_0 {s : Nat} (h : Mat c n pl G H) (hs : s < n) (x2 : Sl) : c_first_best_0 [.vl (matV c n pl G H), .vl (nD s), x2, .un] = some (.ok ⟨iD (colI c G s), true⟩ [.vl (matV c n pl G H), .vl (nD s), x2, .un]) := by
  have i3 := mat3 (c := c) (n := n) (pl := pl) (G := G) (H := H)
  have i0 : idxD (.tuple [sideD c n G]) (.int 0) = some ⟨sideD c n G, false⟩ := rfl
  have it : itemsOf (sideD c n G) = some ((List.range c).map fun d => rowD n (G d)) := rfl
  have c4 := h.c4
  generalize matV c n pl G H = z at *
  generalize PyData.tuple [sideD c n G] = z2 at *
  generalize sideD c n G = z3 at *
  rw [c_first_best_0, lc_t (fun d => rowD n (G d)) PyData.int (fun d => some (G d s)) (xs := List.range c)]
  · simp [colI]
  · simp [seqM, i3, i0, it]
  · intro d hd
    have j := idx_row (f := G d) hs
    generalize rowD n (G d) = y at *
    exact ⟨[.vl z, .vl (nD s), x2, .vl y], by simp [turnM, j], by simp⟩
  · exact big (by simp; omega)
  · simp
theorem k_first_best {s : Nat} (h : Mat c n pl G H) (hs : s < n) (e : En) : runM N_first_best.length ps_first_best.length m_first_best [matV c n pl G H, nD s] e = some (.ok ⟨nD (deedI c G s), false⟩ e) := runM_eq rfl rfl (by
  obtain ⟨m, h1, h2, _⟩ := best_ok (col_ne (G := G) h.c1 s)
  have l := fb_0 h hs .un
  have ix := index_run (mo := readO 2) (e := [.vl (matV c n pl G H), .vl (nD s), .vl (iD (colI c G s)), .un]) (by
    generalize iD (colI c G s) = y at *
    simp) h1 h2
  refine ret_of (e1 := [.vl (matV c n pl G H), .vl (nD s), .vl (iD (colI c G s)), .un]) ?_
  show m_first_best [.vl (matV c n pl G H), .vl (nD s), .un, .un] = _
  generalize matV c n pl G H = z at *
  rw [m_first_best, run_then (e1 := [.vl z, .vl (nD s), .vl (iD (colI c G s)), .un]) (by
    generalize iD (colI c G s) = y at *
    simp [l])]
  exact run_thenR (run_ret ix))
theorem k_states_in (h : Mat c n pl G H) (e : En) : runM N_states_in.length ps_states_in.length m_states_in [matV c n pl G H] e = some (.ok ⟨nD n, false⟩ e) := runM_eq rfl rfl (by
  have i1 := mat1 (c := c) (n := n) (pl := pl) (G := G) (H := H)
  have l1 : lenF [mD pl] = some ⟨nD n, false⟩ := by simp [lenF, h.len]
  show Ret m_states_in [.vl (matV c n pl G H)] _
  generalize matV c n pl G H = z at *
  generalize mD pl = y at *
  simp [m_states_in, i1, l1])
/-- the faces of a matter -/
def facesM (c : Nat) (G H : Nat → Nat → Int) : Nat → Nat → Int := fun i j => H (deedI c G j) i
theorem idx_side {d : Nat} (hd : d < c) : idxD (sideD c n H) (nD d) = some ⟨rowD n (H d), false⟩ := by
  have : idxD (sideD c n H) (nD d) = (atI ((List.range c).map fun d => rowD n (H d)) (d : Int)).map fun x => ⟨x, false⟩ := rfl
  rw [this, atI_range (fun d => rowD n (H d)) c d hd]
  rfl
end
end Lw

set_option Elab.async false
set_option linter.all false
set_option maxRecDepth 100000
set_option maxHeartbeats 4000000
namespace Lw
open PySem PySem.Spec L2 Ev
section
variable {n c : Nat} {G H : Nat → Nat → Int} {pl : List Nat}
abbrev deedL (n c : Nat) (G : Nat → Nat → Int) : List Nat := (List.range n).map (deedI c G)
theorem fy_0 (h : Mat c n pl G H) (x1 x3 : Sl) : c_faces_by_0 [.vl (matV c n pl G H), x1, .un, x3] = some (.ok ⟨lnD (deedL n c G), true⟩ [.vl (matV c n pl G H), x1, .un, x3]) := by
  have ks := fun e => k_states_in h e
  have kf := fun s (hs : s < n) e => k_first_best h hs e
  have n4 := h.n4
  have rg := rngD_nat (n := n) (by omega)
  rw [c_faces_by_0, lc_t nD nD (fun s => some (deedI c G s)) (xs := List.range n)]
  · simp
  · generalize matV c n pl G H = z at *
    generalize (List.range n).map nD = zz at *
    generalize nD n = zn at *
    simp [rng1M, ks, rg]
  · intro s hs
    have kf := kf s (List.mem_range.mp hs)
    refine ⟨[.vl (matV c n pl G H), x1, .vl (nD s), x3], ?_, by simp⟩
    generalize matV c n pl G H = z at *
    simp [turnM, kf]
  · exact big (by simp; omega)
  · simp
theorem fy_1 {s : Nat} (h : Mat c n pl G H) (hs : s < n) : c_faces_by_1 [.vl (matV c n pl G H), .vl (lnD (deedL n c G)), .vl (nD s), .un] = some (.ok ⟨.list ((List.range n).map fun j => .int (facesM c G H s j)), true⟩ [.vl (matV c n pl G H), .vl (lnD (deedL n c G)), .vl (nD s), .un]) := by
  have i4 := mat4 (c := c) (n := n) (pl := pl) (G := G) (H := H)
  have n4 := h.n4
  have c1 := h.c1
  have it : itemsOf (lnD (deedL n c G)) = some ((deedL n c G).map nD) := rfl
  have e : (List.range n).map (fun j => PyData.int (facesM c G H s j)) = ((deedL n c G).filterMap fun d => some (H d s)).map PyData.int := by
    rw [show (deedL n c G).filterMap (fun d => some (H d s)) = (deedL n c G).map fun d => H d s from by
      generalize deedL n c G = dl
      simp]
    simp [facesM]
  have ll : (deedL n c G).length ≤ 100 := by simp; omega
  have lt : ∀ d ∈ deedL n c G, d < c := fun d hd => by
    obtain ⟨j, _, rfl⟩ := List.mem_map.mp hd
    exact deed_lt c1 j
  rw [e]
  generalize matV c n pl G H = z at *
  generalize deedL n c G = dl at *
  rw [c_faces_by_1, lc_t nD PyData.int (fun d => some (H d s)) (xs := dl)]
  · generalize lnD dl = y at *
    simp [seqM, it]
  · intro d hd
    have i5 := idx_side (n := n) (H := H) (lt d hd)
    have i6 := idx_row (f := H d) hs
    refine ⟨[.vl z, .vl (lnD dl), .vl (nD s), .vl (nD d)], ?_, by simp⟩
    generalize lnD dl = y at *
    generalize sideD c n H = y1 at *
    generalize rowD n (H d) = y2 at *
    simp [turnM, i4, i5, i6]
  · exact big ll
  · simp
theorem fy_2 (h : Mat c n pl G H) : c_faces_by_2 [.vl (matV c n pl G H), .vl (lnD (deedL n c G)), .un, .un] = some (.ok ⟨.list ((List.range n).map fun i => rowD n (facesM c G H i)), true⟩ [.vl (matV c n pl G H), .vl (lnD (deedL n c G)), .un, .un]) := by
  have ks := fun e => k_states_in h e
  have l1 := fun s (hs : s < n) => fy_1 h hs
  have n4 := h.n4
  have rg := rngD_nat (n := n) (by omega)
  rw [c_faces_by_2, lc_t nD (fun i => rowD n (facesM c G H i)) (fun s => some s) (xs := List.range n)]
  · simp
  · generalize matV c n pl G H = z at *
    generalize lnD (deedL n c G) = y at *
    generalize (List.range n).map nD = zz at *
    generalize nD n = zn at *
    simp [rng1M, ks, rg]
  · intro s hs
    have l1 := l1 s (List.mem_range.mp hs)
    have t : tupleF [.list ((List.range n).map fun j => PyData.int (facesM c G H s j))] = some ⟨rowD n (facesM c G H s), false⟩ := rfl
    refine ⟨[.vl (matV c n pl G H), .vl (lnD (deedL n c G)), .vl (nD s), .un], ?_, by simp⟩
    show turnM _ _ _ _ [.vl (matV c n pl G H), .vl (lnD (deedL n c G)), .un, .un] = some (.ok (some (rowD n (facesM c G H s))) [.vl (matV c n pl G H), .vl (lnD (deedL n c G)), .vl (nD s), .un])
    generalize matV c n pl G H = z at *
    generalize lnD (deedL n c G) = y at *
    generalize rowD n (facesM c G H s) = y1 at *
    generalize PyData.list ((List.range n).map fun j => PyData.int (facesM c G H s j)) = y2 at *
    simp [turnM, l1, t]
  · exact big (by simp; omega)
  · simp
theorem k_faces_by (h : Mat c n pl G H) (e : En) : runM N_faces_by.length ps_faces_by.length m_faces_by [matV c n pl G H] e = some (.ok ⟨facesD n (facesM c G H), false⟩ e) := runM_eq rfl rfl (by
  have l0 := fy_0 h .un .un
  have l2 := fy_2 h
  have t : tupleF [.list ((List.range n).map fun i => rowD n (facesM c G H i))] = some ⟨facesD n (facesM c G H), false⟩ := rfl
  refine ret_of (e1 := [.vl (matV c n pl G H), .vl (lnD (deedL n c G)), .un, .un]) ?_
  show m_faces_by [.vl (matV c n pl G H), .un, .un, .un] = _
  generalize matV c n pl G H = z at *
  generalize lnD (deedL n c G) = y at *
  generalize facesD n (facesM c G H) = y1 at *
  generalize PyData.list ((List.range n).map fun i => rowD n (facesM c G H i)) = y2 at *
  rw [m_faces_by, run_then (e1 := [.vl z, .vl y, .un, .un]) (by simp [l0])]
  exact run_thenR (run_ret (by simp [l2, t])))
theorem k_check_matter (h : Mat c n pl G H) (e : En) : runM N_check_matter.length ps_check_matter.length m_check_matter [matV c n pl G H] e = some (.ok ⟨.none, false⟩ e) := runM_eq rfl rfl (by
  have k := fun e => k_matter h e
  show Ret m_check_matter [.vl (matV c n pl G H)] _
  generalize matV c n pl G H = z at *
  simp [m_check_matter, k])
theorem k_faces_of (h : Mat c n pl G H) (e : En) : runM N_faces_of.length ps_faces_of.length m_faces_of [matV c n pl G H] e = some (.ok ⟨facesD n (facesM c G H), false⟩ e) := runM_eq rfl rfl (by
  have k := fun e => k_check_matter h e
  have k2 := fun e => k_faces_by h e
  have i2 := mat2 (c := c) (n := n) (pl := pl) (G := G) (H := H)
  have l2 : lenF [.tuple [nD c]] = some ⟨.int 1, false⟩ := rfl
  show Ret m_faces_of [.vl (matV c n pl G H)] _
  generalize matV c n pl G H = z at *
  generalize PyData.tuple [nD c] = y at *
  generalize facesD n (facesM c G H) = y1 at *
  simp [m_faces_of, k, k2, i2, l2])
theorem faces_small (h : Mat c n pl G H) : Small n (facesM c G H) := fun i j hi _ => h.h _ i (deed_lt h.c1 j) hi
end
end Lw

set_option Elab.async false
set_option linter.all false
set_option maxRecDepth 100000
set_option maxHeartbeats 4000000
namespace Lw
open PySem PySem.Spec L2 Ev
theorem side_of {vss : List (List Int)} {c n : Nat} (h : vss.length = c) (h2 : ∀ vs ∈ vss, vs.length = n) : sideD c n (fun i j => (vss.getD i []).getD j 0) = .tuple (vss.map fun vs => .tuple (vs.map PyData.int)) := by
  unfold sideD
  refine congrArg PyData.tuple (List.ext_getElem (by simp [h]) fun i h3 h4 => ?_)
  have hi : i < vss.length := by simpa using h4
  rw [List.getElem_map, List.getElem_map, List.getElem_range]
  simp only [getD_of hi]
  exact rowD_of (h2 _ (List.getElem_mem hi))
theorem near_of {vss : List (List Int)} {c n : Nat} (h : vss.length = c) (h2 : ∀ vs ∈ vss, vs.length = n ∧ Bd 4 vs) : Near c n (fun i j => (vss.getD i []).getD j 0) := fun i j hi hj => by
  have hi : i < vss.length := by omega
  simp only [getD_of hi]
  obtain ⟨l, b⟩ := h2 _ (List.getElem_mem hi)
  have hj : j < vss[i].length := by omega
  rw [getD_of hj]
  have := b _ (List.getElem_mem hj)
  omega
theorem mt_0 {a b : Int} {n : Nat} (hn : n ≤ 100) (p : Pot a b) (x1 x3 x4 x5 x6 x7 x9 : Sl) : ∃ (pl : List Nat) (a' b' : Int), pl.length = n ∧ (∀ s ∈ pl, 1 ≤ s ∧ s ≤ 99) ∧ Pot a' b' ∧
    c__law_matter_0 [.ow true (potL a b), x1, .vl (nD n), x3, x4, x5, x6, x7, .un, x9] = some (.ok ⟨lnD pl, true⟩ [.ow true (potL a' b'), x1, .vl (nD n), x3, x4, x5, x6, x7, .un, x9]) := by
  have := lc_inv (own := [8]) (mi := rng1M (readO 2)) (step := turnM (nameM 8) (pure true) (op2 addD (toO (pure ⟨.int 1, false⟩)) (toO (callPM 0 N__law_draw.length ps__law_draw.length m__law_draw (do let d ← valM (callPM 0 N__law_pick.length ps__law_pick.length m__law_pick (do let d ← valM (lstM (do let d ← valM (pure ⟨.int 3, false⟩); let ds ← (do let d ← valM (pure ⟨.int 9, false⟩); let ds ← (pure []); pure (d :: ds)); pure (d :: ds))); let ds ← (pure []); pure (d :: ds))); let ds ← (pure []); pure (d :: ds)))))) (e := [.ow true (potL a b), x1, .vl (nD n), x3, x4, x5, x6, x7, .un, x9]) nD (fun s : Int × Int => [.ow true (potL s.1 s.2), x1, .vl (nD n), x3, x4, x5, x6, x7, .un, x9]) (fun s rem acc => Pot s.1 s.2 ∧ ∃ vs : List Nat, acc = vs.map nD ∧ vs.length + rem.length = n ∧ ∀ s ∈ vs, 1 ≤ s ∧ s ≤ 99) (List.range n) (a, b) (by
      have rg := rngD_nat hn
      generalize potL a b = q at *
      simp [rng1M, rg]) ⟨p, [], rfl, by simp, by intro v hv; cases hv⟩ (fun x rem s acc ⟨hp, vs, h1, h2, h3⟩ => by
      obtain ⟨k, a1, b1, hk, p1, r1⟩ := k_pick (i := 0) (c := true) (e := [.ow true (potL s.1 s.2), x1, .vl (nD n), x3, x4, x5, x6, x7, .vl (nD x), x9]) nD [3, 9] hp (by simp) (by simp) rfl
      have r1 : runPM 0 N__law_pick.length ps__law_pick.length m__law_pick [.list [.int 3, .int 9]] [.ow true (potL s.1 s.2), x1, .vl (nD n), x3, x4, x5, x6, x7, .vl (nD x), x9] = some (.ok ⟨nD k, false⟩ [.ow true (potL a1 b1), x1, .vl (nD n), x3, x4, x5, x6, x7, .vl (nD x), x9]) := r1
      have hk : k = 3 ∨ k = 9 := by simpa using hk
      obtain ⟨v, a', b', hv, hp', hr⟩ := k_draw (i := 0) (c := true) (k := k) (e := [.ow true (potL a1 b1), x1, .vl (nD n), x3, x4, x5, x6, x7, .vl (nD x), x9]) p1 (by omega) (by omega) rfl
      have hr : runPM 0 N__law_draw.length ps__law_draw.length m__law_draw [nD k] [.ow true (potL a1 b1), x1, .vl (nD n), x3, x4, x5, x6, x7, .vl (nD x), x9] = some (.ok ⟨nD v, false⟩ [.ow true (potL a' b'), x1, .vl (nD n), x3, x4, x5, x6, x7, .vl (nD x), x9]) := hr
      have ad : addD (.int 1) (nD v) = some ⟨nD (v + 1), false⟩ := by
        show some (⟨.int (1 + (v : Int)), false⟩ : RV) = some ⟨.int (((v + 1 : Nat)) : Int), false⟩
        rw [show (1 + (v : Int)) = ((v + 1 : Nat) : Int) by omega]
      refine ⟨some (nD (v + 1)), (a', b'), [.ow true (potL a' b'), x1, .vl (nD n), x3, x4, x5, x6, x7, .vl (nD x), x9], ?_, rfl, hp', vs ++ [v + 1], by simp [h1], by simp at h2 ⊢; omega, ?_⟩
      · generalize potL s.1 s.2 = q at *
        generalize potL a' b' = q' at *
        generalize potL a1 b1 = q1 at *
        generalize nD (v + 1) = w at *
        generalize nD v = y at *
        generalize nD k = z at *
        simp [turnM, r1, hr, ad]
      · intro w hw
        rcases List.mem_append.mp hw with hw | hw
        · exact h3 w hw
        · have : w = v + 1 := by simpa using hw
          omega) (by simp; exact Nat.le_trans hn (by decide)) (fun s => rfl)
  obtain ⟨s, ds, ⟨hp, vs, h1, h2, h3⟩, hr⟩ := this
  subst h1
  exact ⟨vs, s.1, s.2, by simpa using h2, h3, hp, hr⟩
theorem mt_1 {a b : Int} {n : Nat} (hn : n ≤ 100) (p : Pot a b) (x1 x4 x5 x6 x7 x9 : Sl) : ∃ (vs : List Int) (a' b' : Int), vs.length = n ∧ Bd 4 vs ∧ Pot a' b' ∧
    c__law_matter_1 [.ow true (potL a b), x1, .vl (nD n), .vl (.int 2), x4, x5, x6, x7, .un, x9] = some (.ok ⟨iD vs, true⟩ [.ow true (potL a' b'), x1, .vl (nD n), .vl (.int 2), x4, x5, x6, x7, .un, x9]) := by
  have := lc_inv (own := [8]) (mi := rng1M (readO 2)) (step := turnM (nameM 8) (pure true) (op2 subD (toO (callPM 0 N__law_draw.length ps__law_draw.length m__law_draw (do let d ← valM (op2 addD (toO (op2 mulD (toO (pure ⟨.int 2, false⟩)) (readO 3))) (toO (pure ⟨.int 1, false⟩))); let ds ← (pure []); pure (d :: ds)))) (readO 3))) (e := [.ow true (potL a b), x1, .vl (nD n), .vl (.int 2), x4, x5, x6, x7, .un, x9]) nD (fun s : Int × Int => [.ow true (potL s.1 s.2), x1, .vl (nD n), .vl (.int 2), x4, x5, x6, x7, .un, x9]) (fun s rem acc => Pot s.1 s.2 ∧ ∃ vs : List Int, acc = vs.map PyData.int ∧ vs.length + rem.length = n ∧ Bd 4 vs) (List.range n) (a, b) (by
      have rg := rngD_nat hn
      generalize potL a b = q at *
      simp [rng1M, rg]) ⟨p, [], rfl, by simp, by intro v hv; cases hv⟩ (fun x rem s acc ⟨hp, vs, h1, h2, h3⟩ => by
      obtain ⟨v, a', b', hv, hp', hr⟩ := k_draw (i := 0) (c := true) (k := 5) (e := [.ow true (potL s.1 s.2), x1, .vl (nD n), .vl (.int 2), x4, x5, x6, x7, .vl (nD x), x9]) hp (by decide) (by decide) rfl
      have hr : runPM 0 N__law_draw.length ps__law_draw.length m__law_draw [.int 5] [.ow true (potL s.1 s.2), x1, .vl (nD n), .vl (.int 2), x4, x5, x6, x7, .vl (nD x), x9] = some (.ok ⟨nD v, false⟩ [.ow true (potL a' b'), x1, .vl (nD n), .vl (.int 2), x4, x5, x6, x7, .vl (nD x), x9]) := hr
      have hs : subD (nD v) (.int 2) = some ⟨.int ((v : Int) - 2), false⟩ := rfl
      have hm : mulD (.int 2) (.int 2) = some ⟨.int 4, false⟩ := mul_ok (x := 2) (y := 2) (by decide) (by decide) (by decide) (by decide)
      have ha : addD (.int 4) (.int 1) = some ⟨.int 5, false⟩ := rfl
      refine ⟨some (.int ((v : Int) - 2)), (a', b'), [.ow true (potL a' b'), x1, .vl (nD n), .vl (.int 2), x4, x5, x6, x7, .vl (nD x), x9], ?_, rfl, hp', vs ++ [(v : Int) - 2], by simp [h1], by simp at h2 ⊢; omega, ?_⟩
      · generalize potL s.1 s.2 = q at *
        generalize potL a' b' = q' at *
        generalize (v : Int) - 2 = w at *
        generalize nD v = y at *
        simp [turnM, hm, ha, hr, hs]
      · intro w hw
        rcases List.mem_append.mp hw with hw | hw
        · exact h3 w hw
        · have : w = (v : Int) - 2 := by simpa using hw
          omega) (by simp; exact Nat.le_trans hn (by decide)) (fun s => rfl)
  obtain ⟨s, ds, ⟨hp, vs, h1, h2, h3⟩, hr⟩ := this
  subst h1
  exact ⟨vs, s.1, s.2, by simpa using h2, h3, hp, hr⟩
theorem mt_2 {a b : Int} {n c : Nat} (hn : n ≤ 100) (hc : c ≤ 100) (p : Pot a b) (x1 x4 x6 x7 : Sl) : ∃ (G : Nat → Nat → Int) (a' b' : Int), Near c n G ∧ Pot a' b' ∧
    op1L tupleF (toO c__law_matter_2) [.ow true (potL a b), x1, .vl (nD n), .vl (.int 2), x4, .vl (nD c), x6, x7, .un, .un] = some (.ok ⟨sideD c n G, false⟩ [.ow true (potL a' b'), x1, .vl (nD n), .vl (.int 2), x4, .vl (nD c), x6, x7, .un, .un]) := by
  have := lc_inv (own := [9]) (mi := rng1M (readO 5)) (step := turnM (nameM 9) (pure true) (op1L tupleF (toO (c__law_matter_1)))) (e := [.ow true (potL a b), x1, .vl (nD n), .vl (.int 2), x4, .vl (nD c), x6, x7, .un, .un]) nD (fun s : Int × Int => [.ow true (potL s.1 s.2), x1, .vl (nD n), .vl (.int 2), x4, .vl (nD c), x6, x7, .un, .un]) (fun s rem acc => Pot s.1 s.2 ∧ ∃ vss : List (List Int), acc = vss.map (fun vs => .tuple (vs.map PyData.int)) ∧ vss.length + rem.length = c ∧ ∀ vs ∈ vss, vs.length = n ∧ Bd 4 vs) (List.range c) (a, b) (by
      have rg := rngD_nat hc
      generalize potL a b = q at *
      simp [rng1M, rg]) ⟨p, [], rfl, by simp, by intro v hv; cases hv⟩ (fun x rem s acc ⟨hp, vss, h1, h2, h3⟩ => by
      obtain ⟨vs, a', b', q1, q2, hp', hr⟩ := mt_1 (n := n) hn hp x1 x4 (.vl (nD c)) x6 x7 (.vl (nD x))
      have t : tupleF [iD vs] = some ⟨.tuple (vs.map PyData.int), false⟩ := rfl
      refine ⟨some (.tuple (vs.map PyData.int)), (a', b'), [.ow true (potL a' b'), x1, .vl (nD n), .vl (.int 2), x4, .vl (nD c), x6, x7, .un, .vl (nD x)], ?_, rfl, hp', vss ++ [vs], by simp [h1], by simp at h2 ⊢; omega, ?_⟩
      · generalize potL s.1 s.2 = q at *
        generalize potL a' b' = q' at *
        generalize PyData.tuple (vs.map PyData.int) = y1 at *
        generalize iD vs = y at *
        simp [turnM, hr, t]
      · intro w hw
        rcases List.mem_append.mp hw with hw | hw
        · exact h3 w hw
        · have : w = vs := by simpa using hw
          subst this
          exact ⟨q1, q2⟩) (by simp; exact Nat.le_trans hc (by decide)) (fun s => rfl)
  obtain ⟨s, ds, ⟨hp, vss, h1, h2, h3⟩, hr⟩ := this
  have h2 : vss.length = c := by simpa using h2
  refine ⟨fun i j => (vss.getD i []).getD j 0, s.1, s.2, near_of h2 h3, hp, ?_⟩
  rw [side_of h2 fun vs hv => (h3 vs hv).1]
  have hr : c__law_matter_2 [.ow true (potL a b), x1, .vl (nD n), .vl (.int 2), x4, .vl (nD c), x6, x7, .un, .un] = _ := hr
  rw [h1] at hr
  have t : tupleF [.list (vss.map fun vs => PyData.tuple (vs.map PyData.int))] = some ⟨.tuple (vss.map fun vs => .tuple (vs.map PyData.int)), false⟩ := rfl
  generalize potL s.1 s.2 = q at *
  generalize potL a b = q' at *
  generalize (vss.map fun vs => PyData.tuple (vs.map PyData.int)) = l at *
  simp [hr, t]
end Lw

set_option Elab.async false
set_option linter.all false
set_option maxRecDepth 100000
set_option maxHeartbeats 4000000
namespace Lw
open PySem PySem.Spec L2 Ev
theorem mat_run {a b : Int} {n c : Nat} (n1 : 1 ≤ n) (n4 : n ≤ 4) (c1 : 1 ≤ c) (c4 : c ≤ 4) (p : Pot a b) : ∃ (pl : List Nat) (G H : Nat → Nat → Int) (a' b' : Int), Mat c n pl G H ∧ Pot a' b' ∧
    RetP m__law_matter [.ow true (potL a b), .vl (.tuple [nD c]), .vl (nD n), .vl (.int 2), .un, .un, .un, .un, .un, .un] ⟨matV c n pl G H, false⟩ (potL a' b') := by
  obtain ⟨pl, a1, b1, pl1, pl2, p1, r1⟩ := mt_0 (n := n) (by omega) p (.vl (.tuple [nD c])) (.vl (.int 2)) .un .un .un .un .un
  obtain ⟨G, a2, b2, g2, p2, r2⟩ := mt_2 (n := n) (c := c) (by omega) (by omega) p1 (.vl (.tuple [nD c])) (.vl (mD pl)) (.ow false []) (.vl (nD 0))
  obtain ⟨H, a3, b3, g3, p3, r3⟩ := mt_2 (n := n) (c := c) (by omega) (by omega) p2 (.vl (.tuple [nD c])) (.vl (mD pl)) (.ow false [sideD c n G]) (.vl (nD 1))
  refine ⟨pl, G, H, a3, b3, ⟨c1, c4, n1, n4, pl1, pl2, g2, g3⟩, p3, [.ow true (potL a3 b3), .vl (.tuple [nD c]), .vl (nD n), .vl (.int 2), .vl (mD pl), .vl (nD c), .ow false [sideD c n G, sideD c n H], .vl (nD 1), .un, .un], ?_, rfl⟩
  have kp := fun e => k_lprof c4 e
  have pl0 := prof_len (c := c)
  have t1 : tupleF [lnD pl] = some ⟨mD pl, false⟩ := rfl
  have l1 : lenF [.tuple [nD c]] = some ⟨.int 1, false⟩ := rfl
  have a11 : addD (.int 1) (.int 1) = some ⟨.int 2, false⟩ := rfl
  have rg : rngD [.int 2] = some ([0, 1].map nD) := rngD_nat (n := 2) (by decide)
  have ng : negD (.int 1) = some ⟨.int (-1), false⟩ := rfl
  have fin : matV c n pl G H = .tuple [.str "matter", mD pl, .tuple [nD c], .tuple [sideD c n G], sideD c n H] := rfl
  rw [fin]
  generalize PyData.list (profL c) = y5 at *
  generalize PyData.tuple [nD c] = y2 at *
  generalize potL a b = q at *
  generalize potL a1 b1 = q1 at *
  generalize potL a2 b2 = q2 at *
  generalize potL a3 b3 = q3 at *
  generalize sideD c n G = z1 at *
  generalize sideD c n H = z2 at *
  generalize lnD pl = y6 at *
  generalize mD pl = y1 at *
  have sl : slcD none (some (-1)) (.list [z1, z2]) = some ⟨.list [z1], true⟩ := rfl
  have ix : idxD (.list [z1, z2]) (.int (-1)) = some ⟨z2, false⟩ := rfl
  have tl : tupleF [.list [z1]] = some ⟨.tuple [z1], false⟩ := rfl
  have b0 : b__law_matter_0 (nD 0) [.ow true q1, .vl y2, .vl (nD n), .vl (.int 2), .vl y1, .vl (nD c), .ow false [], .un, .un, .un] = some (.ok .nx [.ow true q2, .vl y2, .vl (nD n), .vl (.int 2), .vl y1, .vl (nD c), .ow false [z1], .vl (nD 0), .un, .un]) := by
    have s0 : nameM 7 (nD 0) [.ow true q1, .vl y2, .vl (nD n), .vl (.int 2), .vl y1, .vl (nD c), .ow false [], .un, .un, .un] = some (.ok () [.ow true q1, .vl y2, .vl (nD n), .vl (.int 2), .vl y1, .vl (nD c), .ow false [], .vl (nD 0), .un, .un]) := by simp
    have g : (0 : Nat) < most := by decide
    rw [b__law_matter_0, bodyM, run_bind, s0, bndR_ok]
    generalize nD 0 = d0 at *
    refine (run_then (e1 := [.ow true q2, .vl y2, .vl (nD n), .vl (.int 2), .vl y1, .vl (nD c), .ow false [z1], .vl d0, .un, .un]) ?_).trans rfl
    generalize op1L tupleF (toO c__law_matter_2) = mm at *
    simp [appM, r2, g]
  have b1 : b__law_matter_0 (nD 1) [.ow true q2, .vl y2, .vl (nD n), .vl (.int 2), .vl y1, .vl (nD c), .ow false [z1], .vl (nD 0), .un, .un] = some (.ok .nx [.ow true q3, .vl y2, .vl (nD n), .vl (.int 2), .vl y1, .vl (nD c), .ow false [z1, z2], .vl (nD 1), .un, .un]) := by
    have s0 : nameM 7 (nD 1) [.ow true q2, .vl y2, .vl (nD n), .vl (.int 2), .vl y1, .vl (nD c), .ow false [z1], .vl (nD 0), .un, .un] = some (.ok () [.ow true q2, .vl y2, .vl (nD n), .vl (.int 2), .vl y1, .vl (nD c), .ow false [z1], .vl (nD 1), .un, .un]) := by simp
    have g : (1 : Nat) < most := by decide
    rw [b__law_matter_0, bodyM, run_bind, s0, bndR_ok]
    generalize nD 1 = d0 at *
    refine (run_then (e1 := [.ow true q3, .vl y2, .vl (nD n), .vl (.int 2), .vl y1, .vl (nD c), .ow false [z1, z2], .vl d0, .un, .un]) ?_).trans rfl
    generalize op1L tupleF (toO c__law_matter_2) = mm at *
    simp [appM, r3, g]
  have m0 : rng1M (toO (op2 addD (toO (op1L lenF (readO 1))) (toO (pure ⟨.int 1, false⟩)))) [.ow true q1, .vl y2, .vl (nD n), .vl (.int 2), .vl y1, .vl (nD c), .ow false [], .un, .un, .un] = some (.ok [nD 0, nD 1] [.ow true q1, .vl y2, .vl (nD n), .vl (.int 2), .vl y1, .vl (nD c), .ow false [], .un, .un, .un]) := by
    have rg : rngD [.int 2] = some [nD 0, nD 1] := rg
    generalize nD 0 = d0 at *
    generalize nD 1 = d1 at *
    simp [rng1M, l1, a11, rg]
  have f0 : forGo b__law_matter_0 [nD 0, nD 1] [.ow true q1, .vl y2, .vl (nD n), .vl (.int 2), .vl y1, .vl (nD c), .ow false [], .un, .un, .un] = some (.ok .nx [.ow true q3, .vl y2, .vl (nD n), .vl (.int 2), .vl y1, .vl (nD c), .ow false [z1, z2], .vl (nD 1), .un, .un]) := by
    unfold forGo
    rw [run_bind, b0, bndR_ok]
    show forGo b__law_matter_0 [nD 1] _ = _
    unfold forGo
    rw [run_bind, b1, bndR_ok]
    rfl
  rw [m__law_matter, run_then (e1 := [.ow true q1, .vl y2, .vl (nD n), .vl (.int 2), .vl y1, .un, .un, .un, .un, .un]) (by simp [r1, t1]),
    run_then (e1 := [.ow true q1, .vl y2, .vl (nD n), .vl (.int 2), .vl y1, .vl (nD c), .ow false [], .un, .un, .un]) (by simp [kp, pl0]), run_then (run_for m0 f0)]
  generalize nD 1 = d1 at *
  exact run_thenR (run_ret (by simp [slcM, partM, ng, sl, ix, tl, show 5 ≤ most by decide]))
theorem k_mat {a b : Int} {n c i : Nat} {o : Bool} {e : En} (n1 : 1 ≤ n) (n4 : n ≤ 4) (c1 : 1 ≤ c) (c4 : c ≤ 4) (p : Pot a b) (hi : e[i]? = some (.ow o (potL a b))) : ∃ (pl : List Nat) (G H : Nat → Nat → Int) (a' b' : Int), Mat c n pl G H ∧ Pot a' b' ∧
    runPM i N__law_matter.length ps__law_matter.length m__law_matter [.tuple [nD c], nD n, .int 2] e = some (.ok ⟨matV c n pl G H, false⟩ (e.set i (.ow o (potL a' b')))) := by
  obtain ⟨pl, G, H, a', b', h1, h2, h3⟩ := mat_run n1 n4 c1 c4 p
  exact ⟨pl, G, H, a', b', h1, h2, runPM_eq hi rfl rfl h3⟩
end Lw

set_option Elab.async false
set_option linter.all false
set_option maxRecDepth 100000
set_option maxHeartbeats 4000000
namespace Lw
open PySem PySem.Spec L2 Ev
theorem k_right {n : Nat} {F : Nat → Nat → Int} {ms : List (List Nat)} (hf : Small n F) (h : Fine n ms) {a b : Int} {i : Nat} {c : Bool} {e : En} (p : Pot a b) (hi : e[i]? = some (.ow c (potL a b))) : ∃ (a' b' : Int), Pot a' b' ∧ runPM i N__law_right.length ps__law_right.length m__law_right [facesD n F, msD ms] e = some (.ok ⟨.bool true, false⟩ (e.set i (.ow c (potL a' b')))) := by
  obtain ⟨a', b', h2, h3⟩ := right_run hf h p
  exact ⟨a', b', h2, runPM_eq hi rfl rfl h3⟩
theorem one_more (v : Nat) : addD (.int 1) (nD v) = some ⟨nD (v + 1), false⟩ := by
  show some (⟨.int (1 + (v : Int)), false⟩ : RV) = some ⟨.int (((v + 1 : Nat)) : Int), false⟩
  rw [show (1 + (v : Int)) = ((v + 1 : Nat) : Int) by omega]
section
variable {n c : Nat} {G H : Nat → Nat → Int} {pl : List Nat}
theorem mr_0 {s : Nat} (h : Mat c n pl G H) (hs : s < n) (x0 x1 x3 x5 x6 x8 : Sl) : c__law_matters_right_0 [x0, x1, .vl (matV c n pl G H), x3, .vl (nD s), x5, x6, .un, x8] = some (.ok ⟨iD (colI c G s), true⟩ [x0, x1, .vl (matV c n pl G H), x3, .vl (nD s), x5, x6, .un, x8]) := by
  have i3 := mat3 (c := c) (n := n) (pl := pl) (G := G) (H := H)
  have i0 : idxD (.tuple [sideD c n G]) (.int 0) = some ⟨sideD c n G, false⟩ := rfl
  have it : itemsOf (sideD c n G) = some ((List.range c).map fun d => rowD n (G d)) := rfl
  have c4 := h.c4
  generalize matV c n pl G H = z at *
  generalize PyData.tuple [sideD c n G] = z2 at *
  generalize sideD c n G = z3 at *
  rw [c__law_matters_right_0, lc_t (fun d => rowD n (G d)) PyData.int (fun d => some (G d s)) (xs := List.range c)]
  · simp [colI]
  · simp [seqM, i3, i0, it]
  · intro d hd
    have j := idx_row (f := G d) hs
    generalize rowD n (G d) = y at *
    exact ⟨[x0, x1, .vl z, x3, .vl (nD s), x5, x6, .vl y, x8], by simp [turnM, j], by simp⟩
  · exact big (by simp; omega)
  · simp
theorem mr_b {s : Nat} {acc : List Nat} (h : Mat c n pl G H) (hs : s < n) (ha : acc.length ≤ 100) (x0 x1 x4 x5 x6 x8 : Sl) : b__law_matters_right_0 (nD s) [x0, x1, .vl (matV c n pl G H), .ow false (acc.map nD), x4, x5, x6, .un, x8] = some (.ok .nx [x0, x1, .vl (matV c n pl G H), .ow false ((acc ++ [deedI c G s]).map nD), .vl (nD s), .vl (iD (colI c G s)), x6, .un, x8]) := by
  obtain ⟨m, h1, h2, _⟩ := best_ok (col_ne (G := G) h.c1 s)
  have l := mr_0 h hs x0 x1 (.ow false (acc.map nD)) x5 x6 x8
  have ix := index_run (mo := readO 5) (e := [x0, x1, .vl (matV c n pl G H), .ow false (acc.map nD), .vl (nD s), .vl (iD (colI c G s)), x6, .un, x8]) (by
    generalize iD (colI c G s) = y at *
    generalize acc.map nD = y2 at *
    simp) h1 h2
  have g : (acc.map nD).length < most := by rw [List.length_map]; unfold most; omega
  have ef : (acc ++ [deedI c G s]).map nD = acc.map nD ++ [nD (deedI c G s)] := by simp
  rw [ef]
  have ix : indexM (readO 5) (toO (op1L maxF (readO 5))) [x0, x1, .vl (matV c n pl G H), .ow false (acc.map nD), .vl (nD s), .vl (iD (colI c G s)), x6, .un, x8] = some (.ok ⟨nD (deedI c G s), false⟩ [x0, x1, .vl (matV c n pl G H), .ow false (acc.map nD), .vl (nD s), .vl (iD (colI c G s)), x6, .un, x8]) := ix
  generalize matV c n pl G H = z at *
  generalize acc.map nD = y2 at *
  generalize iD (colI c G s) = y at *
  generalize nD (deedI c G s) = y3 at *
  generalize nD s = y4 at *
  have s0 : nameM 4 y4 [x0, x1, .vl z, .ow false y2, x4, x5, x6, .un, x8] = some (.ok () [x0, x1, .vl z, .ow false y2, .vl y4, x5, x6, .un, x8]) := by simp
  rw [b__law_matters_right_0, bodyM, run_bind, s0, bndR_ok, run_then (e1 := [x0, x1, .vl z, .ow false y2, .vl y4, .vl y, x6, .un, x8]) (by simp [l])]
  refine (run_then (e1 := [x0, x1, .vl z, .ow false (y2 ++ [y3]), .vl y4, .vl y, x6, .un, x8]) ?_).trans rfl
  generalize indexM (readO 5) (toO (op1L maxF (readO 5))) = mm at *
  simp [appM, ix, g]
theorem mr_1 {s : Nat} (h : Mat c n pl G H) (hs : s < n) (x0 x1 x5 x6 x7 : Sl) : c__law_matters_right_1 [x0, x1, .vl (matV c n pl G H), .ow false ((deedL n c G).map nD), .vl (nD s), x5, x6, x7, .un] = some (.ok ⟨.list ((List.range n).map fun j => .int (facesM c G H s j)), true⟩ [x0, x1, .vl (matV c n pl G H), .ow false ((deedL n c G).map nD), .vl (nD s), x5, x6, x7, .un]) := by
  have i4 := mat4 (c := c) (n := n) (pl := pl) (G := G) (H := H)
  have n4 := h.n4
  have c1 := h.c1
  have e : (List.range n).map (fun j => PyData.int (facesM c G H s j)) = ((deedL n c G).filterMap fun d => some (H d s)).map PyData.int := by
    rw [show (deedL n c G).filterMap (fun d => some (H d s)) = (deedL n c G).map fun d => H d s from by
      generalize deedL n c G = dl
      simp]
    simp [facesM]
  have ll : (deedL n c G).length ≤ 100 := by simp; omega
  have lt : ∀ d ∈ deedL n c G, d < c := fun d hd => by
    obtain ⟨j, _, rfl⟩ := List.mem_map.mp hd
    exact deed_lt c1 j
  rw [e]
  generalize matV c n pl G H = z at *
  generalize deedL n c G = dl at *
  rw [c__law_matters_right_1, lcK_t (b := false) nD PyData.int (fun d => some (H d s)) (xs := dl) rfl]
  · intro d hd
    have i5 := idx_side (n := n) (H := H) (lt d hd)
    have i6 := idx_row (f := H d) hs
    refine ⟨[x0, x1, .vl z, .un, .vl (nD s), x5, x6, x7, .vl (nD d)], ?_, by simp⟩
    generalize sideD c n H = y1 at *
    generalize rowD n (H d) = y2 at *
    have e0 : wipeE ([x0, x1, .vl z, .ow false (dl.map nD), .vl (nD s), x5, x6, x7, .un].set 3 .un) [8] = [x0, x1, .vl z, .un, .vl (nD s), x5, x6, x7, .un] := rfl
    rw [e0]
    simp [turnM, i4, i5, i6]
  · exact big ll
  · simp
  · rfl
  · rfl
theorem mr_2 (h : Mat c n pl G H) (x0 x4 x5 x6 x7 : Sl) : c__law_matters_right_2 [x0, .vl (nD n), .vl (matV c n pl G H), .ow false ((deedL n c G).map nD), x4, x5, x6, x7, .un] = some (.ok ⟨.list ((List.range n).map fun i => rowD n (facesM c G H i)), true⟩ [x0, .vl (nD n), .vl (matV c n pl G H), .ow false ((deedL n c G).map nD), x4, x5, x6, x7, .un]) := by
  have l1 := fun s (hs : s < n) => mr_1 h hs x0 (.vl (nD n)) x5 x6 x7
  have n4 := h.n4
  have rg := rngD_nat (n := n) (by omega)
  rw [c__law_matters_right_2, lc_t nD (fun i => rowD n (facesM c G H i)) (fun s => some s) (xs := List.range n)]
  · simp
  · generalize matV c n pl G H = z at *
    generalize (deedL n c G).map nD = y at *
    generalize (List.range n).map nD = zz at *
    generalize nD n = zn at *
    simp [rng1M, rg]
  · intro s hs
    have l1 := l1 s (List.mem_range.mp hs)
    have t : tupleF [.list ((List.range n).map fun j => PyData.int (facesM c G H s j))] = some ⟨rowD n (facesM c G H s), false⟩ := rfl
    refine ⟨[x0, .vl (nD n), .vl (matV c n pl G H), .ow false ((deedL n c G).map nD), .vl (nD s), x5, x6, x7, .un], ?_, by simp⟩
    show turnM _ _ _ _ [x0, .vl (nD n), .vl (matV c n pl G H), .ow false ((deedL n c G).map nD), .un, x5, x6, x7, .un] = some (.ok (some (rowD n (facesM c G H s))) _)
    generalize matV c n pl G H = z at *
    generalize (deedL n c G).map nD = y at *
    generalize rowD n (facesM c G H s) = y1 at *
    generalize PyData.list ((List.range n).map fun j => PyData.int (facesM c G H s j)) = y2 at *
    simp [turnM, l1, t]
  · exact big (by simp; omega)
  · simp
end
theorem matters_run {a b : Int} (p : Pot a b) : ∃ (a' b' : Int), Pot a' b' ∧ RetP m__law_matters_right [.ow true (potL a b), .un, .un, .un, .un, .un, .un, .un, .un] ⟨.bool true, false⟩ (potL a' b') := by
  obtain ⟨v, a1, b1, hv, p1, r1⟩ := k_draw (i := 0) (c := true) (k := 4) (e := [.ow true (potL a b), .un, .un, .un, .un, .un, .un, .un, .un]) p (by decide) (by decide) rfl
  have r1 : runPM 0 N__law_draw.length ps__law_draw.length m__law_draw [.int 4] [.ow true (potL a b), .un, .un, .un, .un, .un, .un, .un, .un] = some (.ok ⟨nD v, false⟩ [.ow true (potL a1 b1), .un, .un, .un, .un, .un, .un, .un, .un]) := r1
  have ad := one_more v
  have n1 : 1 ≤ v + 1 := by omega
  have n4 : v + 1 ≤ 4 := by omega
  generalize v + 1 = n at *
  obtain ⟨u, a2, b2, hu, p2, r2⟩ := k_draw (i := 0) (c := true) (k := 4) (e := [.ow true (potL a1 b1), .vl (nD n), .un, .un, .un, .un, .un, .un, .un]) p1 (by decide) (by decide) rfl
  have r2 : runPM 0 N__law_draw.length ps__law_draw.length m__law_draw [.int 4] [.ow true (potL a1 b1), .vl (nD n), .un, .un, .un, .un, .un, .un, .un] = some (.ok ⟨nD u, false⟩ [.ow true (potL a2 b2), .vl (nD n), .un, .un, .un, .un, .un, .un, .un]) := r2
  have ad2 := one_more u
  have c1 : 1 ≤ u + 1 := by omega
  have c4 : u + 1 ≤ 4 := by omega
  generalize u + 1 = c at *
  obtain ⟨pl, G, H, a3, b3, hm, p3, r3⟩ := k_mat (i := 0) (o := true) (e := [.ow true (potL a2 b2), .vl (nD n), .un, .un, .un, .un, .un, .un, .un]) n1 n4 c1 c4 p2 rfl
  have r3 : runPM 0 N__law_matter.length ps__law_matter.length m__law_matter [.tuple [nD c], nD n, .int 2] [.ow true (potL a2 b2), .vl (nD n), .un, .un, .un, .un, .un, .un, .un] = some (.ok ⟨matV c n pl G H, false⟩ [.ow true (potL a3 b3), .vl (nD n), .un, .un, .un, .un, .un, .un, .un]) := r3
  obtain ⟨s, f1, g1, g2⟩ := for_inv (step := b__law_matters_right_0) nD (fun s : List Nat × Sl × Sl => [.ow true (potL a3 b3), .vl (nD n), .vl (matV c n pl G H), .ow false (s.1.map nD), s.2.1, s.2.2, .un, .un, .un]) (fun s rem => s.1.length + rem.length ≤ 10 ∧ ∃ dn, List.range n = dn ++ rem ∧ s.1 = dn.map (deedI c G)) (fun x rem s ⟨h1, dn, h2, h3⟩ => by
    have hx : x < n := List.mem_range.mp (by rw [h2]; simp)
    simp only [List.length_cons] at h1
    have r := mr_b (acc := s.1) hm hx (by omega) (.ow true (potL a3 b3)) (.vl (nD n)) s.2.1 s.2.2 .un .un
    exact ⟨(s.1 ++ [deedI c G x], .vl (nD x), .vl (iD (colI c G x))), r, by simp; omega, dn ++ [x], by simp [h2], by simp [h3]⟩) (List.range n) ([], .un, .un) ⟨by simp; omega, [], rfl, rfl⟩
  obtain ⟨dn, h2, h3⟩ := g2
  have h2 : List.range n = dn := by simpa using h2
  subst h2
  rw [h3] at f1
  clear g1
  have hsm := faces_small hm
  have l2 := mr_2 hm (.ow true (potL a3 b3)) s.2.1 s.2.2 .un .un
  have tu : tupleF [.list ((List.range n).map fun i => rowD n (facesM c G H i))] = some ⟨facesD n (facesM c G H), false⟩ := rfl
  have kf := fun e => k_faces_of hm e
  generalize facesM c G H = F at *
  have rp := repr_ok (tame_two (tame_faces hsm n4) (tame_faces hsm n4)) (by decide) (by decide)
  have es1 := es (PyData.list [facesD n F, facesD n F]).shown
  obtain ⟨q, a4, b4, fq, p4, r4⟩ := k_msgs (i := 0) (c := true) (e := [.ow true (potL a3 b3), .vl (nD n), .vl (matV c n pl G H), .ow false ((deedL n c G).map nD), s.2.1, s.2.2, .vl (facesD n F), .un, .un]) n1 n4 p3 rfl
  have r4 : runPM 0 N__law_messages.length ps__law_messages.length m__law_messages [nD n] [.ow true (potL a3 b3), .vl (nD n), .vl (matV c n pl G H), .ow false ((deedL n c G).map nD), s.2.1, s.2.2, .vl (facesD n F), .un, .un] = some (.ok ⟨msD ((fullL n).filter q), false⟩ [.ow true (potL a4 b4), .vl (nD n), .vl (matV c n pl G H), .ow false ((deedL n c G).map nD), s.2.1, s.2.2, .vl (facesD n F), .un, .un]) := r4
  obtain ⟨a5, b5, p5, r5⟩ := k_right (i := 0) (c := true) (e := [.ow true (potL a4 b4), .vl (nD n), .vl (matV c n pl G H), .ow false ((deedL n c G).map nD), s.2.1, s.2.2, .vl (facesD n F), .un, .un]) hsm fq p4 rfl
  have r5 : runPM 0 N__law_right.length ps__law_right.length m__law_right [facesD n F, msD ((fullL n).filter q)] [.ow true (potL a4 b4), .vl (nD n), .vl (matV c n pl G H), .ow false ((deedL n c G).map nD), s.2.1, s.2.2, .vl (facesD n F), .un, .un] = some (.ok ⟨.bool true, false⟩ [.ow true (potL a5 b5), .vl (nD n), .vl (matV c n pl G H), .ow false ((deedL n c G).map nD), s.2.1, s.2.2, .vl (facesD n F), .un, .un]) := r5
  refine ⟨a5, b5, p5, [.ow true (potL a5 b5), .vl (nD n), .vl (matV c n pl G H), .ow false ((deedL n c G).map nD), s.2.1, s.2.2, .vl (facesD n F), .un, .un], ?_, rfl⟩
  have m0 : rng1M (readO 1) [.ow true (potL a3 b3), .vl (nD n), .vl (matV c n pl G H), .ow false [], .un, .un, .un, .un, .un] = some (.ok ((List.range n).map nD) [.ow true (potL a3 b3), .vl (nD n), .vl (matV c n pl G H), .ow false [], .un, .un, .un, .un, .un]) := by
    have rg := rngD_nat (n := n) (by omega)
    clear f1 l2 kf r3 r4 r5
    generalize matV c n pl G H = z at *
    generalize potL a3 b3 = q3 at *
    generalize (List.range n).map nD = zz at *
    generalize nD n = zn at *
    simp [rng1M, rg]
  have F1 := run_for m0 f1
  clear f1 m0
  have F1 : Ev.forM (rng1M (readO 1)) b__law_matters_right_0 [.ow true (potL a3 b3), .vl (nD n), .vl (matV c n pl G H), .ow false [], .un, .un, .un, .un, .un] = some (.ok .nx [.ow true (potL a3 b3), .vl (nD n), .vl (matV c n pl G H), .ow false ((deedL n c G).map nD), s.2.1, s.2.2, .un, .un, .un]) := F1
  generalize (PyData.list [facesD n F, facesD n F]).shown = st at *
  generalize matV c n pl G H = z at *
  generalize (deedL n c G).map nD = dl at *
  generalize PyData.list ((List.range n).map fun i => rowD n (F i)) = z2 at *
  generalize facesD n F = fd at *
  generalize msD ((fullL n).filter q) = md at *
  generalize potL a b = q0 at *
  generalize potL a1 b1 = q1 at *
  generalize potL a2 b2 = q2 at *
  generalize potL a3 b3 = q3 at *
  generalize potL a4 b4 = q4 at *
  generalize potL a5 b5 = q5 at *
  generalize nD n = zn at *
  rw [m__law_matters_right, run_then (e1 := [.ow true q1, .vl zn, .un, .un, .un, .un, .un, .un, .un]) (by simp [r1, ad]),
    run_then (e1 := [.ow true q3, .vl zn, .vl z, .ow false [], .un, .un, .un, .un, .un]) (by simp [r2, ad2, r3]), run_then F1,
    run_then (e1 := [.ow true q3, .vl zn, .vl z, .ow false dl, s.2.1, s.2.2, .vl fd, .un, .un]) (by simp [l2, tu])]
  exact run_thenR (run_ret (by simp [mixL, kf, rp, es1, r4, r5]))
theorem k_matters {a b : Int} {i : Nat} {c : Bool} {e : En} (p : Pot a b) (hi : e[i]? = some (.ow c (potL a b))) : ∃ (a' b' : Int), Pot a' b' ∧ runPM i N__law_matters_right.length ps__law_matters_right.length m__law_matters_right [] e = some (.ok ⟨.bool true, false⟩ (e.set i (.ow c (potL a' b')))) := by
  obtain ⟨a', b', h2, h3⟩ := matters_run p
  exact ⟨a', b', h2, runPM_eq hi rfl rfl h3⟩
end Lw

set_option Elab.async false
set_option linter.all false
set_option maxRecDepth 100000
set_option maxHeartbeats 4000000
namespace Lw
open PySem PySem.Spec L2 Ev
theorem law_step {a b : Int} {z t : PyData} (p : Pot a b) (x2 x3 x4 : Sl) : ∃ (a' b' : Int) (y3 y4 : Sl), Pot a' b' ∧ b_law_0 t [.vl z, .ow false (potL a b), x2, x3, x4] = some (.ok .nx [.vl z, .ow false (potL a' b'), .vl t, y3, y4]) := by
  obtain ⟨v, a1, b1, hv, p1, r1⟩ := k_draw (i := 1) (c := false) (k := 4) (e := [.vl z, .ow false (potL a b), .vl t, x3, x4]) p (by decide) (by decide) rfl
  have r1 : runPM 1 N__law_draw.length ps__law_draw.length m__law_draw [.int 4] [.vl z, .ow false (potL a b), .vl t, x3, x4] = some (.ok ⟨nD v, false⟩ [.vl z, .ow false (potL a1 b1), .vl t, x3, x4]) := r1
  have ad : addD (.int 1) (nD v) = some ⟨nD (v + 1), false⟩ := by
    show some (⟨.int (1 + (v : Int)), false⟩ : RV) = some ⟨.int (((v + 1 : Nat)) : Int), false⟩
    rw [show (1 + (v : Int)) = ((v + 1 : Nat) : Int) by omega]
  have n1 : 1 ≤ v + 1 := by omega
  have n4 : v + 1 ≤ 4 := by omega
  generalize v + 1 = n at *
  obtain ⟨F, a2, b2, hf, p2, r2⟩ := k_faces (i := 1) (c := false) (e := [.vl z, .ow false (potL a1 b1), .vl t, .vl (nD n), x4]) n1 n4 p1 rfl
  have r2 : runPM 1 N__law_faces.length ps__law_faces.length m__law_faces [nD n] [.vl z, .ow false (potL a1 b1), .vl t, .vl (nD n), x4] = some (.ok ⟨facesD n F, false⟩ [.vl z, .ow false (potL a2 b2), .vl t, .vl (nD n), x4]) := r2
  obtain ⟨q, a3, b3, fq, p3, r3⟩ := k_msgs (i := 1) (c := false) (e := [.vl z, .ow false (potL a2 b2), .vl t, .vl (nD n), .vl (facesD n F)]) n1 n4 p2 rfl
  have r3 : runPM 1 N__law_messages.length ps__law_messages.length m__law_messages [nD n] [.vl z, .ow false (potL a2 b2), .vl t, .vl (nD n), .vl (facesD n F)] = some (.ok ⟨msD ((fullL n).filter q), false⟩ [.vl z, .ow false (potL a3 b3), .vl t, .vl (nD n), .vl (facesD n F)]) := r3
  obtain ⟨a4, b4, p4, g1⟩ := k_right (i := 1) (c := false) (e := [.vl z, .ow false (potL a3 b3), .vl t, .vl (nD n), .vl (facesD n F)]) hf fq p3 rfl
  have g1 : runPM 1 N__law_right.length ps__law_right.length m__law_right [facesD n F, msD ((fullL n).filter q)] [.vl z, .ow false (potL a3 b3), .vl t, .vl (nD n), .vl (facesD n F)] = some (.ok ⟨.bool true, false⟩ [.vl z, .ow false (potL a4 b4), .vl t, .vl (nD n), .vl (facesD n F)]) := g1
  have fa : Fine n ((fullL n).filter fun _ => true) := fine_of n1 n4 _ fun s hs => by
    rw [filter_true]
    exact full_cov n1 n4 s hs
  rw [filter_true] at fa
  obtain ⟨a5, b5, p5, g2⟩ := k_right (i := 1) (c := false) (e := [.vl z, .ow false (potL a4 b4), .vl t, .vl (nD n), .vl (facesD n F)]) hf fa p4 rfl
  have g2 : runPM 1 N__law_right.length ps__law_right.length m__law_right [facesD n F, msD (fullL n)] [.vl z, .ow false (potL a4 b4), .vl t, .vl (nD n), .vl (facesD n F)] = some (.ok ⟨.bool true, false⟩ [.vl z, .ow false (potL a5 b5), .vl t, .vl (nD n), .vl (facesD n F)]) := g2
  obtain ⟨a6, b6, p6, g3⟩ := k_matters (i := 1) (c := false) (e := [.vl z, .ow false (potL a5 b5), .vl t, .vl (nD n), .vl (facesD n F)]) p5 rfl
  have g3 : runPM 1 N__law_matters_right.length ps__law_matters_right.length m__law_matters_right [] [.vl z, .ow false (potL a5 b5), .vl t, .vl (nD n), .vl (facesD n F)] = some (.ok ⟨.bool true, false⟩ [.vl z, .ow false (potL a6 b6), .vl t, .vl (nD n), .vl (facesD n F)]) := g3
  have ks := fun e => k__law_sets (n := n) n1 n4 e
  have tu : tupleF [lmD (fullL n)] = some ⟨msD (fullL n), false⟩ := rfl
  refine ⟨a6, b6, .vl (nD n), .vl (facesD n F), p6, ?_⟩
  generalize potL a b = q0 at *
  generalize potL a1 b1 = q1 at *
  generalize potL a2 b2 = q2 at *
  generalize potL a3 b3 = q3 at *
  generalize potL a4 b4 = q4 at *
  generalize potL a5 b5 = q5 at *
  generalize potL a6 b6 = q6 at *
  generalize msD ((fullL n).filter q) = w1 at *
  generalize msD (fullL n) = w2 at *
  generalize lmD (fullL n) = w3 at *
  generalize facesD n F = w4 at *
  generalize nD n = w5 at *
  have s0 : nameM 2 t [.vl z, .ow false q0, x2, x3, x4] = some (.ok () [.vl z, .ow false q0, .vl t, x3, x4]) := by simp
  rw [b_law_0, bodyM, run_bind, s0, bndR_ok, run_then (e1 := [.vl z, .ow false q1, .vl t, .vl w5, x4]) (by simp [r1, ad]), run_then (e1 := [.vl z, .ow false q2, .vl t, .vl w5, .vl w4]) (by simp [r2]),
    run_then (e1 := [.vl z, .ow false q5, .vl t, .vl w5, .vl w4]) (by simp [r3, g1, ks, tu, g2])]
  rw [run_then (e1 := [.vl z, .ow false q6, .vl t, .vl w5, .vl w4]) (by simp [g3])]
  rfl
theorem plain (nums : List Int) (hn : nums.length ≤ 63) : ∃ e2, m_law (.vl (.list (nums.map PyData.int)) :: List.replicate (N_law.length - 1) .un) = some (.ok (.rt ⟨.bool true, false⟩) e2) := by
  obtain ⟨a, b, p, hp⟩ := r__law_pot nums
  have kp : ∀ e, runM N__law_pot.length ps__law_pot.length m__law_pot [.list (nums.map PyData.int), .int 0] e = some (.ok ⟨.list (potL a b), true⟩ e) := fun e => runM_eq rfl rfl hp
  generalize PyData.list (nums.map PyData.int) = z at *
  have lp := for_inv (step := b_law_0) nD (fun s : (Int × Int) × Sl × Sl × Sl => [.vl z, .ow false (potL s.1.1 s.1.2), s.2.1, s.2.2.1, s.2.2.2]) (fun s rem => Pot s.1.1 s.1.2) (fun x rem s hs => by
    obtain ⟨a', b', y3, y4, q1, q2⟩ := law_step (z := z) (t := nD x) hs s.2.1 s.2.2.1 s.2.2.2
    exact ⟨((a', b'), .vl (nD x), y3, y4), q2, q1⟩) (List.range 3) ((a, b), .un, .un, .un) p
  obtain ⟨s, h, _⟩ := lp
  have m0 : rng1M (toO (pure ⟨.int 3, false⟩)) [.vl z, .ow false (potL a b), .un, .un, .un] = some (.ok ((List.range 3).map nD) [.vl z, .ow false (potL a b), .un, .un, .un]) := by
    have : rngD [.int 3] = some ((List.range 3).map nD) := rngD_nat (n := 3) (by decide)
    generalize (List.range 3).map nD = w at *
    simp [rng1M, this]
  refine ⟨[.vl z, .ow false (potL s.1.1 s.1.2), s.2.1, s.2.2.1, s.2.2.2], ?_⟩
  show m_law [.vl z, .un, .un, .un, .un] = _
  rw [m_law, run_then (e1 := [.vl z, .ow false (potL a b), .un, .un, .un]) (by
    have kp := kp [.vl z, .un, .un, .un, .un]
    generalize potL a b = q at *
    simp [kp]), run_then (run_for m0 h)]
  exact run_thenR (run_ret (by simp))
end Lw

set_option Elab.async false
set_option linter.all false
set_option maxRecDepth 100000
set_option maxHeartbeats 0
open PySem PySem.W PySem.Calls PyProof.Rows
theorem PySem.Challenge.cw_asktell_k84_whole_envies_and_ways_holds : PySem.Challenge.rw_asktell_k84_whole_envies_and_ways.Holds := by
  w_on; o_law
  refine HandSHeadRun.head_any (r := OpenLaw.row PySem.Challenge.rw_asktell_k84_whole_envies_and_ways) (q := view (OpenLaw.row PySem.Challenge.rw_asktell_k84_whole_envies_and_ways).prog [76]) (H := Hd.hk) (ob := Hd.ob) (M := 4000) (loose := Hd.oth) (d := HandSHeadRun.topDef (OpenLaw.row PySem.Challenge.rw_asktell_k84_whole_envies_and_ways).prog 76) (kwd := []) Hd.ob_eq
    (by kernel_rfl) (fun s => by kernel_rfl) Hd.run (by kernel_rfl) (by kernel_rfl) (by kernel_rfl) (by rfl) (by first | assumption | decide +kernel) (by decide +kernel) ⟨rfl, rfl, rfl, rfl, rfl, by decide +kernel⟩ ?hw ?hc
  case hw => w_witness2
  case hc =>
    refine Ev.walk_G (l := PySem.Challenge.rw_asktell_k84_whole_envies_and_ways) (n := 63) (k := 9) (x := "script") rfl (by decide) (by kernel_rfl) ⟨rfl, by decide, by decide⟩ ?F
    intro w mg fa h Y G hmg0
    obtain ⟨K, KX, c⟩ := Y
    have hmg : mg ("law" : PySem.Str) = some (.ref fa) := by
      have e : (HandSHeadRun.topDef (OpenLaw.row PySem.Challenge.rw_asktell_k84_whole_envies_and_ways).prog 76).name = ("law" : PySem.Str) := by kernel_rfl
      rw [← e]
      exact hmg0
    have glo : mg ("law" : PySem.Str) = some (.ref (He.fAd K ("law", none))) := He.glo_ok KX G (c.fact 57 (f := .glo "law") rfl)
    have efa : fa = He.fAd K ("law", none) := by
      rw [hmg] at glo
      cases glo
      rfl
    subst efa
    obtain ⟨fd, D⟩ := c.def_ 57 (d := Hd.dd 76 "law") rfl
    exact ⟨K, fd, _, KX, fun s u => L2.FunD.bindsA (ps := ["script"]) D (fun _ _ _ _ _ _ us hl => match us, hl with | [_], _ => rfl) s [u] rfl, fun H a nums hn _ hS => Ev.law_sp hS (Lw.plain nums hn).choose_spec, fun base _ _ => Lw.fn_law (P := PySem.Challenge.rw_asktell_k84_whole_envies_and_ways.prog) (w := w) c KX G D base⟩


