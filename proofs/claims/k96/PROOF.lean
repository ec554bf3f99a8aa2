import PyProof.Rows.All
import Wide.All
import OpenK.AllK
import Wide.FinOn
import KE.KStateDown
import Lean
import KE.DataEq
import HandS.ForMost
import HandS.More
import HandS.Defaults
import HandS.Strs
import HandS.TupSets
import HandS.TupAny
import HandS.TupMul
import HandS.Deep
import HandS.IsInst
import HandS.Evl
import HandS.Head0
import HandS.Head1
import HandS.Head2
import HandS.HeadEnd
import HandS.HeadHook1
import HandS.HeadHook2
import PySem.Challenge.RW_foldworld_k96_whole_strips_by_layerings
import HandS.NoneIn
import KE.GoesMore
import HandS.Walk
set_option Elab.async false
set_option linter.all false
/-! M0: the mirror: what the text's defs compute, over lists of numbers. Core Lean alone. -/
namespace FW
/-- the points: where piece k begins -/
def pt (L : List Nat) : Nat → Int
  | 0 => 0
  | k + 1 => pt L k + (if k % 2 = 0 then (L.getD k 0 : Int) else -(L.getD k 0 : Int))
def lo (L : List Nat) (j : Nat) : Int := min (pt L j) (pt L (j+1))
def hi (L : List Nat) (j : Nat) : Int := max (pt L j) (pt L (j+1))
/-- piece j lies between the pieces of crease k -/
def Btw (s : Nat → Nat) (k j : Nat) : Prop := min (s k) (s (k+1)) < s j ∧ s j < max (s k) (s (k+1))
def PierceAt (L : List Nat) (s : Nat → Nat) (k j : Nat) : Prop := Btw s k j ∧ lo L j < pt L (k+1) ∧ pt L (k+1) < hi L j
def Pierced (L : List Nat) (n : Nat) (s : Nat → Nat) : Prop := ∃ k j, k + 1 < n ∧ j < n ∧ PierceAt L s k j
def Crs (s : Nat → Nat) (k j : Nat) : Prop := min (s k) (s (k+1)) < min (s j) (s (j+1)) ∧ min (s j) (s (j+1)) < max (s k) (s (k+1)) ∧ max (s k) (s (k+1)) < max (s j) (s (j+1))
def CrossAt (L : List Nat) (s : Nat → Nat) (k j : Nat) : Prop := pt L (k+1) = pt L (j+1) ∧ Crs s k j
def Crossed (L : List Nat) (n : Nat) (s : Nat → Nat) : Prop := ∃ k j, k + 1 < n ∧ j + 1 < n ∧ j % 2 = k % 2 ∧ CrossAt L s k j
def Laid (L : List Nat) (n : Nat) (s : Nat → Nat) : Prop := ¬ Pierced L n s ∧ ¬ Crossed L n s
noncomputable def laidB (L : List Nat) (n : Nat) (s : Nat → Nat) : Bool := @decide (Laid L n s) (Classical.propDecidable _)
theorem laidB_t {L n s} (h : Laid L n s) : laidB L n s = true := @decide_eq_true _ (Classical.propDecidable _) h
theorem laidB_f {L n s} (h : ¬ Laid L n s) : laidB L n s = false := @decide_eq_false _ (Classical.propDecidable _) h
theorem laidB_iff {L n s} : laidB L n s = true ↔ Laid L n s := @decide_eq_true_iff _ (Classical.propDecidable _)
/-- the place of a piece in a pile -/
def spot (p : List Nat) (k : Nat) : Nat := p.idxOf k
def ins (p : List Nat) (i x : Nat) : List Nat := p.take i ++ x :: p.drop i
/-- all places for one piece more -/
def grow (p : List Nat) (x : Nat) : List (List Nat) := (List.range (p.length + 1)).map fun i => ins p i x
/-- the layerings of the first m + 1 pieces, as the text makes them -/
noncomputable def lay (L : List Nat) : Nat → List (List Nat)
  | 0 => [[0]]
  | m + 1 => (lay L m).flatMap fun p => (grow p (m + 1)).filter fun q => laidB L (m + 2) (spot q)
/-- all piles of l of the pieces below n -/
def piles (n : Nat) : Nat → List (List Nat)
  | 0 => [[]]
  | l + 1 => (piles n l).flatMap fun h => ((List.range n).filter fun k => !h.elem k).map fun k => h ++ [k]
noncomputable def every (L : List Nat) : List (List Nat) := (piles L.length L.length).filter fun p => laidB L L.length (spot p)
/-- marks: true for v -/
def markAt (p : List Nat) (k : Nat) : Bool := (Nat.blt (p.idxOf (k+1)) (p.idxOf k)) == Nat.beq (k % 2) 0
def marksOf (n : Nat) (p : List Nat) : List Bool := (List.range (n-1)).map (markAt p)
noncomputable def folds (L : List Nat) (bs : List Bool) : List (List Nat) := (every L).filter fun p => marksOf L.length p == bs
/-- steps -/
inductive Step where
  | crimp (k : Nat) | fst | lst
  deriving DecidableEq
def crimpOk (L : List Nat) (bs : List Bool) (k : Nat) : Bool :=
  (bs.getD k true != bs.getD (k+1) true) && (Nat.ble (L.getD (k+1) 0) (L.getD k 0) && Nat.ble (L.getD (k+1) 0) (L.getD (k+2) 0))
def stepList (L : List Nat) (bs : List Bool) : List Step :=
  ((List.range (L.length - 2)).filter (crimpOk L bs)).map Step.crimp ++
  ((if Nat.blt 1 L.length && Nat.ble (L.getD 0 0) (L.getD 1 0) then [Step.fst] else []) ++
  (if Nat.blt 1 L.length && Nat.ble (L.getD (L.length-1) 0) (L.getD (L.length-2) 0) then [Step.lst] else []))
def after (L : List Nat) (bs : List Bool) : Step → List Nat × List Bool
  | .crimp k => (L.take k ++ (L.getD k 0 - L.getD (k+1) 0 + L.getD (k+2) 0) :: L.drop (k+3), bs.take k ++ bs.drop (k+2))
  | .fst => (L.drop 1, bs.drop 1)
  | .lst => (L.dropLast, bs.dropLast)
/-- the steps that the text makes, and the lengths that are left -/
def walk : Nat → List Nat → List Bool → List Step × List Nat
  | 0, L, _ => ([], L)
  | f+1, L, bs => match stepList L bs with
    | [] => ([], L)
    | s :: _ => let r := walk f (after L bs s).1 (after L bs s).2; (s :: r.1, r.2)
def fold (L : List Nat) (bs : List Bool) : Bool := Nat.beq (walk L.length L bs).2.length 1
/-- foldings of pieces all alike, told by marks -/
def meet (q : List Nat) (a b : Nat) : Bool :=
  let l := min (q.idxOf a) (q.idxOf (a+1)); let h := max (q.idxOf a) (q.idxOf (a+1)); let n := min (q.idxOf b) (q.idxOf (b+1)); let f := max (q.idxOf b) (q.idxOf (b+1))
  (decide (l < n) && (decide (n < h) && decide (h < f))) || (decide (n < l) && (decide (l < f) && decide (f < h)))
def cnt2 (lo hi : Nat) : Nat := if lo < hi then (hi - lo - 1) / 2 + 1 else 0
/-- the last crease of a pile of m pieces crosses none -/
def lastFit (q : List Nat) : Bool := !(((List.range (cnt2 ((q.length - 2) % 2) (q.length - 2))).map fun i => (q.length - 2) % 2 + 2 * i).map fun c => meet q c (q.length - 2)).any id
def told (bs : List Bool) : Nat → List (List Nat)
  | 0 => [[0]]
  | m + 1 => ((told bs m).flatMap fun p => grow p p.length).filter fun q => lastFit q && (markAt q m == bs.getD m true)
/-- strips that may be passed -/
structure Strip (L : List Nat) : Prop where
  pos : 1 ≤ L.length
  few : L.length ≤ 8
  one : ∀ x ∈ L, 1 ≤ x
  sum : L.sum ≤ 1000
theorem Strip.le {L : List Nat} (h : Strip L) {x : Nat} (hx : x ∈ L) : x ≤ 1000 := by
  have : ∀ L : List Nat, x ∈ L → x ≤ L.sum := by
    intro L
    induction L with
    | nil => intro h; cases h
    | cons a r ih =>
      intro h
      rw [List.sum_cons]
      rcases List.mem_cons.mp h with e | e
      · omega
      · have := ih e; omega
  have h2 := this L hx
  have h3 := h.sum
  omega
end FW
set_option maxRecDepth 100000
set_option maxHeartbeats 4000000
/-! W1: what an expression, a test, a statement evaluates to, told by data (PyData), straight over the syntax. -/
namespace FW
open PySem PySem.Spec PyProof.Rows L2 Evl

/-! ### data over heaps: the tuples are plain ones -/
/-- a plain tuple: its object is known, and bears no dict -/
def PlT (H : Hp) (a : Addr) (xs : List V) : Prop := ∃ o : Obj, H a = some (.frz o (.tup xs)) ∧ o.dict = none
mutual
inductive Dq (K : PySem.W.Frag) (H : Hp) : V → PyData → Prop
  | non : Dq K H .non .none
  | bl (b : Bool) : Dq K H (.bl b) (.bool b)
  | int (i : Int) : Dq K H (.int i) (.int i)
  | str (x : Str) : Dq K H (.str x) (.str x)
  | lst {a : Addr} {xs : List V} {ds : List PyData} : SqL K H a xs → DqAll K H xs ds → Dq K H (.ref a) (.list ds)
  | tup {a : Addr} {xs : List V} {ds : List PyData} : PlT H a xs → DqAll K H xs ds → Dq K H (.ref a) (.tuple ds)
inductive DqAll (K : PySem.W.Frag) (H : Hp) : List V → List PyData → Prop
  | nil : DqAll K H [] []
  | cons {v : V} {vs : List V} {d : PyData} {ds : List PyData} : Dq K H v d → DqAll K H vs ds → DqAll K H (v :: vs) (d :: ds)
end
section
variable {K : PySem.W.Frag} {H H' : Hp}
theorem PlT.seq {a : Addr} {xs : List V} (h : PlT H a xs) : SqT K H a xs := by
  obtain ⟨o, h, _⟩ := h
  exact .inl (.inr ⟨o, h⟩)
theorem PlT.ex {a : Addr} {xs : List V} (h : PlT H a xs) (e : Ex H H') : PlT H' a xs := by
  obtain ⟨o, h, d⟩ := h
  exact ⟨o, e _ _ h, d⟩
theorem PlT.of {p : Addr} {xs : List V} {o : Obj} (h : o.dict = none) : PlT (upd H p (.frz o (.tup xs))) p xs := ⟨o, upd_same, h⟩
mutual
theorem dq_ex (e : Ex H H') : ∀ (d : PyData) (v : V), Dq K H v d → Dq K H' v d
  | .none, _, h => by cases h; exact .non
  | .bool _, _, h => by cases h; exact .bl _
  | .int _, _, h => by cases h; exact .int _
  | .str _, _, h => by cases h; exact .str _
  | .list ds, _, h => by
    cases h with
    | lst hs ha => exact .lst (ex_l e hs) (dqa_ex e ds _ ha)
  | .tuple ds, _, h => by
    cases h with
    | tup hs ha => exact .tup (hs.ex e) (dqa_ex e ds _ ha)
  | .dict _, _, h => by cases h
theorem dqa_ex (e : Ex H H') : ∀ (ds : List PyData) (vs : List V), DqAll K H vs ds → DqAll K H' vs ds
  | [], _, h => by cases h; exact .nil
  | d :: ds, _, h => by
    cases h with
    | cons h1 h2 => exact .cons (dq_ex e d _ h1) (dqa_ex e ds _ h2)
end
mutual
theorem dq_dp : ∀ (d : PyData) (v : V), Dq K H v d → Dp K H v d
  | .none, _, h => by cases h; exact .non
  | .bool _, _, h => by cases h; exact .bl _
  | .int _, _, h => by cases h; exact .int _
  | .str _, _, h => by cases h; exact .str _
  | .list ds, _, h => by
    cases h with
    | lst hs ha => exact .lst hs (dqa_dp ds _ ha)
  | .tuple ds, _, h => by
    cases h with
    | tup hs ha => exact .tup hs.seq (dqa_dp ds _ ha)
  | .dict _, _, h => by cases h
theorem dqa_dp : ∀ (ds : List PyData) (vs : List V), DqAll K H vs ds → DpAll K H vs ds
  | [], _, h => by cases h; exact .nil
  | d :: ds, _, h => by
    cases h with
    | cons h1 h2 => exact .cons (dq_dp d _ h1) (dqa_dp ds _ h2)
end
theorem Dq.ex {v : V} {d : PyData} (h : Dq K H v d) (e : Ex H H') : Dq K H' v d := dq_ex e d v h
theorem DqAll.ex {vs : List V} {ds : List PyData} (h : DqAll K H vs ds) (e : Ex H H') : DqAll K H' vs ds := dqa_ex e ds vs h
theorem Dq.dp {v : V} {d : PyData} (h : Dq K H v d) : Dp K H v d := dq_dp d v h
theorem DqAll.len : ∀ {vs : List V} {ds : List PyData}, DqAll K H vs ds → vs.length = ds.length
  | _, _, .nil => rfl
  | _, _, .cons _ t => congrArg Nat.succ t.len
theorem DqAll.get : ∀ {vs : List V} {ds : List PyData} {i : Nat} {d : PyData}, DqAll K H vs ds → ds[i]? = some d → ∃ v, vs[i]? = some v ∧ Dq K H v d
  | _, _, _, _, .nil, e => by simp at e
  | _, _, 0, _, .cons r _, e => by simp at e; subst e; exact ⟨_, rfl, r⟩
  | _, _, i + 1, d, .cons _ t, e => by
    obtain ⟨v, h1, h2⟩ := DqAll.get (i := i) (d := d) t (by simpa using e)
    exact ⟨v, by simpa using h1, h2⟩
theorem DqAll.getV {vs : List V} {ds : List PyData} {i : Nat} {v : V} (h : DqAll K H vs ds) (e : vs[i]? = some v) : ∃ d, ds[i]? = some d ∧ Dq K H v d := by
  have hi : i < ds.length := by rw [← h.len]; exact (List.getElem?_eq_some_iff.mp e).1
  obtain ⟨u, h1, h2⟩ := h.get (List.getElem?_eq_getElem hi)
  rw [e] at h1; cases h1
  exact ⟨_, List.getElem?_eq_getElem hi, h2⟩
theorem DqAll.append : ∀ {vs us : List V} {ds es : List PyData}, DqAll K H vs ds → DqAll K H us es → DqAll K H (vs ++ us) (ds ++ es)
  | _, _, _, _, .nil, s => s
  | _, _, _, _, .cons r t, s => .cons r (DqAll.append t s)
theorem DqAll.take : ∀ {vs : List V} {ds : List PyData} (n : Nat), DqAll K H vs ds → DqAll K H (vs.take n) (ds.take n)
  | _, _, 0, _ => .nil
  | _, _, _ + 1, .nil => .nil
  | _, _, n + 1, .cons r t => .cons r (DqAll.take n t)
theorem DqAll.drop : ∀ {vs : List V} {ds : List PyData} (n : Nat), DqAll K H vs ds → DqAll K H (vs.drop n) (ds.drop n)
  | _, _, 0, r => r
  | _, _, _ + 1, .nil => .nil
  | _, _, n + 1, .cons _ t => DqAll.drop n t
theorem DqAll.rep : ∀ {vs : List V} {ds : List PyData} (n : Nat), DqAll K H vs ds → DqAll K H (List.replicate n vs).flatten (List.replicate n ds).flatten
  | _, _, 0, _ => .nil
  | _, _, n + 1, h => by
    rw [List.replicate_succ, List.replicate_succ, List.flatten_cons, List.flatten_cons]
    exact h.append (DqAll.rep n h)
theorem dpa_ints : ∀ {vs : List V} {ns : List Int}, DqAll K H vs (ns.map PyData.int) → vs = ns.map V.int
  | _, [], h => by cases h; rfl
  | _, n :: ns, h => by
    cases h with
    | cons h1 h2 => cases h1; rw [dpa_ints h2]; rfl
theorem ints_dpa : ∀ (ns : List Int), DqAll K H (ns.map V.int) (ns.map PyData.int)
  | [] => .nil
  | n :: ns => .cons (.int n) (ints_dpa ns)
theorem dpa_bls : ∀ {vs : List V} {ns : List Bool}, DqAll K H vs (ns.map PyData.bool) → vs = ns.map V.bl
  | _, [], h => by cases h; rfl
  | _, n :: ns, h => by
    cases h with
    | cons h1 h2 => cases h1; rw [dpa_bls h2]; rfl
theorem dpa_strs : ∀ {vs : List V} {ns : List Str}, DqAll K H vs (ns.map PyData.str) → vs = ns.map V.str
  | _, [], h => by cases h; rfl
  | _, n :: ns, h => by
    cases h with
    | cons h1 h2 => cases h1; rw [dpa_strs h2]; rfl
end

/-! ### what makes plain tuples -/
section
variable {X : Cx} {σ : L2.St} {H H' : Hp} {pins : List (Addr × Obj)} {s : Shared}
theorem laidF {its : List Value} {xs : List V} {h' : Heap} {t' : Nat} (I : Inv X pins σ H { s with heap := h', toks := t' }) (r : Vals xs its) (hz : xs.length ≤ sizeLine) :
    Inv X pins σ (upd H h'.objs.size (.frz { cls := .type "tuple", data := .seq its.toArray } (.tup xs))) { s with heap := h'.push { cls := .type "tuple", data := .seq its.toArray }, toks := t' } :=
  I.laid (t' := t') (fun b o e => Heap.get?_push_of_some _ e) (Nat.le_refl _) ⟨Heap.get?_push_size _ rfl, hz, its, r, IsTup.new _ _⟩
def tTupF (t : TA) : TE := fun σ H Q => t σ H fun xs H1 => xs.length ≤ sizeLine ∧ ∀ p (o : Obj), H1 p = none → o.dict = none → Q (.ref p) (upd H1 p (.frz o (.tup xs)))
theorem pe_tupF {x1 : Nat} {es : List Expr} {pos : Pos} {t : TA} (h : PA X es t) : PE X (.Tuple es x1 pos) (tTupF t) := by
  refine ⟨fun pins s σ H Q I hq => ?_⟩
  refine wpAny_Tuple_spliced (thn (h.run pos pins s σ H _ I hq) fun us s1 ⟨xs, H1, I1, r, z, q⟩ => ⟨by rw [← r.length]; exact z, ?_⟩)
  exact ⟨.ref s1.heap.objs.size, _, laidF (s := s1) (h' := s1.heap) (t' := s1.toks) I1 r z, rfl, q _ _ (I1.hok.fresh (Nat.le_refl _)) rfl⟩
def rCatF (K : PySem.W.Frag) : R2 := fun x y H Q => ∃ a b xs ys, x = .ref a ∧ y = .ref b ∧ SqT K H a xs ∧ SqT K H b ys ∧ xs.length + ys.length ≤ sizeLine ∧
  (xs = [] → Q (.ref b) H) ∧ (xs ≠ [] → ys = [] → Q (.ref a) H) ∧ (xs ≠ [] → ys ≠ [] → ∀ p (o : Obj), H p = none → o.dict = none → Q (.ref p) (upd H p (.frz o (.tup (xs ++ ys)))))
theorem op_catF : OpR X (binaryOp .Add) (rCatF X.K) := by
  intro pins s σ H x y v u Q I rx ry h
  obtain ⟨a, b, xs, ys, rfl, rfl, ha, hb, hz, q0, q1, q2⟩ := h
  cases rx
  cases ry
  obtain ⟨its, r1, p1, _⟩ := I.tuple ha
  obtain ⟨its2, r2, p2, _⟩ := I.tuple hb
  by_cases hx : xs = []
  · subst hx
    cases r1
    exact cat_tup0 p1 p2 ⟨.ref b, H, I, rfl, q0 rfl⟩
  · refine HT.cat_tup p1 p2 (fun z => hx (r1.nil_iff.mp z)) (fun z => ⟨.ref a, H, I, rfl, q1 hx (r2.nil_iff.mp z)⟩) (fun z => ?_) (by rw [← r1.length, ← r2.length]; exact hz)
    exact ⟨.ref s.heap.objs.size, _, laidF (s := s) (h' := s.heap) (t' := s.toks) I (r1.append r2) (by rw [List.length_append]; exact hz), rfl, q2 hx (fun w => z (r2.nil_iff.mpr w)) _ _ (I.hok.fresh (Nat.le_refl _)) rfl⟩
def rSlF (K : PySem.W.Frag) : V → Option Int → Option Int → Hp → VK → Prop := fun x lo hi H Q => ∃ a xs, x = .ref a ∧ SqT K H a xs ∧
  (HT.sIx xs.length 0 lo = 0 ∧ HT.sIx xs.length xs.length hi = xs.length → Q (.ref a) H) ∧ (¬ (HT.sIx xs.length 0 lo = 0 ∧ HT.sIx xs.length xs.length hi = xs.length) → ∀ p (o : Obj), H p = none → o.dict = none → Q (.ref p) (upd H p (.frz o (.tup (cutV xs lo hi)))))
theorem sl_tupF : SlR X (rSlF X.K) := by
  intro pins s σ H x v vl vu lo hi sl Q I rx hs pl pu h
  obtain ⟨a, xs, rfl, hx, q1, q2⟩ := h
  cases rx
  obtain ⟨its, r, ht, hz⟩ := I.tuple hx
  have hlen : its.toArray.size = xs.length := by rw [List.size_toArray]; exact r.length.symm
  refine ⟨"tuple", _, PyProof.Rows.slot_tuple_getitem.lookup, ht.typeIs, ?_⟩
  by_cases hw : HT.sIx xs.length 0 lo = 0 ∧ HT.sIx xs.length xs.length hi = xs.length
  · exact getItem_tuple_whole ht hs pl pu (by rw [hlen]; exact hw) ⟨.ref a, H, I, rfl, q1 hw⟩
  · refine HT.getItem_tuple_cut ht hs pl pu (by rw [hlen]; exact hw) ?_ (by rw [hlen]; exact hz)
    rw [hlen]
    exact ⟨.ref s.heap.objs.size, _, laidF (s := s) (h' := s.heap) (t' := s.toks) I ((r.drop (HT.sIx xs.length 0 lo)).take (HT.sIx xs.length xs.length hi - HT.sIx xs.length 0 lo)) (Nat.le_trans (cutV_length xs lo hi) hz), rfl, q2 hw _ _ (I.hok.fresh (Nat.le_refl _)) rfl⟩
theorem call_tuple_ofF : CallR X (.type "tuple") (fun xs H Q => ∃ p ys, xs = [.ref p] ∧ SqL X.K H p ys ∧ ∀ l (o : Obj), H l = none → o.dict = none → Q (.ref l) (upd H l (.frz o (.tup ys)))) := by
  intro pins s σ H xs us Q I r h
  obtain ⟨p, ys, rfl, hq, q⟩ := h
  obtain ⟨u, rfl, rx⟩ := vals1 r
  cases rx
  obtain ⟨its, r', pl, hz⟩ := I.list hq
  have hlen := r'.length
  refine call_tuple_list pl.isList (fun h' kp => ?_) (by simp only [List.size_toArray] <;> omega)
  have I1 : Inv X pins σ H { s with heap := h' } := I.kept (t' := s.toks) kp
  exact ⟨.ref h'.objs.size, _, laidF (s := s) (h' := h') (t' := s.toks) I1 r' hz, rfl, q _ _ (I1.hok.fresh (Nat.le_refl _)) rfl⟩
end
/-! ### the weakest readings -/
def tWp (X : Cx) (e : Expr) : TE := fun σ H Q => ∀ (pins : List (Addr × Obj)) (s : Shared), Inv X pins σ H s → wpAny (model X.prog X.w) X.A (eval e X.env) (EP X pins σ Q) X.xe s
def tWt (X : Cx) (e : Expr) : TT := fun σ H Q => ∀ (pins : List (Addr × Obj)) (s : Shared), Inv X pins σ H s → wpAny (model X.prog X.w) X.A (isTrue e X.env (eval e X.env)) (TP X pins σ Q) X.xe s
def tWa (X : Cx) (es : List Expr) : TA := fun σ H Q => ∀ (pos : Pos) (pins : List (Addr × Obj)) (s : Shared), Inv X pins σ H s → wpAny (model X.prog X.w) X.A (spliced (backTo pos (starEach es X.env))) (AP X pins σ Q) X.xe s
def tWs (X : Cx) (st : Stmt) : TS := fun D σ H => ∀ (pins : List (Addr × Obj)) (s : Shared), Inv X pins σ H s → wpAny (model X.prog X.w) X.A (exec st X.env) (SP X pins D) X.xe s
def tWss (X : Cx) (st : List Stmt) : TS := fun D σ H => ∀ (pins : List (Addr × Obj)) (s : Shared), Inv X pins σ H s → wpAny (model X.prog X.w) X.A (execs st X.env) (SP X pins D) X.xe s
section
variable {X : Cx}
theorem wp_e {e : Expr} : PE X e (tWp X e) := ⟨fun pins s _ _ _ I h => h pins s I⟩
theorem wp_t {e : Expr} : PT X e (tWt X e) := ⟨fun pins s _ _ _ I h => h pins s I⟩
theorem wp_a {es : List Expr} : PA X es (tWa X es) := ⟨fun pos pins s _ _ _ I h => h pos pins s I⟩
theorem wp_s {st : Stmt} : PS X st (tWs X st) := ⟨fun pins s _ _ _ I h => h pins s I⟩
theorem wp_ss {st : List Stmt} : PSs X st (tWss X st) := ⟨fun pins s _ _ _ I h => h pins s I⟩
end

/-- what e evaluates to, the heap only growing -/
abbrev VP := V → Hp → Prop
def W (X : Cx) (e : Expr) (σ : L2.St) (H : Hp) (P : VP) : Prop := ∀ H1, Ex H H1 → ∀ Q : VK, (∀ v H2, Ex H1 H2 → P v H2 → Q v H2) → tWp X e σ H1 Q
def WT (X : Cx) (e : Expr) (σ : L2.St) (H : Hp) (b : Bool) : Prop := ∀ H1, Ex H H1 → ∀ Q : Bool → Hp → Prop, (∀ H2, Ex H1 H2 → Q b H2) → tWt X e σ H1 Q
abbrev VPs := List V → Hp → Prop
def WA (X : Cx) (es : List Expr) (σ : L2.St) (H : Hp) (P : VPs) : Prop := ∀ H1, Ex H H1 → ∀ Q : List V → Hp → Prop, (∀ vs H2, Ex H1 H2 → P vs H2 → Q vs H2) → tWa X es σ H1 Q
/-- data -/
abbrev dt (X : Cx) (d : PyData) : VP := fun v H => Dq X.K H v d
abbrev dts (X : Cx) (ds : List PyData) : VPs := fun vs H => DqAll X.K H vs ds
abbrev Wd (X : Cx) (e : Expr) (σ : L2.St) (H : Hp) (d : PyData) : Prop := W X e σ H (dt X d)
abbrev WAd (X : Cx) (es : List Expr) (σ : L2.St) (H : Hp) (ds : List PyData) : Prop := WA X es σ H (dts X ds)
section
variable {X : Cx} {σ : L2.St} {H H' : Hp} {P : VP} {e a b c : Expr} {pos : Pos}
theorem W.of {t : TE} (h : PE X e t) (q : ∀ H1, Ex H H1 → ∀ Q : VK, (∀ v H2, Ex H1 H2 → P v H2 → Q v H2) → t σ H1 Q) : W X e σ H P :=
  fun H1 e1 Q k pins s I => h.run pins s σ H1 Q I (q H1 e1 Q k)
theorem WT.of {t : TT} {r : Bool} (h : PT X e t) (q : ∀ H1, Ex H H1 → ∀ Q : Bool → Hp → Prop, (∀ H2, Ex H1 H2 → Q r H2) → t σ H1 Q) : WT X e σ H r :=
  fun H1 e1 Q k pins s I => h.run pins s σ H1 Q I (q H1 e1 Q k)
theorem WA.of {es : List Expr} {P : VPs} {t : TA} (h : PA X es t) (q : ∀ H1, Ex H H1 → ∀ Q : List V → Hp → Prop, (∀ vs H2, Ex H1 H2 → P vs H2 → Q vs H2) → t σ H1 Q) : WA X es σ H P :=
  fun H1 e1 Q k pos pins s I => h.run pos pins s σ H1 Q I (q H1 e1 Q k)
theorem W.ex (h : W X e σ H P) (x : Ex H H') : W X e σ H' P := fun H1 e1 => h H1 (x.trans e1)
theorem WT.ex {r : Bool} (h : WT X e σ H r) (x : Ex H H') : WT X e σ H' r := fun H1 e1 => h H1 (x.trans e1)
theorem W.imp {P' : VP} (h : W X e σ H P) (f : ∀ v H1, Ex H H1 → P v H1 → P' v H1) : W X e σ H P' := fun H1 e1 Q k => h H1 e1 Q fun v H2 e2 p => k v H2 e2 (f v H2 (e1.trans e2) p)
theorem Wd.is {d d' : PyData} (h : Wd X e σ H d) (q : d = d') : Wd X e σ H d' := by subst q; exact h
theorem WT.is {r r' : Bool} (h : WT X e σ H r) (q : r = r') : WT X e σ H r' := by subst q; exact h

/-! ### names, constants -/
/-- a name of the def, in slot i -/
theorem w_p (i : Nat) {v : V} {x : Str} (hv : σ[i]? = some (some v)) (p : ∀ H1, Ex H H1 → P v H1) (hN : X.N[i]? = some x := by rfl) (hs : Vis X.env.scope x := by first | exact Or.inl rfl | exact Or.inr (Or.inl rfl) | exact Or.inr (Or.inr rfl)) (hd : (x == ("__debug__" : Str)) = false := by decide)
    (hcd : (x == ("__classdict__" : Str)) = false := by decide) : W X (.Name x pos) σ H P := W.of (pe_var hN hs hd hcd) fun H1 e1 Q k => ⟨v, hv, k v H1 (Ex.refl _) (p H1 e1)⟩
theorem w_v (i : Nat) {v : V} {d : PyData} {x : Str} (h : Dq X.K H v d) (hv : σ[i]? = some (some v) := by rfl) (hN : X.N[i]? = some x := by rfl) (hs : Vis X.env.scope x := by first | exact Or.inl rfl | exact Or.inr (Or.inl rfl) | exact Or.inr (Or.inr rfl)) (hd : (x == ("__debug__" : Str)) = false := by decide)
    (hcd : (x == ("__classdict__" : Str)) = false := by decide) : Wd X (.Name x pos) σ H d := w_p i hv (fun H1 e1 => Dq.ex h e1) hN hs hd hcd
/-- the value itself -/
theorem w_is (i : Nat) {v : V} {x : Str} (hv : σ[i]? = some (some v) := by rfl) (hN : X.N[i]? = some x := by rfl) (hs : Vis X.env.scope x := by first | exact Or.inl rfl | exact Or.inr (Or.inl rfl) | exact Or.inr (Or.inr rfl)) (hd : (x == ("__debug__" : Str)) = false := by decide)
    (hcd : (x == ("__classdict__" : Str)) = false := by decide) : W X (.Name x pos) σ H (fun u _ => u = v) := w_p i hv (fun H1 e1 => rfl) hN hs hd hcd
theorem w_int {i : Int} {j : Nat} : Wd X (.Constant (.int i) j pos) σ H (.int i) := W.of pe_int fun H1 _ Q k => k _ H1 (Ex.refl _) (.int i)
theorem w_bl {i : Bool} {j : Nat} : Wd X (.Constant (.bool i) j pos) σ H (.bool i) := W.of pe_bl fun H1 _ Q k => k _ H1 (Ex.refl _) (.bl i)
theorem w_non {j : Nat} : Wd X (.Constant .none j pos) σ H .none := W.of pe_non fun H1 _ Q k => k _ H1 (Ex.refl _) .non
theorem w_str {x : Str} {j : Nat} : Wd X (.Constant (.str x) j pos) σ H (.str x) := W.of pe_str fun H1 _ Q k => k _ H1 (Ex.refl _) (.str x)
/-- a module's int -/
theorem w_gi {x : Str} {i : Int} (hm : ∃ t, X.mg x = some (.int i t)) (hg : Gl X x := by rfl) (hd : (x == ("__debug__" : Str)) = false := by decide) : Wd X (.Name x pos) σ H (.int i) := by
  obtain ⟨t, hm⟩ := hm
  exact W.of (pe_glob (v := .int i) hg hm ⟨t, rfl⟩ hd) fun H1 _ Q k => k _ H1 (Ex.refl _) (.int i)

/-! ### two operands -/
theorem w_bin {op : Operator} {r : R2} {d1 d2 : PyData} (ho : OpR X (binaryOp op) r) (ha : Wd X a σ H d1) (hb : Wd X b σ H d2)
    (f : ∀ v u H1, Ex H H1 → Dq X.K H1 v d1 → Dq X.K H1 u d2 → ∀ Q : VK, (∀ x H2, Ex H1 H2 → P x H2 → Q x H2) → r v u H1 Q) : W X (.BinOp a op b pos) σ H P :=
  W.of (pe_op ho wp_e wp_e) fun H1 e1 Q k => ha H1 e1 _ fun v H2 e2 hv => hb H2 (e1.trans e2) _ fun u H3 e3 hu =>
    f v u H3 (e1.trans (e2.trans e3)) (Dq.ex hv e3) hu Q fun x H4 e4 p => k x H4 (e2.trans (e3.trans e4)) p
theorem w_cmp {op : CmpOp} {r : R2} {d1 d2 : PyData} (ho : OpR X (compareOp op) r) (hm : behindInMarks op b = false) (ha : Wd X a σ H d1) (hb : Wd X b σ H d2)
    (f : ∀ v u H1, Ex H H1 → Dq X.K H1 v d1 → Dq X.K H1 u d2 → ∀ Q : VK, (∀ x H2, Ex H1 H2 → P x H2 → Q x H2) → r v u H1 Q) : W X (.Compare a [op] [b] pos) σ H P :=
  W.of (pe_cmpR ho wp_e wp_e hm) fun H1 e1 Q k => ha H1 e1 _ fun v H2 e2 hv => hb H2 (e1.trans e2) _ fun u H3 e3 hu =>
    f v u H3 (e1.trans (e2.trans e3)) (Dq.ex hv e3) hu Q fun x H4 e4 p => k x H4 (e2.trans (e3.trans e4)) p
theorem w_ii {op : Operator} {g : Int → Int → Int} {i j : Int} (ho : OpR X (binaryOp op) (rI0 fun i j => .int (g i j))) (ha : Wd X a σ H (.int i)) (hb : Wd X b σ H (.int j)) : Wd X (.BinOp a op b pos) σ H (.int (g i j)) :=
  w_bin ho ha hb fun v u H1 _ hv hu Q k => by cases hv; cases hu; exact ⟨i, j, rfl, rfl, k _ H1 (Ex.refl _) (.int _)⟩
theorem w_iC {op : Operator} {C : Int → Int → Prop} {g : Int → Int → Int} {i j : Int} (ho : OpR X (binaryOp op) (rI C fun i j => .int (g i j))) (ha : Wd X a σ H (.int i)) (hb : Wd X b σ H (.int j)) (hc : C i j) : Wd X (.BinOp a op b pos) σ H (.int (g i j)) :=
  w_bin ho ha hb fun v u H1 _ hv hu Q k => by cases hv; cases hu; exact ⟨i, j, rfl, rfl, hc, k _ H1 (Ex.refl _) (.int _)⟩
theorem w_add {i j : Int} (ha : Wd X a σ H (.int i)) (hb : Wd X b σ H (.int j)) : Wd X (.BinOp a .Add b pos) σ H (.int (i + j)) := w_ii op_add ha hb
theorem w_sub {i j : Int} (ha : Wd X a σ H (.int i)) (hb : Wd X b σ H (.int j)) : Wd X (.BinOp a .Sub b pos) σ H (.int (i - j)) := w_ii op_sub ha hb
theorem w_mul {i j : Int} (ha : Wd X a σ H (.int i)) (hb : Wd X b σ H (.int j)) (hc : CMul i j) : Wd X (.BinOp a .Mult b pos) σ H (.int (i * j)) := w_iC op_mul ha hb hc
theorem w_mod {i j : Int} (ha : Wd X a σ H (.int i)) (hb : Wd X b σ H (.int j)) (hc : 0 < j) : Wd X (.BinOp a .Mod b pos) σ H (.int (i % j)) := w_iC op_mod ha hb hc
theorem w_fdiv {i j : Int} (ha : Wd X a σ H (.int i)) (hb : Wd X b σ H (.int j)) (hc : CDiv i j) : Wd X (.BinOp a .FloorDiv b pos) σ H (.int (i / j)) := w_iC op_fdiv ha hb hc
theorem w_pow {i j : Int} (ha : Wd X a σ H (.int i)) (hb : Wd X b σ H (.int j)) (hc : CPow i j) : Wd X (.BinOp a .Pow b pos) σ H (.int (i ^ j.toNat)) := w_iC op_pow ha hb hc
theorem w_neg {i : Int} (ha : Wd X a σ H (.int i)) : Wd X (.UnaryOp .USub a pos) σ H (.int (-i)) :=
  W.of (pe_un un_neg wp_e) fun H1 e1 Q k => ha H1 e1 _ fun v H2 e2 hv => by cases hv; exact ⟨i, rfl, k _ H2 e2 (.int _)⟩
theorem w_adds {i j : Str} (ha : Wd X a σ H (.str i)) (hb : Wd X b σ H (.str j)) (hz : i.length + j.length ≤ 100000) : Wd X (.BinOp a .Add b pos) σ H (.str (i ++ j)) :=
  w_bin op_add_str ha hb fun v u H1 _ hv hu Q k => by cases hv; cases hu; exact ⟨i, j, rfl, rfl, sz_of hz, k _ H1 (Ex.refl _) (.str _)⟩
/-- tuples -/
theorem w_addt {ds es : List PyData} (ha : Wd X a σ H (.tuple ds)) (hb : Wd X b σ H (.tuple es)) (hz : ds.length + es.length ≤ 100000) : Wd X (.BinOp a .Add b pos) σ H (.tuple (ds ++ es)) :=
  w_bin op_catF ha hb fun v u H1 _ hv hu Q k => by
    cases hv with
    | tup h1 h2 =>
      cases hu with
      | tup g1 g2 =>
        refine ⟨_, _, _, _, rfl, rfl, h1.seq, g1.seq, ?_, fun e => ?_, fun _ e => ?_, fun _ _ p o hp ho => ?_⟩
        · rw [h2.len, g2.len]; exact sz_of hz
        · subst e
          cases h2
          exact k _ H1 (Ex.refl _) (.tup g1 g2)
        · subst e
          cases g2
          exact k _ H1 (Ex.refl _) (by rw [List.append_nil]; exact .tup h1 h2)
        · exact k _ _ (Ex.new hp) (.tup (.of ho) ((h2.append g2).ex (Ex.new hp)))
/-- ints compared -/
theorem w_ci {op : CmpOp} {g : Int → Int → Bool} {i j : Int} (ho : OpR X (compareOp op) (rI0 fun i j => .bl (g i j))) (hm : behindInMarks op b = false) (ha : Wd X a σ H (.int i)) (hb : Wd X b σ H (.int j)) : Wd X (.Compare a [op] [b] pos) σ H (.bool (g i j)) :=
  w_cmp ho hm ha hb fun v u H1 _ hv hu Q k => by cases hv; cases hu; exact ⟨i, j, rfl, rfl, k _ H1 (Ex.refl _) (.bl _)⟩
theorem w_lt {i j : Int} (ha : Wd X a σ H (.int i)) (hb : Wd X b σ H (.int j)) : Wd X (.Compare a [.Lt] [b] pos) σ H (.bool (decide (i < j))) := w_ci op_lt (nomark _) ha hb
theorem w_le {i j : Int} (ha : Wd X a σ H (.int i)) (hb : Wd X b σ H (.int j)) : Wd X (.Compare a [.LtE] [b] pos) σ H (.bool (decide (i ≤ j))) := w_ci op_le (nomark _) ha hb
theorem w_gt {i j : Int} (ha : Wd X a σ H (.int i)) (hb : Wd X b σ H (.int j)) : Wd X (.Compare a [.Gt] [b] pos) σ H (.bool (decide (j < i))) := w_ci op_gt (nomark _) ha hb
theorem w_ge {i j : Int} (ha : Wd X a σ H (.int i)) (hb : Wd X b σ H (.int j)) : Wd X (.Compare a [.GtE] [b] pos) σ H (.bool (decide (j ≤ i))) := w_ci op_ge (nomark _) ha hb
/-- two chained comparisons -/
def r3 (r r' : R2) (x y z : V) (H : Hp) (Q : VK) : Prop := r x y H fun t H3 => ∃ k, t = .bl k ∧ (if k = true then r' y z H3 Q else Q (.bl false) H3)
theorem w_ch {op op' : CmpOp} {g g' : Int → Int → Bool} {i j l : Int} (ho : OpR X (compareOp op) (rI0 fun i j => .bl (g i j))) (ho' : OpR X (compareOp op') (rI0 fun i j => .bl (g' i j)))
    (ha : Wd X a σ H (.int i)) (hb : Wd X b σ H (.int j)) (hc : Wd X c σ H (.int l)) (hm : lastMarks [op, op'] [b, c] = false := by with_unfolding_all rfl) : Wd X (.Compare a [op, op'] [b, c] pos) σ H (.bool (g i j && g' j l)) :=
  W.of (pe_chain ho ho' wp_e wp_e wp_e hm) fun H1 e1 Q k => ha H1 e1 _ fun v H2 e2 hv => hb H2 (e1.trans e2) _ fun u H3 e3 hu => by
    cases hv; cases hu
    refine ⟨i, j, rfl, rfl, g i j, rfl, ?_⟩
    revert k
    cases g i j with
    | true =>
      intro k
      refine iteT (hc H3 (e1.trans (e2.trans e3)) _ fun w H4 e4 hw => ?_)
      cases hw
      exact ⟨j, l, rfl, rfl, k _ H4 (e2.trans (e3.trans e4)) (.bl _)⟩
    | false => intro k; exact iteF (k _ H3 (e2.trans e3) (.bl _))
theorem w_chT {op op' : CmpOp} {g g' : Int → Int → Bool} {i j l : Int} (ho : OpR X (compareOp op) (rI0 fun i j => .bl (g i j))) (ho' : OpR X (compareOp op') (rI0 fun i j => .bl (g' i j)))
    (ha : Wd X a σ H (.int i)) (hb : Wd X b σ H (.int j)) (hc : Wd X c σ H (.int l)) (hm : lastMarks [op, op'] [b, c] = false := by with_unfolding_all rfl) : WT X (.Compare a [op, op'] [b, c] pos) σ H (g i j && g' j l) :=
  WT.of (pt_chain ho ho' wp_e wp_e wp_e hm) fun H1 e1 Q k => ha H1 e1 _ fun v H2 e2 hv => hb H2 (e1.trans e2) _ fun u H3 e3 hu => by
    cases hv; cases hu
    refine ⟨i, j, rfl, rfl, g i j, rfl, ?_⟩
    revert k
    cases g i j with
    | true =>
      intro k
      refine iteT (hc H3 (e1.trans (e2.trans e3)) _ fun w H4 e4 hw => ?_)
      cases hw
      exact ⟨j, l, rfl, rfl, _, rfl, k H4 (e2.trans (e3.trans e4))⟩
    | false => intro k; exact iteF ⟨_, rfl, k H3 (e2.trans e3)⟩
/-- three chained comparisons -/
def tChain3 (r r' r'' : R2) (ta tb tc td : TE) : TE := fun σ H Q => ta σ H fun x H1 => tb σ H1 fun y H2 => r x y H2 fun z H3 => ∃ k, z = .bl k ∧
  (if k = true then tc σ H3 fun w' H4 => r' y w' H4 fun z' H5 => ∃ k', z' = .bl k' ∧ (if k' = true then td σ H5 fun w2 H6 => r'' w' w2 H6 Q else Q (.bl false) H5) else Q (.bl false) H3)
theorem pe_chain3 {d : Expr} {op op' op'' : CmpOp} {r r' r'' : R2} {ta tb tc td : TE} (ho : OpR X (compareOp op) r) (ho' : OpR X (compareOp op') r') (ho'' : OpR X (compareOp op'') r'') (ha : PE X a ta) (hb : PE X b tb) (hc : PE X c tc) (hd : PE X d td)
    (hm : lastMarks [op, op', op''] [b, c, d] = false := by with_unfolding_all rfl) : PE X (.Compare a [op, op', op''] [b, c, d] pos) (tChain3 r r' r'' ta tb tc td) := by
  refine ⟨fun pins s σ H Q I h => ?_⟩
  refine Compare_chain (thn (ha.run pins s σ H _ I h) fun v s1 ⟨x, H1, I1, r1, q1⟩ => chain_link (thn (hb.run pins s1 σ H1 _ I1 q1) fun u s2 ⟨y, H2, I2, r2, q2⟩ =>
    thn (ho pins s2 σ H2 x y v u _ I2 r1 r2 q2) fun d s3 ⟨z, H3, I3, r3, k, e, q3⟩ => ?_)) hm
  subst e
  cases r3
  refine wpAny_truthy_bool ?_
  cases k with
  | false => exact ite_ff ⟨.bl false, H3, I3, rfl, q3⟩
  | true =>
    refine ite_tt (chain_link (thn (hc.run pins s3 σ H3 _ I3 q3) fun w' s4 ⟨z', H4, I4, r4, q4⟩ => thn (ho' pins s4 σ H4 y z' u w' _ I4 r2 r4 q4) fun d' s5 ⟨z2, H5, I5, r5, k', e', q5⟩ => ?_))
    subst e'
    cases r5
    refine wpAny_truthy_bool ?_
    cases k' with
    | false => exact ite_ff ⟨.bl false, H5, I5, rfl, q5⟩
    | true => exact ite_tt (chain_last (thn (hd.run pins s5 σ H5 _ I5 q5) fun w2 s6 ⟨z3, H6, I6, r6, q6⟩ => ho'' pins s6 σ H6 z' z3 w' w2 Q I6 r4 r6 q6))
theorem w_ch3 {d : Expr} {i j l m : Int} (ha : Wd X a σ H (.int i)) (hb : Wd X b σ H (.int j)) (hc : Wd X c σ H (.int l)) (hd : Wd X d σ H (.int m))
    (hm : lastMarks [.Lt, .Lt, .Lt] [b, c, d] = false := by with_unfolding_all rfl) : Wd X (.Compare a [.Lt, .Lt, .Lt] [b, c, d] pos) σ H (.bool (decide (i < j) && (decide (j < l) && decide (l < m)))) :=
  W.of (pe_chain3 op_lt op_lt op_lt wp_e wp_e wp_e wp_e hm) fun H1 e1 Q k => ha H1 e1 _ fun v H2 e2 hv => hb H2 (e1.trans e2) _ fun u H3 e3 hu => by
    cases hv; cases hu
    refine ⟨i, j, rfl, rfl, decide (i < j), rfl, ?_⟩
    revert k
    cases decide (i < j) with
    | true =>
      intro k
      refine iteT (hc H3 (e1.trans (e2.trans e3)) _ fun w H4 e4 hw => ?_)
      cases hw
      refine ⟨j, l, rfl, rfl, decide (j < l), rfl, ?_⟩
      revert k
      cases decide (j < l) with
      | true =>
        intro k
        refine iteT (hd H4 (e1.trans (e2.trans (e3.trans e4))) _ fun w H5 e5 hw => ?_)
        cases hw
        exact ⟨l, m, rfl, rfl, k _ H5 (e2.trans (e3.trans (e4.trans e5))) (.bl _)⟩
      | false => intro k; exact iteF (k _ H4 (e2.trans (e3.trans e4)) (.bl _))
    | false => intro k; exact iteF (k _ H3 (e2.trans e3) (.bl _))
theorem w_cch {i j l : Int} (ha : Wd X a σ H (.int i)) (hb : Wd X b σ H (.int j)) (hc : Wd X c σ H (.int l)) (hm : lastMarks [.Lt, .Lt] [b, c] = false := by with_unfolding_all rfl) : Wd X (.Compare a [.Lt, .Lt] [b, c] pos) σ H (.bool (decide (i < j) && decide (j < l))) :=
  w_ch op_lt op_lt ha hb hc hm
/-- data compared -/
theorem w_eqD {d1 d2 : PyData} (hu : X.A.units + 64 < cLine) (ha : Wd X a σ H d1) (hb : Wd X b σ H d2) (s1 : SeqAt.shaped d1 = true) (s2 : SeqAt.shaped d2 = true) : Wd X (.Compare a [.Eq] [b] pos) σ H (.bool (PyData.eqv d1 d2)) :=
  w_cmp (op_eqD hu) (nomark _) ha hb fun v u H1 _ hv hu Q k => ⟨d1, d2, hv.dp, hu.dp, s1, s2, k _ H1 (Ex.refl _) (.bl _)⟩
theorem w_neD {d1 d2 : PyData} (hu : X.A.units + 64 < cLine) (ha : Wd X a σ H d1) (hb : Wd X b σ H d2) (s1 : SeqAt.shaped d1 = true) (s2 : SeqAt.shaped d2 = true) : Wd X (.Compare a [.NotEq] [b] pos) σ H (.bool (!PyData.eqv d1 d2)) :=
  w_cmp (op_neD hu) (nomark _) ha hb fun v u H1 _ hv hu Q k => ⟨d1, d2, hv.dp, hu.dp, s1, s2, k _ H1 (Ex.refl _) (.bl _)⟩
theorem w_inD {d : PyData} {ds : List PyData} (hu : X.A.units + 65 < cLine) (ha : Wd X a σ H d) (hb : Wd X b σ H (.list ds)) (s1 : SeqAt.shaped d = true) (s2 : SeqAt.shaped (.list ds) = true) (hm : behindInMarks .In b = false := by rfl) : Wd X (.Compare a [.In] [b] pos) σ H (.bool (ds.any fun z => PyData.eqv z d)) :=
  w_cmp (op_inD hu) hm ha hb fun v u H1 _ hv hu Q k => ⟨d, ds, hv.dp, hu.dp, s1, s2, k _ H1 (Ex.refl _) (.bl _)⟩
end
end FW
set_option maxRecDepth 100000
set_option maxHeartbeats 4000000
/-! W2: tests, subscripts, calls, built-ins, displays. -/
namespace FW
open PySem PySem.Spec PyProof.Rows L2 Evl
section
variable {X : Cx} {σ : L2.St} {H H' : Hp} {P : VP} {e a b c : Expr} {pos : Pos} {r s t : Bool}

/-! ### tests -/
theorem wt_v (h : Wd X e σ H (.bool r)) (he : ∀ whole, isTrue e X.env whole = (do let v ← whole; standAt e.pos; holding [v] (truthy v)) := by intro _; rfl) : WT X e σ H r :=
  WT.of (pt_val wp_e he) fun H1 e1 Q k => h H1 e1 _ fun v H2 e2 hv => by cases hv; exact ⟨r, rfl, k H2 e2⟩
theorem wt_cmp {op : CmpOp} {R : R2} {d1 d2 : PyData} (ho : OpR X (compareOp op) R) (hm : behindInMarks op b = false) (ha : Wd X a σ H d1) (hb : Wd X b σ H d2)
    (f : ∀ v u H1, Ex H H1 → Dq X.K H1 v d1 → Dq X.K H1 u d2 → ∀ Q : VK, (∀ H2, Ex H1 H2 → Q (.bl r) H2) → R v u H1 Q) : WT X (.Compare a [op] [b] pos) σ H r :=
  WT.of (pt_cmpR ho wp_e wp_e hm) fun H1 e1 Q k => ha H1 e1 _ fun v H2 e2 hv => hb H2 (e1.trans e2) _ fun u H3 e3 hu =>
    f v u H3 (e1.trans (e2.trans e3)) (Dq.ex hv e3) hu _ fun H4 e4 => ⟨r, rfl, k H4 (e2.trans (e3.trans e4))⟩
theorem wt_ci {op : CmpOp} {g : Int → Int → Bool} {i j : Int} (ho : OpR X (compareOp op) (rI0 fun i j => .bl (g i j))) (hm : behindInMarks op b = false) (ha : Wd X a σ H (.int i)) (hb : Wd X b σ H (.int j)) : WT X (.Compare a [op] [b] pos) σ H (g i j) :=
  wt_cmp ho hm ha hb fun v u H1 _ hv hu Q k => by cases hv; cases hu; exact ⟨i, j, rfl, rfl, k H1 (Ex.refl _)⟩
theorem wt_lt {i j : Int} (ha : Wd X a σ H (.int i)) (hb : Wd X b σ H (.int j)) : WT X (.Compare a [.Lt] [b] pos) σ H (decide (i < j)) := wt_ci op_lt (nomark _) ha hb
theorem wt_le {i j : Int} (ha : Wd X a σ H (.int i)) (hb : Wd X b σ H (.int j)) : WT X (.Compare a [.LtE] [b] pos) σ H (decide (i ≤ j)) := wt_ci op_le (nomark _) ha hb
theorem wt_gt {i j : Int} (ha : Wd X a σ H (.int i)) (hb : Wd X b σ H (.int j)) : WT X (.Compare a [.Gt] [b] pos) σ H (decide (j < i)) := wt_ci op_gt (nomark _) ha hb
theorem wt_ge {i j : Int} (ha : Wd X a σ H (.int i)) (hb : Wd X b σ H (.int j)) : WT X (.Compare a [.GtE] [b] pos) σ H (decide (j ≤ i)) := wt_ci op_ge (nomark _) ha hb
theorem wt_eqi {i j : Int} (ha : Wd X a σ H (.int i)) (hb : Wd X b σ H (.int j)) : WT X (.Compare a [.Eq] [b] pos) σ H (decide (i = j)) :=
  wt_cmp op_eq (nomark _) ha hb fun v u H1 _ hv hu Q k => by
    cases hv; cases hu
    refine ⟨rfl, ?_⟩
    rw [show decide (V.int i = V.int j) = decide (i = j) by simp]
    exact k H1 (Ex.refl _)
theorem wt_nei {i j : Int} (ha : Wd X a σ H (.int i)) (hb : Wd X b σ H (.int j)) : WT X (.Compare a [.NotEq] [b] pos) σ H (!decide (i = j)) :=
  wt_cmp op_ne (nomark _) ha hb fun v u H1 _ hv hu Q k => by
    cases hv; cases hu
    refine ⟨rfl, ?_⟩
    rw [show decide (V.int i = V.int j) = decide (i = j) by simp]
    exact k H1 (Ex.refl _)
theorem wt_eqs {i j : Str} (ha : Wd X a σ H (.str i)) (hb : Wd X b σ H (.str j)) : WT X (.Compare a [.Eq] [b] pos) σ H (decide (i = j)) :=
  wt_cmp op_eq (nomark _) ha hb fun v u H1 _ hv hu Q k => by
    cases hv; cases hu
    refine ⟨rfl, ?_⟩
    rw [show decide (V.str i = V.str j) = decide (i = j) by simp]
    exact k H1 (Ex.refl _)
theorem wt_nes {i j : Str} (ha : Wd X a σ H (.str i)) (hb : Wd X b σ H (.str j)) : WT X (.Compare a [.NotEq] [b] pos) σ H (!decide (i = j)) :=
  wt_cmp op_ne (nomark _) ha hb fun v u H1 _ hv hu Q k => by
    cases hv; cases hu
    refine ⟨rfl, ?_⟩
    rw [show decide (V.str i = V.str j) = decide (i = j) by simp]
    exact k H1 (Ex.refl _)
theorem wt_neb {i j : Bool} (ha : Wd X a σ H (.bool i)) (hb : Wd X b σ H (.bool j)) : WT X (.Compare a [.NotEq] [b] pos) σ H (!decide (i = j)) :=
  wt_cmp op_ne (nomark _) ha hb fun v u H1 _ hv hu Q k => by
    cases hv; cases hu
    refine ⟨rfl, ?_⟩
    rw [show decide (V.bl i = V.bl j) = decide (i = j) by simp]
    exact k H1 (Ex.refl _)
theorem wt_eqb {i j : Bool} (ha : Wd X a σ H (.bool i)) (hb : Wd X b σ H (.bool j)) : WT X (.Compare a [.Eq] [b] pos) σ H (decide (i = j)) :=
  wt_cmp op_eq (nomark _) ha hb fun v u H1 _ hv hu Q k => by
    cases hv; cases hu
    refine ⟨rfl, ?_⟩
    rw [show decide (V.bl i = V.bl j) = decide (i = j) by simp]
    exact k H1 (Ex.refl _)
theorem wt_eqD {d1 d2 : PyData} (hu : X.A.units + 64 < cLine) (ha : Wd X a σ H d1) (hb : Wd X b σ H d2) (s1 : SeqAt.shaped d1 = true) (s2 : SeqAt.shaped d2 = true) : WT X (.Compare a [.Eq] [b] pos) σ H (PyData.eqv d1 d2) :=
  wt_cmp (op_eqD hu) (nomark _) ha hb fun v u H1 _ hv hu Q k => ⟨d1, d2, hv.dp, hu.dp, s1, s2, k H1 (Ex.refl _)⟩
theorem wt_neD {d1 d2 : PyData} (hu : X.A.units + 64 < cLine) (ha : Wd X a σ H d1) (hb : Wd X b σ H d2) (s1 : SeqAt.shaped d1 = true) (s2 : SeqAt.shaped d2 = true) : WT X (.Compare a [.NotEq] [b] pos) σ H (!PyData.eqv d1 d2) :=
  wt_cmp (op_neD hu) (nomark _) ha hb fun v u H1 _ hv hu Q k => ⟨d1, d2, hv.dp, hu.dp, s1, s2, k H1 (Ex.refl _)⟩
/-- values of these -/
theorem w_eqi {i j : Int} (ha : Wd X a σ H (.int i)) (hb : Wd X b σ H (.int j)) : Wd X (.Compare a [.Eq] [b] pos) σ H (.bool (decide (i = j))) :=
  w_cmp op_eq (nomark _) ha hb fun v u H1 _ hv hu Q k => by
    cases hv; cases hu
    refine ⟨rfl, ?_⟩
    rw [show decide (V.int i = V.int j) = decide (i = j) by simp]
    exact k _ H1 (Ex.refl _) (.bl _)
theorem w_eqb {i j : Bool} (ha : Wd X a σ H (.bool i)) (hb : Wd X b σ H (.bool j)) : Wd X (.Compare a [.Eq] [b] pos) σ H (.bool (decide (i = j))) :=
  w_cmp op_eq (nomark _) ha hb fun v u H1 _ hv hu Q k => by
    cases hv; cases hu
    refine ⟨rfl, ?_⟩
    rw [show decide (V.bl i = V.bl j) = decide (i = j) by simp]
    exact k _ H1 (Ex.refl _) (.bl _)
/-- is None -/
def isN : PyData → Bool
  | .none => true
  | _ => false
theorem w_isN {d : PyData} {j : Nat} {p2 : Pos} (ha : Wd X a σ H d) : Wd X (.Compare a [.Is] [.Constant .none j p2] pos) σ H (.bool (isN d)) :=
  w_cmp op_isN (nomark _) ha (w_non (X := X) (σ := σ) (H := H)) fun v u H1 _ hv hu Q k => by
    cases hu
    refine ⟨rfl, ?_⟩
    cases hv <;> first
      | exact k _ H1 (Ex.refl _) (.bl _)
/-- x in (a, b, ..) of texts -/
theorem wt_inS {x : Str} {ys : List Str} (ha : Wd X a σ H (.str x)) (hb : Wd X b σ H (.tuple (ys.map .str))) (hm : behindInMarks .In b = false := by rfl) : WT X (.Compare a [.In] [b] pos) σ H (ys.any fun y => y == x) :=
  wt_cmp op_in_seq hm ha hb fun v u H1 _ hv hu Q k => by
    cases hv
    cases hu with
    | tup h1 h2 =>
      rw [dpa_strs h2] at h1
      refine ⟨_, _, rfl, .inr h1.seq, rfl, ?_, ?_⟩
      · rw [List.all_map]; exact List.all_eq_true.mpr fun _ _ => rfl
      · have e : inV (.str x) (ys.map V.str) = ys.any fun y => y == x := by
          unfold inV
          rw [List.any_map]
          rfl
        show Q (.bl (inV (.str x) (ys.map V.str))) H1
        rw [e]
        exact k H1 (Ex.refl _)
theorem w_inS {x : Str} {ys : List Str} (ha : Wd X a σ H (.str x)) (hb : Wd X b σ H (.tuple (ys.map .str))) (hm : behindInMarks .In b = false := by rfl) : Wd X (.Compare a [.In] [b] pos) σ H (.bool (ys.any fun y => y == x)) :=
  w_cmp op_in_seq hm ha hb fun v u H1 _ hv hu Q k => by
    cases hv
    cases hu with
    | tup h1 h2 =>
      rw [dpa_strs h2] at h1
      refine ⟨_, _, rfl, .inr h1.seq, rfl, ?_, ?_⟩
      · rw [List.all_map]; exact List.all_eq_true.mpr fun _ _ => rfl
      · have e : inV (.str x) (ys.map V.str) = ys.any fun y => y == x := by
          unfold inV
          rw [List.any_map]
          rfl
        show Q (.bl (inV (.str x) (ys.map V.str))) H1
        rw [e]
        exact k _ H1 (Ex.refl _) (.bl _)
/-- an int in a tuple of ints -/
theorem inV_ints (i : Int) (ns : List Int) : inV (.int i) (ns.map V.int) = ns.any fun y => y == i := by
  unfold inV
  rw [List.any_map]
  rfl
theorem wt_inI {i : Int} {ns : List Int} (ha : Wd X a σ H (.int i)) (hb : Wd X b σ H (.tuple (ns.map .int))) (hm : behindInMarks .In b = false := by rfl) : WT X (.Compare a [.In] [b] pos) σ H (ns.any fun y => y == i) :=
  wt_cmp op_in_seq hm ha hb fun v u H1 _ hv hu Q k => by
    cases hv
    cases hu with
    | tup h1 h2 =>
      rw [dpa_ints h2] at h1
      refine ⟨_, _, rfl, .inr h1.seq, rfl, ?_, ?_⟩
      · rw [List.all_map]; exact List.all_eq_true.mpr fun _ _ => rfl
      · show Q (.bl (inV (.int i) (ns.map V.int))) H1
        rw [inV_ints]
        exact k H1 (Ex.refl _)
theorem wt_niI {i : Int} {ns : List Int} (ha : Wd X a σ H (.int i)) (hb : Wd X b σ H (.tuple (ns.map .int))) (hm : behindInMarks .NotIn b = false := by rfl) : WT X (.Compare a [.NotIn] [b] pos) σ H (!ns.any fun y => y == i) :=
  wt_cmp op_notIn_seq hm ha hb fun v u H1 _ hv hu Q k => by
    cases hv
    cases hu with
    | tup h1 h2 =>
      rw [dpa_ints h2] at h1
      refine ⟨_, _, rfl, .inr h1.seq, rfl, ?_, ?_⟩
      · rw [List.all_map]; exact List.all_eq_true.mpr fun _ _ => rfl
      · show Q (.bl (!inV (.int i) (ns.map V.int))) H1
        rw [inV_ints]
        exact k H1 (Ex.refl _)
/-- data in a tuple of data -/
theorem op_notInT (hu : X.A.units + 65 < cLine) : OpR X (compareOp .NotIn) (fun x y H Q => ∃ d ds, Dp X.K H x d ∧ Dp X.K H y (.tuple ds) ∧ SeqAt.shaped d = true ∧ SeqAt.shaped (.tuple ds) = true ∧ Q (.bl (!ds.any fun z => PyData.eqv z d)) H) := by
  intro pins s σ H x y v u Q I rx ry h
  obtain ⟨d, ds, hd, he, sd, se, q⟩ := h
  obtain ⟨as, r1⟩ := Dp.reads I d x v hd rx
  obtain ⟨bs, r2⟩ := Dp.reads I (.tuple ds) y u he ry
  have h1 : PyData.plainAll ds = true := by
    have := PyData.plain_of_canLay0 _ (SeqAt.canLay_of_shaped se)
    simpa [PyData.plain] using this
  exact SeqAt.notIn_tuple_data r2 r1 h1 (PyData.plain_of_canLay0 _ (SeqAt.canLay_of_shaped sd)) (room_in_shaped sd hu) ⟨.bl _, H, I, rfl, q⟩
theorem wt_niDT {d : PyData} {ds : List PyData} (hu : X.A.units + 65 < cLine) (ha : Wd X a σ H d) (hb : Wd X b σ H (.tuple ds)) (s1 : SeqAt.shaped d = true) (s2 : SeqAt.shaped (.tuple ds) = true) (hm : behindInMarks .NotIn b = false := by rfl) : WT X (.Compare a [.NotIn] [b] pos) σ H (!ds.any fun z => PyData.eqv z d) :=
  wt_cmp (op_notInT hu) hm ha hb fun v u H1 _ hv hu Q k => ⟨d, ds, hv.dp, hu.dp, s1, s2, k H1 (Ex.refl _)⟩
/-- one sign in a text: by what the occurrences say -/
theorem w_inStr {x y : Str} (ha : Wd X a σ H (.str x)) (hb : Wd X b σ H (.str y)) (hm : behindInMarks .In b = false := by rfl) : Wd X (.Compare a [.In] [b] pos) σ H (.bool (!(Builtin.Str.occurrences y x 0 y.length 1).isEmpty)) :=
  w_cmp op_in_str hm ha hb fun v u H1 _ hv hu Q k => by cases hv; cases hu; exact ⟨_, _, rfl, rfl, k _ H1 (Ex.refl _) (.bl _)⟩

/-! ### and, or, not -/
theorem wt_not (ha : WT X a σ H r) : WT X (.UnaryOp .Not a pos) σ H (!r) := WT.of (pt_not wp_t) fun H1 e1 Q k => ha H1 e1 _ fun H2 e2 => k H2 e2
theorem wt_and (ha : WT X a σ H r) (hb : r = true → WT X b σ H s) : WT X (.BoolOp .And [a, b] pos) σ H (r && s) :=
  WT.of (PW.pt (pw_and wp_t (pw_and1 wp_t))) fun H1 e1 Q k => ha H1 e1 _ fun H2 e2 => by
    cases r with
    | true => exact iteT (hb rfl H2 (e1.trans e2) _ fun H3 e3 => k H3 (e2.trans e3))
    | false => exact iteF (k H2 e2)
theorem wt_or (ha : WT X a σ H r) (hb : r = false → WT X b σ H s) : WT X (.BoolOp .Or [a, b] pos) σ H (r || s) :=
  WT.of (PW.pt (pw_or wp_t (pw_or1 wp_t))) fun H1 e1 Q k => ha H1 e1 _ fun H2 e2 => by
    cases r with
    | true => exact iteT (k H2 e2)
    | false => exact iteF (hb rfl H2 (e1.trans e2) _ fun H3 e3 => k H3 (e2.trans e3))
theorem wt_or3 (ha : WT X a σ H r) (hb : r = false → WT X b σ H s) (hc : r = false → s = false → WT X c σ H t) : WT X (.BoolOp .Or [a, b, c] pos) σ H (r || (s || t)) :=
  WT.of (PW.pt (pw_or wp_t (pw_or wp_t (pw_or1 wp_t)))) fun H1 e1 Q k => ha H1 e1 _ fun H2 e2 => by
    cases r with
    | true => exact iteT (k H2 e2)
    | false =>
      refine iteF (hb rfl H2 (e1.trans e2) _ fun H3 e3 => ?_)
      cases s with
      | true => exact iteT (k H3 (e2.trans e3))
      | false => exact iteF (hc rfl rfl H3 (e1.trans (e2.trans e3)) _ fun H4 e4 => k H4 (e2.trans (e3.trans e4)))
theorem w_not (ha : Wd X a σ H (.bool r)) : Wd X (.UnaryOp .Not a pos) σ H (.bool (!r)) := W.of (pe_not wp_e) fun H1 e1 Q k => ha H1 e1 _ fun v H2 e2 hv => by cases hv; exact ⟨r, rfl, k _ H2 e2 (.bl _)⟩
theorem w_and (ha : Wd X a σ H (.bool r)) (hb : r = true → Wd X b σ H (.bool s)) : Wd X (.BoolOp .And [a, b] pos) σ H (.bool (r && s)) :=
  W.of (pe_and wp_e (pe_one wp_e)) fun H1 e1 Q k => ha H1 e1 _ fun v H2 e2 hv => by
    cases hv
    refine ⟨r, rfl, ?_⟩
    cases r with
    | true => exact iteT (hb rfl H2 (e1.trans e2) _ fun u H3 e3 hu => k _ H3 (e2.trans e3) hu)
    | false => exact iteF (k _ H2 e2 (.bl _))
theorem w_and3 (ha : Wd X a σ H (.bool r)) (hb : r = true → Wd X b σ H (.bool s)) (hc : r = true → s = true → Wd X c σ H (.bool t)) : Wd X (.BoolOp .And [a, b, c] pos) σ H (.bool (r && (s && t))) :=
  W.of (pe_and wp_e (pe_and wp_e (pe_one wp_e))) fun H1 e1 Q k => ha H1 e1 _ fun v H2 e2 hv => by
    cases hv
    refine ⟨r, rfl, ?_⟩
    cases r with
    | true =>
      refine iteT (hb rfl H2 (e1.trans e2) _ fun u H3 e3 hu => ?_)
      cases hu
      refine ⟨s, rfl, ?_⟩
      cases s with
      | true => exact iteT (hc rfl rfl H3 (e1.trans (e2.trans e3)) _ fun u H4 e4 hu => k _ H4 (e2.trans (e3.trans e4)) hu)
      | false => exact iteF (k _ H3 (e2.trans e3) (.bl _))
    | false => exact iteF (k _ H2 e2 (.bl _))
theorem w_or (ha : Wd X a σ H (.bool r)) (hb : r = false → Wd X b σ H (.bool s)) : Wd X (.BoolOp .Or [a, b] pos) σ H (.bool (r || s)) :=
  W.of (pe_or wp_e (pe_one wp_e)) fun H1 e1 Q k => ha H1 e1 _ fun v H2 e2 hv => by
    cases hv
    refine ⟨r, rfl, ?_⟩
    cases r with
    | true => exact iteT (k _ H2 e2 (.bl _))
    | false => exact iteF (hb rfl H2 (e1.trans e2) _ fun u H3 e3 hu => k _ H3 (e2.trans e3) hu)
theorem w_if (hc : WT X c σ H r) (h1 : r = true → W X a σ H P) (h2 : r = false → W X b σ H P) : W X (.IfExp c a b pos) σ H P :=
  W.of (pe_ifExp wp_t wp_e wp_e) fun H1 e1 Q k => hc H1 e1 _ fun H2 e2 => by
    cases r with
    | true => exact iteT (h1 rfl H2 (e1.trans e2) _ fun v H3 e3 hv => k v H3 (e2.trans e3) hv)
    | false => exact iteF (h2 rfl H2 (e1.trans e2) _ fun v H3 e3 hv => k v H3 (e2.trans e3) hv)

/-! ### subscripts -/
theorem atI_len {α β : Type} {xs : List α} {ys : List β} (h : xs.length = ys.length) {i : Int} {y : β} (e : atI ys i = some y) : ∃ j : Nat, ys[j]? = some y ∧ atI xs i = xs[j]? := by
  unfold atI at e ⊢
  rw [h]
  cases q : ixN ys.length i with
  | none => rw [q] at e; cases e
  | some j => rw [q] at e; exact ⟨j, e, rfl⟩
theorem dpa_at {K : PySem.W.Frag} {vs : List V} {ds : List PyData} {i : Int} {d : PyData} (h : DqAll K H vs ds) (e : atI ds i = some d) : ∃ v, atI vs i = some v ∧ Dq K H v d := by
  obtain ⟨j, h1, h2⟩ := atI_len h.len e
  obtain ⟨v, h3, h4⟩ := h.get h1
  exact ⟨v, by rw [h2, h3], h4⟩
theorem w_ixL {ds : List PyData} {i : Int} {d : PyData} (ha : Wd X a σ H (.list ds)) (hb : Wd X b σ H (.int i)) (h : atI ds i = some d) (hs : PlainIx b := by exact fun _ _ => rfl) : Wd X (.Subscript a b pos) σ H d :=
  W.of (pe_ix ix_list wp_e wp_e hs) fun H1 e1 Q k => ha H1 e1 _ fun v H2 e2 hv => hb H2 (e1.trans e2) _ fun u H3 e3 hu => by
    cases hu
    cases hv with
    | lst h1 h2 =>
      obtain ⟨v, h3, h4⟩ := dpa_at h2 h
      exact ⟨_, _, i, v, rfl, rfl, ex_l e3 h1, h3, k v H3 (e2.trans e3) (h4.ex e3)⟩
theorem w_ixT {ds : List PyData} {i : Int} {d : PyData} (ha : Wd X a σ H (.tuple ds)) (hb : Wd X b σ H (.int i)) (h : atI ds i = some d) (hs : PlainIx b := by exact fun _ _ => rfl) : Wd X (.Subscript a b pos) σ H d :=
  W.of (pe_ix ix_tup wp_e wp_e hs) fun H1 e1 Q k => ha H1 e1 _ fun v H2 e2 hv => hb H2 (e1.trans e2) _ fun u H3 e3 hu => by
    cases hu
    cases hv with
    | tup h1 h2 =>
      obtain ⟨v, h3, h4⟩ := dpa_at h2 h
      exact ⟨_, _, i, v, rfl, rfl, ex_t e3 h1.seq, h3, k v H3 (e2.trans e3) (h4.ex e3)⟩
theorem w_ixS {z : Str} {i : Int} {n : Nat} (ha : Wd X a σ H (.str z)) (hb : Wd X b σ H (.int i)) (hz : z.length ≤ 100000) (h : atI z.cps.toList i = some n) (hs : PlainIx b := by exact fun _ _ => rfl) : Wd X (.Subscript a b pos) σ H (.str ⟨#[n]⟩) :=
  W.of (pe_ix ix_str wp_e wp_e hs) fun H1 e1 Q k => ha H1 e1 _ fun v H2 e2 hv => hb H2 (e1.trans e2) _ fun u H3 e3 hu => by
    cases hu; cases hv
    exact ⟨z, i, n, rfl, rfl, sz_of hz, h, k _ H3 (e2.trans e3) (.str _)⟩
/-- parts of a slice -/
def WO (X : Cx) (e : Option Expr) (σ : L2.St) (H : Hp) (o : Option Int) : Prop := ∃ t : TO, PO X e t ∧ ∀ H1, Ex H H1 → ∀ Q : Option Int → Hp → Prop, (∀ H2, Ex H1 H2 → Q o H2) → t σ H1 Q
theorem wo_n : WO X none σ H none := ⟨_, po_none, fun H1 _ Q k => k H1 (Ex.refl _)⟩
theorem wo_s {i : Int} (h : Wd X e σ H (.int i)) : WO X (some e) σ H (some i) := ⟨_, po_some wp_e, fun H1 e1 Q k => h H1 e1 _ fun v H2 e2 hv => by cases hv; exact ⟨i, rfl, k H2 e2⟩⟩
def cutD {α : Type} (xs : List α) (lo hi : Option Int) : List α := (xs.drop (HT.sIx xs.length 0 lo)).take (HT.sIx xs.length xs.length hi - HT.sIx xs.length 0 lo)
theorem dpa_cut {K : PySem.W.Frag} {vs : List V} {ds : List PyData} (h : DqAll K H vs ds) (lo hi : Option Int) : DqAll K H (cutV vs lo hi) (cutD ds lo hi) := by
  unfold cutV cutD
  rw [h.len]
  exact (h.drop _).take _
theorem w_slT {lo hi : Option Expr} {l u : Option Int} {p2 : Pos} {ds : List PyData} (ha : Wd X a σ H (.tuple ds)) (hl : WO X lo σ H l) (hu : WO X hi σ H u) : Wd X (.Subscript a (.Slice lo hi none p2) pos) σ H (.tuple (cutD ds l u)) := by
  obtain ⟨tl, pl, ql⟩ := hl
  obtain ⟨th, ph, qh⟩ := hu
  refine W.of (pe_slice sl_tupF wp_e pl ph) fun H1 e1 Q k => ha H1 e1 _ fun v H2 e2 hv => ql H2 (e1.trans e2) _ fun H3 e3 => qh H3 (e1.trans (e2.trans e3)) _ fun H4 e4 => ?_
  cases hv with
  | tup h1 h2 =>
    refine ⟨_, _, rfl, ex_t (e3.trans e4) h1.seq, fun hw => ?_, fun _ p o hp ho => ?_⟩
    · refine k _ H4 (e2.trans (e3.trans e4)) (.tup (h1.ex (e3.trans e4)) ?_)
      have e : cutD ds l u = ds := by
        rw [h2.len] at hw
        unfold cutD
        rw [hw.1, hw.2]
        simp
      rw [e]
      exact h2.ex (e3.trans e4)
    · exact k _ _ (e2.trans (e3.trans (e4.trans (Ex.new hp)))) (.tup (.of ho) ((dpa_cut h2 l u).ex (e3.trans (e4.trans (Ex.new hp)))))
theorem w_slL {lo hi : Option Expr} {l u : Option Int} {p2 : Pos} {ds : List PyData} (ha : Wd X a σ H (.list ds)) (hl : WO X lo σ H l) (hu : WO X hi σ H u) : Wd X (.Subscript a (.Slice lo hi none p2) pos) σ H (.list (cutD ds l u)) := by
  obtain ⟨tl, pl, ql⟩ := hl
  obtain ⟨th, ph, qh⟩ := hu
  refine W.of (pe_slice sl_list wp_e pl ph) fun H1 e1 Q k => ha H1 e1 _ fun v H2 e2 hv => ql H2 (e1.trans e2) _ fun H3 e3 => qh H3 (e1.trans (e2.trans e3)) _ fun H4 e4 => ?_
  cases hv with
  | lst h1 h2 =>
    exact ⟨_, _, rfl, ex_l (e3.trans e4) h1, fun p hp => k _ _ (e2.trans (e3.trans (e4.trans (Ex.new hp)))) (.lst (sq_of upd_same) ((dpa_cut h2 l u).ex (e3.trans (e4.trans (Ex.new hp)))))⟩
theorem w_slS {lo hi : Option Expr} {l u : Option Int} {p2 : Pos} {z : Str} (ha : Wd X a σ H (.str z)) (hz : z.length ≤ 100000) (hl : WO X lo σ H l) (hu : WO X hi σ H u) : Wd X (.Subscript a (.Slice lo hi none p2) pos) σ H (.str (cutS z l u)) := by
  obtain ⟨tl, pl, ql⟩ := hl
  obtain ⟨th, ph, qh⟩ := hu
  refine W.of (pe_slice sl_str wp_e pl ph) fun H1 e1 Q k => ha H1 e1 _ fun v H2 e2 hv => ql H2 (e1.trans e2) _ fun H3 e3 => qh H3 (e1.trans (e2.trans e3)) _ fun H4 e4 => ?_
  cases hv
  exact ⟨z, rfl, sz_of hz, k _ H4 (e2.trans (e3.trans e4)) (.str _)⟩

/-! ### arguments, displays -/
theorem wa_nil : WA X [] σ H (fun vs _ => vs = []) := WA.of pa_nil fun H1 _ Q k => k [] H1 (Ex.refl _) rfl
/-- P stays while the heap grows -/
def Stays (P : VP) : Prop := ∀ v H H', Ex H H' → P v H → P v H'
theorem st_dt {d : PyData} : Stays (dt X d) := fun _ _ _ e h => Dq.ex h e
theorem st_is {w : V} : Stays (fun v _ => v = w) := fun _ _ _ _ h => h
def consP (P : VP) (Ps : VPs) : VPs := fun vs H => ∃ v r, vs = v :: r ∧ P v H ∧ Ps r H
theorem wa_cons {es : List Expr} {Ps : VPs} (hp : Stays P) (h : W X e σ H P) (hr : WA X es σ H Ps) (hs : starEach (e :: es) X.env = (false, eval e X.env) :: starEach es X.env := by rfl) : WA X (e :: es) σ H (consP P Ps) :=
  WA.of (pa_cons wp_e wp_a hs) fun H1 e1 Q k => h H1 e1 _ fun v H2 e2 hv => hr H2 (e1.trans e2) _ fun vs H3 e3 hvs => k _ H3 (e2.trans e3) ⟨v, vs, rfl, hp v H2 H3 e3 hv, hvs⟩
theorem wd_nil : WAd X [] σ H [] := WA.of pa_nil fun H1 _ Q k => k [] H1 (Ex.refl _) .nil
theorem wd_cons {es : List Expr} {d : PyData} {ds : List PyData} (h : Wd X e σ H d) (hr : WAd X es σ H ds) (hs : starEach (e :: es) X.env = (false, eval e X.env) :: starEach es X.env := by rfl) : WAd X (e :: es) σ H (d :: ds) :=
  WA.of (pa_cons wp_e wp_a hs) fun H1 e1 Q k => h H1 e1 _ fun v H2 e2 hv => hr H2 (e1.trans e2) _ fun vs H3 e3 hvs => k _ H3 (e2.trans e3) (.cons (Dq.ex hv e3) hvs)
theorem w_tup {es : List Expr} {ds : List PyData} {x1 : Nat} (h : WAd X es σ H ds) (hz : ds.length ≤ 100000) : Wd X (.Tuple es x1 pos) σ H (.tuple ds) :=
  W.of (pe_tupF wp_a) fun H1 e1 Q k => h H1 e1 _ fun vs H2 e2 hv => ⟨by rw [hv.len]; exact sz_of hz, fun p o hp ho => k _ _ (e2.trans (Ex.new hp)) (.tup (.of ho) (hv.ex (Ex.new hp)))⟩
/-- a new list: its address is new -/
abbrev newL (X : Cx) (H : Hp) (ds : List PyData) : VP := fun v H2 => ∃ p vs, v = .ref p ∧ H p = none ∧ H2 p = some (.lst vs) ∧ DqAll X.K H2 vs ds
theorem w_lstN {es : List Expr} {ds : List PyData} (h : WAd X es σ H ds) (hz : ds.length ≤ 100000) : W X (.List es pos) σ H (newL X H ds) :=
  W.of (pe_lst wp_a) fun H1 e1 Q k => h H1 e1 _ fun vs H2 e2 hv => ⟨by rw [hv.len]; exact sz_of hz, fun p hp => k _ _ (e2.trans (Ex.new hp)) ⟨p, vs, rfl, fresh_back (e1.trans e2) hp, upd_same, hv.ex (Ex.new hp)⟩⟩
theorem newL_dt {ds : List PyData} (h : W X e σ H (newL X H ds)) : Wd X e σ H (.list ds) := h.imp fun v H1 _ ⟨p, vs, ev, _, h1, h2⟩ => by subst ev; exact .lst (sq_of h1) h2
theorem w_lst {es : List Expr} {ds : List PyData} (h : WAd X es σ H ds) (hz : ds.length ≤ 100000) : Wd X (.List es pos) σ H (.list ds) := newL_dt (w_lstN h hz)

/-! ### calls -/
/-- the promise of a def that makes nothing but data of data -/
def spD (K : PySem.W.Frag) (F : List PyData → PyData → Prop) : Sp := fun vs H Q _ => ∃ ds d, DqAll K H vs ds ∧ F ds d ∧ ∀ v H2, Ex H H2 → Dq K H2 v d → Q v H2
section
variable {P0 : Program} {k : Nat} {f : Addr} {fd : FuncData} {ps : List Str} {sp : Sp} {x : Str} {p : Pos} {es : List Expr}
theorem w_call {Ps : VPs} (F : FnOk X.prog X.w X.K X.mg X.base CX0 k f fd ps sp) (hr : Room k X.A) (hm : X.mg x = some (.ref f)) (hk : PySem.W.keepIn X.K (.ref f) = true) (hb : Binds X.K fd ps []) (ha : WA X (e :: es) σ H Ps)
    (q : ∀ vs H1, Ex H H1 → Ps vs H1 → ∀ Q : VK, (∀ v H2, Ex H1 H2 → P v H2 → Q v H2) → sp vs H1 Q E0) (hg : Gl X x := by rfl)
    (hd : (x == ("__debug__" : Str)) = false := by decide) (hs : starEach (e :: es) X.env = (false, eval e X.env) :: starEach es X.env := by rfl) (hpl : (backTo pos (starEach es X.env)).any (·.1) = false := by rfl) : W X (.Call (.Name x p) (e :: es) [] pos) σ H P :=
  W.of (pe_call F hr hg hm hk hb .nil pass0 wp_a hd hs hpl) fun H1 e1 Q k => ha H1 e1 _ fun vs H2 e2 hv => by
    rw [List.append_nil]
    exact q vs H2 (e1.trans e2) hv _ fun v H3 e3 hp => k v H3 (e2.trans e3) hp
theorem w_callD {G : List PyData → PyData → Prop} {ds : List PyData} {d : PyData} (F : FnOk X.prog X.w X.K X.mg X.base CX0 k f fd ps (spD X.K G)) (hr : Room k X.A) (hm : X.mg x = some (.ref f)) (hk : PySem.W.keepIn X.K (.ref f) = true) (hb : Binds X.K fd ps [])
    (ha : WAd X (e :: es) σ H ds) (hG : G ds d) (hg : Gl X x := by rfl)
    (hd : (x == ("__debug__" : Str)) = false := by decide) (hs : starEach (e :: es) X.env = (false, eval e X.env) :: starEach es X.env := by rfl) (hpl : (backTo pos (starEach es X.env)).any (·.1) = false := by rfl) : Wd X (.Call (.Name x p) (e :: es) [] pos) σ H d :=
  w_call F hr hm hk hb ha (fun vs H1 _ hv Q k => ⟨ds, d, hv, hG, k⟩) hg hd hs hpl
end
end
end FW
set_option maxRecDepth 100000
set_option maxHeartbeats 4000000
/-! W3: built-ins. -/
namespace FW
open PySem PySem.Spec PyProof.Rows L2 Evl
/-- the built-in names that the text uses are the built-ins -/
structure BT (mg : Str → Option Value) : Prop where
  isi : mg "isinstance" = none
  int : mg "int" = none
  bool : mg "bool" = none
  str : mg "str" = none
  tuple : mg "tuple" = none
  len : mg "len" = none
  all : mg "all" = none
  any : mg "any" = none
  min : mg "min" = none
  max : mg "max" = none
  range : mg "range" = none
  enum : mg "enumerate" = none
  zip : mg "zip" = none
  sorted : mg "sorted" = none
  abs : mg "abs" = none
  divmod : mg "divmod" = none
section
variable {X : Cx} {σ : L2.St} {H H' : Hp} {P : VP} {e a b c : Expr} {pos p p2 : Pos} {r s t : Bool}

/-- a built-in function's call: arguments, then its reading -/
theorem w_cb {x : Str} {id : String} {R : List V → Hp → VK → Prop} {es : List Expr} {Ps : VPs} (hc : CallR X (.builtin id) R) (hm : X.mg x = none) (hv : bootBuiltins x = some (.builtin id)) (ha : WA X (e :: es) σ H Ps)
    (q : ∀ vs H1, Ex H H1 → Ps vs H1 → ∀ Q : VK, (∀ v H2, Ex H1 H2 → P v H2 → Q v H2) → R vs H1 Q) (hg : Gl X x := by rfl) (hn : x ≠ "__name__" := by decide) (hdb : (x == ("__debug__" : Str)) = false := by decide)
    (he : starEach (e :: es) X.env = (false, eval e X.env) :: starEach es X.env := by rfl) (hpl : (backTo pos (starEach es X.env)).any (·.1) = false := by rfl) : W X (.Call (.Name x p) (e :: es) [] pos) σ H P :=
  W.of (pe_callB hc hg hm hv wp_a hn hdb he hpl) fun H1 e1 Q k => ha H1 e1 _ fun vs H2 e2 hv => q vs H2 (e1.trans e2) hv Q fun v H3 e3 hp => k v H3 (e2.trans e3) hp
theorem w_ct {x : Str} {T : String} {R : List V → Hp → VK → Prop} {es : List Expr} {Ps : VPs} (hc : CallR X (.type T) R) (hm : X.mg x = none) (hv : bootBuiltins x = some (.type T)) (ha : WA X (e :: es) σ H Ps)
    (q : ∀ vs H1, Ex H H1 → Ps vs H1 → ∀ Q : VK, (∀ v H2, Ex H1 H2 → P v H2 → Q v H2) → R vs H1 Q) (hg : Gl X x := by rfl) (hn : x ≠ "__name__" := by decide) (hdb : (x == ("__debug__" : Str)) = false := by decide)
    (he : starEach (e :: es) X.env = (false, eval e X.env) :: starEach es X.env := by rfl) (hpl : (backTo pos (starEach es X.env)).any (·.1) = false := by rfl) : W X (.Call (.Name x p) (e :: es) [] pos) σ H P :=
  W.of (pe_callTy hc hg hm hv wp_a hn hdb he hpl) fun H1 e1 Q k => ha H1 e1 _ fun vs H2 e2 hv => q vs H2 (e1.trans e2) hv Q fun v H3 e3 hp => k v H3 (e2.trans e3) hp
theorem dpa1 {K : PySem.W.Frag} {vs : List V} {d : PyData} (h : DqAll K H vs [d]) : ∃ v, vs = [v] ∧ Dq K H v d := by
  cases h with
  | cons h1 h2 => cases h2; exact ⟨_, rfl, h1⟩
theorem dpa2 {K : PySem.W.Frag} {vs : List V} {d d' : PyData} (h : DqAll K H vs [d, d']) : ∃ v u, vs = [v, u] ∧ Dq K H v d ∧ Dq K H u d' := by
  cases h with
  | cons h1 h2 => obtain ⟨u, rfl, h3⟩ := dpa1 h2; exact ⟨_, u, rfl, h1, h3⟩
theorem dpa3 {K : PySem.W.Frag} {vs : List V} {d d' d'' : PyData} (h : DqAll K H vs [d, d', d'']) : ∃ v u w, vs = [v, u, w] ∧ Dq K H v d ∧ Dq K H u d' ∧ Dq K H w d'' := by
  cases h with
  | cons h1 h2 => obtain ⟨u, w, rfl, h3, h4⟩ := dpa2 h2; exact ⟨_, u, w, rfl, h1, h3, h4⟩

/-! ### isinstance -/
def tyN : PyData → Option String
  | .int _ => some "int"
  | .str _ => some "str"
  | .tuple _ => some "tuple"
  | _ => none
theorem tyx_of {K : PySem.W.Frag} {v : V} {d : PyData} {n : String} (h : Dq K H v d) (e : tyN d = some n) : TyX K H v (.type n) := by
  cases h with
  | int i => cases e; exact .base (.int i)
  | str i => cases e; exact .base (.str i)
  | tup h1 h2 =>
    cases e
    obtain ⟨o, h1, _⟩ := h1
    exact .fTuple h1
  | _ => cases e
theorem w_isi {x : Str} {n T : String} {d : PyData} (hm : X.mg "isinstance" = none) (hmT : X.mg x = none) (hvT : bootBuiltins x = some (.type T)) (ha : Wd X a σ H d) (hn : tyN d = some n) (hr : kitB n T = some r)
    (hgT : Gl X x := by rfl) (hg : Gl X "isinstance" := by rfl) (hnT : x ≠ "__name__" := by decide) (hdT : (x == ("__debug__" : Str)) = false := by decide)
    (he : starEach [a, .Name x p2] X.env = (false, eval a X.env) :: starEach [.Name x p2] X.env := by rfl) (he2 : starEach [.Name x p2] X.env = (false, eval (.Name x p2) X.env) :: starEach [] X.env := by rfl) (hpl : (backTo pos (starEach [.Name x p2] X.env)).any (·.1) = false := by rfl) :
    Wd X (.Call (.Name "isinstance" p) [a, .Name x p2] [] pos) σ H (.bool r) :=
  W.of (pe_callB call_isi hg hm boot_isinstance (pa_cons wp_e (pa_cons (pe_bltn (v := .ty T) hgT hmT hvT rfl hnT hdT) pa_nil he2) he) (by decide) (by decide) he hpl) fun H1 e1 Q k => ha H1 e1 _ fun v H2 e2 hv =>
    ⟨v, .ty T, _, _, r, rfl, .ty T, tyx_of hv hn, kit_ty hr, k _ H2 e2 (.bl _)⟩
theorem boot_str : bootBuiltins "str" = some (.type "str") := by decide +kernel
theorem boot_bool : bootBuiltins "bool" = some (.type "bool") := by decide +kernel
theorem boot_int' : bootBuiltins "int" = some (.type "int") := by decide +kernel
theorem boot_tuple' : bootBuiltins "tuple" = some (.type "tuple") := by decide +kernel
theorem boot_max' : bootBuiltins "max" = some (.builtin "max") := by decide +kernel
theorem boot_any' : bootBuiltins "any" = some (.builtin "any") := by decide +kernel
theorem boot_abs' : bootBuiltins "abs" = some (.builtin "abs") := by decide +kernel
theorem boot_divmod' : bootBuiltins "divmod" = some (.builtin "divmod") := by decide +kernel
theorem w_isInt {d : PyData} {n : String} (T : BT X.mg) (ha : Wd X a σ H d) (hn : tyN d = some n) (hr : kitB n "int" = some r) (hgT : Gl X "int" := by rfl) (hg : Gl X "isinstance" := by rfl)
    (he : starEach [a, .Name "int" p2] X.env = (false, eval a X.env) :: starEach [.Name "int" p2] X.env := by rfl) (he2 : starEach [.Name "int" p2] X.env = (false, eval (.Name "int" p2) X.env) :: starEach [] X.env := by rfl) (hpl : (backTo pos (starEach [.Name "int" p2] X.env)).any (·.1) = false := by rfl) :
    Wd X (.Call (.Name "isinstance" p) [a, .Name "int" p2] [] pos) σ H (.bool r) := w_isi T.isi T.int boot_int' ha hn hr hgT hg (by decide) (by decide) he he2 hpl
theorem w_isBool {d : PyData} {n : String} (T : BT X.mg) (ha : Wd X a σ H d) (hn : tyN d = some n) (hr : kitB n "bool" = some r) (hgT : Gl X "bool" := by rfl) (hg : Gl X "isinstance" := by rfl)
    (he : starEach [a, .Name "bool" p2] X.env = (false, eval a X.env) :: starEach [.Name "bool" p2] X.env := by rfl) (he2 : starEach [.Name "bool" p2] X.env = (false, eval (.Name "bool" p2) X.env) :: starEach [] X.env := by rfl) (hpl : (backTo pos (starEach [.Name "bool" p2] X.env)).any (·.1) = false := by rfl) :
    Wd X (.Call (.Name "isinstance" p) [a, .Name "bool" p2] [] pos) σ H (.bool r) := w_isi T.isi T.bool boot_bool ha hn hr hgT hg (by decide) (by decide) he he2 hpl
theorem w_isStr {d : PyData} {n : String} (T : BT X.mg) (ha : Wd X a σ H d) (hn : tyN d = some n) (hr : kitB n "str" = some r) (hgT : Gl X "str" := by rfl) (hg : Gl X "isinstance" := by rfl)
    (he : starEach [a, .Name "str" p2] X.env = (false, eval a X.env) :: starEach [.Name "str" p2] X.env := by rfl) (he2 : starEach [.Name "str" p2] X.env = (false, eval (.Name "str" p2) X.env) :: starEach [] X.env := by rfl) (hpl : (backTo pos (starEach [.Name "str" p2] X.env)).any (·.1) = false := by rfl) :
    Wd X (.Call (.Name "isinstance" p) [a, .Name "str" p2] [] pos) σ H (.bool r) := w_isi T.isi T.str boot_str ha hn hr hgT hg (by decide) (by decide) he he2 hpl
theorem w_isTup {d : PyData} {n : String} (T : BT X.mg) (ha : Wd X a σ H d) (hn : tyN d = some n) (hr : kitB n "tuple" = some r) (hgT : Gl X "tuple" := by rfl) (hg : Gl X "isinstance" := by rfl)
    (he : starEach [a, .Name "tuple" p2] X.env = (false, eval a X.env) :: starEach [.Name "tuple" p2] X.env := by rfl) (he2 : starEach [.Name "tuple" p2] X.env = (false, eval (.Name "tuple" p2) X.env) :: starEach [] X.env := by rfl) (hpl : (backTo pos (starEach [.Name "tuple" p2] X.env)).any (·.1) = false := by rfl) :
    Wd X (.Call (.Name "isinstance" p) [a, .Name "tuple" p2] [] pos) σ H (.bool r) := w_isi T.isi T.tuple boot_tuple' ha hn hr hgT hg (by decide) (by decide) he he2 hpl

/-! ### len -/
def lenD : PyData → Option Nat
  | .list ds => some ds.length
  | .tuple ds => some ds.length
  | .str x => if x.length ≤ 100000 then some x.length else none
  | _ => none
theorem w_len {d : PyData} {n : Nat} (T : BT X.mg) (ha : Wd X a σ H d) (hn : lenD d = some n) (hg : Gl X "len" := by rfl)
    (he : starEach [a] X.env = (false, eval a X.env) :: starEach [] X.env := by rfl) (hpl : (backTo pos (starEach [] X.env)).any (·.1) = false := by rfl) : Wd X (.Call (.Name "len" p) [a] [] pos) σ H (.int (n : Int)) :=
  w_cb call_len T.len PySem.boot_len (wd_cons ha wd_nil he) (fun vs H1 _ hv Q k => by
    obtain ⟨v, rfl, h⟩ := dpa1 hv
    cases h with
    | lst h1 h2 =>
      cases hn
      rw [← h2.len] at k
      exact ⟨_, _, rfl, .inl ⟨_, h1, rfl⟩, k _ H1 (Ex.refl _) (.int _)⟩
    | tup h1 h2 =>
      cases hn
      rw [← h2.len] at k
      exact ⟨_, _, rfl, .inr ⟨_, h1.seq, rfl⟩, k _ H1 (Ex.refl _) (.int _)⟩
    | str x =>
      have hn' : (if x.length ≤ 100000 then some x.length else none) = some n := hn
      by_cases q : x.length ≤ 100000
      · rw [if_pos q] at hn'
        cases hn'
        exact ⟨_, _, rfl, ⟨sz_of q, rfl⟩, k _ H1 (Ex.refl _) (.int _)⟩
      · rw [if_neg q] at hn'; cases hn'
    | _ => cases hn) hg (by decide) (by decide) he hpl

/-! ### min, max, sorted, sum .. -/
theorem w_min2 {i j : Int} (T : BT X.mg) (hc : X.calm = true) (ha : Wd X a σ H (.int i)) (hb : Wd X b σ H (.int j)) (hg : Gl X "min" := by rfl)
    (he : starEach [a, b] X.env = (false, eval a X.env) :: starEach [b] X.env := by rfl) (he2 : starEach [b] X.env = (false, eval b X.env) :: starEach [] X.env := by rfl) (hpl : (backTo pos (starEach [b] X.env)).any (·.1) = false := by rfl) : Wd X (.Call (.Name "min" p) [a, b] [] pos) σ H (.int (min i j)) :=
  w_cb (call_min2 hc) T.min boot_min (wd_cons ha (wd_cons hb wd_nil he2) he) (fun vs H1 _ hv Q k => by
    obtain ⟨v, u, rfl, h1, h2⟩ := dpa2 hv
    cases h1; cases h2
    refine ⟨i, j, rfl, ?_⟩
    rw [show (if j < i then j else i) = min i j by omega]
    exact k _ H1 (Ex.refl _) (.int _)) hg (by decide) (by decide) he hpl
theorem w_max2 {i j : Int} (T : BT X.mg) (hc : X.calm = true) (ha : Wd X a σ H (.int i)) (hb : Wd X b σ H (.int j)) (hg : Gl X "max" := by rfl)
    (he : starEach [a, b] X.env = (false, eval a X.env) :: starEach [b] X.env := by rfl) (he2 : starEach [b] X.env = (false, eval b X.env) :: starEach [] X.env := by rfl) (hpl : (backTo pos (starEach [b] X.env)).any (·.1) = false := by rfl) : Wd X (.Call (.Name "max" p) [a, b] [] pos) σ H (.int (max i j)) :=
  w_cb (call_max2 hc) T.max boot_max' (wd_cons ha (wd_cons hb wd_nil he2) he) (fun vs H1 _ hv Q k => by
    obtain ⟨v, u, rfl, h1, h2⟩ := dpa2 hv
    cases h1; cases h2
    refine ⟨i, j, rfl, ?_⟩
    rw [show (if j > i then j else i) = max i j by omega]
    exact k _ H1 (Ex.refl _) (.int _)) hg (by decide) (by decide) he hpl
theorem w_maxL {ns : List Int} {m : Int} (T : BT X.mg) (hc : X.calm = true) (ha : Wd X a σ H (.list (ns.map .int))) (h0 : m ∈ ns) (h1 : ∀ y ∈ ns, y ≤ m) (hg : Gl X "max" := by rfl)
    (he : starEach [a] X.env = (false, eval a X.env) :: starEach [] X.env := by rfl) (hpl : (backTo pos (starEach [] X.env)).any (·.1) = false := by rfl) : Wd X (.Call (.Name "max" p) [a] [] pos) σ H (.int m) :=
  w_cb (cr_max hc) T.max boot_max' (wd_cons ha wd_nil he) (fun vs H1 _ hv Q k => by
    obtain ⟨v, rfl, h⟩ := dpa1 hv
    cases h with
    | lst g1 g2 =>
      rw [dpa_ints g2] at g1
      refine ⟨_, ns, rfl, g1, List.length_pos_of_mem h0, fun m' hm hy => ?_⟩
      rw [show m' = m from Int.le_antisymm (h1 m' hm) (hy m h0)]
      exact k _ H1 (Ex.refl _) (.int _)) hg (by decide) (by decide) he hpl
theorem w_minL {ns : List Int} {m : Int} (T : BT X.mg) (hc : X.calm = true) (ha : Wd X a σ H (.list (ns.map .int))) (h0 : m ∈ ns) (h1 : ∀ y ∈ ns, m ≤ y) (hg : Gl X "min" := by rfl)
    (he : starEach [a] X.env = (false, eval a X.env) :: starEach [] X.env := by rfl) (hpl : (backTo pos (starEach [] X.env)).any (·.1) = false := by rfl) : Wd X (.Call (.Name "min" p) [a] [] pos) σ H (.int m) :=
  w_cb (cr_min hc) T.min boot_min (wd_cons ha wd_nil he) (fun vs H1 _ hv Q k => by
    obtain ⟨v, rfl, h⟩ := dpa1 hv
    cases h with
    | lst g1 g2 =>
      rw [dpa_ints g2] at g1
      refine ⟨_, ns, rfl, g1, List.length_pos_of_mem h0, fun m' hm hy => ?_⟩
      rw [show m' = m from Int.le_antisymm (hy m h0) (h1 m' hm)]
      exact k _ H1 (Ex.refl _) (.int _)) hg (by decide) (by decide) he hpl
theorem sort2 {i j : Int} {ns : List Int} (h : ns.Perm [i, j]) (h2 : ns.Pairwise (· ≤ ·)) : ns = [min i j, max i j] := by
  have hl := h.length_eq
  match ns, hl with
  | [x, y], _ =>
    have hx : x = i ∨ x = j := by simpa using h.mem_iff.mp (List.mem_cons_self (a := x) (l := [y]))
    have hs : x + y = i + j := by
      rcases hx with e | e <;> subst e
      · have h3 := (List.perm_cons _).mp h
        have e4 : y = j := by simpa using h3.mem_iff.mp (List.mem_cons_self (a := y) (l := []))
        omega
      · have h3 : [x, y].Perm [x, i] := h.trans (List.Perm.swap _ _ _)
        have h4 := (List.perm_cons _).mp h3
        have e4 : y = i := by simpa using h4.mem_iff.mp (List.mem_cons_self (a := y) (l := []))
        omega
    have hxy : x ≤ y := by simpa using h2
    have e1 : x = min i j := by rcases hx with e | e <;> subst e <;> omega
    have e2 : y = max i j := by rcases hx with e | e <;> subst e <;> omega
    rw [← e1, ← e2]
/-- sorted([a, b]) -/
theorem w_sort2 {i j : Int} {x1 : Pos} (T : BT X.mg) (ha : Wd X a σ H (.int i)) (hb : Wd X b σ H (.int j)) (hg : Gl X "sorted" := by rfl)
    (he : starEach [a, b] X.env = (false, eval a X.env) :: starEach [b] X.env := by rfl) (he2 : starEach [b] X.env = (false, eval b X.env) :: starEach [] X.env := by rfl)
    (he3 : starEach [.List [a, b] x1] X.env = (false, eval (.List [a, b] x1) X.env) :: starEach [] X.env := by rfl) (hpl : (backTo pos (starEach [] X.env)).any (·.1) = false := by rfl) :
    Wd X (.Call (.Name "sorted" p) [.List [a, b] x1] [] pos) σ H (.list [.int (min i j), .int (max i j)]) :=
  w_cb cr_sorted T.sorted boot_sorted (wd_cons (w_lst (wd_cons ha (wd_cons hb wd_nil he2) he) (by simp)) wd_nil he3) (fun vs H1 _ hv Q k => by
    obtain ⟨v, rfl, h⟩ := dpa1 hv
    cases h with
    | lst g1 g2 =>
      rw [dpa_ints (ns := [i, j]) g2] at g1
      refine ⟨_, [i, j], rfl, g1, by simp, fun ns' q hp hs hq => ?_⟩
      rw [sort2 hp hs]
      exact k _ _ (Ex.new hq) (.lst (sq_of upd_same) (.cons (.int _) (.cons (.int _) .nil)))) hg (by decide) (by decide) he3 hpl
theorem w_all {bs : List Bool} (T : BT X.mg) (hc : X.calm = true) (ha : Wd X a σ H (.list (bs.map .bool))) (hg : Gl X "all" := by rfl)
    (he : starEach [a] X.env = (false, eval a X.env) :: starEach [] X.env := by rfl) (hpl : (backTo pos (starEach [] X.env)).any (·.1) = false := by rfl) : Wd X (.Call (.Name "all" p) [a] [] pos) σ H (.bool (bs.all id)) :=
  w_cb (cr_all hc) T.all boot_all (wd_cons ha wd_nil he) (fun vs H1 _ hv Q k => by
    obtain ⟨v, rfl, h⟩ := dpa1 hv
    cases h with
    | lst g1 g2 =>
      rw [dpa_bls g2] at g1
      exact ⟨_, bs, rfl, g1, k _ H1 (Ex.refl _) (.bl _)⟩) hg (by decide) (by decide) he hpl
theorem w_any {bs : List Bool} (T : BT X.mg) (hc : X.calm = true) (ha : Wd X a σ H (.list (bs.map .bool))) (hg : Gl X "any" := by rfl)
    (he : starEach [a] X.env = (false, eval a X.env) :: starEach [] X.env := by rfl) (hpl : (backTo pos (starEach [] X.env)).any (·.1) = false := by rfl) : Wd X (.Call (.Name "any" p) [a] [] pos) σ H (.bool (bs.any id)) :=
  w_cb (cr_any hc) T.any boot_any' (wd_cons ha wd_nil he) (fun vs H1 _ hv Q k => by
    obtain ⟨v, rfl, h⟩ := dpa1 hv
    cases h with
    | lst g1 g2 =>
      rw [dpa_bls g2] at g1
      exact ⟨_, bs, rfl, g1, k _ H1 (Ex.refl _) (.bl _)⟩) hg (by decide) (by decide) he hpl
theorem w_toInt {i : Int} (T : BT X.mg) (ha : Wd X a σ H (.int i)) (hg : Gl X "int" := by rfl)
    (he : starEach [a] X.env = (false, eval a X.env) :: starEach [] X.env := by rfl) (hpl : (backTo pos (starEach [] X.env)).any (·.1) = false := by rfl) : Wd X (.Call (.Name "int" p) [a] [] pos) σ H (.int i) :=
  w_ct call_int1 T.int boot_int' (wd_cons ha wd_nil he) (fun vs H1 _ hv Q k => by
    obtain ⟨v, rfl, h⟩ := dpa1 hv
    cases h
    exact .inl ⟨i, rfl, k _ H1 (Ex.refl _) (.int _)⟩) hg (by decide) (by decide) he hpl
theorem w_abs {i : Int} (T : BT X.mg) (ha : Wd X a σ H (.int i)) (hg : Gl X "abs" := by rfl)
    (he : starEach [a] X.env = (false, eval a X.env) :: starEach [] X.env := by rfl) (hpl : (backTo pos (starEach [] X.env)).any (·.1) = false := by rfl) : Wd X (.Call (.Name "abs" p) [a] [] pos) σ H (.int (if i < 0 then -i else i)) :=
  w_cb call_abs T.abs boot_abs' (wd_cons ha wd_nil he) (fun vs H1 _ hv Q k => by
    obtain ⟨v, rfl, h⟩ := dpa1 hv
    cases h
    exact ⟨i, rfl, k _ H1 (Ex.refl _) (.int _)⟩) hg (by decide) (by decide) he hpl
theorem w_divmod {i j : Int} (T : BT X.mg) (ha : Wd X a σ H (.int i)) (hb : Wd X b σ H (.int j)) (hcd : CDiv i j) (hg : Gl X "divmod" := by rfl)
    (he : starEach [a, b] X.env = (false, eval a X.env) :: starEach [b] X.env := by rfl) (he2 : starEach [b] X.env = (false, eval b X.env) :: starEach [] X.env := by rfl) (hpl : (backTo pos (starEach [b] X.env)).any (·.1) = false := by rfl) :
    W X (.Call (.Name "divmod" p) [a, b] [] pos) σ H (fun v H2 => ∃ q, v = .ref q ∧ H2 q = some (.tup [.int (i / j), .int (i % j)])) :=
  w_cb call_divmod T.divmod boot_divmod' (wd_cons ha (wd_cons hb wd_nil he2) he) (fun vs H1 _ hv Q k => by
    obtain ⟨v, u, rfl, h1, h2⟩ := dpa2 hv
    cases h1; cases h2
    exact ⟨i, j, rfl, hcd, fun q hq => k _ _ (Ex.new hq) ⟨q, rfl, upd_same⟩⟩) hg (by decide) (by decide) he hpl
/-- tuple(a list) -/
theorem w_tupL {ds : List PyData} (T : BT X.mg) (ha : Wd X a σ H (.list ds)) (hg : Gl X "tuple" := by rfl)
    (he : starEach [a] X.env = (false, eval a X.env) :: starEach [] X.env := by rfl) (hpl : (backTo pos (starEach [] X.env)).any (·.1) = false := by rfl) : Wd X (.Call (.Name "tuple" p) [a] [] pos) σ H (.tuple ds) :=
  w_ct call_tuple_ofF T.tuple boot_tuple' (wd_cons ha wd_nil he) (fun vs H1 _ hv Q k => by
    obtain ⟨v, rfl, h⟩ := dpa1 hv
    cases h with
    | lst g1 g2 => exact ⟨_, _, rfl, g1, fun l o hl ho => k _ _ (Ex.new hl) (.tup (.of ho) (g2.ex (Ex.new hl)))⟩) hg (by decide) (by decide) he hpl

/-! ### methods -/
theorem mt_tup_indexI : MtR X "tuple.index" (fun x xs H Q => ∃ p, ∃ ys : List Int, ∃ z j, x = .ref p ∧ xs = [.int z] ∧ SqT X.K H p (ys.map V.int) ∧ ys[j]? = some z ∧ (∀ m, m < j → ys[m]? ≠ some z) ∧ Q (.int (j : Nat)) H) := by
  intro pins s σ H x xs v us Q I rx rs h
  obtain ⟨p, ys, z, j, rfl, rfl, hq, hy, hno, q⟩ := h
  cases rx
  obtain ⟨u, rfl, t, rfl⟩ := vals1 rs
  obtain ⟨its, r, pl, hz⟩ := I.tuple hq
  obtain ⟨⟨cls, dd, dt, sl⟩, ho, hc, n, hd⟩ := pl
  simp only at hc hd
  subst hc
  subst hd
  have hl : its.toArray.size = ys.length := by rw [List.size_toArray, ← r.length, List.length_map]
  have hj : j < its.toArray.size := by rw [hl]; exact (List.getElem?_eq_some_iff.mp hy).1
  have at' : ∀ (m : Nat) (hm : m < its.toArray.size), ∃ y t', ys[m]? = some y ∧ its.toArray[m] = Value.int y t' := fun m hm => by
    have hm' : m < ys.length := by rw [← hl]; exact hm
    obtain ⟨w, hw, t', hw'⟩ := r.get (i := m) (x := .int ys[m]) (by simp [hm'])
    refine ⟨ys[m], t', List.getElem?_eq_getElem hm', ?_⟩
    have e := (List.getElem?_eq_some_iff.mp hw).2
    rw [← hw', ← e]
    simp
  have flat : (ys.map V.int).all flatV = true := by
    rw [List.all_map]
    exact List.all_eq_true.mpr fun _ _ => rfl
  refine call_meets PySem.F.slot_tuple_index ⟨_, ho, rfl⟩ PySem.F.entry_tuple_index (PySem.F.args_tuple_index_2 _ _) (TI.tuple_indexAt p its.toArray n dd sl (.int z t) (eqU (.int z)) j hj ?_ ?_)
    ⟨ho, fun w hw => mem_eqAt (x := .int z) ⟨t, rfl⟩ rfl r flat w (by simpa using hw), ⟨.int (j : Nat), H, I.tok _, ⟨_, rfl⟩, q⟩⟩
  · obtain ⟨y, t', h1, h2⟩ := at' j hj
    rw [hy] at h1
    cases h1
    rw [h2]
    show (z == z) = true
    exact beq_self_eq_true z
  · intro m hm hmj
    obtain ⟨y, t', h1, h2⟩ := at' m hm
    rw [h2]
    show (y == z) = false
    exact beq_eq_false_iff_ne.mpr fun e => hno m hmj (e ▸ h1)
/-- a plain tuple's method -/
def tBMT (r : V → List V → Hp → VK → Prop) (to : TE) (t : TA) : TE := fun σ H Q => to σ H fun x H1 => (∃ p xs, x = .ref p ∧ PlT H1 p xs) ∧ t σ H1 fun xs H2 => r x xs H2 Q
theorem pe_bmT {o : Expr} {es : List Expr} {to : TE} {t : TA} {name : Str} {apos cpos : Pos} {id : String} {r : V → List V → Hp → VK → Prop} (pa : PlainAttrs "tuple") (slot : Slot "tuple" name id) (hty : typeOf (.builtin id) = pure (.type "method_descriptor")) (hm : MtR X id r) (ho : PE X o to) (ha : PA X (e :: es) t)
    (hbase : attributeBase o name X.env (eval o X.env) = eval o X.env := by rfl)
    (hfew : ((backTo cpos (starEach (e :: es) X.env)).all (fun x => !x.1) && (backToKw cpos (keywordEach [] X.env)).all (fun x => x.1.isSome)
      && decide ((e :: es).length + ([] : List Keyword).length + (if ([] : List Keyword).isEmpty then 0 else 1) < 30)) = true := by rfl)
    (hline : (apos.endLine == cpos.line) = true := by rfl) (hs : starEach (e :: es) X.env = (false, eval e X.env) :: starEach es X.env := by rfl) (hplain : (backTo cpos (starEach es X.env)).any (·.1) = false := by rfl) :
    PE X (.Call (.Attribute o name apos) (e :: es) [] cpos) (tBMT r to t) := by
  refine ⟨fun pins s σ H Q I h => ?_⟩
  refine wpAny_Call_method_late hbase hfew hline rfl (thn (ho.run pins s σ H _ I h) fun v s1 ⟨x, H1, I1, r1, ty, q1⟩ => ?_)
  obtain ⟨p, xs, rfl, ob, hp, hdn⟩ := ty
  cases (show v = .ref p from r1)
  obtain ⟨e1, _, its, _, e2⟩ := (show ObjOk X.prog X.w H1 s1.heap p (.frz ob (.tup xs)) from I1.hok p _ hp)
  refine ⟨"tuple", id, pa, slot, hty, e2.typeIs, fun a e => by cases e; exact ⟨ob, e1, hdn⟩, ?_⟩
  have hA := ha.run cpos pins s1 σ H1 _ I1 q1
  rw [hs] at hA ⊢
  refine Calls.callWith_builtin (by show (false || (backTo cpos (starEach es X.env)).any (·.1)) = false; rw [hplain] <;> rfl) (Calls.evalArgs_plain ?_)
  exact thn hA fun us s2 ⟨vs, H2, I2, r2, q2⟩ => hm pins s2 σ H2 (.ref p) vs _ us Q I2 r1 r2 q2
theorem idxOf_get {z : Int} : ∀ {ys : List Int}, z ∈ ys → ys[ys.idxOf z]? = some z ∧ ∀ m, m < ys.idxOf z → ys[m]? ≠ some z
  | [], h => by cases h
  | y :: ys, h => by
    rw [List.idxOf_cons]
    by_cases e : y = z
    · subst e
      rw [beq_self_eq_true]
      exact ⟨rfl, fun m hm => absurd hm (Nat.not_lt_zero m)⟩
    · have hz : z ∈ ys := by
        rcases List.mem_cons.mp h with q | q
        · exact absurd q.symm e
        · exact q
      obtain ⟨h1, h2⟩ := idxOf_get hz
      rw [beq_eq_false_iff_ne.mpr e]
      refine ⟨h1, fun m hm => ?_⟩
      cases m with
      | zero => exact fun q => e (Option.some.inj q)
      | succ m => exact h2 m (Nat.lt_of_succ_lt_succ hm)
theorem w_index {ns : List Int} {i : Int} {apos : Pos} (ha : Wd X a σ H (.tuple (ns.map .int))) (hb : Wd X b σ H (.int i)) (h : i ∈ ns) (hbase : attributeBase a "index" X.env (eval a X.env) = eval a X.env := by rfl)
    (hfew : ((backTo pos (starEach [b] X.env)).all (fun x => !x.1) && (backToKw pos (keywordEach [] X.env)).all (fun x => x.1.isSome)
      && decide (([b] : List Expr).length + ([] : List Keyword).length + (if ([] : List Keyword).isEmpty then 0 else 1) < 30)) = true := by rfl)
    (hline : (apos.endLine == pos.line) = true := by rfl) (hs : starEach [b] X.env = (false, eval b X.env) :: starEach [] X.env := by rfl) (hplain : (backTo pos (starEach [] X.env)).any (·.1) = false := by rfl) :
    Wd X (.Call (.Attribute a "index" apos) [b] [] pos) σ H (.int ((ns.idxOf i : Nat) : Int)) :=
  W.of (pe_bmT PySem.F.plainAttrs_tuple PySem.F.slot_tuple_index PySem.F.type_tuple_index mt_tup_indexI wp_e wp_a hbase hfew hline hs hplain) fun H1 e1 Q k => ha H1 e1 _ fun v H2 e2 hv => by
    cases hv with
    | tup h1 h2 =>
      refine ⟨⟨_, _, rfl, h1⟩, ?_⟩
      refine (wd_cons hb wd_nil hs) H2 (e1.trans e2) _ fun vs H3 e3 hvs => ?_
      obtain ⟨u, rfl, hu⟩ := dpa1 hvs
      cases hu
      rw [dpa_ints h2] at h1
      obtain ⟨q1, q2⟩ := idxOf_get h
      exact ⟨_, ns, i, _, rfl, rfl, ex_t e3 h1.seq, q1, q2, k _ H3 (e2.trans e3) (.int _)⟩
theorem w_join {x : Str} {ys : List Str} {apos : Pos} (ha : Wd X a σ H (.str x)) (hb : Wd X b σ H (.list (ys.map .str))) (hz : (ys.map (·.length)).sum + ys.length * x.length ≤ 16777216)
    (hs : starEach [b] X.env = [(false, eval b X.env)] := by rfl) (hbase : attributeBase a "join" X.env (eval a X.env) = eval a X.env := by rfl) (hline : (apos.endLine == pos.line) = true := by rfl) :
    Wd X (.Call (.Attribute a "join" apos) [b] [] pos) σ H (.str (Txt.join x ys)) :=
  W.of (pe_join wp_e wp_e hs hbase hline) fun H1 e1 Q k => ha H1 e1 _ fun v H2 e2 hv => by
    cases hv
    refine ⟨⟨_, rfl⟩, hb H2 (e1.trans e2) _ fun u H3 e3 hu => ?_⟩
    cases hu with
    | lst h1 h2 =>
      rw [dpa_strs h2] at h1
      exact ⟨x, _, ys, rfl, rfl, .inl h1, hz, k _ H3 (e2.trans e3) (.str _)⟩
end
end FW
set_option maxRecDepth 100000
set_option maxHeartbeats 4000000
/-! W4: statements, loops, comprehensions. -/
namespace FW
open PySem PySem.Spec PyProof.Rows L2 Evl

/-! ### data without lists stays when a list is written -/
mutual
def noL : PyData → Bool
  | .list _ => false
  | .tuple ds => noLs ds
  | .dict _ => false
  | _ => true
def noLs : List PyData → Bool
  | [] => true
  | d :: ds => noL d && noLs ds
end
theorem noLs_ints : ∀ ns : List Int, noLs (ns.map PyData.int) = true
  | [] => rfl
  | _ :: ns => noLs_ints ns
section
variable {K : PySem.W.Frag} {H H' : Hp} {l : Addr} {ys zs : List V}
theorem PlT.upd {a : Addr} {xs : List V} (hl : H l = some (.lst ys)) (h : PlT H a xs) : PlT (upd H l (.lst zs)) a xs := by
  obtain ⟨o, h, d⟩ := h
  have ne : a ≠ l := ne_of h hl (fun z => by cases z)
  exact ⟨o, by rw [upd_ne ne]; exact h, d⟩
mutual
theorem dq_upd (hl : H l = some (.lst ys)) : ∀ (d : PyData) (v : V), noL d = true → Dq K H v d → Dq K (upd H l (.lst zs)) v d
  | .none, _, _, h => by cases h; exact .non
  | .bool _, _, _, h => by cases h; exact .bl _
  | .int _, _, _, h => by cases h; exact .int _
  | .str _, _, _, h => by cases h; exact .str _
  | .list ds, _, n, h => by cases n
  | .tuple ds, _, n, h => by
    cases h with
    | tup hs ha => exact .tup (hs.upd hl) (dqa_upd hl ds _ n ha)
  | .dict _, _, n, h => by cases n
theorem dqa_upd (hl : H l = some (.lst ys)) : ∀ (ds : List PyData) (vs : List V), noLs ds = true → DqAll K H vs ds → DqAll K (upd H l (.lst zs)) vs ds
  | [], _, _, h => by cases h; exact .nil
  | d :: ds, _, n, h => by
    have n' : (noL d && noLs ds) = true := n
    rw [Bool.and_eq_true] at n'
    cases h with
    | cons h1 h2 => exact .cons (dq_upd hl d _ n'.1 h1) (dqa_upd hl ds _ n'.2 h2)
end
theorem noLs_app : ∀ {ds es : List PyData}, noLs ds = true → noLs es = true → noLs (ds ++ es) = true
  | [], _, _, h => h
  | d :: ds, es, h, h' => by
    have n' : (noL d && noLs ds) = true := h
    rw [Bool.and_eq_true] at n'
    show (noL d && noLs (ds ++ es)) = true
    rw [Bool.and_eq_true]
    exact ⟨n'.1, noLs_app n'.2 h'⟩
/-- a list being made -/
def LstAt (K : PySem.W.Frag) (H : Hp) (l : Addr) (ds : List PyData) : Prop := ∃ vs, H l = some (.lst vs) ∧ DqAll K H vs ds ∧ noLs ds = true
theorem LstAt.ex {ds : List PyData} (h : LstAt K H l ds) (e : Ex H H') : LstAt K H' l ds := by
  obtain ⟨vs, h1, h2, h3⟩ := h
  exact ⟨vs, e _ _ h1, h2.ex e, h3⟩
theorem LstAt.add {ds : List PyData} {v : V} {d : PyData} {vs : List V} (h1 : H l = some (.lst vs)) (h2 : DqAll K H vs ds) (h3 : noLs ds = true) (hv : Dq K H v d) (n : noL d = true) : LstAt K (upd H l (.lst (vs ++ [v]))) l (ds ++ [d]) := by
  refine ⟨_, upd_same, dqa_upd h1 _ _ ?_ (h2.append (.cons hv .nil)), ?_⟩
  all_goals exact noLs_app h3 (by show (noL d && true) = true; rw [n]; rfl)
theorem LstAt.dq {ds : List PyData} (h : LstAt K H l ds) : Dq K H (.ref l) (.list ds) := by
  obtain ⟨vs, h1, h2, _⟩ := h
  exact .lst (sq_of h1) h2
end

section
variable {X : Cx} {σ : L2.St} {H H' : Hp} {P P1 P2 : VP} {e a b c iter : Expr} {pos p p2 px : Pos} {r s t : Bool} {D : Ends} {st : Stmt} {rest body A B : List Stmt}

/-! ### statements -/
theorem ss_nil (h : D.nx σ H) : tWss X [] D σ H := fun pins s I => pss_nil.run pins s σ H D I h
theorem ss_cons (h : tWs X st { D with nx := tWss X rest D } σ H) : tWss X (st :: rest) D σ H := fun pins s I => (pss_cons wp_s wp_ss).run pins s σ H D I h
theorem s_of {t : TS} (h : PS X st t) (q : t D σ H) : tWs X st D σ H := fun pins s I => h.run pins s σ H D I q
theorem s_set (i : Nat) {x : Str} (nd : X.N.Nodup) (he : W X e σ H P) (k : ∀ v H1, Ex H H1 → P v H1 → D.nx (σ.set i (some v)) H1) (hi : X.N[i]? = some x := by rfl) (hx : Loc X.env.scope x := by first | exact Or.inl rfl | exact Or.inr rfl)
    (hs : swapsWith e (some (.Name x px)) pos.line X.env = pure false := by rfl) (hf : X.fn x = true ∨ X.env.scope.names.lookup x = some .local := by first | exact .inl rfl | exact .inr rfl) : tWs X (.Assign [.Name x px] e pos) D σ H :=
  s_of (ps_set nd hi hx wp_e hs hf) (he H (Ex.refl _) _ fun v H1 e1 p => k v H1 e1 p)
theorem s_ret (he : W X e σ H P) (k : ∀ v H1, Ex H H1 → P v H1 → D.rt v H1) : tWs X (.Return (some e) pos) D σ H := s_of (ps_ret wp_e) (he H (Ex.refl _) _ k)
theorem s_if (hc : WT X c σ H r) (h1 : r = true → ∀ H1, Ex H H1 → tWss X A D σ H1) (h2 : r = false → ∀ H1, Ex H H1 → tWss X B D σ H1) : tWs X (.If c A B pos) D σ H :=
  s_of (ps_if wp_t wp_ss wp_ss) (hc H (Ex.refl _) _ fun H1 e1 => by
    cases r with
    | true => exact iteT (h1 rfl H1 e1)
    | false => exact iteF (h2 rfl H1 e1))
/-- an if whose test is false -/
theorem s_ifF (hc : WT X c σ H false) (h2 : ∀ H1, Ex H H1 → tWss X B D σ H1) : tWs X (.If c A B pos) D σ H := s_if hc (fun q => nomatch q) fun _ => h2
theorem s_ifT (hc : WT X c σ H true) (h2 : ∀ H1, Ex H H1 → tWss X A D σ H1) : tWs X (.If c A B pos) D σ H := s_if hc (fun _ => h2) (fun q => nomatch q)
/-- l.append(e) -/
theorem s_app {l : Addr} {ds : List PyData} {d : PyData} {apos : Pos} (ho : W X a σ H (fun v _ => v = .ref l)) (hl : LstAt X.K H l ds) (he : Wd X e σ H d) (n : noL d = true) (hz : ds.length < 100000)
    (k : ∀ H2, LstAt X.K H2 l (ds ++ [d]) → (∀ Hb, Ex Hb H → Hb l = none → Ex Hb H2) → D.nx σ H2) (hbase : attributeBase a "append" X.env (eval a X.env) = eval a X.env := by rfl)
    (hfew : ((backTo pos (starEach [e] X.env)).all (fun x => !x.1) && (backToKw pos (keywordEach [] X.env)).all (fun x => x.1.isSome)
      && decide (([e] : List Expr).length + ([] : List Keyword).length + (if ([] : List Keyword).isEmpty then 0 else 1) < 30)) = true := by rfl)
    (hline : (apos.endLine == pos.line) = true := by rfl) (hs : starEach [e] X.env = (false, eval e X.env) :: starEach [] X.env := by rfl) (hplain : (backTo pos (starEach [] X.env)).any (·.1) = false := by rfl)
    (hsw : swapsWith (.Call (.Attribute a "append" apos) [e] [] pos) none p.line X.env = pure false := by rfl) :
    tWs X (.Expr (.Call (.Attribute a "append" apos) [e] [] pos) p) D σ H := by
  refine s_of (ps_expr (pe_bm PySem.F.plainAttrs_list PySem.F.slot_list_append PySem.F.type_list_append mt_append wp_e wp_a hbase hfew hline hs hplain) hsw) ?_
  refine ho H (Ex.refl _) _ fun v H1 e1 hv => ?_
  subst hv
  obtain ⟨vs, h1, h2, h3⟩ := hl
  refine ⟨.inl ⟨rfl, _, sq_of (e1 _ _ h1)⟩, (wd_cons he wd_nil hs) H1 e1 _ fun us H2 e2 hus => ?_⟩
  obtain ⟨u, rfl, hu⟩ := dpa1 hus
  have e12 : Ex H H2 := e1.trans e2
  refine ⟨l, vs, u, rfl, rfl, e12 _ _ h1, ?_, k _ (LstAt.add (e12 _ _ h1) (h2.ex e12) h3 hu n) fun Hb eb nb => (eb.trans e12).mut nb⟩
  rw [h2.len]; exact sz_lt hz
/-- x, y = a, b with two local names -/
theorem s_par (i j : Nat) {x y : Str} {py pt pt2 : Pos} {kt k2 : Nat} {P2 : V → Hp → VP} (nd : X.N.Nodup) (hc : X.calm = true) (st : Stays P1) (ha : W X a σ H P1) (hb : ∀ v H1, Ex H H1 → P1 v H1 → W X b σ H1 (P2 v H1))
    (k : ∀ v u H1 H2, Ex H H1 → P1 v H1 → Ex H1 H2 → P2 v H1 u H2 → D.nx ((σ.set i (some v)).set j (some u)) H2) (hij : i ≠ j := by decide) (hi : X.N[i]? = some x := by rfl) (hj : X.N[j]? = some y := by rfl)
    (hx : X.env.scope.names.lookup x = some .local := by rfl) (hy : X.env.scope.names.lookup y = some .local := by rfl)
    (he : starEach [a, b] X.env = (false, eval a X.env) :: starEach [b] X.env := by rfl) (he2 : starEach [b] X.env = (false, eval b X.env) :: starEach [] X.env := by rfl)
    (hw : swappedStores [.Tuple [.Name x px, .Name y py] kt pt] (.Tuple [a, b] k2 pt2) X.env = pure (some [x, y]) := by rfl)
    (hs : swapsWithSole [.Tuple [.Name x px, .Name y py] kt pt] (.Tuple [a, b] k2 pt2) pos.line X.env = pure false := by rfl) :
    tWs X (.Assign [.Tuple [.Name x px, .Name y py] kt pt] (.Tuple [a, b] k2 pt2) pos) D σ H :=
  s_of (ps_par hc nd hi hj hij hx hy (pa_cons wp_e (pa_cons wp_e pa_nil he2) he) hw hs) (ha H (Ex.refl _) _ fun v H1 e1 p1 => (hb v H1 e1 p1) H1 (Ex.refl _) _ fun u H2 e2 p2 => ⟨v, u, rfl, k v u H1 H2 e1 p1 e2 p2⟩)
/-- target = e, the target read by g -/
theorem s_asg {tg : Expr} {g : TG} (hg : PG X tg g) (he : W X e σ H P) (k : ∀ v H1, Ex H H1 → P v H1 → g v σ H1 D.nx) (hs : swapsWithSole [tg] e pos.line X.env = pure false := by rfl) (hw : swappedStores [tg] e X.env = pure none := by rfl)
    (h1 : (assignEach [tg] X.env).map (·.2) = [assign tg X.env] := by rfl) : tWs X (.Assign [tg] e pos) D σ H :=
  s_of (ps_asg wp_e hg hs hw h1) (he H (Ex.refl _) _ k)
/-- x, y = e: a pair of data -/
theorem s_unp (i j : Nat) {x y : Str} {py pt : Pos} {kt : Nat} {d1 d2 : PyData} (nd : X.N.Nodup) (hc : X.calm = true) (he : Wd X e σ H (.tuple [d1, d2]))
    (k : ∀ v u H1, Ex H H1 → Dq X.K H1 v d1 → Dq X.K H1 u d2 → D.nx ((σ.set i (some v)).set j (some u)) H1) (hi : X.N[i]? = some x := by rfl) (hj : X.N[j]? = some y := by rfl)
    (hx : Loc X.env.scope x := by first | exact Or.inl rfl | exact Or.inr rfl) (hy : Loc X.env.scope y := by first | exact Or.inl rfl | exact Or.inr rfl)
    (hf : X.fn x = true ∨ X.env.scope.names.lookup x = some .local := by first | exact .inl rfl | exact .inr rfl) (hf2 : X.fn y = true ∨ X.env.scope.names.lookup y = some .local := by first | exact .inl rfl | exact .inr rfl)
    (hs1 : (assignEach [.Name x px, .Name y py] X.env).map (·.2) = assign (.Name x px) X.env :: (assignEach [.Name y py] X.env).map (·.2) := by rfl) (hs2 : (assignEach [.Name y py] X.env).map (·.2) = assign (.Name y py) X.env :: (assignEach [] X.env).map (·.2) := by rfl)
    (hn : (assignEach [.Name x px, .Name y py] X.env).length = 2 := by rfl) (hst : (assignEach [.Name x px, .Name y py] X.env).findIdx? (·.1) = none := by rfl)
    (hs : swapsWithSole [.Tuple [.Name x px, .Name y py] kt pt] e pos.line X.env = pure false := by rfl) (hw : swappedStores [.Tuple [.Name x px, .Name y py] kt pt] e X.env = pure none := by rfl)
    (h1 : (assignEach [.Tuple [.Name x px, .Name y py] kt pt] X.env).map (·.2) = [assign (.Tuple [.Name x px, .Name y py] kt pt) X.env] := by rfl) : tWs X (.Assign [.Tuple [.Name x px, .Name y py] kt pt] e pos) D σ H :=
  s_asg (pg_tup hc (pgs_cons (pg_name nd hi hx hf) (pgs_cons (pg_name nd hj hy hf2) pgs_nil hs2) hs1) hn hst) he (fun w H1 e1 hw' => by
    cases hw' with
    | tup h1 h2 =>
      obtain ⟨v, u, rfl, g1, g2⟩ := dpa2 h2
      exact ⟨_, _, rfl, h1.seq, rfl, v, [u], rfl, u, [], rfl, rfl, k v u H1 e1 g1 g2⟩) hs hw h1
/-- x, y = e: a list of two -/
theorem s_unl (i j : Nat) {x y : Str} {py pt : Pos} {kt : Nat} {d1 d2 : PyData} (nd : X.N.Nodup) (hc : X.calm = true) (he : Wd X e σ H (.list [d1, d2]))
    (k : ∀ v u H1, Ex H H1 → Dq X.K H1 v d1 → Dq X.K H1 u d2 → D.nx ((σ.set i (some v)).set j (some u)) H1) (hi : X.N[i]? = some x := by rfl) (hj : X.N[j]? = some y := by rfl)
    (hx : Loc X.env.scope x := by first | exact Or.inl rfl | exact Or.inr rfl) (hy : Loc X.env.scope y := by first | exact Or.inl rfl | exact Or.inr rfl)
    (hf : X.fn x = true ∨ X.env.scope.names.lookup x = some .local := by first | exact .inl rfl | exact .inr rfl) (hf2 : X.fn y = true ∨ X.env.scope.names.lookup y = some .local := by first | exact .inl rfl | exact .inr rfl)
    (hs1 : (assignEach [.Name x px, .Name y py] X.env).map (·.2) = assign (.Name x px) X.env :: (assignEach [.Name y py] X.env).map (·.2) := by rfl) (hs2 : (assignEach [.Name y py] X.env).map (·.2) = assign (.Name y py) X.env :: (assignEach [] X.env).map (·.2) := by rfl)
    (hn : (assignEach [.Name x px, .Name y py] X.env).length = 2 := by rfl) (hst : (assignEach [.Name x px, .Name y py] X.env).findIdx? (·.1) = none := by rfl)
    (hs : swapsWithSole [.Tuple [.Name x px, .Name y py] kt pt] e pos.line X.env = pure false := by rfl) (hw : swappedStores [.Tuple [.Name x px, .Name y py] kt pt] e X.env = pure none := by rfl)
    (h1 : (assignEach [.Tuple [.Name x px, .Name y py] kt pt] X.env).map (·.2) = [assign (.Tuple [.Name x px, .Name y py] kt pt) X.env] := by rfl) : tWs X (.Assign [.Tuple [.Name x px, .Name y py] kt pt] e pos) D σ H :=
  s_asg (pg_unl hc (pgs_cons (pg_name nd hi hx hf) (pgs_cons (pg_name nd hj hy hf2) pgs_nil hs2) hs1) hn hst) he (fun w H1 e1 hw' => by
    cases hw' with
    | lst h1 h2 =>
      obtain ⟨v, u, rfl, g1, g2⟩ := dpa2 h2
      exact ⟨_, _, rfl, h1, rfl, v, [u], rfl, u, [], rfl, rfl, k v u H1 e1 g1 g2⟩) hs hw h1

/-! ### for -/
abbrev nextD (D : Ends) (Pv : L2.St → Hp → Prop) : Ends := { D with nx := Pv, ct := Pv, bk := D.nx }
theorem s_forT (j : Nat) {x : Str} {ds : List PyData} (nd : X.N.Nodup) (hc : X.calm = true) (hi : Wd X iter σ H (.tuple ds))
    (k : ∀ H1, Ex H H1 → ∃ Pv : Nat → L2.St → Hp → Prop, Pv 0 σ H1 ∧ (∀ i σ' H', Pv i σ' H' → Ex H1 H') ∧ (∀ i v d σ' H', ds[i]? = some d → Dq X.K H' v d → Pv i σ' H' → tWss X body (nextD D (Pv (i + 1))) (σ'.set j (some v)) H') ∧ ∀ σ' H', Pv ds.length σ' H' → D.nx σ' H')
    (hj : X.N[j]? = some x := by rfl) (hx : Loc X.env.scope x := by first | exact Or.inl rfl | exact Or.inr rfl) (hp : PassesOwn (model X.prog X.w) X.A X.env X.xe := by exact PassesOwn.never) (hs : ∀ x, foldedSetIterable iter X.env x = pure x := by intro _; rfl)
    (hf : X.fn x = true ∨ X.env.scope.names.lookup x = some .local := by first | exact .inl rfl | exact .inr rfl) : tWs X (.For (.Name x px) iter body [] pos) D σ H :=
  s_of (ps_for hp hc (pi_tup wp_e) (pg_name nd hj hx hf) wp_ss hs) (hi H (Ex.refl _) _ fun v H1 e1 hv => by
    cases hv with
    | tup h1 h2 =>
      obtain ⟨Pv, p0, px, ps, pd⟩ := k H1 e1
      refine ⟨_, rfl, ⟨_, h1.seq⟩, for_tup Pv p0 (fun i σ' H' _ p => ex_t (px i σ' H' p) h1.seq) (fun i v σ' H' hv p => ?_) (fun σ' H' p => pd σ' H' (by rw [← h2.len]; exact p))⟩
      obtain ⟨d, q1, q2⟩ := h2.getV hv
      exact ps i v d σ' H' q1 (q2.ex (px i σ' H' p)) p)
theorem s_forL (j : Nat) {x : Str} {ds : List PyData} (nd : X.N.Nodup) (hc : X.calm = true) (hi : Wd X iter σ H (.list ds))
    (k : ∀ H1, Ex H H1 → ∃ Pv : Nat → L2.St → Hp → Prop, Pv 0 σ H1 ∧ (∀ i σ' H', Pv i σ' H' → Ex H1 H') ∧ (∀ i v d σ' H', ds[i]? = some d → Dq X.K H' v d → Pv i σ' H' → tWss X body (nextD D (Pv (i + 1))) (σ'.set j (some v)) H') ∧ ∀ σ' H', Pv ds.length σ' H' → D.nx σ' H')
    (hj : X.N[j]? = some x := by rfl) (hx : Loc X.env.scope x := by first | exact Or.inl rfl | exact Or.inr rfl) (hp : PassesOwn (model X.prog X.w) X.A X.env X.xe := by exact PassesOwn.never) (hs : ∀ x, foldedSetIterable iter X.env x = pure x := by intro _; rfl)
    (hf : X.fn x = true ∨ X.env.scope.names.lookup x = some .local := by first | exact .inl rfl | exact .inr rfl) : tWs X (.For (.Name x px) iter body [] pos) D σ H :=
  s_of (ps_for hp hc (pi_list wp_e) (pg_name nd hj hx hf) wp_ss hs) (hi H (Ex.refl _) _ fun v H1 e1 hv => by
    cases hv with
    | lst h1 h2 =>
      obtain ⟨Pv, p0, px, ps, pd⟩ := k H1 e1
      refine ⟨_, rfl, ⟨_, h1⟩, for_list Pv p0 (fun i σ' H' _ p => ex_l (px i σ' H' p) h1) (fun i v σ' H' hv p => ?_) (fun σ' H' p => pd σ' H' (by rw [← h2.len]; exact p))⟩
      obtain ⟨d, q1, q2⟩ := h2.getV hv
      exact ps i v d σ' H' q1 (q2.ex (px i σ' H' p)) p)
theorem s_forR1 (j : Nat) {x : Str} {n : Nat} (T : BT X.mg) (nd : X.N.Nodup) (hc : X.calm = true) (ha : Wd X a σ H (.int (n : Int))) (hn : n ≤ 100000)
    (k : ∀ H1, Ex H H1 → ∃ Pv : Nat → L2.St → Hp → Prop, Pv 0 σ H1 ∧ (∀ (i : Nat) σ' H', i < n → Pv i σ' H' → tWss X body (nextD D (Pv (i + 1))) (σ'.set j (some (.int (i : Int)))) H') ∧ ∀ σ' H', Pv n σ' H' → D.nx σ' H')
    (hj : X.N[j]? = some x := by rfl) (hx : Loc X.env.scope x := by first | exact Or.inl rfl | exact Or.inr rfl) (hp : PassesOwn (model X.prog X.w) X.A X.env X.xe := by exact PassesOwn.never) (hg : Gl X "range" := by rfl)
    (he : starEach [a] X.env = [(false, eval a X.env)] := by rfl) (hs : ∀ x, foldedSetIterable (.Call (.Name "range" p) [a] [] p2) X.env x = pure x := by intro _; rfl)
    (hf : X.fn x = true ∨ X.env.scope.names.lookup x = some .local := by first | exact .inl rfl | exact .inr rfl) : tWs X (.For (.Name x px) (.Call (.Name "range" p) [a] [] p2) body [] pos) D σ H :=
  s_of (ps_for hp hc (pi_range1 hg T.range (pa_cons wp_e pa_nil he) he) (pg_name nd hj hx hf) wp_ss hs) (ha H (Ex.refl _) _ fun v H1 e1 hv => by
    cases hv
    obtain ⟨Pv, p0, ps, pd⟩ := k H1 e1
    refine ⟨(n : Int), rfl, by omega, by omega, for_range (lo := 0) (n := (n : Int).toNat) Pv p0 (fun i σ' H' hi p => ?_) (fun σ' H' p => pd σ' H' p)⟩
    rw [Int.zero_add]
    exact ps i σ' H' (by omega) p)
theorem s_forR2 (j : Nat) {x : Str} {lo hi : Int} {n : Nat} (T : BT X.mg) (nd : X.N.Nodup) (hc : X.calm = true) (ha : Wd X a σ H (.int lo)) (hb : Wd X b σ H (.int hi)) (hn : n = (hi - lo).toNat) (h1 : -100000 ≤ lo ∧ lo ≤ 100000 ∧ -100000 ≤ hi ∧ hi ≤ 100000)
    (k : ∀ H1, Ex H H1 → ∃ Pv : Nat → L2.St → Hp → Prop, Pv 0 σ H1 ∧ (∀ (i : Nat) σ' H', i < n → Pv i σ' H' → tWss X body (nextD D (Pv (i + 1))) (σ'.set j (some (.int (lo + (i : Int))))) H') ∧ ∀ σ' H', Pv n σ' H' → D.nx σ' H')
    (hj : X.N[j]? = some x := by rfl) (hx : Loc X.env.scope x := by first | exact Or.inl rfl | exact Or.inr rfl) (hp : PassesOwn (model X.prog X.w) X.A X.env X.xe := by exact PassesOwn.never) (hg : Gl X "range" := by rfl)
    (he : starEach [a, b] X.env = [(false, eval a X.env), (false, eval b X.env)] := by rfl) (he2 : starEach [b] X.env = [(false, eval b X.env)] := by rfl) (hs : ∀ x, foldedSetIterable (.Call (.Name "range" p) [a, b] [] p2) X.env x = pure x := by intro _; rfl)
    (hf : X.fn x = true ∨ X.env.scope.names.lookup x = some .local := by first | exact .inl rfl | exact .inr rfl) : tWs X (.For (.Name x px) (.Call (.Name "range" p) [a, b] [] p2) body [] pos) D σ H :=
  s_of (ps_for hp hc (pi_range2 hg T.range (pa_cons wp_e (pa_cons wp_e pa_nil he2) (by rw [he, he2])) he he2) (pg_name nd hj hx hf) wp_ss hs) (ha H (Ex.refl _) _ fun v H1 e1 hv => hb H1 e1 _ fun u H2 e2 hu => by
    cases hv; cases hu
    obtain ⟨Pv, p0, ps, pd⟩ := k H2 (e1.trans e2)
    subst hn
    exact ⟨lo, hi, rfl, ⟨by omega, by omega, by omega, by omega⟩, for_range (lo := lo) Pv p0 (fun i σ' H' hi p => ps i σ' H' hi p) (fun σ' H' p => pd σ' H' p)⟩)
/-- range(lo, hi, 2) -/
theorem rgc2 {lo hi : Nat} (h1 : lo ≤ 1000) (h2 : hi ≤ 1000) : RgC (lo : Int) (hi : Int) 2 (cnt2 lo hi) := by
  have e : Builtin.Range.rangeSize (lo : Int) (hi : Int) 2 = (cnt2 lo hi : Int) := by
    unfold Builtin.Range.rangeSize cnt2
    by_cases h : lo < hi
    · rw [if_pos h, if_pos (by decide), if_pos (by omega)]
      omega
    · rw [if_neg h, if_pos (by decide), if_neg (by omega)]
      rfl
  have hc : cnt2 lo hi ≤ 1000 := by
    unfold cnt2
    split <;> omega
  refine ⟨by decide, by decide, ?_, e⟩
  unfold Builtin.Range.small Builtin.Range.rangeFitsLong
  rw [e, if_pos (by decide)]
  generalize cnt2 lo hi = n at hc
  have f : ∀ k : Nat, k ≤ 1001 → (decide (-(2 : Int) ^ 63 ≤ (k : Int)) && decide ((k : Int) < 2 ^ 63)) = true := fun k hk => by
    rw [decide_eq_true (by omega), decide_eq_true (by omega)]; rfl
  rw [f lo (by omega), f hi (by omega), f n (by omega), show (hi : Int) + (2 - 1) = ((hi + 1 : Nat) : Int) by omega, f (hi + 1) (by omega), Bool.or_true]
  rfl
end
end FW
set_option maxRecDepth 100000
set_option maxHeartbeats 4000000
/-! W5: enumerate over tuples and texts, more loops. -/
namespace PySem
open Sem (wp)
theorem meets_enumerate_newBk {v : Value} {o : Obj} {H : Heap → Prop} (B : Begins v o H) :
    Meets (Builtin.«enumerate.__new__» ⟨[.type "enumerate", v], []⟩) (fun _ R s => H s.heap ∧
      R (.ok (.ret (.ref (s.heap.push o).objs.size))) { s with heap := (s.heap.push o).push { cls := .type "enumerate", data := .fields #[.none, .bool false, .ref s.heap.objs.size, rawInt 0, .none, .none] } }) :=
  .of_wp fun prog w A R s h => by
    obtain ⟨hp, g, d, tk, os⟩ := s; obtain ⟨h1, h⟩ := h
    have hsub := sub_enumerate
    have q1 : ∀ {A' : Around} {E : Value → Shared → Prop} {Q : Value → Shared → Prop}, Q (.ref hp.objs.size) ⟨hp.push o, g, d, tk, os⟩ → wpAny (model prog w) A' (pyIter v) Q E ⟨hp, g, d, tk, os⟩ :=
      fun q => B.iter prog w _ _ ⟨hp, g, d, tk, os⟩ _ h1 q
    wp_walk using q1
    refine wpAny_stack_any fun st => wpAny_pure ?_
    split
    · rename_i c _ _ _ _ _
      cases (c == Value.type "enumerate")
      · wp_walk using q1
        exact ⟨_, rfl, h⟩
      · wp_walk using q1
        exact ⟨_, rfl, h⟩
    · wp_walk using q1
      exact ⟨_, rfl, h⟩
theorem enum_beginsK {prog : Program} {w : World} {A : Around} {E : Value → Shared → Prop} {s : Shared} {v : Value} {o : Obj} {H : Heap → Prop} {Q : Value → Shared → Prop} (B : Begins v o H) (h1 : H s.heap)
    (h : ∀ h', IsEnum h' (s.heap.objs.size + 1) s.heap.objs.size 0 .none → h'.get? s.heap.objs.size = some o → h'.objs.size = s.heap.objs.size + 2 →
      (∀ b o, s.heap.get? b = some o → h'.get? b = some o) → Q (.ref (s.heap.objs.size + 1)) { s with heap := h' }) :
    wpAny (model prog w) A (call (.type "enumerate") [v]) Q E s := by
  refine callType_new F.called_enumerate (by decide) (F.typeCall_enumerate_1 _) (F.newCall_enumerate_1 _) (fun obj => F.args_object_init_2 obj _) F.entry_enumerate_new
    (meets_enumerate_newBk B) ⟨h1, ?_⟩
  have hz : (s.heap.push o).objs.size = s.heap.objs.size + 1 := Heap.size_push ..
  show _ ∧ _
  rw [hz]
  have he : IsEnum ((s.heap.push o).push { cls := .type "enumerate", data := .fields #[.none, .bool false, .ref s.heap.objs.size, rawInt 0, .none, .none] }) (s.heap.objs.size + 1) s.heap.objs.size 0 .none := by
    have := Heap.get?_push_size (s.heap.push o) (o := { cls := .type "enumerate", data := .fields #[.none, .bool false, .ref s.heap.objs.size, rawInt 0, .none, .none] }) rfl
    rw [hz] at this; exact this
  refine ⟨⟨_, he, rfl⟩, h _ he (Heap.get?_push_of_some _ (Heap.get?_push_size _ B.free)) (by rw [Heap.size_push, hz]) fun b o x => Heap.get?_push_of_some _ (Heap.get?_push_of_some _ x)⟩
end PySem
namespace FW
open PySem PySem.Spec PyProof.Rows L2 Evl
/-- what an enumerate yields: item i by a function of what stands -/
def IteG (n : Nat) (G : Hp → Prop) (item : Nat → V → Prop) : It :=
  ⟨fun i H => i < n ∧ G H, fun i H v H' => ∃ T x, v = .ref T ∧ H T = none ∧ H' = upd H T (.tup [.int (i : Nat), x]) ∧ item i x, fun i H => i = n ∧ G H⟩
/-- an enumerate over what is drawn -/
theorem turn_enumG {P : Program} {w : World} {K : PySem.W.Frag} {elts : List Expr} {kk : Nat} {tpos : Pos} {e it : Addr} {n : Nat} {G : Hp → Prop} {item : Nat → V → Prop} {fp : List Addr} {Pi : Nat → Value → Prop} {St : Nat → Heap → Prop} {tn : Nat → Heap → Prop}
    (hne : e ≠ it)
    (D : ∀ A : Around, A.handled = none → Draws P w A.in1 it fp n Pi St)
    (hst : ∀ X : Cx, X.prog = P → X.w = w → X.K = K → ∀ i pins s σ H, Inv X pins σ H s → G H → (∃ old, IsEnum s.heap e it ((i : Nat) : Int) old) → tn i s.heap → St i s.heap ∧ e ∉ fp)
    (hback : ∀ i h h', St i h → (∀ b o, h.get? b = some o → b ≠ e → h'.get? b = some o) → tn i h')
    (hit : ∀ i u, Pi i u → ∃ x, RelV x u ∧ item i x)
    (htn : ∀ i h, tn i h → ∃ o, h.get? it = some o ∧ ∀ v, o.data ≠ .cell v)
    (hkp : ∀ i h h', tn i h → (∀ o, h.get? it = some o → h'.get? it = some o) → tn i h') :
    Turn P w K (.Tuple elts kk tpos) (IteG n G item) [e, it] e (fun i h => (∃ old, IsEnum h e it ((i : Nat) : Int) old) ∧ tn i h) where
  mem := by simp
  obj := fun i h st b hb => by
    obtain ⟨⟨old, he⟩, hi⟩ := st
    have e' : b = e ∨ b = it := by simpa using hb
    rcases e' with z | z
    · rw [z]; exact ⟨_, he, fun v q => nomatch q⟩
    · rw [z]; exact htn i h hi
  keep := fun i h h' st k => let ⟨⟨old, he⟩, hi⟩ := st; ⟨⟨old, k e (by simp) _ he⟩, hkp i h h' hi fun o q => k it (by simp) o q⟩
  item := by
    intro X hP hw hK hc i pins s σ H E I hf st hg
    have hS := (hst X hP hw hK i pins s σ H I hg.2 st.1 st.2)
    subst hP hw hK
    obtain ⟨⟨old, he⟩, hi⟩ := st
    obtain ⟨hs1, hef⟩ := hS
    have hel : e < s.heap.objs.size := Heap.lt_size he
    have hil : it < s.heap.objs.size := by obtain ⟨_, q, _⟩ := htn i _ hi; exact Heap.lt_size q
    refine wpAny_pyNext_enum_itemD (D X.A (I.ok.hd hc)) he hs1 hg.1 hne hef fun u h' tk hu ho hst' hT hsz hk => ?_
    refine ⟨_, rfl, wpAny_letOwnedTupleGo_enum (s := { s with heap := h', toks := tk + 1 }) ho fun h'' he' sb => ?_⟩
    obtain ⟨x, ru, hx⟩ := hit i u hu
    have hT2 : h''.get? s.heap.objs.size = some { cls := .type "tuple", data := .seq #[.int i tk, u] } := (sb.2 _ (Nat.ne_of_gt hel)).trans hT
    have new : ObjOk X.prog X.w (upd H s.heap.objs.size (.tup [.int (i : Nat), x])) h'' s.heap.objs.size (.tup [.int (i : Nat), x]) :=
      ⟨by show 2 ≤ sizeLine; decide, [.int i tk, u], .cons ⟨_, rfl⟩ (.cons ru .nil), ⟨_, hT2, rfl, _, rfl⟩⟩
    have I1 : Inv X pins σ (upd H s.heap.objs.size (.tup [.int (i : Nat), x])) { s with heap := h'', toks := tk + 1 } :=
      I.turnedNew (ch := [e, it]) (fun b ob hb q => (sb.2 b (fun z => hb (by simp [z]))).trans (hk b ob (fun z => hb (by simp [z])) (fun z => hb (by simp [z])) q)) hf (Nat.le_refl _) new
    refine ⟨.ref s.heap.objs.size, _, I1, rfl, ⟨_, x, rfl, I.hok.fresh (Nat.le_refl _), rfl, hx⟩, ⟨⟨u, ?_⟩, hback (i + 1) _ _ hst' fun b o q nb => (sb.2 b nb).trans q⟩, fun b hb => ?_⟩
    · have e1 : ((i + 1 : Nat) : Int) = (i : Int) + 1 := by omega
      rw [e1]; exact he'
    · have hb' : b < s.heap.objs.size := by
        have e' : b = e ∨ b = it := by simpa using hb
        rcases e' with z | z
        · rw [z]; exact hel
        · rw [z]; exact hil
      rw [upd_ne (Nat.ne_of_lt hb')]
      exact (hf b hb).1
  done := by
    intro X hP hw hK hc i pins s σ H E I hf st hg
    have hS := (hst X hP hw hK i pins s σ H I hg.2 st.1 st.2)
    subst hP hw hK
    obtain ⟨⟨old, he⟩, hi⟩ := st
    obtain ⟨f0, f1, f2, f3, f4, f5⟩ := hf it (by simp)
    obtain ⟨rfl, _⟩ := hg
    exact wpAny_pyNext_enum_endD (D X.A (I.ok.hd hc)) he hS.1 fun h' eb => ⟨rfl, I.turned (t' := s.toks) (fun b o hb q => eb b o hb q) f0 f1 f3 f4 f5⟩
  self := fun A i s Q E st h => let ⟨⟨_, he⟩, _⟩ := st; wpAny_pyIter_enum he h
theorem turn_enumT {P : Program} {w : World} {K : PySem.W.Frag} {elts : List Expr} {kk : Nat} {tpos : Pos} {a e it : Addr} {xs : List V} {o : Obj} {its : List Value} {nn : Nat} (hne : e ≠ it) (hai : a ≠ it) (rv : Vals xs its) (hc : o.cls = .type "tuple") (hd : o.data = .seq its.toArray nn) :
    Turn P w K (.Tuple elts kk tpos) (IteG xs.length (fun H => H a = some (.frz o (.tup xs))) (fun i x => xs[i]? = some x)) [e, it] e (fun i h => (∃ old, IsEnum h e it ((i : Nat) : Int) old) ∧ h.IsTupleIter it a i) := by
  have hl : its.toArray.size = xs.length := by rw [List.size_toArray]; exact rv.length.symm
  refine turn_enumG (n := xs.length) (fp := [it, a]) (Pi := fun i v => its.toArray[i]? = some v) (St := fun i h => h.IsTupleIter it a i ∧ h.IsTuple a its.toArray) hne (fun A hh => ?_) (fun X _ _ _ i pins s σ H I g ho hi => ?_) (fun i h h' st k => ?_) (fun i u hu => ?_) (fun i h hi => ?_) (fun i h h' hi k => ?_)
  · rw [← hl]
    exact Draws.tuple (A := A.in1) (show A.in1.handled = none from hh) it a hai its.toArray
  · obtain ⟨g1, g2⟩ := (show ObjOk X.prog X.w H s.heap a (.frz o (.tup xs)) from I.hok a _ g)
    refine ⟨⟨hi, ⟨o, g1, hc, nn, hd⟩⟩, fun hm => ?_⟩
    obtain ⟨old, ho⟩ := ho
    have hm' : e = it ∨ e = a := by simpa using hm
    rcases hm' with z | z
    · exact hne z
    · have ho' : s.heap.get? e = some { cls := .type "enumerate", data := .fields #[.none, .bool false, .ref it, rawInt ((i : Nat) : Int), .none, old] } := ho
      rw [z, g1] at ho'
      have hc2 := congrArg (fun o : Option Obj => o.map (·.cls)) ho'
      simp [hc] at hc2
  · exact st.1.at fun o' q => k it o' q (Ne.symm hne)
  · have hu' : its[i]? = some u := by simpa using hu
    have hi : i < xs.length := by rw [rv.length]; exact (List.getElem?_eq_some_iff.mp hu').1
    obtain ⟨u2, h1, h2⟩ := rv.get (List.getElem?_eq_getElem hi)
    rw [hu'] at h1
    cases h1
    exact ⟨_, h2, List.getElem?_eq_getElem hi⟩
  · obtain ⟨o', q, c, d⟩ := hi
    exact ⟨o', q, fun v z => by rw [d] at z; cases z⟩
  · exact hi.at fun o' q => k o' q
theorem turn_enumS {P : Program} {w : World} {K : PySem.W.Frag} {elts : List Expr} {kk : Nat} {tpos : Pos} {e it : Addr} {x : Str} {t : Tok} (hne : e ≠ it) :
    Turn P w K (.Tuple elts kk tpos) (IteG x.cps.size (fun _ => True) (fun i v => ∃ c, x.cps[i]? = some c ∧ v = .str ⟨#[c]⟩)) [e, it] e (fun i h => (∃ old, IsEnum h e it ((i : Nat) : Int) old) ∧ h.IsStrIter it (strIterType x) x t i) := by
  refine turn_enumG (fp := [it]) (Pi := fun i v => ∃ c u, x.cps[i]? = some c ∧ v = .str ⟨#[c]⟩ u) (St := fun i h => h.IsStrIter it (strIterType x) x t i) hne (fun A hh => ?_) (fun X _ _ _ i pins s σ H I g ho hi => ?_) (fun i h h' st k => ?_) (fun i u hu => ?_) (fun i h hi => ?_) (fun i h h' hi k => ?_)
  · exact Draws.text (A := A.in1) (show A.in1.handled = none from hh) it x t
  · exact ⟨hi, fun hm => hne (by simpa using hm)⟩
  · obtain ⟨o', q, c, d⟩ := st
    exact ⟨o', k it o' q (Ne.symm hne), c, d⟩
  · obtain ⟨c, u', h1, h2⟩ := hu
    exact ⟨.str ⟨#[c]⟩, ⟨u', h2⟩, c, h1, rfl⟩
  · obtain ⟨o', q, c, d⟩ := hi
    exact ⟨o', q, fun v z => by rw [d] at z; cases z⟩
  · obtain ⟨o', q, c, d⟩ := hi
    exact ⟨o', k o' q, c, d⟩
section
variable {X : Cx} {e : Expr} {p pos tpos : Pos} {elts : List Expr} {kk : Nat} {te : TE}
/-- enumerate of a plain tuple -/
def iEnumT (ta : TA) : TI := fun σ H R => ta σ H fun vs H1 => ∃ a xs o, vs = [.ref a] ∧ H1 a = some (.frz o (.tup xs)) ∧ R (IteG xs.length (fun H => H a = some (.frz o (.tup xs))) (fun i x => xs[i]? = some x)) H1
theorem pi_enumT {ta : TA} (hg : Gl X "enumerate") (hm : X.mg "enumerate" = none) (ha : PA X [e] ta) (hs : starEach [e] X.env = [(false, eval e X.env)] := by rfl) : PI X (.Tuple elts kk tpos) (.Call (.Name "enumerate" p) [e] [] pos) (iEnumT ta) := by
  refine ⟨fun pins s σ H R I h => ?_⟩
  refine Call_ (ld_blt I hg hm boot_enumerate (PyProof.Rows.callWith_type1 (thn (ha.run pos pins s σ H _ I h) fun us s1 ⟨vs, H1, I1, r1, q1⟩ => ?_) hs rfl))
  obtain ⟨a, xs, o, rfl, hq, q⟩ := q1
  cases r1 with
  | cons r rr =>
      cases rr
      cases r
      obtain ⟨g1, _, its, rv, ⟨o', g2, hc, nn, hd⟩⟩ := (show ObjOk X.prog X.w H1 s1.heap a (.frz o (.tup xs)) from I1.hok a _ hq)
      rw [g1] at g2
      cases g2
      have ha : a < s1.heap.objs.size := Heap.lt_size g1
      refine enum_beginsK (begins_tuple a its.toArray) ⟨o, g1, hc, nn, hd⟩ fun h' he' hit hsz hk => wpAny_pyIter_enum he' ?_
      have I2 : Inv X pins σ H1 { s1 with heap := h' } := I1.kept (t' := s1.toks) hk
      refine ⟨s1.heap.objs.size + 1, [s1.heap.objs.size + 1, s1.heap.objs.size], _, _, H1, rfl, I2, turn_enumT (Nat.succ_ne_self _) (Nat.ne_of_lt ha) rv hc hd, ⟨⟨.none, he'⟩, ⟨_, hit, rfl, rfl⟩⟩, fun b hb => ?_, q⟩
      have e' : b = s1.heap.objs.size + 1 ∨ b = s1.heap.objs.size := by simpa using hb
      have hle : s1.heap.objs.size ≤ b := by
        rcases e' with z | z
        · rw [z]; exact Nat.le_add_right _ _
        · rw [z]; exact Nat.le_refl _
      exact I1.fpOk hle (I1.hok.fresh hle)
/-- enumerate of a text -/
def iEnumS (ta : TA) : TI := fun σ H R => ta σ H fun vs H1 => ∃ x, vs = [.str x] ∧ R (IteG x.cps.size (fun _ => True) (fun i v => ∃ c, x.cps[i]? = some c ∧ v = .str ⟨#[c]⟩)) H1
theorem pi_enumS {ta : TA} (hg : Gl X "enumerate") (hm : X.mg "enumerate" = none) (ha : PA X [e] ta) (hs : starEach [e] X.env = [(false, eval e X.env)] := by rfl) : PI X (.Tuple elts kk tpos) (.Call (.Name "enumerate" p) [e] [] pos) (iEnumS ta) := by
  refine ⟨fun pins s σ H R I h => ?_⟩
  refine Call_ (ld_blt I hg hm boot_enumerate (PyProof.Rows.callWith_type1 (thn (ha.run pos pins s σ H _ I h) fun us s1 ⟨vs, H1, I1, r1, q1⟩ => ?_) hs rfl))
  obtain ⟨x, rfl, q⟩ := q1
  cases r1 with
  | cons r rr =>
      cases rr
      obtain ⟨t, rfl⟩ := r
      refine enum_beginsK (begins_text x t) trivial fun h' he' hit hsz hk => wpAny_pyIter_enum he' ?_
      have I2 : Inv X pins σ H1 { s1 with heap := h' } := I1.kept (t' := s1.toks) hk
      refine ⟨s1.heap.objs.size + 1, [s1.heap.objs.size + 1, s1.heap.objs.size], _, _, H1, rfl, I2, turn_enumS (x := x) (t := t) (Nat.succ_ne_self _), ⟨⟨.none, he'⟩, ⟨_, hit, rfl, rfl⟩⟩, fun b hb => ?_, q⟩
      have e' : b = s1.heap.objs.size + 1 ∨ b = s1.heap.objs.size := by simpa using hb
      have hle : s1.heap.objs.size ≤ b := by
        rcases e' with z | z
        · rw [z]; exact Nat.le_add_right _ _
        · rw [z]; exact Nat.le_refl _
      exact I1.fpOk hle (I1.hok.fresh hle)
end
/-- the turns of an enumerate, for the for loop -/
theorem for_enumG {n : Nat} {G : Hp → Prop} {item : Nat → V → Prop} {g : TG} {tb : TS} {D : Ends} {σ : L2.St} {H : Hp} (Pv : Nat → L2.St → Hp → Prop) (h0 : Pv 0 σ H) (hG : ∀ i σ H, Pv i σ H → G H)
    (hs : ∀ i x T σ H, i < n → item i x → Pv i σ H → H T = none → g (.ref T) σ (upd H T (.tup [.int (i : Nat), x])) fun σ2 H2 => tb { D with nx := Pv (i + 1), ct := Pv (i + 1), bk := D.nx } σ2 H2) (hd : ∀ σ H, Pv n σ H → D.nx σ H) :
    ∃ W : Nat → Nat → L2.St → Hp → Prop, (∃ m, W 0 m σ H) ∧ ∀ i m σ H, W i m σ H →
      ((IteG n G item).stop i H ∧ D.nx σ H) ∨ ((IteG n G item).go i H ∧ ∃ N : L2.St → Hp → Prop, (∀ σ' H', N σ' H' → ∃ m', m' < m ∧ W (i + 1) m' σ' H') ∧ ∀ x H', (IteG n G item).yld i H x H' → g x σ H' fun σ2 H2 => tb { D with nx := N, ct := N, bk := D.nx } σ2 H2) := by
  refine ⟨fun i m σ H => m = n - i ∧ i ≤ n ∧ Pv i σ H, ⟨n, by simp, Nat.zero_le _, h0⟩, ?_⟩
  rintro i m σ H ⟨rfl, hi, p⟩
  by_cases hlt : i < n
  · refine .inr ⟨⟨hlt, hG i σ H p⟩, Pv (i + 1), fun σ' H' p' => ⟨n - (i + 1), by omega, rfl, hlt, p'⟩, fun x H' y => ?_⟩
    obtain ⟨T, v, rfl, hT, rfl, hv⟩ := y
    exact hs i v T σ H hlt hv p hT
  · have e : i = n := by omega
    subst e
    exact .inl ⟨⟨rfl, hG _ σ H p⟩, hd σ H p⟩
end FW
set_option maxRecDepth 100000
set_option maxHeartbeats 4000000
/-! W6: what is walked, told by data; comprehensions, for over it. -/
namespace FW
open PySem PySem.Spec PyProof.Rows L2 Evl
section
variable {K : PySem.W.Frag} {α : Type}
/-- the i-th of the items, as data -/
def YD (K : PySem.W.Frag) (as : List α) (ι : α → PyData) : Nat → Hp → V → Hp → Prop := fun i H x H' => H' = H ∧ ∃ a, as[i]? = some a ∧ Dq K H x (ι a)
theorem walkL {H2 : Hp} {a : Addr} {xs : List V} {as : List α} {ι : α → PyData} (h1 : SqL K H2 a xs) (h2 : DqAll K H2 xs (as.map ι)) : Walk (Itl K a) as.length (Ex H2) (YD K as ι) := by
  have hl : xs.length = as.length := by rw [h2.len, List.length_map]
  have w := walk_list (K := K) (a := a) (xs := xs)
  rw [hl] at w
  refine w.mono (fun H e => ex_l e h1) fun i H x H' hi e y => ?_
  obtain ⟨rfl, hx⟩ := y
  obtain ⟨d, q1, q2⟩ := h2.getV hx
  rw [List.getElem?_map] at q1
  obtain ⟨z, q3, rfl⟩ := Option.map_eq_some_iff.mp q1
  exact ⟨rfl, z, q3, q2.ex e⟩
theorem walkT {H2 : Hp} {a : Addr} {xs : List V} {as : List α} {ι : α → PyData} (h1 : SqT K H2 a xs) (h2 : DqAll K H2 xs (as.map ι)) : Walk (Itt K a) as.length (Ex H2) (YD K as ι) := by
  have hl : xs.length = as.length := by rw [h2.len, List.length_map]
  have w := walk_tup (K := K) (a := a) (xs := xs)
  rw [hl] at w
  refine w.mono (fun H e => ex_t e h1) fun i H x H' hi e y => ?_
  obtain ⟨rfl, hx⟩ := y
  obtain ⟨d, q1, q2⟩ := h2.getV hx
  rw [List.getElem?_map] at q1
  obtain ⟨z, q3, rfl⟩ := Option.map_eq_some_iff.mp q1
  exact ⟨rfl, z, q3, q2.ex e⟩
theorem walkR {H2 : Hp} {n : Nat} : Walk (Itr 0 n) (List.range n).length (Ex H2) (YD K (List.range n) (fun i => .int (i : Int))) := by
  have w := walk_range (lo := 0) (n := n)
  rw [show n = (List.range n).length by rw [List.length_range]] at w
  rw [List.length_range] at w ⊢
  refine w.mono (fun H e => trivial) fun i H x H' hi e y => ?_
  obtain ⟨rfl, rfl⟩ := y
  refine ⟨rfl, i, by simp [hi], ?_⟩
  show Dq K _ (V.int (0 + ((i : Nat) : Int))) (PyData.int (i : Int))
  rw [Int.zero_add]
  exact .int _
theorem walkR3 {H2 : Hp} {lo n : Nat} : Walk (Itc lo 2 n) ((List.range n).map (fun i => lo + 2 * i)).length (Ex H2) (YD K ((List.range n).map (fun i => lo + 2 * i)) (fun i => .int (i : Int))) := by
  have w := walk_rangeC (lo := (lo : Int)) (c := 2) (n := n)
  rw [List.length_map, List.length_range]
  refine w.mono (fun H e => trivial) fun i H x H' hi e y => ?_
  obtain ⟨rfl, rfl⟩ := y
  refine ⟨rfl, lo + 2 * i, by simp [hi], ?_⟩
  show Dq K _ (V.int ((lo : Int) + ((i : Nat) : Int) * 2)) (PyData.int ((lo + 2 * i : Nat) : Int))
  rw [show ((lo : Int) + ((i : Nat) : Int) * 2) = ((lo + 2 * i : Nat) : Int) by omega]
  exact .int _
theorem walkS {H2 : Hp} {x : Str} : Walk (Its x) x.cps.toList.length (Ex H2) (YD K x.cps.toList (fun c => .str ⟨#[c]⟩)) := by
  have w := walk_str (z := x)
  rw [show x.cps.size = x.cps.toList.length by simp] at w
  refine w.mono (fun H e => trivial) fun i H y H' hi e hy => ?_
  obtain ⟨rfl, c, hc, rfl⟩ := hy
  exact ⟨rfl, c, by simpa using hc, .str _⟩
end
/-- what iter gives, walked -/
def Src (X : Cx) (tg iter : Expr) (σ : L2.St) (H : Hp) {α : Type} (as : List α) (ι : α → PyData) : Prop :=
  ∃ wi : TI, PI X tg iter wi ∧ ∀ H1, Ex H H1 → ∀ R : It → Hp → Prop, (∀ J H2, Ex H1 H2 → Walk J as.length (Ex H2) (YD X.K as ι) → R J H2) → wi σ H1 R
section
variable {X : Cx} {σ : L2.St} {H H' : Hp} {P : VP} {a b c d e iter elt tg : Expr} {pos p p2 px spos : Pos} {D : Ends} {body : List Stmt} {α : Type} {as : List α} {ι : α → PyData}
theorem src_list (h : Wd X iter σ H (.list (as.map ι))) : Src X tg iter σ H as ι := ⟨_, pi_list wp_e, fun H1 e1 R k => h H1 e1 _ fun v H2 e2 hv => by
  cases hv with
  | lst h1 h2 => exact ⟨_, rfl, ⟨_, h1⟩, k _ H2 e2 (walkL h1 h2)⟩⟩
theorem src_tup (h : Wd X iter σ H (.tuple (as.map ι))) : Src X tg iter σ H as ι := ⟨_, pi_tup wp_e, fun H1 e1 R k => h H1 e1 _ fun v H2 e2 hv => by
  cases hv with
  | tup h1 h2 => exact ⟨_, rfl, ⟨_, h1.seq⟩, k _ H2 e2 (walkT h1.seq h2)⟩⟩
theorem src_str {x : Str} (h : Wd X iter σ H (.str x)) : Src X tg iter σ H x.cps.toList (fun c => .str ⟨#[c]⟩) := ⟨_, pi_str wp_e, fun H1 e1 R k => h H1 e1 _ fun v H2 e2 hv => by
  cases hv
  exact ⟨x, rfl, k _ H2 e2 walkS⟩⟩
theorem src_rng {n : Nat} (T : BT X.mg) (h : Wd X a σ H (.int (n : Int))) (hn : n ≤ 100000) (hg : Gl X "range" := by rfl) (he : starEach [a] X.env = [(false, eval a X.env)] := by rfl) : Src X tg (.Call (.Name "range" p) [a] [] p2) σ H (List.range n) (fun i => .int (i : Int)) :=
  ⟨_, pi_range1 hg T.range (pa_cons wp_e pa_nil he) he, fun H1 e1 R k => h H1 e1 _ fun v H2 e2 hv => by
    cases hv
    exact ⟨(n : Int), rfl, by omega, by omega, k _ H2 e2 walkR⟩⟩
theorem src_rng3 {lo hi : Nat} (T : BT X.mg) (ha : Wd X a σ H (.int (lo : Int))) (hb : Wd X b σ H (.int (hi : Int))) (hc : Wd X c σ H (.int 2)) (h1 : lo ≤ 1000) (h2 : hi ≤ 1000) (hg : Gl X "range" := by rfl)
    (he : starEach [a, b, c] X.env = (false, eval a X.env) :: starEach [b, c] X.env := by rfl) (he2 : starEach [b, c] X.env = (false, eval b X.env) :: starEach [c] X.env := by rfl) (he3 : starEach [c] X.env = (false, eval c X.env) :: starEach [] X.env := by rfl)
    (hpl : (backTo p2 (starEach [b, c] X.env)).any (·.1) = false := by rfl) : Src X tg (.Call (.Name "range" p) [a, b, c] [] p2) σ H ((List.range (cnt2 lo hi)).map (fun i => lo + 2 * i)) (fun i => .int (i : Int)) :=
  ⟨_, pi_range3 hg T.range (pa_cons wp_e (pa_cons wp_e (pa_cons wp_e pa_nil he3) he2) he) he hpl, fun H1 e1 R k => ha H1 e1 _ fun v H2 e2 hv => hb H2 (e1.trans e2) _ fun u H3 e3 hu => hc H3 (e1.trans (e2.trans e3)) _ fun w H4 e4 hw => by
    cases hv; cases hu; cases hw
    exact ⟨_, _, _, _, rfl, rgc2 h1 h2, k _ H4 (e2.trans (e3.trans e4)) walkR3⟩⟩
/-- for name in it -/
theorem s_forS (j : Nat) {x : Str} (nd : X.N.Nodup) (hc : X.calm = true) (hi : Src X (.Name x px) iter σ H as ι)
    (k : ∀ H1, Ex H H1 → ∃ Pv : Nat → L2.St → Hp → Prop, Pv 0 σ H1 ∧ (∀ i σ' H', Pv i σ' H' → Ex H1 H') ∧ (∀ i v a σ' H', as[i]? = some a → Dq X.K H' v (ι a) → Pv i σ' H' → tWss X body (nextD D (Pv (i + 1))) (σ'.set j (some v)) H') ∧ ∀ σ' H', Pv as.length σ' H' → D.nx σ' H')
    (hj : X.N[j]? = some x := by rfl) (hx : Loc X.env.scope x := by first | exact Or.inl rfl | exact Or.inr rfl) (hp : PassesOwn (model X.prog X.w) X.A X.env X.xe := by exact PassesOwn.never) (hs : ∀ x, foldedSetIterable iter X.env x = pure x := by intro _; rfl)
    (hf : X.fn x = true ∨ X.env.scope.names.lookup x = some .local := by first | exact .inl rfl | exact .inr rfl) : tWs X (.For (.Name x px) iter body [] pos) D σ H := by
  obtain ⟨wi, h1, h2⟩ := hi
  refine s_of (ps_for hp hc h1 (pg_name nd hj hx hf) wp_ss hs) (h2 H (Ex.refl _) _ fun J H2 e2 w => ?_)
  obtain ⟨Pv, p0, px, ps, pd⟩ := k H2 e2
  refine for_it w Pv p0 (fun i σ' H' _ p => px i σ' H' p) (fun i v σ' H' H3 hi p y => ?_) pd
  obtain ⟨rfl, a, q1, q2⟩ := y
  exact ps i v a σ' _ q1 q2 p

/-! ### comprehensions -/
/-- the element's and the test's readings in the block, whatever the block -/
def tBe (X : Cx) (scope : Scope) (e : Expr) : TE := fun σ H Q => ∀ (s : Shared) (H0 : Hp) (C : Addr) (cl : List (Str × Addr)) (fp : List Addr), tWp (X.blk s H0 scope (compEnvC scope cl C X.env) fp) e σ H Q
def tBt (X : Cx) (scope : Scope) (e : Expr) : TT := fun σ H Q => ∀ (s : Shared) (H0 : Hp) (C : Addr) (cl : List (Str × Addr)) (fp : List Addr), tWt (X.blk s H0 scope (compEnvC scope cl C X.env) fp) e σ H Q
theorem take_fm {f : α → Bool} {g : α → PyData} {i : Nat} {a : α} (h : as[i]? = some a) : ((as.take (i + 1)).filter f).map g = ((as.take i).filter f).map g ++ (if f a = true then [g a] else []) := by
  rw [List.take_add_one, h, List.filter_append, List.map_append]
  congr 1
  show List.map g (List.filter f [a]) = _
  by_cases q : f a = true
  · rw [if_pos q, List.filter_cons_of_pos q]; rfl
  · rw [if_neg q, List.filter_cons_of_neg (by simpa using q)]; rfl
/-- the reading of a comprehension -/
theorem lc_read {wi : TI} {f : α → Bool} {g : α → PyData} {tt : TT} {te : TE} {j : Nat} {vs : List Nat} (hw : ∀ v, wipe ((wipe σ vs).set j (some v)) vs = wipe σ vs) (hz : as.length ≤ 40000) (hn : ∀ a ∈ as, noL (g a) = true)
    (h2 : ∀ H1, Ex H H1 → ∀ R : It → Hp → Prop, (∀ J H2, Ex H1 H2 → Walk J as.length (Ex H2) (YD X.K as ι) → R J H2) → wi σ H1 R)
    (ht : ∀ a ∈ as, ∀ v H1, Ex H H1 → Dq X.K H1 v (ι a) → ∀ H2, Ex H1 H2 → ∀ Q : Bool → Hp → Prop, (∀ H3, Ex H2 H3 → Q (f a) H3) → tt ((wipe σ vs).set j (some v)) H2 Q)
    (he : ∀ a ∈ as, f a = true → ∀ v H1, Ex H H1 → Dq X.K H1 v (ι a) → ∀ H2, Ex H1 H2 → ∀ Q : VK, (∀ u H3, Ex H2 H3 → Dq X.K H3 u (g a) → Q u H3) → te ((wipe σ vs).set j (some v)) H2 Q)
    (H1 : Hp) (e1 : Ex H H1) (Q : VK) (k : ∀ v H2, Ex H1 H2 → newL X H ((as.filter f).map g) v H2 → Q v H2) : tLc wi (gName j) tt te vs σ H1 Q := by
  refine h2 H1 e1 _ fun J H2 e2 w => fun Dl hD => ?_
  refine lc_it w (fun i H' => Ex H2 H' ∧ LstAt X.K H' Dl (((as.take i).filter f).map g)) ⟨Ex.new hD, [], upd_same, .nil, rfl⟩ (fun i H' _ p => p.1) (fun i v H' H3 hi p y => ?_) (fun H' p => ?_)
  · obtain ⟨rfl, a, q1, q2⟩ := y
    obtain ⟨px, pl⟩ := p
    have hm : a ∈ as := List.mem_of_getElem? q1
    refine ⟨hw v, ht a hm v H3 ((e1.trans e2).trans px) q2 H3 (Ex.refl _) _ fun H4 e4 => ?_⟩
    cases hfa : f a with
    | true =>
      refine iteT (he a hm hfa v H3 ((e1.trans e2).trans px) q2 H4 e4 _ fun u H5 e5 hu => ?_)
      obtain ⟨ws, l1, l2, l3⟩ := pl
      have e35 : Ex H3 H5 := e4.trans e5
      refine ⟨ws, e35 _ _ l1, ?_, (px.trans e35).mut hD, ?_⟩
      · rw [l2.len, List.length_map]
        have := List.length_filter_le f (as.take i)
        have := List.length_take_le i as
        exact sz_lt (by omega)
      · rw [take_fm q1, if_pos hfa]
        exact LstAt.add (e35 _ _ l1) (l2.ex e35) l3 hu (hn a hm)
    | false =>
      refine iteF ⟨px.trans e4, ?_⟩
      rw [take_fm q1, if_neg (by rw [hfa]; exact Bool.false_ne_true), List.append_nil]
      exact pl.ex e4
  · obtain ⟨px, ws, l1, l2, l3⟩ := p
    rw [List.take_length] at l2
    exact k _ H' (e2.trans px) ⟨Dl, ws, rfl, fresh_back (e1.trans e2) hD, l1, l2⟩
section
variable {f : α → Bool} {g : α → PyData} {scope : Scope} {x : Str}
/-- [elt for x in iter if c] -/
theorem w_lc1 (j : Nat) (nd : X.N.Nodup) (hc : X.calm = true) (hi : Src X (.Name x px) iter σ H as ι) (hz : as.length ≤ 40000) (hn : ∀ a ∈ as, noL (g a) = true)
    (ht : ∀ a ∈ as, ∀ v H1, Ex H H1 → Dq X.K H1 v (ι a) → ∀ s H0 C cl fp, WT (X.blk s H0 scope (compEnvC scope cl C X.env) fp) c ((wipe σ [j]).set j (some v)) H1 (f a))
    (he : ∀ a ∈ as, f a = true → ∀ v H1, Ex H H1 → Dq X.K H1 v (ι a) → ∀ s H0 C cl fp, Wd (X.blk s H0 scope (compEnvC scope cl C X.env) fp) elt ((wipe σ [j]).set j (some v)) H1 (g a))
    (ok : BlkOk X.N X.env.scope scope [(x, j)]) (hw : ∀ v, wipe ((wipe σ [j]).set j (some v)) [j] = wipe σ [j] := by intro _; rfl) (hj : X.N[j]? = some x := by rfl)
    (hx : ∀ s H0 C cl fp, Loc (X.blk s H0 scope (compEnvC scope cl C X.env) fp).env.scope x := by intro _ _ _ _ _; first | exact Or.inl rfl | exact Or.inr rfl)
    (hf : ∀ s H0 C cl fp, (X.blk s H0 scope (compEnvC scope cl C X.env) fp).fn x = true ∨ (X.blk s H0 scope (compEnvC scope cl C X.env) fp).env.scope.names.lookup x = some .local := by intro _ _ _ _ _; first | exact .inr rfl | exact .inl rfl)
    (hs : ∀ x, foldedSetIterable iter X.env x = pure x := by intro _; rfl) : W X (.ListComp elt [⟨.Name x px, iter, [c], 0⟩] scope pos) σ H (newL X H ((as.filter f).map g)) := by
  obtain ⟨wi, h1, h2⟩ := hi
  refine W.of (pe_lc (own := [(x, j)]) (g := gName j) (tt := tBt X scope c) (te := tBe X scope elt) hc nd h1 ok (fun s H0 C cl fp => pg_name nd hj (hx s H0 C cl fp) (hf s H0 C cl fp)) (fun s H0 C cl fp => pts_one ⟨fun pins s1 σ1 H1 Q I h => h s H0 C cl fp pins s1 I⟩) (fun s H0 C cl fp => ⟨fun pins s1 σ1 H1 Q I h => h s H0 C cl fp pins s1 I⟩) hs) ?_
  exact lc_read hw hz hn h2 (fun a ha v H1 e1 hv H2 e2 Q k s H0 C cl fp => ht a ha v H1 e1 hv s H0 C cl fp H2 e2 Q k) (fun a ha hfa v H1 e1 hv H2 e2 Q k s H0 C cl fp => he a ha hfa v H1 e1 hv s H0 C cl fp H2 e2 Q k)
/-- [elt for x in iter] -/
theorem w_lc (j : Nat) (nd : X.N.Nodup) (hc : X.calm = true) (hi : Src X (.Name x px) iter σ H as ι) (hz : as.length ≤ 40000) (hn : ∀ a ∈ as, noL (g a) = true)
    (he : ∀ a ∈ as, ∀ v H1, Ex H H1 → Dq X.K H1 v (ι a) → ∀ s H0 C cl fp, Wd (X.blk s H0 scope (compEnvC scope cl C X.env) fp) elt ((wipe σ [j]).set j (some v)) H1 (g a))
    (ok : BlkOk X.N X.env.scope scope [(x, j)]) (hw : ∀ v, wipe ((wipe σ [j]).set j (some v)) [j] = wipe σ [j] := by intro _; rfl) (hj : X.N[j]? = some x := by rfl)
    (hx : ∀ s H0 C cl fp, Loc (X.blk s H0 scope (compEnvC scope cl C X.env) fp).env.scope x := by intro _ _ _ _ _; first | exact Or.inl rfl | exact Or.inr rfl)
    (hf : ∀ s H0 C cl fp, (X.blk s H0 scope (compEnvC scope cl C X.env) fp).fn x = true ∨ (X.blk s H0 scope (compEnvC scope cl C X.env) fp).env.scope.names.lookup x = some .local := by intro _ _ _ _ _; first | exact .inr rfl | exact .inl rfl)
    (hs : ∀ x, foldedSetIterable iter X.env x = pure x := by intro _; rfl) : W X (.ListComp elt [⟨.Name x px, iter, [], 0⟩] scope pos) σ H (newL X H (as.map g)) := by
  obtain ⟨wi, h1, h2⟩ := hi
  refine W.of (pe_lc (own := [(x, j)]) (g := gName j) (tt := tYes) (te := tBe X scope elt) hc nd h1 ok (fun s H0 C cl fp => pg_name nd hj (hx s H0 C cl fp) (hf s H0 C cl fp)) (fun s H0 C cl fp => pts_nil) (fun s H0 C cl fp => ⟨fun pins s1 σ1 H1 Q I h => h s H0 C cl fp pins s1 I⟩) hs) ?_
  have e : as.map g = (as.filter fun _ => true).map g := by rw [List.filter_eq_self.mpr (fun _ _ => rfl)]
  rw [e]
  exact lc_read hw hz hn h2 (fun a ha v H1 e1 hv H2 e2 Q k => k H2 (Ex.refl _)) (fun a ha hfa v H1 e1 hv H2 e2 Q k s H0 C cl fp => he a ha v H1 e1 hv s H0 C cl fp H2 e2 Q k)
/-- y = [elt for x in iter if c] -/
theorem s_lc1 (i j : Nat) {y : Str} {py : Pos} (nd : X.N.Nodup) (hc : X.calm = true) (hi : Src X (.Name x px) iter σ H as ι) (hz : as.length ≤ 40000) (hn : ∀ a ∈ as, noL (g a) = true)
    (ht : ∀ a ∈ as, ∀ v H1, Ex H H1 → Dq X.K H1 v (ι a) → ∀ s H0 C cl fp, WT (X.blk s H0 scope (compEnvC scope cl C X.env) fp) c ((wipe σ [j]).set j (some v)) H1 (f a))
    (he : ∀ a ∈ as, f a = true → ∀ v H1, Ex H H1 → Dq X.K H1 v (ι a) → ∀ s H0 C cl fp, Wd (X.blk s H0 scope (compEnvC scope cl C X.env) fp) elt ((wipe σ [j]).set j (some v)) H1 (g a))
    (k : ∀ v H1, Ex H H1 → newL X H ((as.filter f).map g) v H1 → D.nx (σ.set i (some v)) H1)
    (ok : BlkOk X.N X.env.scope scope [(x, j)]) (hsw : swapsWith (.ListComp elt [⟨.Name x px, iter, [c], 0⟩] scope pos) (some (.Name y py)) spos.line X.env = pure true) (hw : ∀ v, wipe ((wipe σ [j]).set j (some v)) [j] = wipe σ [j] := by intro _; rfl) (hj : X.N[j]? = some x := by rfl) (hy : X.N[i]? = some y := by rfl) (hyl : X.env.scope.names.lookup y = some .local := by rfl)
    (hx : ∀ s H0 C cl fp, Loc (X.blk s H0 scope (compEnvC scope cl C X.env) fp).env.scope x := by intro _ _ _ _ _; first | exact Or.inl rfl | exact Or.inr rfl)
    (hf : ∀ s H0 C cl fp, (X.blk s H0 scope (compEnvC scope cl C X.env) fp).fn x = true ∨ (X.blk s H0 scope (compEnvC scope cl C X.env) fp).env.scope.names.lookup x = some .local := by intro _ _ _ _ _; first | exact .inr rfl | exact .inl rfl)
    (hs : ∀ x, foldedSetIterable iter X.env x = pure x := by intro _; rfl) : tWs X (.Assign [.Name y py] (.ListComp elt [⟨.Name x px, iter, [c], 0⟩] scope pos) spos) D σ H := by
  obtain ⟨wi, h1, h2⟩ := hi
  refine s_of (ps_setLc (own := [(x, j)]) (g := gName j) (tt := tBt X scope c) (te := tBe X scope elt) hc nd hy hyl hsw h1 ok (fun s H0 C cl fp => pg_name nd hj (hx s H0 C cl fp) (hf s H0 C cl fp)) (fun s H0 C cl fp => pts_one ⟨fun pins s1 σ1 H1 Q I h => h s H0 C cl fp pins s1 I⟩) (fun s H0 C cl fp => ⟨fun pins s1 σ1 H1 Q I h => h s H0 C cl fp pins s1 I⟩) hs) ?_
  exact lc_read hw hz hn h2 (fun a ha v H1 e1 hv H2 e2 Q k s H0 C cl fp => ht a ha v H1 e1 hv s H0 C cl fp H2 e2 Q k) (fun a ha hfa v H1 e1 hv H2 e2 Q k s H0 C cl fp => he a ha hfa v H1 e1 hv s H0 C cl fp H2 e2 Q k) H (Ex.refl _) _ k
end
end
end FW
set_option maxRecDepth 100000
set_option maxHeartbeats 4000000
/-! D0: the text's defs by their places, their scopes. -/
namespace FW
open PySem PySem.Spec PyProof.Rows L2 Evl
def topS (i : Nat) : Stmt := PySem.Challenge.pw_foldworld_k96_whole_strips_by_layerings.main.body.getD i (.Pass ⟨0, 0, 0, 0⟩)
abbrev s_is_integer : Stmt := topS 10
abbrev s_is_between : Stmt := topS 11
abbrev s_are_signs : Stmt := topS 12
abbrev s_is_sized : Stmt := topS 15
abbrev s_wrong_piece : Stmt := topS 16
abbrev s_is_pile : Stmt := topS 17
abbrev s_check_layers : Stmt := topS 18
abbrev s_are_marks : Stmt := topS 19
abbrev s_check_marks : Stmt := topS 20
abbrev s_ends_of : Stmt := topS 21
abbrev s_do_meet : Stmt := topS 22
abbrev s_mark_in : Stmt := topS 23
abbrev s_marks_by : Stmt := topS 24
abbrev s_with_piece : Stmt := topS 25
abbrev s_does_last_fit : Stmt := topS 26
abbrev s_foldings_told : Stmt := topS 27
abbrev s_folding_list : Stmt := topS 28
abbrev s_foldings_with : Stmt := topS 29
abbrev s_check_lengths : Stmt := topS 31
abbrev s_check_strip : Stmt := topS 32
abbrev s_points_of : Stmt := topS 33
abbrev s_stretch_list : Stmt := topS 34
abbrev s_is_pierced : Stmt := topS 35
abbrev s_are_crossed : Stmt := topS 36
abbrev s_spots_of : Stmt := topS 37
abbrev s_is_laid : Stmt := topS 38
abbrev s_layering_list : Stmt := topS 39
abbrev s_marked_list : Stmt := topS 40
abbrev s_stretches : Stmt := topS 41
abbrev s_span : Stmt := topS 42
abbrev s_is_layering : Stmt := topS 43
abbrev s_layerings : Stmt := topS 44
abbrev s_count_layerings : Stmt := topS 45
abbrev s_step_list : Stmt := topS 46
abbrev s_stepped : Stmt := topS 47
abbrev s_steps_of : Stmt := topS 48
abbrev s_does_fold : Stmt := topS 49
abbrev s_is_foldable : Stmt := topS 50
abbrev s_steps : Stmt := topS 51
abbrev s_is_step : Stmt := topS 52
abbrev s_after_step : Stmt := topS 53
abbrev s_steps_now : Stmt := topS 54
abbrev s_Ljar : Stmt := topS 56
abbrev s_Ldip : Stmt := topS 57
abbrev s_Lpick : Stmt := topS 58
abbrev s_Lstretches : Stmt := topS 59
abbrev s_Lpoints : Stmt := topS 60
abbrev s_Llies : Stmt := topS 61
abbrev s_Lmarks : Stmt := topS 62
abbrev s_Lpiles : Stmt := topS 63
abbrev s_Ldrawn_end : Stmt := topS 64
abbrev s_Lstrip_right : Stmt := topS 65
abbrev s_Lright : Stmt := topS 66
abbrev s_law : Stmt := topS 67
abbrev n_is_integer : List Str := ["value"]
theorem sc_is_integer : FnScope n_is_integer ["value"] (defScope s_is_integer) := ⟨rfl, rfl, rfl, by decide +kernel, rfl, by decide +kernel, by decide +kernel⟩
abbrev n_is_between : List Str := ["value", "least", "most"]
theorem sc_is_between : FnScope n_is_between ["value", "least", "most"] (defScope s_is_between) := ⟨rfl, rfl, rfl, by decide +kernel, rfl, by decide +kernel, by decide +kernel⟩
abbrev n_are_signs : List Str := ["value", "signs", "least", "most", "sign"]
theorem sc_are_signs : FnScope n_are_signs ["value", "signs", "least", "most"] (defScope s_are_signs) := ⟨rfl, rfl, rfl, by decide +kernel, rfl, by decide +kernel, by decide +kernel⟩
abbrev n_is_sized : List Str := ["value"]
theorem sc_is_sized : FnScope n_is_sized ["value"] (defScope s_is_sized) := ⟨rfl, rfl, rfl, by decide +kernel, rfl, by decide +kernel, by decide +kernel⟩
abbrev n_wrong_piece : List Str := ["layers", "index", "piece"]
theorem sc_wrong_piece : FnScope n_wrong_piece ["layers"] (defScope s_wrong_piece) := ⟨rfl, rfl, rfl, by decide +kernel, rfl, by decide +kernel, by decide +kernel⟩
abbrev n_is_pile : List Str := ["value"]
theorem sc_is_pile : FnScope n_is_pile ["value"] (defScope s_is_pile) := ⟨rfl, rfl, rfl, by decide +kernel, rfl, by decide +kernel, by decide +kernel⟩
abbrev n_check_layers : List Str := ["layers"]
theorem sc_check_layers : FnScope n_check_layers ["layers"] (defScope s_check_layers) := ⟨rfl, rfl, rfl, by decide +kernel, rfl, by decide +kernel, by decide +kernel⟩
abbrev n_are_marks : List Str := ["value", "sign"]
theorem sc_are_marks : FnScope n_are_marks ["value"] (defScope s_are_marks) := ⟨rfl, rfl, rfl, by decide +kernel, rfl, by decide +kernel, by decide +kernel⟩
abbrev n_check_marks : List Str := ["marks"]
theorem sc_check_marks : FnScope n_check_marks ["marks"] (defScope s_check_marks) := ⟨rfl, rfl, rfl, by decide +kernel, rfl, by decide +kernel, by decide +kernel⟩
abbrev n_ends_of : List Str := ["layers", "crease", "one", "other"]
theorem sc_ends_of : FnScope n_ends_of ["layers", "crease"] (defScope s_ends_of) := ⟨rfl, rfl, rfl, by decide +kernel, rfl, by decide +kernel, by decide +kernel⟩
abbrev n_do_meet : List Str := ["layers", "one", "other", "low", "high", "near", "far"]
theorem sc_do_meet : FnScope n_do_meet ["layers", "one", "other"] (defScope s_do_meet) := ⟨rfl, rfl, rfl, by decide +kernel, rfl, by decide +kernel, by decide +kernel⟩
abbrev n_mark_in : List Str := ["layers", "crease", "is_above"]
theorem sc_mark_in : FnScope n_mark_in ["layers", "crease"] (defScope s_mark_in) := ⟨rfl, rfl, rfl, by decide +kernel, rfl, by decide +kernel, by decide +kernel⟩
abbrev n_marks_by : List Str := ["layers", "crease"]
theorem sc_marks_by : FnScope n_marks_by ["layers"] (defScope s_marks_by) := ⟨rfl, rfl, rfl, by decide +kernel, rfl, by decide +kernel, by decide +kernel⟩
abbrev n_with_piece : List Str := ["layers", "place"]
theorem sc_with_piece : FnScope n_with_piece ["layers", "place"] (defScope s_with_piece) := ⟨rfl, rfl, rfl, by decide +kernel, rfl, by decide +kernel, by decide +kernel⟩
abbrev n_does_last_fit : List Str := ["layers", "last", "crease"]
theorem sc_does_last_fit : FnScope n_does_last_fit ["layers"] (defScope s_does_last_fit) := ⟨rfl, rfl, rfl, by decide +kernel, rfl, by decide +kernel, by decide +kernel⟩
abbrev n_foldings_told : List Str := ["told", "found", "crease", "sign", "some", "layers", "place"]
theorem sc_foldings_told : FnScope n_foldings_told ["told"] (defScope s_foldings_told) := ⟨rfl, rfl, rfl, by decide +kernel, rfl, by decide +kernel, by decide +kernel⟩
abbrev n_folding_list : List Str := ["marks"]
theorem sc_folding_list : FnScope n_folding_list ["marks"] (defScope s_folding_list) := ⟨rfl, rfl, rfl, by decide +kernel, rfl, by decide +kernel, by decide +kernel⟩
abbrev n_foldings_with : List Str := ["marks"]
theorem sc_foldings_with : FnScope n_foldings_with ["marks"] (defScope s_foldings_with) := ⟨rfl, rfl, rfl, by decide +kernel, rfl, by decide +kernel, by decide +kernel⟩
abbrev n_check_lengths : List Str := ["lengths", "index", "length"]
theorem sc_check_lengths : FnScope n_check_lengths ["lengths"] (defScope s_check_lengths) := ⟨rfl, rfl, rfl, by decide +kernel, rfl, by decide +kernel, by decide +kernel⟩
abbrev n_check_strip : List Str := ["lengths", "marks"]
theorem sc_check_strip : FnScope n_check_strip ["lengths", "marks"] (defScope s_check_strip) := ⟨rfl, rfl, rfl, by decide +kernel, rfl, by decide +kernel, by decide +kernel⟩
abbrev n_points_of : List Str := ["lengths", "found", "piece", "length"]
theorem sc_points_of : FnScope n_points_of ["lengths"] (defScope s_points_of) := ⟨rfl, rfl, rfl, by decide +kernel, rfl, by decide +kernel, by decide +kernel⟩
abbrev n_stretch_list : List Str := ["lengths", "points", "found", "near", "far"]
theorem sc_stretch_list : FnScope n_stretch_list ["lengths"] (defScope s_stretch_list) := ⟨rfl, rfl, rfl, by decide +kernel, rfl, by decide +kernel, by decide +kernel⟩
abbrev n_is_pierced : List Str := ["lengths", "spots", "points", "wide", "crease", "low", "high", "piece", "near", "far"]
theorem sc_is_pierced : FnScope n_is_pierced ["lengths", "spots"] (defScope s_is_pierced) := ⟨rfl, rfl, rfl, by decide +kernel, rfl, by decide +kernel, by decide +kernel⟩
abbrev n_are_crossed : List Str := ["lengths", "spots", "points", "one", "two", "a", "b", "c", "d"]
theorem sc_are_crossed : FnScope n_are_crossed ["lengths", "spots"] (defScope s_are_crossed) := ⟨rfl, rfl, rfl, by decide +kernel, rfl, by decide +kernel, by decide +kernel⟩
abbrev n_spots_of : List Str := ["layers", "found", "spot", "piece"]
theorem sc_spots_of : FnScope n_spots_of ["layers"] (defScope s_spots_of) := ⟨rfl, rfl, rfl, by decide +kernel, rfl, by decide +kernel, by decide +kernel⟩
abbrev n_is_laid : List Str := ["lengths", "layers", "spots"]
theorem sc_is_laid : FnScope n_is_laid ["lengths", "layers"] (defScope s_is_laid) := ⟨rfl, rfl, rfl, by decide +kernel, rfl, by decide +kernel, by decide +kernel⟩
abbrev n_layering_list : List Str := ["lengths", "found", "piece", "longer", "layers", "spot", "more"]
theorem sc_layering_list : FnScope n_layering_list ["lengths"] (defScope s_layering_list) := ⟨rfl, rfl, rfl, by decide +kernel, rfl, by decide +kernel, by decide +kernel⟩
abbrev n_marked_list : List Str := ["lengths", "marks", "layers"]
theorem sc_marked_list : FnScope n_marked_list ["lengths", "marks"] (defScope s_marked_list) := ⟨rfl, rfl, rfl, by decide +kernel, rfl, by decide +kernel, by decide +kernel⟩
abbrev n_stretches : List Str := ["lengths"]
theorem sc_stretches : FnScope n_stretches ["lengths"] (defScope s_stretches) := ⟨rfl, rfl, rfl, by decide +kernel, rfl, by decide +kernel, by decide +kernel⟩
abbrev n_span : List Str := ["lengths", "points"]
theorem sc_span : FnScope n_span ["lengths"] (defScope s_span) := ⟨rfl, rfl, rfl, by decide +kernel, rfl, by decide +kernel, by decide +kernel⟩
abbrev n_is_layering : List Str := ["lengths", "layers"]
theorem sc_is_layering : FnScope n_is_layering ["lengths", "layers"] (defScope s_is_layering) := ⟨rfl, rfl, rfl, by decide +kernel, rfl, by decide +kernel, by decide +kernel⟩
abbrev n_layerings : List Str := ["lengths", "marks"]
theorem sc_layerings : FnScope n_layerings ["lengths", "marks"] (defScope s_layerings) := ⟨rfl, rfl, rfl, by decide +kernel, rfl, by decide +kernel, by decide +kernel⟩
abbrev n_count_layerings : List Str := ["lengths"]
theorem sc_count_layerings : FnScope n_count_layerings ["lengths"] (defScope s_count_layerings) := ⟨rfl, rfl, rfl, by decide +kernel, rfl, by decide +kernel, by decide +kernel⟩
abbrev n_step_list : List Str := ["lengths", "marks", "found", "crease", "before", "own", "behind"]
theorem sc_step_list : FnScope n_step_list ["lengths", "marks"] (defScope s_step_list) := ⟨rfl, rfl, rfl, by decide +kernel, rfl, by decide +kernel, by decide +kernel⟩
abbrev n_stepped : List Str := ["lengths", "marks", "step", "word", "index", "whole"]
theorem sc_stepped : FnScope n_stepped ["lengths", "marks", "step"] (defScope s_stepped) := ⟨rfl, rfl, rfl, by decide +kernel, rfl, by decide +kernel, by decide +kernel⟩
abbrev n_steps_of : List Str := ["lengths", "marks", "found", "some"]
theorem sc_steps_of : FnScope n_steps_of ["lengths", "marks"] (defScope s_steps_of) := ⟨rfl, rfl, rfl, by decide +kernel, rfl, by decide +kernel, by decide +kernel⟩
abbrev n_does_fold : List Str := ["lengths", "marks"]
theorem sc_does_fold : FnScope n_does_fold ["lengths", "marks"] (defScope s_does_fold) := ⟨rfl, rfl, rfl, by decide +kernel, rfl, by decide +kernel, by decide +kernel⟩
abbrev n_is_foldable : List Str := ["lengths", "marks"]
theorem sc_is_foldable : FnScope n_is_foldable ["lengths", "marks"] (defScope s_is_foldable) := ⟨rfl, rfl, rfl, by decide +kernel, rfl, by decide +kernel, by decide +kernel⟩
abbrev n_steps : List Str := ["lengths", "marks"]
theorem sc_steps : FnScope n_steps ["lengths", "marks"] (defScope s_steps) := ⟨rfl, rfl, rfl, by decide +kernel, rfl, by decide +kernel, by decide +kernel⟩
abbrev n_is_step : List Str := ["lengths", "marks", "value"]
theorem sc_is_step : FnScope n_is_step ["lengths", "marks", "value"] (defScope s_is_step) := ⟨rfl, rfl, rfl, by decide +kernel, rfl, by decide +kernel, by decide +kernel⟩
abbrev n_after_step : List Str := ["lengths", "marks", "step"]
theorem sc_after_step : FnScope n_after_step ["lengths", "marks", "step"] (defScope s_after_step) := ⟨rfl, rfl, rfl, by decide +kernel, rfl, by decide +kernel, by decide +kernel⟩
abbrev n_steps_now : List Str := ["lengths", "marks"]
theorem sc_steps_now : FnScope n_steps_now ["lengths", "marks"] (defScope s_steps_now) := ⟨rfl, rfl, rfl, by decide +kernel, rfl, by decide +kernel, by decide +kernel⟩
abbrev n_Ljar : List Str := ["_law_script", "_law_turn", "_law_stirred", "_law_cell", "_law_own"]
theorem sc_Ljar : FnScope n_Ljar ["_law_script", "_law_turn"] (defScope s_Ljar) := ⟨rfl, rfl, rfl, by decide +kernel, rfl, by decide +kernel, by decide +kernel⟩
abbrev n_Ldip : List Str := ["_law_jar_here", "_law_many", "_law_digit", "_law_seed"]
theorem sc_Ldip : FnScope n_Ldip ["_law_jar_here", "_law_many"] (defScope s_Ldip) := ⟨rfl, rfl, rfl, by decide +kernel, rfl, by decide +kernel, by decide +kernel⟩
abbrev n_Lpick : List Str := ["_law_jar_here", "_law_some"]
theorem sc_Lpick : FnScope n_Lpick ["_law_jar_here", "_law_some"] (defScope s_Lpick) := ⟨rfl, rfl, rfl, by decide +kernel, rfl, by decide +kernel, by decide +kernel⟩
abbrev n_Lstretches : List Str := ["_law_sizes", "_law_at", "_law_found", "_law_k", "_law_far"]
theorem sc_Lstretches : FnScope n_Lstretches ["_law_sizes"] (defScope s_Lstretches) := ⟨rfl, rfl, rfl, by decide +kernel, rfl, by decide +kernel, by decide +kernel⟩
abbrev n_Lpoints : List Str := ["_law_sizes", "_law_at", "_law_found", "_law_k"]
theorem sc_Lpoints : FnScope n_Lpoints ["_law_sizes"] (defScope s_Lpoints) := ⟨rfl, rfl, rfl, by decide +kernel, rfl, by decide +kernel, by decide +kernel⟩
abbrev n_Llies : List Str := ["_law_sizes", "_law_pile", "_law_lots_here", "_law_points_here", "_law_spots", "_law_k", "_law_low", "_law_high", "_law_other", "_law_j", "_law_one", "_law_two"]
theorem sc_Llies : FnScope n_Llies ["_law_sizes", "_law_pile"] (defScope s_Llies) := ⟨rfl, rfl, rfl, by decide +kernel, rfl, by decide +kernel, by decide +kernel⟩
abbrev n_Lmarks : List Str := ["_law_pile", "_law_spots", "_law_found", "_law_k", "_law_above"]
theorem sc_Lmarks : FnScope n_Lmarks ["_law_pile"] (defScope s_Lmarks) := ⟨rfl, rfl, rfl, by decide +kernel, rfl, by decide +kernel, by decide +kernel⟩
abbrev n_Lpiles : List Str := ["_law_many", "_law_found", "_law_lap", "_law_longer", "_law_head", "_law_k"]
theorem sc_Lpiles : FnScope n_Lpiles ["_law_many"] (defScope s_Lpiles) := ⟨rfl, rfl, rfl, by decide +kernel, rfl, by decide +kernel, by decide +kernel⟩
abbrev n_Ldrawn_end : List Str := ["_law_jar_here", "_law_sizes", "_law_text", "_law_lap", "_law_some"]
theorem sc_Ldrawn_end : FnScope n_Ldrawn_end ["_law_jar_here", "_law_sizes", "_law_text"] (defScope s_Ldrawn_end) := ⟨rfl, rfl, rfl, by decide +kernel, rfl, by decide +kernel, by decide +kernel⟩
abbrev n_Lstrip_right : List Str := ["_law_jar_here", "_law_sizes", "_law_text", "_law_every", "_law_folds", "_law_step", "_law_less", "_law_marks_left", "_law_left", "_law_words", "_law_pile"]
theorem sc_Lstrip_right : FnScope n_Lstrip_right ["_law_jar_here", "_law_sizes", "_law_text", "_law_every"] (defScope s_Lstrip_right) := ⟨rfl, rfl, rfl, by decide +kernel, rfl, by decide +kernel, by decide +kernel⟩
abbrev n_Lright : List Str := ["_law_jar_here", "_law_many", "_law_sizes", "_law_every", "_law_wide", "_law_lap", "_law_text", "_law_k", "_law_pile", "_law_pair"]
theorem sc_Lright : FnScope n_Lright ["_law_jar_here"] (defScope s_Lright) := ⟨rfl, rfl, rfl, by decide +kernel, rfl, by decide +kernel, by decide +kernel⟩
abbrev n_law : List Str := ["_law_script", "_law_turn"]
theorem sc_law : FnScope n_law ["_law_script"] (defScope s_law) := ⟨rfl, rfl, rfl, by decide +kernel, rfl, by decide +kernel, by decide +kernel⟩
abbrev FnP (K : PySem.W.Frag) (x : Str) (st : Stmt) (f : Addr) (fd : FuncData) : Prop := FunD K x x (defArgs st) (defBody st) (defScope st) [] [] f fd
theorem kb_ii : kitB "int" "int" = some true := by decide +kernel
theorem kb_ib : kitB "int" "bool" = some false := by decide +kernel
theorem kb_ss : kitB "str" "str" = some true := by decide +kernel
theorem kb_tt : kitB "tuple" "tuple" = some true := by decide +kernel
/-! a def that keeps its promise -/
section
variable {P : Program} {w : World} {K : PySem.W.Frag} {mg : Str → Option Value} {base : Heap} {x : Str} {st : Stmt} {f : Addr} {fd : FuncData} {N ps : List Str} {k : Nat}
abbrev cx (P : Program) (w : World) (K : PySem.W.Frag) (mg : Str → Option Value) (base : Heap) (N : List Str) (x : Str) (st : Stmt) (f : Addr) (cdv : Value) (A : Around) (outer : List Env) (s : Shared) (H : Hp) (E : XK) : Cx :=
  (cxOf CX0 P w K mg base N x (defScope st) f cdv A outer s H E).nox
theorem okW {sp : Sp} (F : FnP K x st f fd) (S : FnScope N ps (defScope st)) (len : ∀ vs H Q E, sp vs H Q E → vs.length = ps.length)
    (h : ∀ (cdv : Value) (A : Around) (outer : List Env) (s : Shared) (H : Hp) (vs : List V) (Q : VK) (E : XK), Room k (A.deeper (envOfC x (defScope st) s.heap.objs.size f cdv)) → sp vs H Q E →
      tWss (cx P w K mg base N x st f cdv A outer s H E) (defBody st) { nx := fun _ H' => Q .non H', rt := Q } (start N vs) H) : FnOk P w K mg base CX0 (k + 1) f fd ps sp :=
  F.ok S len fun cdv A outer s H vs Q E hr hs => ⟨_, PSs.nox wp_ss, h cdv A outer s H vs Q E hr hs⟩
theorem okD {G : List PyData → PyData → Prop} (F : FnP K x st f fd) (S : FnScope N ps (defScope st)) (len : ∀ ds d, G ds d → ds.length = ps.length)
    (h : ∀ (cdv : Value) (A : Around) (outer : List Env) (s : Shared) (H : Hp) (vs : List V) (Q : VK) (E : XK) (ds : List PyData) (d : PyData), Room k (A.deeper (envOfC x (defScope st) s.heap.objs.size f cdv)) → DqAll K H vs ds → G ds d → (∀ v H2, Ex H H2 → Dq K H2 v d → Q v H2) →
      tWss (cx P w K mg base N x st f cdv A outer s H E) (defBody st) { nx := fun _ H' => Q .non H', rt := Q } (start N vs) H) : FnOk P w K mg base CX0 (k + 1) f fd ps (spD K G) :=
  okW F S (fun vs H Q E ⟨ds, d, h1, h2, _⟩ => h1.len.trans (len ds d h2)) fun cdv A outer s H vs Q E hr ⟨ds, d, h1, h2, h3⟩ => h cdv A outer s H vs Q E ds d hr h1 h2 h3
end
end FW
set_option maxRecDepth 100000
set_option maxHeartbeats 4000000
/-! W7: calls by what stands, more loops, sorted, products. -/
namespace FW
open PySem PySem.Spec PyProof.Rows L2 Evl
/-- a def of the text that stands under its name and keeps a promise -/
def Cal (P : Program) (w : World) (K : PySem.W.Frag) (mg : Str → Option Value) (base : Heap) (k : Nat) (x : Str) (ps : List Str) (sp : Sp) : Prop :=
  ∃ f fd, FnOk P w K mg base CX0 k f fd ps sp ∧ mg x = some (.ref f) ∧ PySem.W.keepIn K (.ref f) = true ∧ Binds K fd ps []
/-- a def stands under its name -/
def Df (K : PySem.W.Frag) (mg : Str → Option Value) (x : Str) (st : Stmt) : Prop := ∃ f fd, FnP K x st f fd ∧ mg x = some (.ref f)
theorem Df.cal {P : Program} {w : World} {K : PySem.W.Frag} {mg : Str → Option Value} {base : Heap} {k : Nat} {x : Str} {st : Stmt} {ps : List Str} {sp : Sp} (D : Df K mg x st)
    (hb : ∀ (kV doc pm : Value) (an : Option Addr) (cdv ct : Value) (us : List Value), us.length = ps.length → bindArgs (PySem.W.fnOf x x (defArgs st) (defBody st) (defScope st) .none kV doc pm an cdv ct) ⟨us, []⟩ = pure (ps.zip us))
    (h : ∀ f fd, FnP K x st f fd → FnOk P w K mg base CX0 k f fd ps sp) : Cal P w K mg base k x ps sp := by
  obtain ⟨f, fd, F, hm⟩ := D
  exact ⟨f, fd, h f fd F, hm, F.kp, F.bindsN hb⟩
section
variable {X : Cx} {σ : L2.St} {H H' : Hp} {P P1 P2 : VP} {e a b c iter : Expr} {pos p p2 px py tp : Pos} {D : Ends} {body : List Stmt} {k : Nat} {ps : List Str} {x y : Str} {es : List Expr}
theorem w_C {G : List PyData → PyData → Prop} {ds : List PyData} {d : PyData} (C : Cal X.prog X.w X.K X.mg X.base k x ps (spD X.K G)) (hr : Room k X.A) (ha : WAd X (e :: es) σ H ds) (hG : G ds d) (hg : Gl X x := by rfl)
    (hd : (x == ("__debug__" : Str)) = false := by decide) (hs : starEach (e :: es) X.env = (false, eval e X.env) :: starEach es X.env := by rfl) (hpl : (backTo pos (starEach es X.env)).any (·.1) = false := by rfl) : Wd X (.Call (.Name x p) (e :: es) [] pos) σ H d := by
  obtain ⟨f, fd, F, hm, hk, hb⟩ := C
  exact w_callD F hr hm hk hb ha hG hg hd hs hpl
theorem w_Cg {sp : Sp} {Ps : VPs} (C : Cal X.prog X.w X.K X.mg X.base k x ps sp) (hr : Room k X.A) (ha : WA X (e :: es) σ H Ps) (q : ∀ vs H1, Ex H H1 → Ps vs H1 → ∀ Q : VK, (∀ v H2, Ex H1 H2 → P v H2 → Q v H2) → sp vs H1 Q E0) (hg : Gl X x := by rfl)
    (hd : (x == ("__debug__" : Str)) = false := by decide) (hs : starEach (e :: es) X.env = (false, eval e X.env) :: starEach es X.env := by rfl) (hpl : (backTo pos (starEach es X.env)).any (·.1) = false := by rfl) : W X (.Call (.Name x p) (e :: es) [] pos) σ H P := by
  obtain ⟨f, fd, F, hm, hk, hb⟩ := C
  exact w_call F hr hm hk hb ha q hg hd hs hpl

/-! ### enumerate, zip -/
/-- the pair's two names -/
theorem pair_names (i j : Nat) {T : Addr} {v u : V} {R : L2.St → Hp → Prop} (h : H T = some (.tup [v, u])) (q : R ((σ.set i (some v)).set j (some u)) H) : gTup X.K 2 (gCons (gName i) (gCons (gName j) gNil)) (.ref T) σ H R :=
  ⟨T, _, rfl, st_of h, rfl, v, [u], rfl, u, [], rfl, rfl, q⟩
theorem s_forET (i j : Nat) {kk : Nat} {ds : List PyData} (T : BT X.mg) (nd : X.N.Nodup) (hc : X.calm = true) (ha : Wd X a σ H (.tuple ds))
    (k : ∀ H1, Ex H H1 → ∃ Pv : Nat → L2.St → Hp → Prop, Pv 0 σ H1 ∧ (∀ n σ' H', Pv n σ' H' → Ex H1 H') ∧ (∀ n v d σ' H' H2, ds[n]? = some d → Dq X.K H2 v d → Pv n σ' H' → Ex H' H2 → tWss X body (nextD D (Pv (n + 1))) ((σ'.set i (some (.int (n : Int)))).set j (some v)) H2) ∧ ∀ σ' H', Pv ds.length σ' H' → D.nx σ' H')
    (hi : X.N[i]? = some x := by rfl) (hj : X.N[j]? = some y := by rfl) (hg : Gl X "enumerate" := by rfl) (he : starEach [a] X.env = [(false, eval a X.env)] := by rfl)
    (hx : Loc X.env.scope x := by first | exact Or.inl rfl | exact Or.inr rfl) (hy : Loc X.env.scope y := by first | exact Or.inl rfl | exact Or.inr rfl)
    (hf : X.fn x = true ∨ X.env.scope.names.lookup x = some .local := by first | exact .inl rfl | exact .inr rfl) (hf2 : X.fn y = true ∨ X.env.scope.names.lookup y = some .local := by first | exact .inl rfl | exact .inr rfl)
    (hs1 : (assignEach [.Name x px, .Name y py] X.env).map (·.2) = assign (.Name x px) X.env :: (assignEach [.Name y py] X.env).map (·.2) := by rfl) (hs2 : (assignEach [.Name y py] X.env).map (·.2) = assign (.Name y py) X.env :: (assignEach [] X.env).map (·.2) := by rfl)
    (hn : (assignEach [.Name x px, .Name y py] X.env).length = 2 := by rfl) (hst : (assignEach [.Name x px, .Name y py] X.env).findIdx? (·.1) = none := by rfl)
    (hp : PassesOwn (model X.prog X.w) X.A X.env X.xe := by exact PassesOwn.never) (hs : ∀ x, foldedSetIterable (.Call (.Name "enumerate" p) [a] [] p2) X.env x = pure x := by intro _; rfl) :
    tWs X (.For (.Tuple [.Name x px, .Name y py] kk tp) (.Call (.Name "enumerate" p) [a] [] p2) body [] pos) D σ H :=
  s_of (ps_for hp hc (pi_enumT hg T.enum (pa_cons wp_e pa_nil he) he) (pg_tup hc (pgs_cons (pg_name nd hi hx hf) (pgs_cons (pg_name nd hj hy hf2) pgs_nil hs2) hs1) hn hst) wp_ss hs) (ha H (Ex.refl _) _ fun v H1 e1 hv => by
    cases hv with
    | @tup q xs _ h1 h2 =>
      obtain ⟨Pv, p0, px, ps, pd⟩ := k H1 e1
      obtain ⟨o, h1, hd⟩ := h1
      refine ⟨q, xs, o, rfl, h1, for_enumG (n := xs.length) Pv p0 (fun i σ' H' p => px i σ' H' p _ _ h1) (fun n v T σ' H' hn hv p hT => ?_) (fun σ' H' p => pd σ' H' (by rw [← h2.len]; exact p))⟩
      obtain ⟨d, q1, q2⟩ := h2.getV hv
      exact pair_names i j upd_same (ps n v d σ' H' _ q1 (q2.ex ((px n σ' H' p).trans (Ex.new hT))) p (Ex.new hT)))
theorem s_forES (i j : Nat) {kk : Nat} {z : Str} (T : BT X.mg) (nd : X.N.Nodup) (hc : X.calm = true) (ha : Wd X a σ H (.str z))
    (k : ∀ H1, Ex H H1 → ∃ Pv : Nat → L2.St → Hp → Prop, Pv 0 σ H1 ∧ (∀ n c σ' H' H2, z.cps[n]? = some c → Pv n σ' H' → Ex H' H2 → tWss X body (nextD D (Pv (n + 1))) ((σ'.set i (some (.int (n : Int)))).set j (some (.str ⟨#[c]⟩))) H2) ∧ ∀ σ' H', Pv z.cps.size σ' H' → D.nx σ' H')
    (hi : X.N[i]? = some x := by rfl) (hj : X.N[j]? = some y := by rfl) (hg : Gl X "enumerate" := by rfl) (he : starEach [a] X.env = [(false, eval a X.env)] := by rfl)
    (hx : Loc X.env.scope x := by first | exact Or.inl rfl | exact Or.inr rfl) (hy : Loc X.env.scope y := by first | exact Or.inl rfl | exact Or.inr rfl)
    (hf : X.fn x = true ∨ X.env.scope.names.lookup x = some .local := by first | exact .inl rfl | exact .inr rfl) (hf2 : X.fn y = true ∨ X.env.scope.names.lookup y = some .local := by first | exact .inl rfl | exact .inr rfl)
    (hs1 : (assignEach [.Name x px, .Name y py] X.env).map (·.2) = assign (.Name x px) X.env :: (assignEach [.Name y py] X.env).map (·.2) := by rfl) (hs2 : (assignEach [.Name y py] X.env).map (·.2) = assign (.Name y py) X.env :: (assignEach [] X.env).map (·.2) := by rfl)
    (hn : (assignEach [.Name x px, .Name y py] X.env).length = 2 := by rfl) (hst : (assignEach [.Name x px, .Name y py] X.env).findIdx? (·.1) = none := by rfl)
    (hp : PassesOwn (model X.prog X.w) X.A X.env X.xe := by exact PassesOwn.never) (hs : ∀ x, foldedSetIterable (.Call (.Name "enumerate" p) [a] [] p2) X.env x = pure x := by intro _; rfl) :
    tWs X (.For (.Tuple [.Name x px, .Name y py] kk tp) (.Call (.Name "enumerate" p) [a] [] p2) body [] pos) D σ H :=
  s_of (ps_for hp hc (pi_enumS hg T.enum (pa_cons wp_e pa_nil he) he) (pg_tup hc (pgs_cons (pg_name nd hi hx hf) (pgs_cons (pg_name nd hj hy hf2) pgs_nil hs2) hs1) hn hst) wp_ss hs) (ha H (Ex.refl _) _ fun v H1 e1 hv => by
    cases hv
    obtain ⟨Pv, p0, ps, pd⟩ := k H1 e1
    refine ⟨z, rfl, for_enumG (n := z.cps.size) Pv p0 (fun i σ' H' p => trivial) (fun n v T σ' H' hn hv p hT => ?_) (fun σ' H' p => pd σ' H' p)⟩
    obtain ⟨c, hc1, rfl⟩ := hv
    exact pair_names i j upd_same (ps n c σ' H' _ hc1 p (Ex.new hT)))
/-- for i, (x, y) in enumerate(a list of pairs) -/
theorem s_forEL (i j l : Nat) {kk k2 : Nat} {z : Str} {pz tp2 : Pos} {α : Type} {as : List α} {f g : α → PyData} (T : BT X.mg) (nd : X.N.Nodup) (hc : X.calm = true) (ha : Wd X a σ H (.list (as.map fun t => .tuple [f t, g t])))
    (k : ∀ H1, Ex H H1 → ∃ Pv : Nat → L2.St → Hp → Prop, Pv 0 σ H1 ∧ (∀ n σ' H', Pv n σ' H' → Ex H1 H') ∧ (∀ n v u t σ' H' H2, as[n]? = some t → Dq X.K H2 v (f t) → Dq X.K H2 u (g t) → Pv n σ' H' → Ex H' H2 → tWss X body (nextD D (Pv (n + 1))) (((σ'.set i (some (.int (n : Int)))).set j (some v)).set l (some u)) H2) ∧ ∀ σ' H', Pv as.length σ' H' → D.nx σ' H')
    (hi : X.N[i]? = some x := by rfl) (hj : X.N[j]? = some y := by rfl) (hl : X.N[l]? = some z := by rfl) (hg : Gl X "enumerate" := by rfl) (he : starEach [a] X.env = [(false, eval a X.env)] := by rfl)
    (hx : Loc X.env.scope x := by first | exact Or.inl rfl | exact Or.inr rfl) (hy : Loc X.env.scope y := by first | exact Or.inl rfl | exact Or.inr rfl) (hz : Loc X.env.scope z := by first | exact Or.inl rfl | exact Or.inr rfl)
    (hf : X.fn x = true ∨ X.env.scope.names.lookup x = some .local := by first | exact .inl rfl | exact .inr rfl) (hf2 : X.fn y = true ∨ X.env.scope.names.lookup y = some .local := by first | exact .inl rfl | exact .inr rfl) (hf3 : X.fn z = true ∨ X.env.scope.names.lookup z = some .local := by first | exact .inl rfl | exact .inr rfl)
    (hs0 : (assignEach [.Name x px, .Tuple [.Name y py, .Name z pz] k2 tp2] X.env).map (·.2) = assign (.Name x px) X.env :: (assignEach [.Tuple [.Name y py, .Name z pz] k2 tp2] X.env).map (·.2) := by rfl) (hs01 : (assignEach [.Tuple [.Name y py, .Name z pz] k2 tp2] X.env).map (·.2) = assign (.Tuple [.Name y py, .Name z pz] k2 tp2) X.env :: (assignEach [] X.env).map (·.2) := by rfl)
    (hs1 : (assignEach [.Name y py, .Name z pz] X.env).map (·.2) = assign (.Name y py) X.env :: (assignEach [.Name z pz] X.env).map (·.2) := by rfl) (hs2 : (assignEach [.Name z pz] X.env).map (·.2) = assign (.Name z pz) X.env :: (assignEach [] X.env).map (·.2) := by rfl)
    (hn0 : (assignEach [.Name x px, .Tuple [.Name y py, .Name z pz] k2 tp2] X.env).length = 2 := by rfl) (hst0 : (assignEach [.Name x px, .Tuple [.Name y py, .Name z pz] k2 tp2] X.env).findIdx? (·.1) = none := by rfl)
    (hn : (assignEach [.Name y py, .Name z pz] X.env).length = 2 := by rfl) (hst : (assignEach [.Name y py, .Name z pz] X.env).findIdx? (·.1) = none := by rfl)
    (hp : PassesOwn (model X.prog X.w) X.A X.env X.xe := by exact PassesOwn.never) (hs : ∀ x, foldedSetIterable (.Call (.Name "enumerate" p) [a] [] p2) X.env x = pure x := by intro _; rfl) :
    tWs X (.For (.Tuple [.Name x px, .Tuple [.Name y py, .Name z pz] k2 tp2] kk tp) (.Call (.Name "enumerate" p) [a] [] p2) body [] pos) D σ H :=
  s_of (ps_for hp hc (pi_enum hg T.enum (pa_cons wp_e pa_nil he) he) (pg_tup hc (pgs_cons (pg_name nd hi hx hf) (pgs_cons (pg_tup hc (pgs_cons (pg_name nd hj hy hf2) (pgs_cons (pg_name nd hl hz hf3) pgs_nil hs2) hs1) hn hst) pgs_nil hs01) hs0) hn0 hst0) wp_ss hs) (ha H (Ex.refl _) _ fun v H1 e1 hv => by
    cases hv with
    | @lst q xs _ h1 h2 =>
      obtain ⟨Pv, p0, px, ps, pd⟩ := k H1 e1
      have hlen : xs.length = as.length := by rw [h2.len, List.length_map]
      refine ⟨q, xs, rfl, h1, for_it walk_enum Pv p0 (fun i σ' H' _ p => ex_l (px i σ' H' p) h1) (fun n v σ' H' H3 hn p hy => ?_) (fun σ' H' p => pd σ' H' (by rw [← hlen]; exact p))⟩
      obtain ⟨Ta, v1, v2, rfl, hT, rfl, h3, h4⟩ := hy
      cases h3
      obtain ⟨d, q1, q2⟩ := h2.getV h4
      rw [List.getElem?_map] at q1
      obtain ⟨t, q3, rfl⟩ := Option.map_eq_some_iff.mp q1
      have q4 := q2.ex ((px n σ' H' p).trans (Ex.new (o := .tup [.int (n : Int), v2]) hT))
      cases q4 with
      | tup g1 g2 =>
        obtain ⟨w1, w2, rfl, g3, g4⟩ := dpa2 g2
        exact ⟨Ta, _, rfl, st_of upd_same, rfl, .int (n : Int), [_], rfl, _, [], rfl, ⟨_, _, rfl, g1.seq, rfl, w1, [w2], rfl, w2, [], rfl, rfl, rfl, ps n w1 w2 t σ' H' _ q3 g3 g4 p (Ex.new hT)⟩⟩)
/-- for x, y in zip(a, b), lists -/
theorem s_forZ (i j : Nat) {kk : Nat} {ds es : List PyData} (T : BT X.mg) (nd : X.N.Nodup) (hc : X.calm = true) (ha : Wd X a σ H (.list ds)) (hb : Wd X b σ H (.list es)) {m : Nat} (hm : m = min ds.length es.length)
    (k : ∀ H1, Ex H H1 → ∃ Pv : Nat → L2.St → Hp → Prop, Pv 0 σ H1 ∧ (∀ n σ' H', Pv n σ' H' → Ex H1 H') ∧ (∀ n v u d d' σ' H' H2, ds[n]? = some d → es[n]? = some d' → Dq X.K H2 v d → Dq X.K H2 u d' → Pv n σ' H' → Ex H' H2 → tWss X body (nextD D (Pv (n + 1))) ((σ'.set i (some v)).set j (some u)) H2) ∧ ∀ σ' H', Pv m σ' H' → D.nx σ' H')
    (hi : X.N[i]? = some x := by rfl) (hj : X.N[j]? = some y := by rfl) (hg : Gl X "zip" := by rfl) (he : starEach [a, b] X.env = (false, eval a X.env) :: starEach [b] X.env := by rfl) (he2 : starEach [b] X.env = (false, eval b X.env) :: starEach [] X.env := by rfl) (hpl : (backTo p2 (starEach [b] X.env)).any (·.1) = false := by rfl)
    (hx : Loc X.env.scope x := by first | exact Or.inl rfl | exact Or.inr rfl) (hy : Loc X.env.scope y := by first | exact Or.inl rfl | exact Or.inr rfl)
    (hf : X.fn x = true ∨ X.env.scope.names.lookup x = some .local := by first | exact .inl rfl | exact .inr rfl) (hf2 : X.fn y = true ∨ X.env.scope.names.lookup y = some .local := by first | exact .inl rfl | exact .inr rfl)
    (hs1 : (assignEach [.Name x px, .Name y py] X.env).map (·.2) = assign (.Name x px) X.env :: (assignEach [.Name y py] X.env).map (·.2) := by rfl) (hs2 : (assignEach [.Name y py] X.env).map (·.2) = assign (.Name y py) X.env :: (assignEach [] X.env).map (·.2) := by rfl)
    (hn : (assignEach [.Name x px, .Name y py] X.env).length = 2 := by rfl) (hst : (assignEach [.Name x px, .Name y py] X.env).findIdx? (·.1) = none := by rfl)
    (hp : PassesOwn (model X.prog X.w) X.A X.env X.xe := by exact PassesOwn.never) (hs : ∀ x, foldedSetIterable (.Call (.Name "zip" p) [a, b] [] p2) X.env x = pure x := by intro _; rfl) :
    tWs X (.For (.Tuple [.Name x px, .Name y py] kk tp) (.Call (.Name "zip" p) [a, b] [] p2) body [] pos) D σ H :=
  s_of (ps_for hp hc (pi_zip hg T.zip (pa_cons wp_e (pa_cons wp_e pa_nil he2) he) he hpl) (pg_tup hc (pgs_cons (pg_name nd hi hx hf) (pgs_cons (pg_name nd hj hy hf2) pgs_nil hs2) hs1) hn hst) wp_ss hs) (ha H (Ex.refl _) _ fun v H1 e1 hv => hb H1 e1 _ fun u H2 e2 hu => by
    cases hv with
    | @lst q xs _ h1 h2 =>
      cases hu with
      | @lst q' ys _ g1 g2 =>
        obtain ⟨Pv, p0, px, ps, pd⟩ := k H2 (e1.trans e2)
        have h1' := ex_l e2 h1
        refine ⟨q, q', xs, ys, rfl, h1', g1, for_it (walk_zip (n := m) (by rw [h2.len, g2.len]; exact hm)) Pv p0 (fun i σ' H' _ p => ⟨ex_l (px i σ' H' p) h1', ex_l (px i σ' H' p) g1⟩) (fun n v σ' H' H3 hn p hy => ?_) pd⟩
        obtain ⟨Ta, v1, v2, rfl, hT, rfl, h3, h4⟩ := hy
        obtain ⟨d, q1, q2⟩ := h2.getV h3
        obtain ⟨d', r1, r2⟩ := g2.getV h4
        exact pair_names i j upd_same (ps n v1 v2 d d' σ' H' _ q1 r1 (q2.ex (e2.trans ((px n σ' H' p).trans (Ex.new hT)))) (r2.ex ((px n σ' H' p).trans (Ex.new hT))) p (Ex.new hT)))
/-- while True -/
theorem s_while (Wi : Nat → L2.St → Hp → Prop) (m0 : Nat) (h0 : Wi m0 σ H) (hs : ∀ m σ' H', Wi m σ' H' → WT X c σ' H' true ∧ ∀ H1, Ex H' H1 → ∃ N : L2.St → Hp → Prop, (∀ σ2 H2, N σ2 H2 → ∃ m', m' < m ∧ Wi m' σ2 H2) ∧ tWss X body { D with nx := N, ct := N, bk := D.nx } σ' H1)
    (hp : PassesOwn (model X.prog X.w) X.A X.env X.xe := by exact PassesOwn.never) : tWs X (.While c body [] pos) D σ H :=
  s_of (ps_while hp wp_t wp_ss) ⟨Wi, ⟨m0, h0⟩, fun m σ' H' h => (hs m σ' H' h).1 H' (Ex.refl _) _ fun H1 e1 => iteT ((hs m σ' H' h).2 H1 e1)⟩

/-! ### sorted of rows of numbers -/
/-- a tuple of numbers -/
abbrev dN (ns : List Nat) : PyData := .tuple (ns.map fun n : Nat => .int (n : Int))
theorem noL_dN (ns : List Nat) : noL (dN ns) = true := by
  have : ∀ ns : List Nat, noLs (ns.map fun n : Nat => .int (n : Int)) = true := fun ns => by
    induction ns with
    | nil => rfl
    | cons a r ih => exact ih
  exact this ns
abbrev toI (ns : List Nat) : List Int := ns.map fun n : Nat => (n : Int)
theorem dN_ints (ns : List Nat) : dN ns = .tuple ((toI ns).map .int) := by
  show PyData.tuple _ = PyData.tuple _
  rw [List.map_map]; rfl
theorem toI_inj {ns ms : List Nat} (h : toI ns = toI ms) : ns = ms := by
  induction ns generalizing ms with
  | nil => cases ms with
    | nil => rfl
    | cons a r => cases h
  | cons a r ih => cases ms with
    | nil => cases h
    | cons b t =>
      injection h with h1 h2
      rw [Int.ofNat.inj h1, ih h2]
theorem rows_perm {K : PySem.W.Frag} {H : Hp} : ∀ {xs ys : List V}, ys.Perm xs → ∀ {rows : List (List Nat)}, DqAll K H xs (rows.map dN) → ∃ rows' : List (List Nat), rows'.Perm rows ∧ DqAll K H ys (rows'.map dN) := by
  intro xs ys h
  induction h with
  | nil => intro rows hr; exact ⟨rows, .refl _, hr⟩
  | @cons x l1 l2 p ih =>
    intro rows hr
    cases rows with
    | nil => cases hr
    | cons r rows =>
      cases hr with
      | cons h1 h2 =>
        obtain ⟨rows', q1, q2⟩ := ih h2
        exact ⟨r :: rows', q1.cons r, .cons h1 q2⟩
  | swap x y l =>
    intro rows hr
    match rows, hr with
    | r :: s :: rows, .cons h1 (.cons h2 h3) => exact ⟨s :: r :: rows, .swap _ _ _, .cons h2 (.cons h1 h3)⟩
  | trans p1 p2 ih1 ih2 =>
    intro rows hr
    obtain ⟨r1, q1, q2⟩ := ih2 hr
    obtain ⟨r2, q3, q4⟩ := ih1 q2
    exact ⟨r2, q3.trans q1, q4⟩
def codeN (ns : List Nat) : Int := TS.code 16 (toI ns)
theorem rows_sorted {K : PySem.W.Frag} {H : Hp} : ∀ {ys : List V} {rows : List (List Nat)}, DqAll K H ys (rows.map dN) → ys.Pairwise (fun x y => ∀ n m, TupI K H x n → TupI K H y m → TS.code 16 n ≤ TS.code 16 m) → rows.Pairwise (fun a b => codeN a ≤ codeN b)
  | _, [], _, _ => .nil
  | _, r :: rows, .cons h1 h2, hp => by
    obtain ⟨p1, p2⟩ := List.pairwise_cons.mp hp
    have tup : ∀ {v : V} {r : List Nat}, Dq K H v (dN r) → TupI K H v (toI r) := fun {v r} h => by
      rw [dN_ints] at h
      cases h with
      | tup g1 g2 => rw [dpa_ints g2] at g1; exact ⟨_, rfl, g1.seq⟩
    refine .cons (fun s hs => ?_) (rows_sorted h2 p2)
    obtain ⟨i, hi⟩ := List.getElem?_of_mem hs
    obtain ⟨v, g1, g2⟩ := h2.get (i := i) (d := dN s) (by rw [List.getElem?_map, hi]; rfl)
    exact p1 v (List.mem_of_getElem? g1) _ _ (tup h1) (tup g2)
/-- sorted(rows): some arrangement by the order -/
theorem w_sortT {rows : List (List Nat)} {n : Nat} (T : BT X.mg) (ha : Wd X a σ H (.list (rows.map dN))) (hz : rows.length < 64) (hn : 1 ≤ n) (hr : ∀ r ∈ rows, r.length = n ∧ ∀ m ∈ r, m < 16) (hg : Gl X "sorted" := by rfl)
    (he : starEach [a] X.env = (false, eval a X.env) :: starEach [] X.env := by rfl) (hpl : (backTo pos (starEach [] X.env)).any (·.1) = false := by rfl) :
    W X (.Call (.Name "sorted" p) [a] [] pos) σ H (fun v H2 => ∃ rows' : List (List Nat), rows'.Perm rows ∧ rows'.Pairwise (fun a b => codeN a ≤ codeN b) ∧ newL X H (rows'.map dN) v H2) :=
  w_cb (cr_sortT (d := n) (B := 16) hn) T.sorted boot_sorted (wd_cons ha wd_nil he) (fun vs H1 e1 hv Q k => by
    obtain ⟨v, rfl, h⟩ := dpa1 hv
    cases h with
    | lst g1 g2 =>
      refine ⟨_, _, rfl, g1, by rw [g2.len, List.length_map]; exact hz, fun x hx => ?_, fun ys q hp hs hq => ?_⟩
      · obtain ⟨i, hi⟩ := List.getElem?_of_mem hx
        obtain ⟨d, q1, q2⟩ := g2.getV hi
        rw [List.getElem?_map] at q1
        obtain ⟨r, q3, rfl⟩ := Option.map_eq_some_iff.mp q1
        rw [dN_ints] at q2
        cases q2 with
        | tup f1 f2 =>
          rw [dpa_ints f2] at f1
          obtain ⟨b1, b2⟩ := hr r (List.mem_of_getElem? q3)
          refine ⟨_, ⟨_, rfl, f1.seq⟩, by rw [List.length_map]; exact b1, fun m hm => ?_⟩
          obtain ⟨z, hz1, rfl⟩ := List.mem_map.mp hm
          have := b2 z hz1
          omega
      · obtain ⟨rows', r1, r2⟩ := rows_perm hp g2
        exact k _ _ (Ex.new hq) ⟨rows', r1, rows_sorted r2 hs, q, ys, rfl, fresh_back e1 hq, upd_same, r2.ex (Ex.new hq)⟩) hg (by decide) (by decide) he hpl
/-- a list + a list -/
theorem w_addL {ds es : List PyData} (ha : W X a σ H (fun v H2 => ∃ q, v = .ref q ∧ LstAt X.K H2 q ds)) (hb : W X b σ H (newL X H es)) (hz : ds.length + es.length ≤ 100000) (hn : noLs es = true) :
    W X (.BinOp a .Add b pos) σ H (fun v H2 => ∃ q, v = .ref q ∧ H q = none ∧ LstAt X.K H2 q (ds ++ es)) :=
  W.of (pe_op op_cat wp_e wp_e) fun H1 e1 Q k => ha H1 e1 _ fun v H2 e2 ⟨q, ev, hq⟩ => hb H2 (e1.trans e2) _ fun u H3 e3 ⟨q', vs, eu, f, h1, h2⟩ => by
    subst ev; subst eu
    obtain ⟨ws, g1, g2, g3⟩ := hq.ex e3
    refine ⟨q, q', ws, vs, rfl, rfl, g1, h1, by rw [g2.len, h2.len]; exact sz_of hz, fun z hz => ?_⟩
    exact k _ _ (e2.trans (e3.trans (Ex.new hz))) ⟨z, rfl, fresh_back (e1.trans (e2.trans e3)) hz, _, upd_same, (g2.append h2).ex (Ex.new hz), noLs_app g3 hn⟩
end
end FW
set_option maxRecDepth 100000
set_option maxHeartbeats 4000000
/-! W8: loops whose turns write lists. -/
namespace FW
open PySem PySem.Spec PyProof.Rows L2 Evl
theorem dqa_set {K : PySem.W.Frag} {H : Hp} : ∀ {vs : List V} {ds : List PyData} {v : V} {d : PyData}, DqAll K H vs ds → Dq K H v d → ∀ i, DqAll K H (vs.set i v) (ds.set i d)
  | _, _, _, _, .nil, _, _ => .nil
  | _, _, _, _, .cons _ t, h, 0 => .cons h t
  | _, _, _, _, .cons r t, h, i + 1 => .cons r (dqa_set t h i)
theorem noLs_set : ∀ {ds : List PyData} {d : PyData}, noLs ds = true → noL d = true → ∀ i, noLs (ds.set i d) = true
  | [], _, _, _, _ => rfl
  | c :: ds, d, h, hd, 0 => by
    have h' : (noL c && noLs ds) = true := h
    rw [Bool.and_eq_true] at h'
    show (noL d && noLs ds) = true
    rw [hd, h'.2]; rfl
  | c :: ds, d, h, hd, i + 1 => by
    have h' : (noL c && noLs ds) = true := h
    rw [Bool.and_eq_true] at h'
    show (noL c && noLs (ds.set i d)) = true
    rw [h'.1, noLs_set h'.2 hd i]; rfl
section
variable {X : Cx} {σ : L2.St} {H H' Hb : Hp} {P P1 P2 : VP} {e a b c iter : Expr} {pos p p2 px py tp : Pos} {D : Ends} {body : List Stmt} {k : Nat} {ps : List Str} {x y z : Str} {es : List Expr}
/-- e alone -/
theorem s_do (he : W X e σ H P) (k : ∀ H1, Ex H H1 → D.nx σ H1) (hs : swapsWith e none pos.line X.env = pure false := by rfl) : tWs X (.Expr e pos) D σ H :=
  s_of (ps_expr wp_e hs) (he H (Ex.refl _) _ fun v H1 e1 p => k H1 e1)
theorem s_forETb (i j : Nat) {kk : Nat} {ds : List PyData} {v : V} (T : BT X.mg) (nd : X.N.Nodup) (hc : X.calm = true) (ha : W X a σ H (fun u _ => u = v)) (hv : Dq X.K Hb v (.tuple ds))
    (k : ∀ H1, Ex H H1 → ∃ Pv : Nat → L2.St → Hp → Prop, Pv 0 σ H1 ∧ (∀ n σ' H', Pv n σ' H' → Ex Hb H') ∧ (∀ n v d σ' H' H2, ds[n]? = some d → Dq X.K H2 v d → Pv n σ' H' → Ex H' H2 → tWss X body (nextD D (Pv (n + 1))) ((σ'.set i (some (.int (n : Int)))).set j (some v)) H2) ∧ ∀ σ' H', Pv ds.length σ' H' → D.nx σ' H')
    (hi : X.N[i]? = some x := by rfl) (hj : X.N[j]? = some y := by rfl) (hg : Gl X "enumerate" := by rfl) (he : starEach [a] X.env = [(false, eval a X.env)] := by rfl)
    (hx : Loc X.env.scope x := by first | exact Or.inl rfl | exact Or.inr rfl) (hy : Loc X.env.scope y := by first | exact Or.inl rfl | exact Or.inr rfl)
    (hf : X.fn x = true ∨ X.env.scope.names.lookup x = some .local := by first | exact .inl rfl | exact .inr rfl) (hf2 : X.fn y = true ∨ X.env.scope.names.lookup y = some .local := by first | exact .inl rfl | exact .inr rfl)
    (hs1 : (assignEach [.Name x px, .Name y py] X.env).map (·.2) = assign (.Name x px) X.env :: (assignEach [.Name y py] X.env).map (·.2) := by rfl) (hs2 : (assignEach [.Name y py] X.env).map (·.2) = assign (.Name y py) X.env :: (assignEach [] X.env).map (·.2) := by rfl)
    (hn : (assignEach [.Name x px, .Name y py] X.env).length = 2 := by rfl) (hst : (assignEach [.Name x px, .Name y py] X.env).findIdx? (·.1) = none := by rfl)
    (hp : PassesOwn (model X.prog X.w) X.A X.env X.xe := by exact PassesOwn.never) (hs : ∀ x, foldedSetIterable (.Call (.Name "enumerate" p) [a] [] p2) X.env x = pure x := by intro _; rfl) :
    tWs X (.For (.Tuple [.Name x px, .Name y py] kk tp) (.Call (.Name "enumerate" p) [a] [] p2) body [] pos) D σ H :=
  s_of (ps_for hp hc (pi_enumT hg T.enum (pa_cons wp_e pa_nil he) he) (pg_tup hc (pgs_cons (pg_name nd hi hx hf) (pgs_cons (pg_name nd hj hy hf2) pgs_nil hs2) hs1) hn hst) wp_ss hs) (ha H (Ex.refl _) _ fun u H1 e1 hu => by
    subst hu
    obtain ⟨Pv, p0, px, ps, pd⟩ := k H1 e1
    cases hv with
    | @tup q xs _ h1 h2 =>
      obtain ⟨o, h1, hd⟩ := h1
      refine ⟨q, xs, o, rfl, px 0 _ _ p0 _ _ h1, for_enumG (n := xs.length) Pv p0 (fun i σ' H' p => px i σ' H' p _ _ h1) (fun n v T σ' H' hn hv p hT => ?_) (fun σ' H' p => pd σ' H' (by rw [← h2.len]; exact p))⟩
      obtain ⟨d, q1, q2⟩ := h2.getV hv
      exact pair_names i j upd_same (ps n v d σ' H' _ q1 (q2.ex ((px n σ' H' p).trans (Ex.new hT))) p (Ex.new hT)))
theorem s_forLb (j : Nat) {v : V} {ds : List PyData} (nd : X.N.Nodup) (hc : X.calm = true) (hi : W X iter σ H (fun u _ => u = v)) (hv : Dq X.K Hb v (.list ds))
    (k : ∀ H1, Ex H H1 → ∃ Pv : Nat → L2.St → Hp → Prop, Pv 0 σ H1 ∧ (∀ i σ' H', Pv i σ' H' → Ex Hb H') ∧ (∀ i v d σ' H', ds[i]? = some d → Dq X.K H' v d → Pv i σ' H' → tWss X body (nextD D (Pv (i + 1))) (σ'.set j (some v)) H') ∧ ∀ σ' H', Pv ds.length σ' H' → D.nx σ' H')
    (hj : X.N[j]? = some x := by rfl) (hx : Loc X.env.scope x := by first | exact Or.inl rfl | exact Or.inr rfl) (hp : PassesOwn (model X.prog X.w) X.A X.env X.xe := by exact PassesOwn.never) (hs : ∀ x, foldedSetIterable iter X.env x = pure x := by intro _; rfl)
    (hf : X.fn x = true ∨ X.env.scope.names.lookup x = some .local := by first | exact .inl rfl | exact .inr rfl) : tWs X (.For (.Name x px) iter body [] pos) D σ H :=
  s_of (ps_for hp hc (pi_list wp_e) (pg_name nd hj hx hf) wp_ss hs) (hi H (Ex.refl _) _ fun u H1 e1 hu => by
    subst hu
    obtain ⟨Pv, p0, px, ps, pd⟩ := k H1 e1
    cases hv with
    | lst h1 h2 =>
      refine ⟨_, rfl, ⟨_, ex_l (px 0 _ _ p0) h1⟩, for_list Pv p0 (fun i σ' H' _ p => ex_l (px i σ' H' p) h1) (fun i v σ' H' hv p => ?_) (fun σ' H' p => pd σ' H' (by rw [← h2.len]; exact p))⟩
      obtain ⟨d, q1, q2⟩ := h2.getV hv
      exact ps i v d σ' H' q1 (q2.ex (px i σ' H' p)) p)
/-- for x, y in zip(a, b): lists of ints, the second one new -/
theorem s_forZi (i j : Nat) {kk : Nat} {ns ms : List Int} {q1 : Addr} (T : BT X.mg) (nd : X.N.Nodup) (hc : X.calm = true) (ha : W X a σ H (fun u _ => u = .ref q1)) (ha2 : SqL X.K H q1 (ns.map V.int)) (hb : W X b σ H (newL X H (ms.map .int))) {m : Nat} (hm : m = min ns.length ms.length)
    (k : ∀ q2 H1, Ex H H1 → H q2 = none → H1 q2 = some (.lst (ms.map V.int)) → ∃ Pv : Nat → L2.St → Hp → Prop, Pv 0 σ H1 ∧ (∀ n σ' H', Pv n σ' H' → SqL X.K H' q1 (ns.map V.int) ∧ SqL X.K H' q2 (ms.map V.int)) ∧ (∀ n v u σ' H' H2, ns[n]? = some v → ms[n]? = some u → Pv n σ' H' → Ex H' H2 → tWss X body (nextD D (Pv (n + 1))) ((σ'.set i (some (.int v))).set j (some (.int u))) H2) ∧ ∀ σ' H', Pv m σ' H' → D.nx σ' H')
    (hi : X.N[i]? = some x := by rfl) (hj : X.N[j]? = some y := by rfl) (hg : Gl X "zip" := by rfl) (he : starEach [a, b] X.env = (false, eval a X.env) :: starEach [b] X.env := by rfl) (he2 : starEach [b] X.env = (false, eval b X.env) :: starEach [] X.env := by rfl) (hpl : (backTo p2 (starEach [b] X.env)).any (·.1) = false := by rfl)
    (hx : Loc X.env.scope x := by first | exact Or.inl rfl | exact Or.inr rfl) (hy : Loc X.env.scope y := by first | exact Or.inl rfl | exact Or.inr rfl)
    (hf : X.fn x = true ∨ X.env.scope.names.lookup x = some .local := by first | exact .inl rfl | exact .inr rfl) (hf2 : X.fn y = true ∨ X.env.scope.names.lookup y = some .local := by first | exact .inl rfl | exact .inr rfl)
    (hs1 : (assignEach [.Name x px, .Name y py] X.env).map (·.2) = assign (.Name x px) X.env :: (assignEach [.Name y py] X.env).map (·.2) := by rfl) (hs2 : (assignEach [.Name y py] X.env).map (·.2) = assign (.Name y py) X.env :: (assignEach [] X.env).map (·.2) := by rfl)
    (hn : (assignEach [.Name x px, .Name y py] X.env).length = 2 := by rfl) (hst : (assignEach [.Name x px, .Name y py] X.env).findIdx? (·.1) = none := by rfl)
    (hp : PassesOwn (model X.prog X.w) X.A X.env X.xe := by exact PassesOwn.never) (hs : ∀ x, foldedSetIterable (.Call (.Name "zip" p) [a, b] [] p2) X.env x = pure x := by intro _; rfl) :
    tWs X (.For (.Tuple [.Name x px, .Name y py] kk tp) (.Call (.Name "zip" p) [a, b] [] p2) body [] pos) D σ H :=
  s_of (ps_for hp hc (pi_zip hg T.zip (pa_cons wp_e (pa_cons wp_e pa_nil he2) he) he hpl) (pg_tup hc (pgs_cons (pg_name nd hi hx hf) (pgs_cons (pg_name nd hj hy hf2) pgs_nil hs2) hs1) hn hst) wp_ss hs) (ha H (Ex.refl _) _ fun v H1 e1 hv => hb H1 e1 _ fun u H2 e2 hu => by
    subst hv
    obtain ⟨q2, vs, rfl, f0, f1, f2⟩ := hu
    rw [dpa_ints f2] at f1
    obtain ⟨Pv, p0, px, ps, pd⟩ := k q2 H2 (e1.trans e2) f0 f1
    refine ⟨q1, q2, _, _, rfl, ex_l (e1.trans e2) ha2, sq_of f1, for_it (walk_zip (n := m) (by rw [List.length_map, List.length_map]; exact hm)) Pv p0 (fun i σ' H' _ p => px i σ' H' p) (fun n v σ' H' H3 hn p hy => ?_) pd⟩
    obtain ⟨Ta, v1, v2, rfl, hT, rfl, h3, h4⟩ := hy
    replace h3 : (ns.map V.int)[n]? = some v1 := h3
    replace h4 : (ms.map V.int)[n]? = some v2 := h4
    rw [List.getElem?_map] at h3 h4
    obtain ⟨n1, g1, rfl⟩ := Option.map_eq_some_iff.mp h3
    obtain ⟨n2, g2, rfl⟩ := Option.map_eq_some_iff.mp h4
    exact pair_names i j upd_same (ps n n1 n2 σ' H' _ g1 g2 p (Ex.new hT)))
/-- xs[a:b] of a list: a new one -/
theorem w_slLn {lo hi : Option Expr} {l u : Option Int} {ds : List PyData} (ha : Wd X a σ H (.list ds)) (hl : WO X lo σ H l) (hu : WO X hi σ H u) : W X (.Subscript a (.Slice lo hi none p2) pos) σ H (newL X H (cutD ds l u)) := by
  obtain ⟨tl, pl, ql⟩ := hl
  obtain ⟨th, ph, qh⟩ := hu
  refine W.of (pe_slice sl_list wp_e pl ph) fun H1 e1 Q k => ha H1 e1 _ fun v H2 e2 hv => ql H2 (e1.trans e2) _ fun H3 e3 => qh H3 (e1.trans (e2.trans e3)) _ fun H4 e4 => ?_
  cases hv with
  | lst h1 h2 =>
    exact ⟨_, _, rfl, ex_l (e3.trans e4) h1, fun p hp => k _ _ (e2.trans (e3.trans (e4.trans (Ex.new hp)))) ⟨p, _, rfl, fresh_back (e1.trans (e2.trans (e3.trans e4))) hp, upd_same, (dpa_cut h2 l u).ex (e3.trans (e4.trans (Ex.new hp)))⟩⟩
/-- [..] * n -/
theorem w_mulL {ds : List PyData} {n : Nat} (ha : W X a σ H (newL X H ds)) (hb : Wd X b σ H (.int (n : Int))) (hz : ds.length * n ≤ 100000) (hn : n ≤ 100000) : W X (.BinOp a .Mult b pos) σ H (newL X H (List.replicate n ds).flatten) :=
  W.of (pe_op op_rep wp_e wp_e) fun H1 e1 Q k => ha H1 e1 _ fun v H2 e2 ⟨q, vs, ev, f0, f1, f2⟩ => hb H2 (e1.trans e2) _ fun u H3 e3 hu => by
    subst ev
    cases hu
    refine ⟨q, n, vs, rfl, rfl, e3 _ _ f1, by omega, by omega, ?_, fun z hz => ?_⟩
    · rw [f2.len]; exact sz_of (by simpa using hz)
    · exact k _ _ (e2.trans (e3.trans (Ex.new hz))) ⟨z, _, rfl, fresh_back (e1.trans (e2.trans e3)) hz, upd_same, (f2.rep n).ex (e3.trans (Ex.new hz))⟩
/-- l[i] = e, i in bounds -/
theorem s_setI {l : Addr} {ds : List PyData} {d : PyData} {i : Nat} {o ix : Expr} {pos' : Pos} (hl : LstAt X.K H l ds) (he : Wd X e σ H d) (ho : W X o σ H (fun v _ => v = .ref l)) (hi : Wd X ix σ H (.int (i : Int))) (hb : i < ds.length) (n : noL d = true)
    (k : ∀ H2, LstAt X.K H2 l (ds.set i d) → (∀ Hb, Ex Hb H → Hb l = none → Ex Hb H2) → D.nx σ H2)
    (hA : ∀ v, assign (.Subscript o ix pos') X.env v = (do
      let ov ← holding [v] (eval o X.env)
      let iv ← holding [v, ov] (eval ix X.env)
      standAt pos'
      holding [v, ov, iv] (setItem ov iv v)
      release [v, ov, iv] []) := by intro _; rfl)
    (hs : swapsWithSole [.Subscript o ix pos'] e pos.line X.env = pure false := by rfl) (hw : swappedStores [.Subscript o ix pos'] e X.env = pure none := by rfl)
    (h1 : (assignEach [.Subscript o ix pos'] X.env).map (·.2) = [assign (.Subscript o ix pos') X.env] := by rfl) : tWs X (.Assign [.Subscript o ix pos'] e pos) D σ H :=
  s_asg (pg_sub wp_e wp_e set_list hA) he (fun v H1 e1 hv => ho H1 e1 _ fun u H2 e2 hu => hi H2 (e1.trans e2) _ fun w H3 e3 hw => by
    subst hu
    cases hw
    obtain ⟨vs, g1, g2, g3⟩ := hl.ex (e1.trans (e2.trans e3))
    have hlen : i < vs.length := by rw [g2.len]; exact hb
    refine ⟨l, vs, (i : Int), i, rfl, rfl, g1, ?_, k _ ⟨_, upd_same, dqa_upd g1 _ _ ?_ (dqa_set g2 (hv.ex (e2.trans e3)) i), ?_⟩ fun Hb eb nb => (eb.trans (e1.trans (e2.trans e3))).mut nb⟩
    · unfold ixN
      rw [if_pos (by omega), if_pos (by omega)]
      rfl
    · exact noLs_set g3 n i
    · exact noLs_set g3 n i) hs hw h1
/-- all but l stands -/
def Exm (l : Addr) (H H' : Hp) : Prop := ∀ a o, a ≠ l → H a = some o → H' a = some o
theorem Exm.ex {l : Addr} (h : Exm l H H') (e : Ex Hb H) (n : Hb l = none) : Ex Hb H' := fun a o ha => h a o (ne_of_none ha n) (e a o ha)
theorem s_appm {l : Addr} {ds : List PyData} {d : PyData} {apos : Pos} (ho : W X a σ H (fun v _ => v = .ref l)) (hl : LstAt X.K H l ds) (he : Wd X e σ H d) (n : noL d = true) (hz : ds.length < 100000)
    (k : ∀ H2, LstAt X.K H2 l (ds ++ [d]) → Exm l H H2 → D.nx σ H2) (hbase : attributeBase a "append" X.env (eval a X.env) = eval a X.env := by rfl)
    (hfew : ((backTo pos (starEach [e] X.env)).all (fun x => !x.1) && (backToKw pos (keywordEach [] X.env)).all (fun x => x.1.isSome)
      && decide (([e] : List Expr).length + ([] : List Keyword).length + (if ([] : List Keyword).isEmpty then 0 else 1) < 30)) = true := by rfl)
    (hline : (apos.endLine == pos.line) = true := by rfl) (hs : starEach [e] X.env = (false, eval e X.env) :: starEach [] X.env := by rfl) (hplain : (backTo pos (starEach [] X.env)).any (·.1) = false := by rfl)
    (hsw : swapsWith (.Call (.Attribute a "append" apos) [e] [] pos) none p.line X.env = pure false := by rfl) :
    tWs X (.Expr (.Call (.Attribute a "append" apos) [e] [] pos) p) D σ H := by
  refine s_of (ps_expr (pe_bm PySem.F.plainAttrs_list PySem.F.slot_list_append PySem.F.type_list_append mt_append wp_e wp_a hbase hfew hline hs hplain) hsw) ?_
  refine ho H (Ex.refl _) _ fun v H1 e1 hv => ?_
  subst hv
  obtain ⟨vs, h1, h2, h3⟩ := hl
  refine ⟨.inl ⟨rfl, _, sq_of (e1 _ _ h1)⟩, (wd_cons he wd_nil hs) H1 e1 _ fun us H2 e2 hus => ?_⟩
  obtain ⟨u, rfl, hu⟩ := dpa1 hus
  have e12 : Ex H H2 := e1.trans e2
  refine ⟨l, vs, u, rfl, rfl, e12 _ _ h1, ?_, k _ (LstAt.add (e12 _ _ h1) (h2.ex e12) h3 hu n) fun a o ha h => by rw [upd_ne ha]; exact e12 a o h⟩
  rw [h2.len]; exact sz_lt hz
/-- three chained comparisons, as a test -/
theorem pt_chain3 {d : Expr} {op op' op'' : CmpOp} {r r' r'' : R2} {ta tb tc td : TE} (ho : OpR X (compareOp op) r) (ho' : OpR X (compareOp op') r') (ho'' : OpR X (compareOp op'') r'') (ha : PE X a ta) (hb : PE X b tb) (hc : PE X c tc) (hd : PE X d td)
    (hm : lastMarks [op, op', op''] [b, c, d] = false := by with_unfolding_all rfl) : PT X (.Compare a [op, op', op''] [b, c, d] pos) (tTest (tChain3 r r' r'' ta tb tc td)) := by
  refine ⟨fun pins s σ H Q I h => ?_⟩
  refine isTrue_chain (thn (ha.run pins s σ H _ I h) fun v s1 ⟨x, H1, I1, r1, q1⟩ => test_link (thn (hb.run pins s1 σ H1 _ I1 q1) fun u s2 ⟨y, H2, I2, r2, q2⟩ =>
    thn (ho pins s2 σ H2 x y v u _ I2 r1 r2 q2) fun d s3 ⟨z, H3, I3, r3, k, e, q3⟩ => ?_)) hm
  subst e
  cases r3
  refine wpAny_truthy_bool ?_
  cases k with
  | false =>
    obtain ⟨k', e', q'⟩ := q3
    cases e'
    exact ite_ff ⟨H3, I3, q'⟩
  | true =>
    refine ite_tt (test_link (thn (hc.run pins s3 σ H3 _ I3 q3) fun w' s4 ⟨z', H4, I4, r4, q4⟩ => thn (ho' pins s4 σ H4 y z' u w' _ I4 r2 r4 q4) fun d' s5 ⟨z2, H5, I5, r5, k', e', q5⟩ => ?_))
    subst e'
    cases r5
    refine wpAny_truthy_bool ?_
    cases k' with
    | false =>
      obtain ⟨k', e', q'⟩ := q5
      cases e'
      exact ite_ff ⟨H5, I5, q'⟩
    | true =>
      refine ite_tt (test_last (thn (hd.run pins s5 σ H5 _ I5 q5) fun w2 s6 ⟨z3, H6, I6, r6, q6⟩ => thn (ho'' pins s6 σ H6 z' z3 w' w2 _ I6 r4 r6 q6) fun d'' s7 ⟨z4, H7, I7, r7, k2, e2, q7⟩ => ?_))
      subst e2
      cases r7
      exact wpAny_truthy_bool ⟨H7, I7, q7⟩
theorem w_ch3T {d : Expr} {i j l m : Int} (ha : Wd X a σ H (.int i)) (hb : Wd X b σ H (.int j)) (hc : Wd X c σ H (.int l)) (hd : Wd X d σ H (.int m))
    (hm : lastMarks [.Lt, .Lt, .Lt] [b, c, d] = false := by with_unfolding_all rfl) : WT X (.Compare a [.Lt, .Lt, .Lt] [b, c, d] pos) σ H (decide (i < j) && (decide (j < l) && decide (l < m))) :=
  WT.of (pt_chain3 op_lt op_lt op_lt wp_e wp_e wp_e wp_e hm) fun H1 e1 Q k => ha H1 e1 _ fun v H2 e2 hv => hb H2 (e1.trans e2) _ fun u H3 e3 hu => by
    cases hv; cases hu
    refine ⟨i, j, rfl, rfl, decide (i < j), rfl, ?_⟩
    revert k
    cases decide (i < j) with
    | true =>
      intro k
      refine iteT (hc H3 (e1.trans (e2.trans e3)) _ fun w H4 e4 hw => ?_)
      cases hw
      refine ⟨j, l, rfl, rfl, decide (j < l), rfl, ?_⟩
      revert k
      cases decide (j < l) with
      | true =>
        intro k
        refine iteT (hd H4 (e1.trans (e2.trans (e3.trans e4))) _ fun w H5 e5 hw => ?_)
        cases hw
        exact ⟨l, m, rfl, rfl, _, rfl, k H5 (e2.trans (e3.trans (e4.trans e5)))⟩
      | false => intro k; exact iteF ⟨_, rfl, k H4 (e2.trans (e3.trans e4))⟩
    | false => intro k; exact iteF ⟨_, rfl, k H3 (e2.trans e3)⟩
end
end FW
set_option maxRecDepth 100000
set_option maxHeartbeats 4000000
/-! D1: values.py -/
namespace FW
open PySem PySem.Spec PyProof.Rows L2 Evl
/-- marks as a text -/
def mcode (b : Bool) : Nat := if b then 118 else 109
def mstr (bs : List Bool) : Str := ⟨(bs.map mcode).toArray⟩
theorem mstr_len (bs : List Bool) : (mstr bs).length = bs.length := by
  show (bs.map mcode).toArray.size = _
  simp
theorem mstr_list (bs : List Bool) : (mstr bs).cps.toList = bs.map mcode := rfl
section
variable {P : Program} {w : World} {K : PySem.W.Frag} {mg : Str → Option Value} {base : Heap}
def G_is_integer : List PyData → PyData → Prop := fun ds d => ∃ i, ds = [.int i] ∧ d = .bool true
theorem c_is_integer (D : Df K mg "is_integer" s_is_integer) (T : BT mg) : Cal P w K mg base 1 "is_integer" ["value"] (spD K G_is_integer) := by
  refine D.cal (fun _ _ _ _ _ _ us hl => match us, hl with | [_], _ => rfl) fun f fd F => ?_
  refine okD F sc_is_integer (fun ds d ⟨i, h, _⟩ => by rw [h]; rfl) fun cdv A outer s H vs Q E ds d hr hv hG hQ => ?_
  obtain ⟨i, rfl, rfl⟩ := hG
  obtain ⟨v, rfl, h0⟩ := dpa1 hv
  exact ss_cons (s_ret (w_and (w_isInt T (w_v 0 h0) rfl kb_ii) fun _ => w_not (w_isBool T (w_v 0 h0) rfl kb_ib)) fun v H1 e1 p => hQ v H1 e1 p)
def G_is_between : List PyData → PyData → Prop := fun ds d => ∃ i a b, ds = [.int i, .int a, .int b] ∧ d = .bool (decide (a ≤ i) && decide (i ≤ b))
theorem c_is_between (D : Df K mg "is_between" s_is_between) (T : BT mg) (C1 : Cal P w K mg base 1 "is_integer" ["value"] (spD K G_is_integer)) : Cal P w K mg base 2 "is_between" ["value", "least", "most"] (spD K G_is_between) := by
  refine D.cal (fun _ _ _ _ _ _ us hl => match us, hl with | [_, _, _], _ => rfl) fun f fd F => ?_
  refine okD F sc_is_between (fun ds d ⟨i, a, b, h, _⟩ => by rw [h]; rfl) fun cdv A outer s H vs Q E ds d hr hv hG hQ => ?_
  obtain ⟨i, a, b, rfl, rfl⟩ := hG
  obtain ⟨v0, v1, v2, rfl, h0, h1, h2⟩ := dpa3 hv
  exact ss_cons (s_ret (w_and (w_C C1 hr (wd_cons (w_v 0 h0) wd_nil) ⟨i, rfl, rfl⟩) fun _ => w_ch op_le op_le (w_v 1 h1) (w_v 0 h0) (w_v 2 h2)) fun v H1 e1 p => hQ v H1 e1 p)
def G_are_signs : List PyData → PyData → Prop := fun ds d => ∃ bs : List Bool, ds = [.str (mstr bs), .str "mv", .int (bs.length : Int), .int (bs.length : Int)] ∧ bs.length ≤ 1000 ∧ d = .bool true
theorem in_mv {c : Nat} {bs : List Bool} (h : c ∈ (mstr bs).cps.toList) : (!(Builtin.Str.occurrences "mv" ⟨#[c]⟩ 0 (Str.length "mv") 1).isEmpty) = true := by
  rw [mstr_list] at h
  obtain ⟨b, _, rfl⟩ := List.mem_map.mp h
  cases b <;> decide +kernel
theorem dpa4 {K : PySem.W.Frag} {H : Hp} {vs : List V} {d d' d'' d3 : PyData} (h : DqAll K H vs [d, d', d'', d3]) : ∃ v u w x, vs = [v, u, w, x] ∧ Dq K H v d ∧ Dq K H u d' ∧ Dq K H w d'' ∧ Dq K H x d3 := by
  cases h with
  | cons h1 h2 => obtain ⟨u, w, x, rfl, h3, h4, h5⟩ := dpa3 h2; exact ⟨_, u, w, x, rfl, h1, h3, h4, h5⟩
theorem lenD_mstr {bs : List Bool} (h : bs.length ≤ 1000) : lenD (.str (mstr bs)) = some bs.length := by
  show (if (mstr bs).length ≤ 100000 then some (mstr bs).length else none) = _
  rw [mstr_len, if_pos (by omega)]
theorem all_true {α : Type} (l : List α) : (l.map fun _ => true).all id = true := by
  rw [List.all_map]
  exact List.all_eq_true.mpr fun _ _ => rfl
theorem c_are_signs (D : Df K mg "are_signs" s_are_signs) (T : BT mg) : Cal P w K mg base 1 "are_signs" ["value", "signs", "least", "most"] (spD K G_are_signs) := by
  refine D.cal (fun _ _ _ _ _ _ us hl => match us, hl with | [_, _, _, _], _ => rfl) fun f fd F => ?_
  refine okD F sc_are_signs (fun ds d ⟨bs, h, _⟩ => by rw [h]; rfl) fun cdv A outer s H vs Q E ds d hr hv hG hQ => ?_
  obtain ⟨bs, rfl, hz, rfl⟩ := hG
  obtain ⟨v0, v1, v2, v3, rfl, h0, h1, h2, h3⟩ := dpa4 hv
  refine ss_cons (s_ifF ((wt_or (wt_not (wt_v (w_isStr T (w_v 0 h0) rfl kb_ss))) fun _ => wt_not (w_chT op_le op_le (w_v 2 h2) (w_len T (w_v 0 h0) (lenD_mstr hz)) (w_v 3 h3))).is (by simp)) fun H1 e1 => ss_nil ?_)
  refine ss_cons (s_ret (w_all T rfl (bs := (mstr bs).cps.toList.map fun _ => true) (Wd.is (newL_dt (w_lc 4 sc_are_signs.nd rfl (g := fun _ => .bool true) (src_str (w_v 0 (h0.ex e1))) (by rw [mstr_list, List.length_map]; omega) (fun _ _ => rfl)
    (fun c hc v H2 e2 hv s0 H0 C cl fp => Wd.is (w_inStr (w_v 4 hv) (w_v 1 (h1.ex (e1.trans e2)))) (congrArg PyData.bool (in_mv hc)))
    (blkOk_by (N := n_are_signs) (sc := defScope s_are_signs) (by decide +kernel)))) (by rw [List.map_map]; rfl))) fun v H2 e2 p => hQ v H2 (e1.trans e2) ?_)
  rw [all_true] at p
  exact p
end
end FW
set_option maxRecDepth 100000
set_option maxHeartbeats 4000000
/-! D2: stamps.py, to does_last_fit -/
namespace FW
open PySem PySem.Spec PyProof.Rows L2 Evl
theorem nodup_ix_nat {l : List Nat} (hN : l.Nodup) {i j : Nat} {x : Nat} (a : l[i]? = some x) (b : l[j]? = some x) : i = j := nd_ix hN a b
/-- layers: the numbers below their number, each once -/
def Pile (p : List Nat) : Prop := p.Perm (List.range p.length)
theorem Pile.nd {p : List Nat} (h : Pile p) : p.Nodup := h.nodup_iff.mpr List.nodup_range
theorem Pile.mem {p : List Nat} (h : Pile p) {k : Nat} : k ∈ p ↔ k < p.length := by rw [h.mem_iff, List.mem_range]
theorem idxOf_toI (k : Nat) : ∀ p : List Nat, (toI p).idxOf (k : Int) = p.idxOf k
  | [] => rfl
  | x :: p => by
    show ((x : Int) :: toI p).idxOf (k : Int) = _
    rw [List.idxOf_cons, List.idxOf_cons, idxOf_toI k p]
    by_cases h : x = k
    · subst h; simp
    · have h2 : ¬ (x : Int) = (k : Int) := by omega
      rw [beq_eq_false_iff_ne.mpr h, beq_eq_false_iff_ne.mpr h2]
theorem mem_toI {k : Nat} {p : List Nat} : (k : Int) ∈ toI p ↔ k ∈ p := by
  constructor
  · intro h
    obtain ⟨x, hx, e⟩ := List.mem_map.mp h
    have : x = k := by omega
    subst this; exact hx
  · exact fun h => List.mem_map.mpr ⟨k, h, rfl⟩
theorem cutD_take {α : Type} (xs : List α) (n : Nat) : cutD xs none (some (n : Int)) = xs.take n := by
  unfold cutD
  rw [HT.sIx_none, HT.sIx_nat, List.drop_zero, Nat.sub_zero]
  rw [List.take_eq_take_iff]
  omega
theorem cutD_drop {α : Type} (xs : List α) (n : Nat) : cutD xs (some (n : Int)) none = xs.drop n := by
  unfold cutD
  rw [HT.sIx_none, HT.sIx_nat]
  by_cases h : n ≤ xs.length
  · rw [Nat.min_eq_left h, List.take_of_length_le (by rw [List.length_drop]; omega)]
  · rw [Nat.min_eq_right (by omega), List.drop_length, List.drop_of_length_le (by omega)]
    simp
theorem dN_len (p : List Nat) : lenD (dN p) = some p.length := by
  show some (p.map _).length = _
  rw [List.length_map]
/-- constants of the text -/
structure CT (mg : Str → Option Value) : Prop where
  pieces : ∃ t, mg "MOST_PIECES" = some (.int 8 t)
  length : ∃ t, mg "MOST_LENGTH" = some (.int 1000 t)
  marks : ∃ t, mg "MOST_MARKS" = some (.int 7 t)
def sign (b : Bool) : Str := mstr [b]
theorem sv : (Str.ofString "v") = sign true := by decide +kernel
theorem sm : (Str.ofString "m") = sign false := by decide +kernel
theorem join_signs : ∀ bs : List Bool, Txt.join (Str.ofString "") (bs.map sign) = mstr bs := by
  intro bs
  have tlx : ∀ {x y : Str}, x.cps.toList = y.cps.toList → x = y := fun {x y} h => by
    cases x; cases y
    congr
    exact Array.toList_inj.mp h
  have jl : ∀ bs : List Bool, TL.joinL [] (bs.map fun b => [mcode b]) = bs.map mcode := by
    intro bs
    induction bs with
    | nil => rfl
    | cons b r ih =>
      cases r with
      | nil => rfl
      | cons c r =>
        show [mcode b] ++ ([] ++ TL.joinL [] ((c :: r).map fun b => [mcode b])) = mcode b :: (c :: r).map mcode
        rw [ih]; rfl
  refine tlx ?_
  rw [TL.join_eq]
  show TL.tl (Str.join _ _) = _
  rw [TL.tl_join, List.map_map]
  exact jl bs
section
variable {P : Program} {w : World} {K : PySem.W.Frag} {mg : Str → Option Value} {base : Heap}
def G_sized : List PyData → PyData → Prop := fun ds d => ∃ p : List Nat, ds = [dN p] ∧ 1 ≤ p.length ∧ p.length ≤ 8 ∧ d = .bool true
theorem c_is_sized (D : Df K mg "is_sized" s_is_sized) (T : BT mg) (M : CT mg) : Cal P w K mg base 1 "is_sized" ["value"] (spD K G_sized) := by
  refine D.cal (fun _ _ _ _ _ _ us hl => match us, hl with | [_], _ => rfl) fun f fd F => ?_
  refine okD F sc_is_sized (fun ds d ⟨i, h, _⟩ => by rw [h]; rfl) fun cdv A outer s H vs Q E ds d hr hv hG hQ => ?_
  obtain ⟨p, rfl, h1, h2, rfl⟩ := hG
  obtain ⟨v, rfl, h0⟩ := dpa1 hv
  refine ss_cons (s_ret (w_and (w_isTup T (w_v 0 h0) rfl kb_tt) fun _ => w_ch op_lt op_le w_int (w_len T (w_v 0 h0) (dN_len p)) (w_gi M.pieces)) fun v H1 e1 q => hQ v H1 e1 ?_)
  rw [show (true && (decide ((0 : Int) < (p.length : Int)) && decide ((p.length : Int) ≤ 8))) = true by simp; omega] at q
  exact q
def G_wrong : List PyData → PyData → Prop := fun ds d => ∃ p : List Nat, ds = [dN p] ∧ Pile p ∧ p.length ≤ 8 ∧ d = .none
theorem c_wrong_piece (D : Df K mg "wrong_piece" s_wrong_piece) (T : BT mg) (C1 : Cal P w K mg base 2 "is_between" ["value", "least", "most"] (spD K G_is_between)) : Cal P w K mg base 3 "wrong_piece" ["layers"] (spD K G_wrong) := by
  refine D.cal (fun _ _ _ _ _ _ us hl => match us, hl with | [_], _ => rfl) fun f fd F => ?_
  refine okD F sc_wrong_piece (fun ds d ⟨i, h, _⟩ => by rw [h]; rfl) fun cdv A outer s H vs Q E ds d hr hv hG hQ => ?_
  obtain ⟨p, rfl, hp, h2, rfl⟩ := hG
  obtain ⟨v, rfl, h0⟩ := dpa1 hv
  refine ss_cons (s_forET 1 2 T sc_wrong_piece.nd rfl (w_v 0 h0) fun H1 e1 => ⟨fun n σ' H' => Ex H1 H' ∧ ∃ a b, σ' = [some v, a, b], ⟨Ex.refl _, none, none, rfl⟩, fun n σ' H' h => h.1, fun n u d σ' H' H2 hd hu ⟨ex, a, b, hσ⟩ e2 => ?_, fun σ' H' ⟨ex, a, b, hσ⟩ => ?_⟩)
  · subst hσ
    rw [List.getElem?_map] at hd
    obtain ⟨x, hx, rfl⟩ := Option.map_eq_some_iff.mp hd
    have hn : n < p.length := (List.getElem?_eq_some_iff.mp hx).1
    have hxl : x < p.length := hp.mem.mp (List.mem_of_getElem? hx)
    have g0 : Dq K H2 v (dN p) := h0.ex (e1.trans (ex.trans e2))
    refine ss_cons (s_ifF ((wt_or (wt_not (wt_v (w_C C1 hr (wd_cons (w_v 2 hu) (wd_cons w_int (wd_cons (w_sub (w_len T (w_v 0 g0) (dN_len p)) w_int) wd_nil))) ⟨x, 0, (p.length : Int) - 1, rfl, rfl⟩))) fun _ => wt_inI (ns := toI (p.take n)) (w_v 2 hu) (Wd.is (w_slT (w_v 0 g0) wo_n (wo_s (w_v 1 (.int (n : Int))))) ?_)).is ?_) fun H3 e3 => ss_nil (ss_nil ?_))
    · rw [cutD_take, ← List.map_take]
      exact dN_ints _
    · have h3 : ((toI (p.take n)).any fun y => y == (x : Int)) = false := by
        rw [List.any_eq_false]
        intro y hy
        obtain ⟨z, hz, rfl⟩ := List.mem_map.mp hy
        have : z ≠ x := by
          intro e; subst e
          obtain ⟨i, hi⟩ := List.getElem?_of_mem hz
          rw [List.getElem?_take] at hi
          split at hi
          · rename_i hin
            have := nodup_ix_nat hp.nd hi hx
            omega
          · cases hi
        simp; omega
      rw [h3]
      simp
      omega
    · exact ⟨ex.trans (e2.trans e3), _, _, rfl⟩
  · subst hσ
    exact ss_cons (s_ret w_non fun u H3 e3 q => hQ u H3 (e1.trans (ex.trans e3)) q)
def G_pile : List PyData → PyData → Prop := fun ds d => ∃ p : List Nat, ds = [dN p] ∧ Pile p ∧ 1 ≤ p.length ∧ p.length ≤ 8 ∧ d = .bool true
theorem c_is_pile (D : Df K mg "is_pile" s_is_pile) (T : BT mg) (C1 : Cal P w K mg base 1 "is_sized" ["value"] (spD K G_sized)) (C2 : Cal P w K mg base 3 "wrong_piece" ["layers"] (spD K G_wrong)) : Cal P w K mg base 4 "is_pile" ["value"] (spD K G_pile) := by
  refine D.cal (fun _ _ _ _ _ _ us hl => match us, hl with | [_], _ => rfl) fun f fd F => ?_
  refine okD F sc_is_pile (fun ds d ⟨i, h, _⟩ => by rw [h]; rfl) fun cdv A outer s H vs Q E ds d hr hv hG hQ => ?_
  obtain ⟨p, rfl, hp, h1, h2, rfl⟩ := hG
  obtain ⟨v, rfl, h0⟩ := dpa1 hv
  exact ss_cons (s_ret (w_and (w_C C1 (hr.mono (by decide)) (wd_cons (w_v 0 h0) wd_nil) ⟨p, rfl, h1, h2, rfl⟩) fun _ => w_isN (w_C C2 hr (wd_cons (w_v 0 h0) wd_nil) ⟨p, rfl, hp, h2, rfl⟩)) fun v H1 e1 q => hQ v H1 e1 q)
def G_check_layers : List PyData → PyData → Prop := fun ds d => ∃ p : List Nat, ds = [dN p] ∧ Pile p ∧ 1 ≤ p.length ∧ p.length ≤ 8 ∧ d = .none
theorem c_check_layers (D : Df K mg "check_layers" s_check_layers) (C1 : Cal P w K mg base 4 "is_pile" ["value"] (spD K G_pile)) : Cal P w K mg base 5 "check_layers" ["layers"] (spD K G_check_layers) := by
  refine D.cal (fun _ _ _ _ _ _ us hl => match us, hl with | [_], _ => rfl) fun f fd F => ?_
  refine okD F sc_check_layers (fun ds d ⟨i, h, _⟩ => by rw [h]; rfl) fun cdv A outer s H vs Q E ds d hr hv hG hQ => ?_
  obtain ⟨p, rfl, hp, h1, h2, rfl⟩ := hG
  obtain ⟨v, rfl, h0⟩ := dpa1 hv
  exact ss_cons (s_ifF (wt_not (r := true) (wt_v (w_C C1 hr (wd_cons (w_v 0 h0) wd_nil) ⟨p, rfl, hp, h1, h2, rfl⟩))) fun H1 e1 => ss_nil (ss_nil (hQ _ H1 e1 .non)))
def G_marks : List PyData → PyData → Prop := fun ds d => ∃ bs : List Bool, ds = [.str (mstr bs)] ∧ bs.length ≤ 7 ∧ d = .bool true
theorem in_tup_mv {c : Nat} {bs : List Bool} (h : c ∈ (mstr bs).cps.toList) : (([Str.ofString "m", Str.ofString "v"] : List Str).any fun y => y == (⟨#[c]⟩ : Str)) = true := by
  rw [mstr_list] at h
  obtain ⟨b, _, rfl⟩ := List.mem_map.mp h
  cases b <;> decide +kernel
theorem c_are_marks (D : Df K mg "are_marks" s_are_marks) (T : BT mg) (M : CT mg) : Cal P w K mg base 1 "are_marks" ["value"] (spD K G_marks) := by
  refine D.cal (fun _ _ _ _ _ _ us hl => match us, hl with | [_], _ => rfl) fun f fd F => ?_
  refine okD F sc_are_marks (fun ds d ⟨bs, h, _⟩ => by rw [h]; rfl) fun cdv A outer s H vs Q E ds d hr hv hG hQ => ?_
  obtain ⟨bs, rfl, hz, rfl⟩ := hG
  obtain ⟨v, rfl, h0⟩ := dpa1 hv
  refine ss_cons (s_ret (w_and3 (w_isStr T (w_v 0 h0) rfl kb_ss) (fun _ => w_le (w_len T (w_v 0 h0) (lenD_mstr (by omega))) (w_gi M.marks)) fun _ _ => w_all T rfl (bs := (mstr bs).cps.toList.map fun _ => true) (Wd.is (newL_dt (w_lc 1 sc_are_marks.nd rfl (g := fun _ => .bool true) (src_str (w_v 0 h0)) (by rw [mstr_list, List.length_map]; omega) (fun _ _ => rfl)
    (fun c hc v H2 e2 hv s0 H0 C cl fp => Wd.is (w_inS (ys := ["m", "v"]) (w_v 1 hv) (w_tup (wd_cons w_str (wd_cons w_str wd_nil)) (by simp))) (congrArg PyData.bool (in_tup_mv hc)))
    (blkOk_by (N := n_are_marks) (sc := defScope s_are_marks) (by decide +kernel)))) (by rw [List.map_map]; rfl))) fun v H2 e2 p => hQ v H2 e2 ?_)
  rw [all_true, show decide ((bs.length : Int) ≤ 7) = true by simp; omega] at p
  exact p
def G_check_marks : List PyData → PyData → Prop := fun ds d => ∃ bs : List Bool, ds = [.str (mstr bs)] ∧ bs.length ≤ 7 ∧ d = .none
theorem c_check_marks (D : Df K mg "check_marks" s_check_marks) (C1 : Cal P w K mg base 1 "are_marks" ["value"] (spD K G_marks)) : Cal P w K mg base 2 "check_marks" ["marks"] (spD K G_check_marks) := by
  refine D.cal (fun _ _ _ _ _ _ us hl => match us, hl with | [_], _ => rfl) fun f fd F => ?_
  refine okD F sc_check_marks (fun ds d ⟨i, h, _⟩ => by rw [h]; rfl) fun cdv A outer s H vs Q E ds d hr hv hG hQ => ?_
  obtain ⟨bs, rfl, hz, rfl⟩ := hG
  obtain ⟨v, rfl, h0⟩ := dpa1 hv
  exact ss_cons (s_ifF (wt_not (r := true) (wt_v (w_C C1 hr (wd_cons (w_v 0 h0) wd_nil) ⟨bs, rfl, hz, rfl⟩))) fun H1 e1 => ss_nil (ss_nil (hQ _ H1 e1 .non)))
/-- layers.index(k) -/
theorem w_idx {X : Cx} {σ : L2.St} {H : Hp} {a b : Expr} {pos apos : Pos} {p : List Nat} {k : Nat} (hp : Pile p) (ha : Wd X a σ H (dN p)) (hb : Wd X b σ H (.int (k : Int))) (hk : k < p.length) (hbase : attributeBase a "index" X.env (eval a X.env) = eval a X.env := by rfl)
    (hfew : ((backTo pos (starEach [b] X.env)).all (fun x => !x.1) && (backToKw pos (keywordEach [] X.env)).all (fun x => x.1.isSome)
      && decide (([b] : List Expr).length + ([] : List Keyword).length + (if ([] : List Keyword).isEmpty then 0 else 1) < 30)) = true := by rfl)
    (hline : (apos.endLine == pos.line) = true := by rfl) (hs : starEach [b] X.env = (false, eval b X.env) :: starEach [] X.env := by rfl) (hplain : (backTo pos (starEach [] X.env)).any (·.1) = false := by rfl) :
    Wd X (.Call (.Attribute a "index" apos) [b] [] pos) σ H (.int ((spot p k : Nat) : Int)) := by
  have h := w_index (X := X) (pos := pos) (apos := apos) (ns := toI p) (Wd.is ha (dN_ints p)) hb (mem_toI.mpr (hp.mem.mpr hk)) hbase hfew hline hs hplain
  rw [idxOf_toI] at h
  exact h
theorem dpa2' {K : PySem.W.Frag} {H : Hp} {vs : List V} {d d' : PyData} (h : DqAll K H vs [d, d']) : ∃ v u, vs = [v, u] ∧ Dq K H v d ∧ Dq K H u d' := dpa2 h
def endsD (p : List Nat) (k : Nat) : PyData := .tuple [.int (min (spot p k : Int) (spot p (k+1))), .int (max (spot p k : Int) (spot p (k+1)))]
def G_ends : List PyData → PyData → Prop := fun ds d => ∃ (p : List Nat) (k : Nat), ds = [dN p, .int (k : Int)] ∧ Pile p ∧ k + 1 < p.length ∧ d = endsD p k
theorem c_ends_of (D : Df K mg "ends_of" s_ends_of) (T : BT mg) : Cal P w K mg base 1 "ends_of" ["layers", "crease"] (spD K G_ends) := by
  refine D.cal (fun _ _ _ _ _ _ us hl => match us, hl with | [_, _], _ => rfl) fun f fd F => ?_
  refine okD F sc_ends_of (fun ds d ⟨p, k, h, _⟩ => by rw [h]; rfl) fun cdv A outer s H vs Q E ds d hr hv hG hQ => ?_
  obtain ⟨p, k, rfl, hp, hk, rfl⟩ := hG
  obtain ⟨v, u, rfl, h0, h1⟩ := dpa2 hv
  refine ss_cons (s_par 2 3 sc_ends_of.nd rfl st_dt (P1 := dt _ (.int (spot p k : Int))) (P2 := fun _ _ => dt _ (.int (spot p (k+1) : Int))) (w_idx hp (w_v 0 h0) (w_v 1 h1) (by omega)) (fun _ H1 e1 _ => w_idx hp (w_v 0 (h0.ex e1)) (Wd.is (w_mod (w_add (w_v 1 (h1.ex e1)) w_int) (w_len T (w_v 0 (h0.ex e1)) (dN_len p)) (by omega)) ?_) hk) fun a b H1 H2 e1 ha e2 hb => ?_)
  · rw [Int.emod_eq_of_lt (by omega) (by omega)]; rfl
  · exact ss_cons (s_ret (w_tup (wd_cons (w_min2 T rfl (w_v 2 (ha.ex e2)) (w_v 3 hb)) (wd_cons (w_max2 T rfl (w_v 2 (ha.ex e2)) (w_v 3 hb)) wd_nil)) (by simp)) fun v H3 e3 q => hQ v H3 (e1.trans (e2.trans e3)) q)
def G_meet : List PyData → PyData → Prop := fun ds d => ∃ (p : List Nat) (a b : Nat), ds = [dN p, .int (a : Int), .int (b : Int)] ∧ Pile p ∧ a + 1 < p.length ∧ b + 1 < p.length ∧ d = .bool (meet p a b)
theorem c_do_meet (D : Df K mg "do_meet" s_do_meet) (T : BT mg) (C1 : Cal P w K mg base 1 "ends_of" ["layers", "crease"] (spD K G_ends)) : Cal P w K mg base 2 "do_meet" ["layers", "one", "other"] (spD K G_meet) := by
  refine D.cal (fun _ _ _ _ _ _ us hl => match us, hl with | [_, _, _], _ => rfl) fun f fd F => ?_
  refine okD F sc_do_meet (fun ds d ⟨p, a, b, h, _⟩ => by rw [h]; rfl) fun cdv A outer s H vs Q E ds d hr hv hG hQ => ?_
  obtain ⟨p, a, b, rfl, hp, ha, hb, rfl⟩ := hG
  obtain ⟨v, u, t, rfl, h0, h1, h2⟩ := dpa3 hv
  have nd := sc_do_meet.nd
  refine ss_cons (s_asg (pg_tup rfl (pgs_cons (pg_tup rfl (pgs_cons (pg_name (i := 3) nd rfl (Or.inl rfl)) (pgs_cons (pg_name (i := 4) nd rfl (Or.inl rfl)) pgs_nil))) (pgs_cons (pg_tup rfl (pgs_cons (pg_name (i := 5) nd rfl (Or.inl rfl)) (pgs_cons (pg_name (i := 6) nd rfl (Or.inl rfl)) pgs_nil))) pgs_nil)))
    (w_tup (wd_cons (w_C C1 hr (wd_cons (w_v 0 h0) (wd_cons (w_v 1 h1) wd_nil)) ⟨p, a, rfl, hp, ha, rfl⟩) (wd_cons (w_C C1 hr (wd_cons (w_v 0 h0) (wd_cons (w_v 2 h2) wd_nil)) ⟨p, b, rfl, hp, hb, rfl⟩) wd_nil)) (by simp)) fun z H1 e1 hz => ?_)
  cases hz with
  | tup g1 g2 =>
    obtain ⟨z1, z2, rfl, g3, g4⟩ := dpa2 g2
    cases g3 with
    | tup f1 f2 =>
      obtain ⟨x1, x2, rfl, f3, f4⟩ := dpa2 f2
      cases g4 with
      | tup k1 k2 =>
        obtain ⟨y1, y2, rfl, k3, k4⟩ := dpa2 k2
        refine ⟨_, _, rfl, g1.seq, rfl, _, [_], rfl, ⟨_, _, rfl, f1.seq, rfl, x1, [x2], rfl, x2, [], rfl, rfl, ⟨_, [], rfl, ⟨_, _, rfl, k1.seq, rfl, y1, [y2], rfl, y2, [], rfl, rfl, rfl, ?_⟩⟩⟩⟩
        refine ss_cons (s_ret (w_or (w_ch3 (w_v 3 f3) (w_v 5 k3) (w_v 4 f4) (w_v 6 k4)) fun _ => w_ch3 (w_v 5 k3) (w_v 3 f3) (w_v 6 k4) (w_v 4 f4)) fun v H3 e3 q => hQ v H3 (e1.trans e3) (Eq.mp ?_ q))
        congr 2
        unfold meet
        have e : ∀ a b c d : Nat, decide (min (a : Int) b < min (c : Int) d) = decide (min a b < min c d) ∧ decide (min (a : Int) b < max (c : Int) d) = decide (min a b < max c d) ∧ decide (max (a : Int) b < max (c : Int) d) = decide (max a b < max c d) := fun a b c d =>
          ⟨decide_eq_decide.mpr (by omega), decide_eq_decide.mpr (by omega), decide_eq_decide.mpr (by omega)⟩
        simp only [(e _ _ _ _).1, (e _ _ _ _).2.1, (e _ _ _ _).2.2]
        rfl
def G_mark : List PyData → PyData → Prop := fun ds d => ∃ (p : List Nat) (k : Nat), ds = [dN p, .int (k : Int)] ∧ Pile p ∧ k + 1 < p.length ∧ d = .str (sign (markAt p k))
theorem mark_eq (p : List Nat) (k : Nat) : decide ((decide ((spot p (k+1) : Int) < (spot p k : Int))) = (decide (((k : Int) % 2) = 0))) = markAt p k := by
  unfold markAt spot
  have e1 : decide ((p.idxOf (k+1) : Int) < (p.idxOf k : Int)) = Nat.blt (p.idxOf (k+1)) (p.idxOf k) := by
    rw [Bool.eq_iff_iff, decide_eq_true_iff, Nat.blt_eq]
    omega
  have e2 : decide (((k : Int) % 2) = 0) = Nat.beq (k % 2) 0 := by
    rw [Bool.eq_iff_iff, decide_eq_true_iff, Nat.beq_eq]
    omega
  rw [e1, e2, Bool.beq_eq_decide_eq]
theorem c_mark_in (D : Df K mg "mark_in" s_mark_in) : Cal P w K mg base 1 "mark_in" ["layers", "crease"] (spD K G_mark) := by
  refine D.cal (fun _ _ _ _ _ _ us hl => match us, hl with | [_, _], _ => rfl) fun f fd F => ?_
  refine okD F sc_mark_in (fun ds d ⟨p, k, h, _⟩ => by rw [h]; rfl) fun cdv A outer s H vs Q E ds d hr hv hG hQ => ?_
  obtain ⟨p, k, rfl, hp, hk, rfl⟩ := hG
  obtain ⟨v, u, rfl, h0, h1⟩ := dpa2 hv
  refine ss_cons (s_set 2 sc_mark_in.nd (w_lt (w_idx (k := k + 1) hp (w_v 0 h0) (Wd.is (w_add (w_v 1 h1) w_int) rfl) hk) (w_idx hp (w_v 0 h0) (w_v 1 h1) (by omega))) fun b H1 e1 hb => ?_)
  refine ss_cons (s_ret (P := fun v H => Dq K H v (.str (sign (markAt p k)))) (w_if (wt_eqb (w_v 2 hb) (w_eqi (w_mod (w_v 1 (h1.ex e1)) w_int (by decide)) w_int)) (fun h => ?_) fun h => ?_) fun v H3 e3 q => hQ v H3 (e1.trans e3) q)
  · rw [mark_eq] at h
    rw [h, ← sv]
    exact w_str
  · rw [mark_eq] at h
    rw [h, ← sm]
    exact w_str
def G_marks_by : List PyData → PyData → Prop := fun ds d => ∃ (p : List Nat), ds = [dN p] ∧ Pile p ∧ 1 ≤ p.length ∧ p.length ≤ 8 ∧ d = .str (mstr (marksOf p.length p))
theorem join_small (bs : List Bool) (h : bs.length ≤ 1000) : ((bs.map sign).map (·.length)).sum + (bs.map sign).length * (Str.ofString "").length ≤ 16777216 := by
  have e0 : (Str.ofString "").length = 0 := by decide +kernel
  have e1 : ((bs.map sign).map (·.length)).sum = bs.length := by
    rw [List.map_map]
    clear h
    induction bs with
    | nil => rfl
    | cons b r ih =>
      rw [List.map_cons, List.sum_cons, ih]
      show (mstr [b]).length + r.length = r.length + 1
      rw [mstr_len]
      show 1 + r.length = r.length + 1
      omega
  rw [e0, e1]
  omega
theorem c_marks_by (D : Df K mg "marks_by" s_marks_by) (T : BT mg) (C1 : Cal P w K mg base 1 "mark_in" ["layers", "crease"] (spD K G_mark)) : Cal P w K mg base 2 "marks_by" ["layers"] (spD K G_marks_by) := by
  refine D.cal (fun _ _ _ _ _ _ us hl => match us, hl with | [_], _ => rfl) fun f fd F => ?_
  refine okD F sc_marks_by (fun ds d ⟨p, h, _⟩ => by rw [h]; rfl) fun cdv A outer s H vs Q E ds d hr hv hG hQ => ?_
  obtain ⟨p, rfl, hp, hl1, hl2, rfl⟩ := hG
  obtain ⟨v, rfl, h0⟩ := dpa1 hv
  refine ss_cons (s_ret (Wd.is (w_join (ys := (marksOf p.length p).map sign) w_str (Wd.is (newL_dt (w_lc 1 sc_marks_by.nd rfl (as := List.range (p.length - 1)) (ι := fun i : Nat => .int (i : Int)) (g := fun k => .str (sign (markAt p k))) (src_rng T (Wd.is (w_sub (w_len T (w_v 0 h0) (dN_len p)) w_int) (congrArg PyData.int (by omega))) (by omega)) (by rw [List.length_range]; omega) (fun _ _ => rfl)
    (fun k hk v H2 e2 hv s0 H0 C cl fp => w_C C1 hr (wd_cons (w_v 0 (h0.ex e2)) (wd_cons (w_v 1 hv) wd_nil)) ⟨p, k, rfl, hp, by have := List.mem_range.mp hk; omega, rfl⟩)
    (blkOk_by (N := n_marks_by) (sc := defScope s_marks_by) (by decide +kernel)))) ?_) (join_small _ ?_)) (congrArg PyData.str (join_signs _))) fun v H2 e2 q => hQ v H2 e2 q)
  · unfold marksOf
    rw [List.map_map, List.map_map]; rfl
  · unfold marksOf
    rw [List.length_map, List.length_range]; omega
def G_with : List PyData → PyData → Prop := fun ds d => ∃ (p : List Nat) (i : Nat), ds = [dN p, .int (i : Int)] ∧ p.length ≤ 1000 ∧ d = dN (ins p i p.length)
theorem ins_dN (p : List Nat) (i x : Nat) : PyData.tuple ((cutD (p.map fun n : Nat => PyData.int (n : Int)) none (some (i : Int)) ++ [.int (x : Int)]) ++ cutD (p.map fun n : Nat => PyData.int (n : Int)) (some (i : Int)) none) = dN (ins p i x) := by
  rw [cutD_take, cutD_drop]
  unfold ins dN
  rw [List.map_append, List.map_cons, List.map_take, List.map_drop, List.append_assoc]
  rfl
theorem c_with_piece (D : Df K mg "with_piece" s_with_piece) (T : BT mg) : Cal P w K mg base 1 "with_piece" ["layers", "place"] (spD K G_with) := by
  refine D.cal (fun _ _ _ _ _ _ us hl => match us, hl with | [_, _], _ => rfl) fun f fd F => ?_
  refine okD F sc_with_piece (fun ds d ⟨p, k, h, _⟩ => by rw [h]; rfl) fun cdv A outer s H vs Q E ds d hr hv hG hQ => ?_
  obtain ⟨p, i, rfl, hl, rfl⟩ := hG
  obtain ⟨v, u, rfl, h0, h1⟩ := dpa2 hv
  refine ss_cons (s_ret (Wd.is (w_addt (w_addt (w_slT (w_v 0 h0) wo_n (wo_s (w_v 1 h1))) (w_tup (wd_cons (w_len T (w_v 0 h0) (dN_len p)) wd_nil) (by simp)) ?_) (w_slT (w_v 0 h0) (wo_s (w_v 1 h1)) wo_n) ?_) (ins_dN p i p.length)) fun v H2 e2 q => hQ v H2 e2 q)
  · rw [cutD_take]; simp; omega
  · rw [cutD_take, cutD_drop]; simp; omega
def G_last : List PyData → PyData → Prop := fun ds d => ∃ (p : List Nat), ds = [dN p] ∧ Pile p ∧ 2 ≤ p.length ∧ p.length ≤ 8 ∧ d = .bool (lastFit p)
theorem c_does_last_fit (D : Df K mg "does_last_fit" s_does_last_fit) (T : BT mg) (C1 : Cal P w K mg base 2 "do_meet" ["layers", "one", "other"] (spD K G_meet)) : Cal P w K mg base 3 "does_last_fit" ["layers"] (spD K G_last) := by
  refine D.cal (fun _ _ _ _ _ _ us hl => match us, hl with | [_], _ => rfl) fun f fd F => ?_
  refine okD F sc_does_last_fit (fun ds d ⟨p, h, _⟩ => by rw [h]; rfl) fun cdv A outer s H vs Q E ds d hr hv hG hQ => ?_
  obtain ⟨p, rfl, hp, hl1, hl2, rfl⟩ := hG
  obtain ⟨v, rfl, h0⟩ := dpa1 hv
  refine ss_cons (s_set 1 sc_does_last_fit.nd (Wd.is (w_sub (w_len T (w_v 0 h0) (dN_len p)) w_int) (d' := .int ((p.length - 2 : Nat) : Int)) (congrArg PyData.int (by omega))) fun b H1 e1 hb => ?_)
  have g0 := h0.ex e1
  have hcnt : cnt2 ((p.length - 2) % 2) (p.length - 2) ≤ 8 := by unfold cnt2; split <;> omega
  refine ss_cons (s_ret (w_not (w_any T rfl (bs := ((List.range (cnt2 ((p.length - 2) % 2) (p.length - 2))).map fun i => (p.length - 2) % 2 + 2 * i).map fun c => meet p c (p.length - 2)) (Wd.is (newL_dt (w_lc 2 sc_does_last_fit.nd rfl (ι := fun i : Nat => .int (i : Int)) (g := fun c : Nat => .bool (meet p c (p.length - 2)))
    (src_rng3 T (lo := (p.length - 2) % 2) (hi := p.length - 2) (Wd.is (w_mod (w_v 1 hb) w_int (by decide)) (congrArg PyData.int (by omega))) (w_v 1 hb) w_int (by omega) (by omega)) (by rw [List.length_map, List.length_range]; omega) (fun _ _ => rfl)
    (fun c hc v H2 e2 hv s0 H0 C cl fp => w_C C1 hr (wd_cons (w_v 0 (g0.ex e2)) (wd_cons (w_v 2 hv) (wd_cons (w_v 1 (hb.ex e2)) wd_nil))) ⟨p, c, p.length - 2, rfl, hp, ?_, by omega, rfl⟩)
    (blkOk_by (N := n_does_last_fit) (sc := defScope s_does_last_fit) (by decide +kernel)))) (by rw [List.map_map, List.map_map, List.map_map]; rfl)))) fun v H2 e2 q => hQ v H2 (e1.trans e2) q)
  obtain ⟨i, hi, rfl⟩ := List.mem_map.mp hc
  have hi' := List.mem_range.mp hi
  unfold cnt2 at hi'
  split at hi' <;> omega
end
end FW
set_option maxRecDepth 100000
set_option maxHeartbeats 4000000
/-! D3: strips.py, to is_laid -/
namespace FW
open PySem PySem.Spec PyProof.Rows L2 Evl
section
variable {P : Program} {w : World} {K : PySem.W.Frag} {mg : Str → Option Value} {base : Heap}
def G_check_lengths : List PyData → PyData → Prop := fun ds d => ∃ L : List Nat, ds = [dN L] ∧ Strip L ∧ d = .none
theorem c_check_lengths (D : Df K mg "check_lengths" s_check_lengths) (T : BT mg) (M : CT mg) (C1 : Cal P w K mg base 2 "is_between" ["value", "least", "most"] (spD K G_is_between)) : Cal P w K mg base 3 "check_lengths" ["lengths"] (spD K G_check_lengths) := by
  refine D.cal (fun _ _ _ _ _ _ us hl => match us, hl with | [_], _ => rfl) fun f fd F => ?_
  refine okD F sc_check_lengths (fun ds d ⟨i, h, _⟩ => by rw [h]; rfl) fun cdv A outer s H vs Q E ds d hr hv hG hQ => ?_
  obtain ⟨L, rfl, hS, rfl⟩ := hG
  obtain ⟨v, rfl, h0⟩ := dpa1 hv
  have hp := hS.pos
  have hf := hS.few
  refine ss_cons (s_ifF ((wt_or (wt_not (wt_v (w_isTup T (w_v 0 h0) rfl kb_tt))) fun _ => wt_not (w_chT op_lt op_le w_int (w_len T (w_v 0 h0) (dN_len L)) (w_gi M.pieces))).is (by simp; omega)) fun H1 e1 => ss_nil ?_)
  refine ss_cons (s_forET 1 2 T sc_check_lengths.nd rfl (w_v 0 (h0.ex e1)) fun H2 e2 => ⟨fun n σ' H' => Ex H2 H' ∧ ∃ a b, σ' = [some v, a, b], ⟨Ex.refl _, none, none, rfl⟩, fun n σ' H' h => h.1, fun n u d σ' H' H3 hd hu ⟨ex, a, b, hσ⟩ e3 => ?_, fun σ' H' ⟨ex, a, b, hσ⟩ => ?_⟩)
  · subst hσ
    rw [List.getElem?_map] at hd
    obtain ⟨x, hx, rfl⟩ := Option.map_eq_some_iff.mp hd
    have hm := List.mem_of_getElem? hx
    have h1 := hS.one x hm
    have h2 := hS.le hm
    exact ss_cons (s_ifF (wt_not (r := true) (wt_v (Wd.is (w_C C1 hr (wd_cons (w_v 2 hu) (wd_cons w_int (wd_cons (w_gi M.length) wd_nil))) ⟨x, 1, 1000, rfl, rfl⟩) (congrArg PyData.bool (by simp; omega))))) fun H4 e4 => ss_nil (ss_nil ⟨ex.trans (e3.trans e4), _, _, rfl⟩))
  · subst hσ
    exact ss_nil (hQ _ _ (e1.trans (e2.trans ex)) .non)
def G_check_strip : List PyData → PyData → Prop := fun ds d => ∃ (L : List Nat) (bs : List Bool), ds = [dN L, .str (mstr bs)] ∧ Strip L ∧ bs.length + 1 = L.length ∧ d = .none
theorem c_check_strip (D : Df K mg "check_strip" s_check_strip) (T : BT mg) (C1 : Cal P w K mg base 3 "check_lengths" ["lengths"] (spD K G_check_lengths)) (C2 : Cal P w K mg base 1 "are_signs" ["value", "signs", "least", "most"] (spD K G_are_signs)) :
    Cal P w K mg base 4 "check_strip" ["lengths", "marks"] (spD K G_check_strip) := by
  refine D.cal (fun _ _ _ _ _ _ us hl => match us, hl with | [_, _], _ => rfl) fun f fd F => ?_
  refine okD F sc_check_strip (fun ds d ⟨L, bs, h, _⟩ => by rw [h]; rfl) fun cdv A outer s H vs Q E ds d hr hv hG hQ => ?_
  obtain ⟨L, bs, rfl, hS, hb, rfl⟩ := hG
  obtain ⟨v, u, rfl, h0, h1⟩ := dpa2 hv
  have hf := hS.few
  refine ss_cons (s_do (w_C C1 hr (wd_cons (w_v 0 h0) wd_nil) ⟨L, rfl, hS, rfl⟩) fun H1 e1 => ?_)
  refine ss_cons (s_ifF (wt_not (r := true) (wt_v (w_C C2 (hr.mono (by decide)) (wd_cons (w_v 1 (h1.ex e1)) (wd_cons w_str (wd_cons (Wd.is (w_sub (w_len T (w_v 0 (h0.ex e1)) (dN_len L)) w_int) (congrArg PyData.int (show (L.length : Int) - 1 = (bs.length : Int) by omega))) (wd_cons (Wd.is (w_sub (w_len T (w_v 0 (h0.ex e1)) (dN_len L)) w_int) (congrArg PyData.int (show (L.length : Int) - 1 = (bs.length : Int) by omega))) wd_nil)))) ⟨bs, rfl, by omega, rfl⟩))) fun H2 e2 => ss_nil (ss_nil (hQ _ _ (e1.trans e2) .non)))
def ptsL (L : List Nat) : List Int := (List.range (L.length + 1)).map (pt L)
def G_points_of : List PyData → PyData → Prop := fun ds d => ∃ L : List Nat, ds = [dN L] ∧ L.length ≤ 1000 ∧ d = .list ((ptsL L).map .int)
theorem pts_upto (L : List Nat) (n : Nat) : ((List.range (n + 1 + 1)).map (pt L)).map PyData.int = ((List.range (n + 1)).map (pt L)).map PyData.int ++ [.int (pt L (n + 1))] := by
  rw [List.range_succ, List.map_append, List.map_append]; rfl
theorem c_points_of (D : Df K mg "points_of" s_points_of) (T : BT mg) : Cal P w K mg base 1 "points_of" ["lengths"] (spD K G_points_of) := by
  refine D.cal (fun _ _ _ _ _ _ us hl => match us, hl with | [_], _ => rfl) fun f fd F => ?_
  refine okD F sc_points_of (fun ds d ⟨i, h, _⟩ => by rw [h]; rfl) fun cdv A outer s H vs Q E ds d hr hv hG hQ => ?_
  obtain ⟨L, rfl, hz, rfl⟩ := hG
  obtain ⟨v, rfl, h0⟩ := dpa1 hv
  refine ss_cons (s_set 1 sc_points_of.nd (w_lstN (wd_cons w_int wd_nil) (by simp)) fun l0 H1 e1 ⟨l, ws, el, fl, hl1, hl2⟩ => ?_)
  subst el
  have hL1 : LstAt K H1 l (((List.range (0 + 1)).map (pt L)).map .int) := ⟨ws, hl1, hl2, rfl⟩
  refine ss_cons (s_forETb 2 3 T sc_points_of.nd rfl (w_is 0) h0 fun H2 e2 => ⟨fun n σ' H' => Ex H H' ∧ LstAt K H' l (((List.range (n + 1)).map (pt L)).map .int) ∧ ∃ a b, σ' = [some v, some (.ref l), a, b], ⟨e1.trans e2, hL1.ex e2, none, none, rfl⟩, fun n σ' H' h => h.1, fun n u d σ' H' H3 hd hu ⟨ex, hl, a, b, hσ⟩ e3 => ?_, fun σ' H' ⟨ex, hl, a, b, hσ⟩ => ?_⟩)
  · subst hσ
    rw [List.getElem?_map] at hd
    obtain ⟨x, hx, rfl⟩ := Option.map_eq_some_iff.mp hd
    have hn : n < L.length := (List.getElem?_eq_some_iff.mp hx).1
    have hl3 := hl.ex e3
    have hi : Dq K H3 (.int (n : Int)) (.int (n : Int)) := .int _
    refine ss_cons (s_app (w_is 1) hl3 (d := .int (pt L (n + 1))) (Wd.is (w_add (w_ixL (d := .int (pt L n)) (w_v 1 hl3.dq) (w_neg w_int) ?_) (w_if (P := fun v H => Dq K H v (.int (if n % 2 = 0 then (L.getD n 0 : Int) else -(L.getD n 0 : Int)))) (wt_eqi (w_mod (w_v 2 hi) w_int (by decide)) w_int) (fun h => ?_) fun h => ?_)) (congrArg PyData.int (by rw [pt]))) rfl (by simp; omega) fun H4 hl4 hx4 => ss_nil ⟨hx4 H (ex.trans e3) fl, ?_, _, _, rfl⟩)
    · show atI _ (-1) = _
      rw [List.range_succ, List.map_append, List.map_append]
      exact atI_last _ _
    · have h' : ((n : Int) % 2) = 0 := of_decide_eq_true h
      rw [if_pos (by omega), List.getD_eq_getElem?_getD, hx]
      exact w_v 3 hu
    · have h' : ¬ ((n : Int) % 2) = 0 := of_decide_eq_false h
      rw [if_neg (by omega), List.getD_eq_getElem?_getD, hx]
      exact w_neg (w_v 3 hu)
    · rw [pts_upto]; exact hl4
  · subst hσ
    rw [List.length_map] at hl
    exact ss_cons (s_ret (w_v 1 hl.dq) fun u H3 e3 q => hQ u H3 (ex.trans e3) q)
def stD (L : List Nat) (j : Nat) : PyData := .tuple [.int (lo L j), .int (hi L j)]
def G_stretch_list : List PyData → PyData → Prop := fun ds d => ∃ L : List Nat, ds = [dN L] ∧ L.length ≤ 1000 ∧ d = .list ((List.range L.length).map (stD L))
theorem c_stretch_list (D : Df K mg "stretch_list" s_stretch_list) (T : BT mg) (C1 : Cal P w K mg base 1 "points_of" ["lengths"] (spD K G_points_of)) : Cal P w K mg base 2 "stretch_list" ["lengths"] (spD K G_stretch_list) := by
  refine D.cal (fun _ _ _ _ _ _ us hl => match us, hl with | [_], _ => rfl) fun f fd F => ?_
  refine okD F sc_stretch_list (fun ds d ⟨i, h, _⟩ => by rw [h]; rfl) fun cdv A outer s H vs Q E ds d hr hv hG hQ => ?_
  obtain ⟨L, rfl, hz, rfl⟩ := hG
  obtain ⟨v, rfl, h0⟩ := dpa1 hv
  refine ss_cons (s_par 1 2 sc_stretch_list.nd rfl st_dt (w_C C1 hr (wd_cons (w_v 0 h0) wd_nil) ⟨L, rfl, hz, rfl⟩) (P2 := fun _ H1 => newL _ H1 []) (fun _ H1 e1 _ => w_lstN wd_nil (by simp)) fun pv u H1 H2 e1 hp e2 ⟨l, ws, el, fl, hl1, hl2⟩ => ?_)
  subst el
  have hL : LstAt K H2 l ((List.range 0).map (stD L)) := ⟨ws, hl1, hl2, rfl⟩
  cases hp with
  | @lst q1 xs _ hq1 hq2 =>
    rw [dpa_ints hq2] at hq1
    have hlen : (ptsL L).length = L.length + 1 := by unfold ptsL; rw [List.length_map, List.length_range]
    refine ss_cons (s_forZi 3 4 (ns := ptsL L) (ms := (ptsL L).drop 1) (m := L.length) T sc_stretch_list.nd rfl (w_is 1) (ex_l e2 hq1) ((w_slLn (w_v 1 (.lst (ex_l e2 hq1) (ints_dpa _))) (wo_s w_int) wo_n).imp fun v H3 e3 ⟨q, ws, h1, h2, h3, h4⟩ => ⟨q, ws, h1, h2, h3, ?_⟩) (by rw [List.length_drop, hlen]; omega) fun q2 H3 e3 hq2n hq2 => ⟨fun n σ' H' => Ex H1 H' ∧ H' q2 = some (.lst (((ptsL L).drop 1).map V.int)) ∧ LstAt K H' l ((List.range n).map (stD L)) ∧ ∃ a b, σ' = [some v, some (.ref q1), some (.ref l), a, b],
      ⟨e2.trans e3, hq2, hL.ex e3, none, none, rfl⟩, fun n σ' H' h => ⟨ex_l h.1 hq1, sq_of h.2.1⟩, fun n a b σ' H' H4 ha hb ⟨ex, hx2, hl, y1, y2, hσ⟩ e4 => ?_, fun σ' H' ⟨ex, hx2, hl, y1, y2, hσ⟩ => ?_⟩)
    · rw [show (1 : Int) = ((1 : Nat) : Int) from rfl, cutD_drop] at h4
      rw [List.map_drop]
      exact h4
    · subst hσ
      have hn : n < L.length := by
        have := (List.getElem?_eq_some_iff.mp hb).1
        rw [List.length_drop, hlen] at this
        omega
      have ea : a = pt L n := by
        unfold ptsL at ha
        rw [List.getElem?_map, List.getElem?_range (by omega)] at ha
        exact (Option.some.inj ha).symm
      have eb : b = pt L (n + 1) := by
        unfold ptsL at hb
        rw [List.getElem?_drop, List.getElem?_map, Nat.add_comm, List.getElem?_range (by omega)] at hb
        rw [Nat.add_comm n 1]
        exact (Option.some.inj hb).symm
      subst ea eb
      have ne : q2 ≠ l := fun e => by
        rw [e, hl1] at hq2n; cases hq2n
      have i1 : Dq K H4 (.int (pt L n)) (.int (pt L n)) := .int _
      have i2 : Dq K H4 (.int (pt L (n+1))) (.int (pt L (n+1))) := .int _
      refine ss_cons (s_appm (w_is 2) (hl.ex e4) (d := stD L n) (w_tup (wd_cons (w_min2 T rfl (w_v 3 i1) (w_v 4 i2)) (wd_cons (w_max2 T rfl (w_v 3 i1) (w_v 4 i2)) wd_nil)) (by simp)) rfl (by simp; omega) fun H5 hl5 hx5 => ss_nil ⟨hx5.ex (ex.trans e4) fl, hx5 _ _ ne (e4 _ _ hx2), ?_, _, _, rfl⟩)
      rw [List.range_succ, List.map_append]
      exact hl5
    · subst hσ
      exact ss_cons (s_ret (w_v 2 hl.dq) fun u H3 e3 q => hQ u H3 (e1.trans (ex.trans e3)) q)
/-- a list of places, told by a function -/
abbrev spD' (n : Nat) (s : Nat → Nat) : PyData := .list ((List.range n).map fun k => .int (s k : Int))
theorem sp_at {n : Nat} {s : Nat → Nat} {k : Nat} (h : k < n) : atI ((List.range n).map fun k => PyData.int (s k : Int)) (k : Int) = some (.int (s k : Int)) :=
  atI_nat (by rw [List.getElem?_map, List.getElem?_range h]; rfl)
theorem pts_at {L : List Nat} {k : Nat} (h : k ≤ L.length) : atI ((ptsL L).map PyData.int) (k : Int) = some (.int (pt L k)) :=
  atI_nat (by unfold ptsL; rw [List.getElem?_map, List.getElem?_map, List.getElem?_range (by omega)]; rfl)
def G_is_pierced : List PyData → PyData → Prop := fun ds d => ∃ (L : List Nat) (s : Nat → Nat) (b : Bool), ds = [dN L, spD' L.length s] ∧ 1 ≤ L.length ∧ L.length ≤ 1000 ∧ (b = true ↔ Pierced L L.length s) ∧ d = .bool b
theorem c_is_pierced (D : Df K mg "is_pierced" s_is_pierced) (T : BT mg) (C1 : Cal P w K mg base 1 "points_of" ["lengths"] (spD K G_points_of)) (C2 : Cal P w K mg base 2 "stretch_list" ["lengths"] (spD K G_stretch_list)) : Cal P w K mg base 3 "is_pierced" ["lengths", "spots"] (spD K G_is_pierced) := by
  refine D.cal (fun _ _ _ _ _ _ us hl => match us, hl with | [_, _], _ => rfl) fun f fd F => ?_
  refine okD F sc_is_pierced (fun ds d ⟨L, s, b, h, _⟩ => by rw [h]; rfl) fun cdv A outer s0 H vs Q E ds d hr hv hG hQ => ?_
  obtain ⟨L, s, b, rfl, hz1, hz2, hb, rfl⟩ := hG
  obtain ⟨v, u, rfl, h0, h1⟩ := dpa2 hv
  have nd := sc_is_pierced.nd
  refine ss_cons (s_par 2 3 nd rfl st_dt (w_C C1 (hr.mono (by decide)) (wd_cons (w_v 0 h0) wd_nil) ⟨L, rfl, hz2, rfl⟩) (P2 := fun _ _ => dt _ _) (fun _ H1 e1 _ => w_C C2 hr (wd_cons (w_v 0 (h0.ex e1)) wd_nil) ⟨L, rfl, hz2, rfl⟩) fun pv wv H1 H2 e1 hp e2 hw => ?_)
  replace hp := hp.ex e2
  have e12 := e1.trans e2
  refine ss_cons (s_forR1 4 (n := L.length - 1) T nd rfl (Wd.is (w_sub (w_len T (w_v 0 (h0.ex e12)) (dN_len L)) w_int) (congrArg PyData.int (by omega))) (by omega) fun H3 e3 => ⟨fun i σ' H' => Ex H2 H' ∧ (∀ k, k < i → ∀ j, j < L.length → ¬ PierceAt L s k j) ∧ ∃ y4 y5 y6 y7 y8 y9, σ' = [some v, some u, some pv, some wv, y4, y5, y6, y7, y8, y9],
    ⟨e3, fun k hk => absurd hk (Nat.not_lt_zero k), none, none, none, none, none, none, rfl⟩, fun i σ' H' hin ⟨ex, hno, y4, y5, y6, y7, y8, y9, hσ⟩ => ?_, fun σ' H' ⟨ex, hno, y4, y5, y6, y7, y8, y9, hσ⟩ => ?_⟩)
  · subst hσ
    have hi' : Dq K H' (.int (i : Int)) (.int (i : Int)) := .int _
    have hs := h1.ex (e12.trans ex)
    refine ss_cons (s_unl 5 6 nd rfl (w_sort2 T (w_ixL (w_v 1 hs) (w_v 4 hi') (sp_at (by omega))) (w_ixL (w_v 1 hs) (w_add (w_v 4 hi') w_int) (sp_at (k := i + 1) (by omega)))) fun lv hv' H4 e4 hlo hhi => ?_)
    refine ss_cons (s_forEL 7 8 9 (as := List.range L.length) (f := fun t => .int (lo L t)) (g := fun t => .int (hi L t)) T nd rfl (w_v 3 (hw.ex (ex.trans e4))) fun H5 e5 => ⟨fun m σ' H' => Ex H5 H' ∧ (∀ j, j < m → ¬ PierceAt L s i j) ∧ ∃ y7 y8 y9, σ' = [some v, some u, some pv, some wv, some (.int (i : Int)), some lv, some hv', y7, y8, y9],
      ⟨Ex.refl _, fun k hk => absurd hk (Nat.not_lt_zero k), y7, y8, y9, rfl⟩, fun n σ' H' h => h.1, fun m nv fv t σ' H6 H7 ht hn hf ⟨ex6, hno2, y7, y8, y9, hσ⟩ e7 => ?_, fun σ' H6 ⟨ex6, hno2, y7, y8, y9, hσ⟩ => ?_⟩)
    · subst hσ
      have hm : m < L.length := by simpa using (List.getElem?_eq_some_iff.mp ht).1
      have et : t = m := by
        rw [List.getElem?_range hm] at ht
        exact (Option.some.inj ht).symm
      subst et
      have e47 : Ex H' H7 := e4.trans (e5.trans (ex6.trans e7))
      have hs7 := hs.ex e47
      have hlo7 := hlo.ex (e5.trans (ex6.trans e7))
      have hhi7 := hhi.ex (e5.trans (ex6.trans e7))
      have hp7 := hp.ex (ex.trans e47)
      have ht7 : Dq K H7 (.int (t : Int)) (.int (t : Int)) := .int _
      have hi7 : Dq K H7 (.int (i : Int)) (.int (i : Int)) := .int _
      have hlen : L.length - 1 + 1 = L.length := by omega
      refine ss_cons (s_if (wt_and (w_chT op_lt op_lt (w_v 5 hlo7) (w_ixL (w_v 1 hs7) (w_v 7 ht7) (sp_at hm)) (w_v 6 hhi7)) fun _ => w_chT op_lt op_lt (w_v 8 hn) (w_ixL (w_v 2 hp7) (w_add (w_v 4 hi7) w_int) (pts_at (k := i + 1) (by omega))) (w_v 9 hf)) (fun h H8 e8 => ?_) fun h H8 e8 => ?_)
      · have hP : PierceAt L s i t := by
          simp only [Bool.and_eq_true, decide_eq_true_eq] at h
          obtain ⟨⟨a1, a2⟩, a3, a4⟩ := h
          exact ⟨⟨by omega, by omega⟩, a3, a4⟩
        have : b = true := hb.mpr ⟨i, t, by omega, hm, hP⟩
        subst this
        exact ss_cons (s_ret w_bl fun z H9 e9 q => hQ z H9 (e12.trans (ex.trans (e47.trans (e8.trans e9)))) q)
      · refine ss_nil (ss_nil ⟨ex6.trans (e7.trans e8), fun j hj hP => ?_, _, _, _, rfl⟩)
        by_cases hjt : j < t
        · exact hno2 j hjt hP
        · have : j = t := by omega
          subst this
          obtain ⟨⟨a1, a2⟩, a3, a4⟩ := hP
          have h' := h
          simp only [Bool.and_eq_false_iff, decide_eq_false_iff_not] at h'
          omega
    · subst hσ
      rw [List.length_range] at hno2
      refine ss_nil ⟨ex.trans (e4.trans (e5.trans ex6)), fun k hk j hj => ?_, _, _, _, _, _, _, rfl⟩
      by_cases hki : k < i
      · exact hno k hki j hj
      · have : k = i := by omega
        subst this
        exact hno2 j hj
  · subst hσ
    have : b = false := by
      cases b with
      | false => rfl
      | true =>
        obtain ⟨k, j, hk, hj, hP⟩ := hb.mp rfl
        exact absurd hP (hno k (by omega) j hj)
    subst this
    exact ss_cons (s_ret w_bl fun z H9 e9 q => hQ z H9 (e12.trans (ex.trans e9)) q)
end
end FW
set_option maxRecDepth 100000
set_option maxHeartbeats 4000000
/-! D4: are_crossed, spots_of, is_laid -/
namespace FW
open PySem PySem.Spec PyProof.Rows L2 Evl
section
variable {P : Program} {w : World} {K : PySem.W.Frag} {mg : Str → Option Value} {base : Heap}
theorem cnt2_all {lo n j : Nat} (h1 : j % 2 = lo % 2) (h2 : lo ≤ j) (h3 : j < n) : ∃ t, t < cnt2 lo n ∧ j = lo + 2 * t := by
  refine ⟨(j - lo) / 2, ?_, by omega⟩
  unfold cnt2
  rw [if_pos (by omega)]
  omega
theorem cnt2_in {lo n t : Nat} (h : t < cnt2 lo n) : lo + 2 * t < n := by
  unfold cnt2 at h
  split at h <;> omega
def G_are_crossed : List PyData → PyData → Prop := fun ds d => ∃ (L : List Nat) (s : Nat → Nat) (b : Bool), ds = [dN L, spD' L.length s] ∧ 1 ≤ L.length ∧ L.length ≤ 1000 ∧ (b = true ↔ Crossed L L.length s) ∧ d = .bool b
theorem c_are_crossed (D : Df K mg "are_crossed" s_are_crossed) (T : BT mg) (C1 : Cal P w K mg base 1 "points_of" ["lengths"] (spD K G_points_of)) : Cal P w K mg base 2 "are_crossed" ["lengths", "spots"] (spD K G_are_crossed) := by
  refine D.cal (fun _ _ _ _ _ _ us hl => match us, hl with | [_, _], _ => rfl) fun f fd F => ?_
  refine okD F sc_are_crossed (fun ds d ⟨L, s, b, h, _⟩ => by rw [h]; rfl) fun cdv A outer s0 H vs Q E ds d hr hv hG hQ => ?_
  obtain ⟨L, s, b, rfl, hz1, hz2, hb, rfl⟩ := hG
  obtain ⟨v, u, rfl, h0, h1⟩ := dpa2 hv
  have nd := sc_are_crossed.nd
  refine ss_cons (s_set 2 nd (w_C C1 hr (wd_cons (w_v 0 h0) wd_nil) ⟨L, rfl, hz2, rfl⟩) fun pv H1 e1 hp => ?_)
  refine ss_cons (s_forR1 3 (n := L.length - 1) T nd rfl (Wd.is (w_sub (w_len T (w_v 0 (h0.ex e1)) (dN_len L)) w_int) (congrArg PyData.int (by omega))) (by omega) fun H3 e3 => ⟨fun i σ' H' => Ex H1 H' ∧ (∀ k, k < i → ∀ j, j + 1 < L.length → j % 2 = k % 2 → ¬ CrossAt L s k j) ∧ ∃ y3 y4 y5 y6 y7 y8, σ' = [some v, some u, some pv, y3, y4, y5, y6, y7, y8],
    ⟨e3, fun k hk => absurd hk (Nat.not_lt_zero k), none, none, none, none, none, none, rfl⟩, fun i σ' H' hin ⟨ex, hno, y3, y4, y5, y6, y7, y8, hσ⟩ => ?_, fun σ' H' ⟨ex, hno, y3, y4, y5, y6, y7, y8, hσ⟩ => ?_⟩)
  · subst hσ
    have hi' : Dq K H' (.int (i : Int)) (.int (i : Int)) := .int _
    have hs := h1.ex (e1.trans ex)
    have hp' := hp.ex ex
    refine ss_cons (s_forS 4 nd rfl (src_rng3 T (lo := i % 2) (hi := L.length - 1) (Wd.is (w_mod (w_v 3 hi') w_int (by decide)) (congrArg PyData.int (by omega))) (Wd.is (w_sub (w_len T (w_v 0 (h0.ex (e1.trans ex))) (dN_len L)) w_int) (congrArg PyData.int (by omega))) w_int (by omega) (by omega)) fun H5 e5 => ⟨fun m σ' H' => Ex H5 H' ∧ (∀ t, t < m → ¬ CrossAt L s i (i % 2 + 2 * t)) ∧ ∃ y4 y5 y6 y7 y8, σ' = [some v, some u, some pv, some (.int (i : Int)), y4, y5, y6, y7, y8],
      ⟨Ex.refl _, fun k hk => absurd hk (Nat.not_lt_zero k), y4, y5, y6, y7, y8, rfl⟩, fun n σ' H' h => h.1, fun m nv t σ' H6 ht hn ⟨ex6, hno2, y4, y5, y6, y7, y8, hσ⟩ => ?_, fun σ' H6 ⟨ex6, hno2, y4, y5, y6, y7, y8, hσ⟩ => ?_⟩)
    · subst hσ
      have hm : m < cnt2 (i % 2) (L.length - 1) := by
        have := (List.getElem?_eq_some_iff.mp ht).1
        rw [List.length_map, List.length_range] at this
        exact this
      have et : t = i % 2 + 2 * m := by
        rw [List.getElem?_map, List.getElem?_range hm] at ht
        exact (Option.some.inj ht).symm
      have ht1 : t + 1 < L.length := by have := cnt2_in hm; omega
      have e56 : Ex H' H6 := e5.trans ex6
      have hs6 := hs.ex e56
      have hp6 := hp'.ex e56
      have hi6 : Dq K H6 (.int (i : Int)) (.int (i : Int)) := .int _
      refine ss_cons (s_unl 5 6 nd rfl (w_sort2 T (w_ixL (w_v 1 hs6) (w_v 3 hi6) (sp_at (by omega))) (w_ixL (w_v 1 hs6) (w_add (w_v 3 hi6) w_int) (sp_at (k := i + 1) (by omega)))) fun av bv H7 e7 ha hb' => ?_)
      refine ss_cons (s_unl 7 8 nd rfl (w_sort2 T (w_ixL (w_v 1 (hs6.ex e7)) (w_v 4 (hn.ex e7)) (sp_at (by omega))) (w_ixL (w_v 1 (hs6.ex e7)) (w_add (w_v 4 (hn.ex e7)) w_int) (sp_at (k := t + 1) (by omega)))) fun cv dv H8 e8 hc hd => ?_)
      have e78 := e7.trans e8
      refine ss_cons (s_if (wt_and (wt_eqi (w_ixL (w_v 2 (hp6.ex e78)) (w_add (w_v 3 (hi6.ex e78)) w_int) (pts_at (k := i + 1) (by omega))) (w_ixL (w_v 2 (hp6.ex e78)) (w_add (w_v 4 (hn.ex e78)) w_int) (pts_at (k := t + 1) (by omega)))) fun _ => w_ch3T (w_v 5 (ha.ex e8)) (w_v 7 hc) (w_v 6 (hb'.ex e8)) (w_v 8 hd)) (fun h H9 e9 => ?_) fun h H9 e9 => ?_)
      · have hP : CrossAt L s i t := by
          simp only [Bool.and_eq_true, decide_eq_true_eq] at h
          obtain ⟨a0, a1, a2, a3⟩ := h
          exact ⟨a0, by omega, by omega, by omega⟩
        have : b = true := hb.mpr ⟨i, t, by omega, ht1, by omega, hP⟩
        subst this
        exact ss_cons (s_ret w_bl fun z H10 e10 q => hQ z H10 (e1.trans (ex.trans (e56.trans (e78.trans (e9.trans e10))))) q)
      · refine ss_nil (ss_nil ⟨ex6.trans (e78.trans e9), fun k hk hP => ?_, _, _, _, _, _, rfl⟩)
        by_cases hkm : k < m
        · exact hno2 k hkm hP
        · have : k = m := by omega
          subst this
          rw [← et] at hP
          obtain ⟨a0, a1, a2, a3⟩ := hP
          have h' := h
          simp only [Bool.and_eq_false_iff, decide_eq_false_iff_not] at h'
          omega
    · subst hσ
      rw [List.length_map, List.length_range] at hno2
      refine ss_nil ⟨ex.trans (e5.trans ex6), fun k hk j hj hpar => ?_, _, _, _, _, _, _, rfl⟩
      by_cases hki : k < i
      · exact hno k hki j hj hpar
      · have : k = i := by omega
        subst this
        obtain ⟨t, ht, rfl⟩ := cnt2_all (lo := k % 2) (n := L.length - 1) (j := j) (by omega) (by omega) (by omega)
        exact hno2 t ht
  · subst hσ
    have : b = false := by
      cases b with
      | false => rfl
      | true =>
        obtain ⟨k, j, hk, hj, hpar, hP⟩ := hb.mp rfl
        exact absurd hP (hno k (by omega) j hj hpar)
    subst this
    exact ss_cons (s_ret w_bl fun z H9 e9 q => hQ z H9 (e1.trans (ex.trans e9)) q)
def spAt (p : List Nat) (n : Nat) : List PyData := (List.range p.length).map fun k => .int (if spot p k < n then (spot p k : Int) else 0)
theorem spot_get {p : List Nat} (hp : Pile p) {k : Nat} (h : k < p.length) : p[spot p k]? = some k ∧ spot p k < p.length := by
  have hm : k ∈ p := hp.mem.mpr h
  have h1 : spot p k < p.length := List.idxOf_lt_length_of_mem hm
  refine ⟨?_, h1⟩
  rw [List.getElem?_eq_getElem h1]
  exact congrArg some (List.getElem_idxOf h1)
theorem spot_of {p : List Nat} (hp : Pile p) {n x : Nat} (h : p[n]? = some x) : spot p x = n := by
  have hx : x < p.length := hp.mem.mp (List.mem_of_getElem? h)
  exact nd_ix hp.nd (spot_get hp hx).1 h
theorem spAt_set {p : List Nat} (hp : Pile p) {n x : Nat} (h : p[n]? = some x) : (spAt p n).set x (.int (n : Int)) = spAt p (n + 1) := by
  have hx : x < p.length := hp.mem.mp (List.mem_of_getElem? h)
  apply List.ext_getElem?
  intro k
  unfold spAt
  rw [List.getElem?_set, List.length_map, List.length_range]
  by_cases hk : x = k
  · subst hk
    rw [if_pos rfl, if_pos hx, List.getElem?_map, List.getElem?_range hx]
    have := spot_of hp h
    show some _ = some (PyData.int (if spot p x < n + 1 then (spot p x : Int) else 0))
    rw [this, if_pos (Nat.lt_succ_self n)]
  · rw [if_neg hk, List.getElem?_map, List.getElem?_map]
    by_cases hkl : k < p.length
    · rw [List.getElem?_range hkl]
      show some _ = some _
      have hne : spot p k ≠ n := fun e => by
        have h2 := (spot_get hp hkl).1
        rw [e, h] at h2
        exact hk (Option.some.inj h2)
      show some (PyData.int (if spot p k < n then (spot p k : Int) else 0)) = some (PyData.int (if spot p k < n + 1 then (spot p k : Int) else 0))
      by_cases hlt : spot p k < n
      · rw [if_pos hlt, if_pos (by omega)]
      · rw [if_neg hlt, if_neg (by omega)]
    · rw [List.getElem?_eq_none (by rw [List.length_range]; omega)]; rfl
def G_spots_of : List PyData → PyData → Prop := fun ds d => ∃ p : List Nat, ds = [dN p] ∧ Pile p ∧ p.length ≤ 1000 ∧ d = spD' p.length (spot p)
theorem noLs_spAt (p : List Nat) (n : Nat) : noLs (spAt p n) = true := by
  unfold spAt
  generalize List.range p.length = l
  induction l with
  | nil => rfl
  | cons a r ih => exact ih
theorem c_spots_of (D : Df K mg "spots_of" s_spots_of) (T : BT mg) : Cal P w K mg base 1 "spots_of" ["layers"] (spD K G_spots_of) := by
  refine D.cal (fun _ _ _ _ _ _ us hl => match us, hl with | [_], _ => rfl) fun f fd F => ?_
  refine okD F sc_spots_of (fun ds d ⟨i, h, _⟩ => by rw [h]; rfl) fun cdv A outer s H vs Q E ds d hr hv hG hQ => ?_
  obtain ⟨p, rfl, hp, hz, rfl⟩ := hG
  obtain ⟨v, rfl, h0⟩ := dpa1 hv
  refine ss_cons (s_set 1 sc_spots_of.nd (w_mulL (w_lstN (wd_cons w_int wd_nil) (by simp)) (w_len T (w_v 0 h0) (dN_len p)) (by simp; omega) (by omega)) fun l0 H1 e1 ⟨l, ws, el, fl, hl1, hl2⟩ => ?_)
  subst el
  have e0 : (List.replicate p.length [PyData.int 0]).flatten = spAt p 0 := by
    unfold spAt
    apply List.ext_getElem?
    intro k
    rw [show (List.replicate p.length [PyData.int 0]).flatten = List.replicate p.length (PyData.int 0) by
      generalize p.length = m
      induction m with
      | zero => rfl
      | succ m ih => rw [List.replicate_succ, List.flatten_cons, ih]; rfl]
    rw [List.getElem?_replicate, List.getElem?_map]
    by_cases hk : k < p.length
    · rw [if_pos hk, List.getElem?_range hk]
      show some (PyData.int 0) = some (PyData.int (if spot p k < 0 then (spot p k : Int) else 0))
      rw [if_neg (Nat.not_lt_zero _)]
    · rw [if_neg hk, List.getElem?_eq_none (by rw [List.length_range]; omega)]; rfl
  rw [e0] at hl2
  have hL1 : LstAt K H1 l (spAt p 0) := ⟨ws, hl1, hl2, noLs_spAt p 0⟩
  refine ss_cons (s_forETb 2 3 T sc_spots_of.nd rfl (w_is 0) h0 fun H2 e2 => ⟨fun n σ' H' => Ex H H' ∧ LstAt K H' l (spAt p n) ∧ ∃ a b, σ' = [some v, some (.ref l), a, b], ⟨e1.trans e2, hL1.ex e2, none, none, rfl⟩, fun n σ' H' h => h.1, fun n u d σ' H' H3 hd hu ⟨ex, hl, a, b, hσ⟩ e3 => ?_, fun σ' H' ⟨ex, hl, a, b, hσ⟩ => ?_⟩)
  · subst hσ
    rw [List.getElem?_map] at hd
    obtain ⟨x, hx, rfl⟩ := Option.map_eq_some_iff.mp hd
    have hxl : x < p.length := hp.mem.mp (List.mem_of_getElem? hx)
    have hi : Dq K H3 (.int (n : Int)) (.int (n : Int)) := .int _
    refine ss_cons (s_setI (hl.ex e3) (d := .int (n : Int)) (i := x) (w_v 2 hi) (w_is 1) (w_v 3 hu) (by unfold spAt; rw [List.length_map, List.length_range]; exact hxl) rfl fun H4 hl4 hx4 => ss_nil ⟨hx4 H (ex.trans e3) fl, ?_, _, _, rfl⟩)
    rw [spAt_set hp hx] at hl4
    exact hl4
  · subst hσ
    rw [List.length_map] at hl
    have e9 : spAt p p.length = (List.range p.length).map fun k => .int (spot p k : Int) := by
      unfold spAt
      apply List.map_congr_left
      intro k hk
      rw [if_pos (spot_get hp (List.mem_range.mp hk)).2]
    rw [e9] at hl
    exact ss_cons (s_ret (w_v 1 hl.dq) fun u H3 e3 q => hQ u H3 (ex.trans e3) q)
def G_is_laid : List PyData → PyData → Prop := fun ds d => ∃ L p : List Nat, ds = [dN L, dN p] ∧ Pile p ∧ p.length = L.length ∧ 1 ≤ L.length ∧ L.length ≤ 1000 ∧ d = .bool (laidB L L.length (spot p))
theorem c_is_laid (D : Df K mg "is_laid" s_is_laid) (C1 : Cal P w K mg base 1 "spots_of" ["layers"] (spD K G_spots_of)) (C2 : Cal P w K mg base 3 "is_pierced" ["lengths", "spots"] (spD K G_is_pierced)) (C3 : Cal P w K mg base 2 "are_crossed" ["lengths", "spots"] (spD K G_are_crossed)) :
    Cal P w K mg base 4 "is_laid" ["lengths", "layers"] (spD K G_is_laid) := by
  refine D.cal (fun _ _ _ _ _ _ us hl => match us, hl with | [_, _], _ => rfl) fun f fd F => ?_
  refine okD F sc_is_laid (fun ds d ⟨i, j, h, _⟩ => by rw [h]; rfl) fun cdv A outer s H vs Q E ds d hr hv hG hQ => ?_
  obtain ⟨L, p, rfl, hp, hl, hz1, hz2, rfl⟩ := hG
  obtain ⟨v, u, rfl, h0, h1⟩ := dpa2 hv
  refine ss_cons (s_set 2 sc_is_laid.nd (w_C C1 (hr.mono (by decide)) (wd_cons (w_v 1 h1) wd_nil) ⟨p, rfl, hp, by omega, rfl⟩) fun sv H1 e1 hs => ?_)
  rw [hl] at hs
  obtain ⟨b1, hb1⟩ : ∃ b : Bool, b = true ↔ Pierced L L.length (spot p) := ⟨@decide _ (Classical.propDecidable _), @decide_eq_true_iff _ (Classical.propDecidable _)⟩
  obtain ⟨b2, hb2⟩ : ∃ b : Bool, b = true ↔ Crossed L L.length (spot p) := ⟨@decide _ (Classical.propDecidable _), @decide_eq_true_iff _ (Classical.propDecidable _)⟩
  have e : laidB L L.length (spot p) = (!b1 && !b2) := by
    rw [Bool.eq_iff_iff, laidB_iff, Bool.and_eq_true, Bool.not_eq_true', Bool.not_eq_true']
    unfold Laid
    rw [← hb1, ← hb2, Bool.not_eq_true, Bool.not_eq_true]
  rw [e] at hQ
  exact ss_cons (s_ret (w_and (w_not (w_C C2 hr (wd_cons (w_v 0 (h0.ex e1)) (wd_cons (w_v 2 hs) wd_nil)) ⟨L, _, b1, rfl, hz1, hz2, hb1, rfl⟩)) fun _ => w_not (w_C C3 (hr.mono (by decide)) (wd_cons (w_v 0 (h0.ex e1)) (wd_cons (w_v 2 hs) wd_nil)) ⟨L, _, b2, rfl, hz1, hz2, hb2, rfl⟩)) fun z H2 e2 q => hQ z H2 (e1.trans e2) q)
end
end FW
set_option maxRecDepth 100000
set_option maxHeartbeats 4000000
/-! W9: two-source comprehensions, products of tuples, three targets. -/
namespace FW
open PySem PySem.Spec PyProof.Rows L2 Evl
section
variable {X : Cx} {σ : L2.St} {H H' Hb : Hp} {P P1 P2 : VP} {e a b c iter elt : Expr} {pos p p2 px py pz tp spos : Pos} {D : Ends} {body : List Stmt} {k : Nat} {ps : List Str} {x y z : Str} {es : List Expr} {α : Type} {as : List α} {ι : α → PyData}
/-- x, y, z = e: a triple of data -/
theorem s_unp3 (i j l : Nat) {kt : Nat} {d1 d2 d3 : PyData} (nd : X.N.Nodup) (hc : X.calm = true) (he : Wd X e σ H (.tuple [d1, d2, d3]))
    (k : ∀ v u w H1, Ex H H1 → Dq X.K H1 v d1 → Dq X.K H1 u d2 → Dq X.K H1 w d3 → D.nx (((σ.set i (some v)).set j (some u)).set l (some w)) H1) (hi : X.N[i]? = some x := by rfl) (hj : X.N[j]? = some y := by rfl) (hl : X.N[l]? = some z := by rfl)
    (hx : Loc X.env.scope x := by first | exact Or.inl rfl | exact Or.inr rfl) (hy : Loc X.env.scope y := by first | exact Or.inl rfl | exact Or.inr rfl) (hz : Loc X.env.scope z := by first | exact Or.inl rfl | exact Or.inr rfl)
    (hf : X.fn x = true ∨ X.env.scope.names.lookup x = some .local := by first | exact .inl rfl | exact .inr rfl) (hf2 : X.fn y = true ∨ X.env.scope.names.lookup y = some .local := by first | exact .inl rfl | exact .inr rfl) (hf3 : X.fn z = true ∨ X.env.scope.names.lookup z = some .local := by first | exact .inl rfl | exact .inr rfl)
    (hs1 : (assignEach [.Name x px, .Name y py, .Name z pz] X.env).map (·.2) = assign (.Name x px) X.env :: (assignEach [.Name y py, .Name z pz] X.env).map (·.2) := by rfl) (hs2 : (assignEach [.Name y py, .Name z pz] X.env).map (·.2) = assign (.Name y py) X.env :: (assignEach [.Name z pz] X.env).map (·.2) := by rfl) (hs3 : (assignEach [.Name z pz] X.env).map (·.2) = assign (.Name z pz) X.env :: (assignEach [] X.env).map (·.2) := by rfl)
    (hn : (assignEach [.Name x px, .Name y py, .Name z pz] X.env).length = 3 := by rfl) (hst : (assignEach [.Name x px, .Name y py, .Name z pz] X.env).findIdx? (·.1) = none := by rfl)
    (hs : swapsWithSole [.Tuple [.Name x px, .Name y py, .Name z pz] kt tp] e pos.line X.env = pure false := by rfl) (hw : swappedStores [.Tuple [.Name x px, .Name y py, .Name z pz] kt tp] e X.env = pure none := by rfl)
    (h1 : (assignEach [.Tuple [.Name x px, .Name y py, .Name z pz] kt tp] X.env).map (·.2) = [assign (.Tuple [.Name x px, .Name y py, .Name z pz] kt tp) X.env] := by rfl) : tWs X (.Assign [.Tuple [.Name x px, .Name y py, .Name z pz] kt tp] e pos) D σ H :=
  s_asg (pg_tup hc (pgs_cons (pg_name nd hi hx hf) (pgs_cons (pg_name nd hj hy hf2) (pgs_cons (pg_name nd hl hz hf3) pgs_nil hs3) hs2) hs1) hn hst) he (fun w H1 e1 hw' => by
    cases hw' with
    | tup h1 h2 =>
      obtain ⟨v, u, w, rfl, g1, g2, g3⟩ := dpa3 h2
      exact ⟨_, _, rfl, h1.seq, rfl, v, [u, w], rfl, u, [w], rfl, w, [], rfl, rfl, k v u w H1 e1 g1 g2 g3⟩) hs hw h1
/-- y = [elt for x in iter] -/
theorem s_lc {g : α → PyData} {scope : Scope} (i j : Nat) (nd : X.N.Nodup) (hc : X.calm = true) (hi : Src X (.Name x px) iter σ H as ι) (hz : as.length ≤ 40000) (hn : ∀ a ∈ as, noL (g a) = true)
    (he : ∀ a ∈ as, ∀ v H1, Ex H H1 → Dq X.K H1 v (ι a) → ∀ s H0 C cl fp, Wd (X.blk s H0 scope (compEnvC scope cl C X.env) fp) elt ((wipe σ [j]).set j (some v)) H1 (g a))
    (k : ∀ v H1, Ex H H1 → newL X H (as.map g) v H1 → D.nx (σ.set i (some v)) H1)
    (ok : BlkOk X.N X.env.scope scope [(x, j)]) (hsw : swapsWith (.ListComp elt [⟨.Name x px, iter, [], 0⟩] scope pos) (some (.Name y py)) spos.line X.env = pure true) (hw : ∀ v, wipe ((wipe σ [j]).set j (some v)) [j] = wipe σ [j] := by intro _; rfl) (hj : X.N[j]? = some x := by rfl) (hy : X.N[i]? = some y := by rfl) (hyl : X.env.scope.names.lookup y = some .local := by rfl)
    (hx : ∀ s H0 C cl fp, Loc (X.blk s H0 scope (compEnvC scope cl C X.env) fp).env.scope x := by intro _ _ _ _ _; first | exact Or.inl rfl | exact Or.inr rfl)
    (hf : ∀ s H0 C cl fp, (X.blk s H0 scope (compEnvC scope cl C X.env) fp).fn x = true ∨ (X.blk s H0 scope (compEnvC scope cl C X.env) fp).env.scope.names.lookup x = some .local := by intro _ _ _ _ _; first | exact .inr rfl | exact .inl rfl)
    (hs : ∀ x, foldedSetIterable iter X.env x = pure x := by intro _; rfl) : tWs X (.Assign [.Name y py] (.ListComp elt [⟨.Name x px, iter, [], 0⟩] scope pos) spos) D σ H := by
  obtain ⟨wi, h1, h2⟩ := hi
  refine s_of (ps_setLc (own := [(x, j)]) (g := gName j) (tt := tYes) (te := tBe X scope elt) hc nd hy hyl hsw h1 ok (fun s H0 C cl fp => pg_name nd hj (hx s H0 C cl fp) (hf s H0 C cl fp)) (fun s H0 C cl fp => pts_nil) (fun s H0 C cl fp => ⟨fun pins s1 σ1 H1 Q I h => h s H0 C cl fp pins s1 I⟩) hs) ?_
  have e : as.map g = (as.filter fun _ => true).map g := by rw [List.filter_eq_self.mpr (fun _ _ => rfl)]
  rw [e] at k
  exact lc_read hw hz hn h2 (fun a ha v H1 e1 hv H2 e2 Q k => k H2 (Ex.refl _)) (fun a ha hfa v H1 e1 hv H2 e2 Q k s H0 C cl fp => he a ha v H1 e1 hv s H0 C cl fp H2 e2 Q k) H (Ex.refl _) _ k
/-- y = [elt for x in a list for z in range(e)] -/
theorem take_fl {β : Type} {g : α → List β} {i : Nat} {a : α} (h : as[i]? = some a) : (as.take (i + 1)).flatMap g = (as.take i).flatMap g ++ g a := by
  rw [List.take_add_one, h, List.flatMap_append]
  show _ ++ (g a ++ []) = _
  rw [List.append_nil]
theorem noLs_fl {g : α → List PyData} (h : ∀ a ∈ as, noLs (g a) = true) : noLs (as.flatMap g) = true := by
  induction as with
  | nil => rfl
  | cons b r ih =>
    rw [List.flatMap_cons]
    exact noLs_app (h b (List.mem_cons_self ..)) (ih fun a ha => h a (List.mem_cons_of_mem _ ha))
theorem s_lcR2 {m : α → Nat} {g : α → Nat → PyData} {scope : Scope} (i j l : Nat) {own : List (Str × Nat)} {q1 q2 : Pos} (T : BT X.mg) (nd : X.N.Nodup) (hc : X.calm = true) (hi : Src X (.Name x px) iter σ H as ι) (hz : (as.map m).sum ≤ 40000) (hn : ∀ a ∈ as, ∀ t, noL (g a t) = true) (hni : ∀ a ∈ as, noL (ι a) = true)
    (hr : ∀ a ∈ as, ∀ v H1, Ex H H1 → Dq X.K H1 v (ι a) → ∀ s H0 C cl fp, Wd (X.blk s H0 scope (compEnvC scope cl C X.env) fp) e ((wipe σ (own.map (·.2))).set j (some v)) H1 (.int (m a : Int)))
    (he : ∀ a ∈ as, ∀ v H1, Ex H H1 → Dq X.K H1 v (ι a) → ∀ t, t < m a → ∀ s H0 C cl fp, Wd (X.blk s H0 scope (compEnvC scope cl C X.env) fp) elt ((wipe ((wipe σ (own.map (·.2))).set j (some v)) [l]).set l (some (.int (t : Int)))) H1 (g a t))
    (k : ∀ v H1, Ex H H1 → newL X H (as.flatMap fun a => (List.range (m a)).map (g a)) v H1 → D.nx (σ.set i (some v)) H1)
    (ok : BlkOk X.N X.env.scope scope own) (hsw : swapsWith (.ListComp elt [⟨.Name x px, iter, [], 0⟩, ⟨.Name z pz, .Call (.Name "range" q1) [e] [] q2, [], 0⟩] scope pos) (some (.Name y py)) spos.line X.env = pure true)
    (hv : ∀ i ∈ [l], i ∈ own.map (·.2)) (hw : ∀ v, wipe ((wipe σ (own.map (·.2))).set j (some v)) (own.map (·.2)) = wipe σ (own.map (·.2)) := by intro _; rfl)
    (hw1 : ∀ v u, wipe ((wipe ((wipe σ (own.map (·.2))).set j (some v)) [l]).set l (some u)) [l] = wipe ((wipe σ (own.map (·.2))).set j (some v)) [l] := by intro _ _; rfl)
    (hj : X.N[j]? = some x := by rfl) (hl : X.N[l]? = some z := by rfl) (hy : X.N[i]? = some y := by rfl) (hyl : X.env.scope.names.lookup y = some .local := by rfl)
    (hx : ∀ s H0 C cl fp, Loc (X.blk s H0 scope (compEnvC scope cl C X.env) fp).env.scope x := by intro _ _ _ _ _; first | exact Or.inl rfl | exact Or.inr rfl)
    (hf : ∀ s H0 C cl fp, (X.blk s H0 scope (compEnvC scope cl C X.env) fp).fn x = true ∨ (X.blk s H0 scope (compEnvC scope cl C X.env) fp).env.scope.names.lookup x = some .local := by intro _ _ _ _ _; first | exact .inr rfl | exact .inl rfl)
    (hx2 : ∀ s H0 C cl fp, Loc (X.blk s H0 scope (compEnvC scope cl C X.env) fp).env.scope z := by intro _ _ _ _ _; first | exact Or.inl rfl | exact Or.inr rfl)
    (hf2 : ∀ s H0 C cl fp, (X.blk s H0 scope (compEnvC scope cl C X.env) fp).fn z = true ∨ (X.blk s H0 scope (compEnvC scope cl C X.env) fp).env.scope.names.lookup z = some .local := by intro _ _ _ _ _; first | exact .inr rfl | exact .inl rfl)
    (hgr : ∀ s H0 C cl fp, Gl (X.blk s H0 scope (compEnvC scope cl C X.env) fp) "range" := by intro _ _ _ _ _; rfl) (her : ∀ s H0 C cl fp, starEach [e] (X.blk s H0 scope (compEnvC scope cl C X.env) fp).env = [(false, eval e (X.blk s H0 scope (compEnvC scope cl C X.env) fp).env)] := by intro _ _ _ _ _; rfl)
    (hs : ∀ x, foldedSetIterable iter X.env x = pure x := by intro _; rfl) (hs1 : ∀ env x, foldedSetIterable (.Call (.Name "range" q1) [e] [] q2) env x = pure x := by intro _ _; rfl) :
    tWs X (.Assign [.Name y py] (.ListComp elt [⟨.Name x px, iter, [], 0⟩, ⟨.Name z pz, .Call (.Name "range" q1) [e] [] q2, [], 0⟩] scope pos) spos) D σ H := by
  obtain ⟨wi, h1, h2⟩ := hi
  have pe : ∀ s H0 C cl fp, PE (X.blk s H0 scope (compEnvC scope cl C X.env) fp) e (tBe X scope e) := fun s H0 C cl fp => ⟨fun pins s1 σ1 H1 Q I h => h s H0 C cl fp pins s1 I⟩
  refine s_of (ps_setLc2 (own := own) (vs1 := [l]) (g := gName j) (g1 := gName l) (tt := tYes) (tt1 := tYes) (te := tBe X scope elt) hc nd hy hyl hsw h1 ok hv (fun s H0 C cl fp => pg_name nd hj (hx s H0 C cl fp) (hf s H0 C cl fp)) (fun s H0 C cl fp => pts_nil)
    (fun s H0 C cl fp => pi_range1 (hgr s H0 C cl fp) T.range (pa_cons (pe s H0 C cl fp) pa_nil (her s H0 C cl fp)) (her s H0 C cl fp)) (fun s H0 C cl fp => pg_name nd hl (hx2 s H0 C cl fp) (hf2 s H0 C cl fp)) (fun s H0 C cl fp => pts_nil) (fun s H0 C cl fp => ⟨fun pins s1 σ1 H1 Q I h => h s H0 C cl fp pins s1 I⟩) hs hs1) ?_
  have hnl : ∀ n, noLs ((as.take n).flatMap fun a => (List.range (m a)).map (g a)) = true := fun n => noLs_fl fun a ha => by
    have ha := List.mem_of_mem_take ha
    generalize List.range (m a) = r
    induction r with
    | nil => rfl
    | cons t r ih => show (noL (g a t) && _) = true; rw [hn a ha t]; exact ih
  have hlen : ∀ n, ((as.take n).flatMap fun a => (List.range (m a)).map (g a)).length = ((as.take n).map m).sum := fun n => by
    rw [List.length_flatMap]
    congr 1
    exact List.map_congr_left fun a _ => by rw [List.length_map, List.length_range]
  have hsum : ∀ n a, as[n]? = some a → ((as.take n).map m).sum + m a ≤ (as.map m).sum := fun n a h => by
    have e1 : as = as.take n ++ a :: as.drop (n + 1) := by
      obtain ⟨hn, rfl⟩ := List.getElem?_eq_some_iff.mp h
      rw [List.getElem_cons_drop]
      exact (List.take_append_drop n as).symm
    have e2 : (as.map m).sum = ((as.take n).map m).sum + (m a + ((as.drop (n + 1)).map m).sum) := by
      conv => lhs; rw [e1]
      rw [List.map_append, List.map_cons, List.sum_append, List.sum_cons]
    omega
  refine h2 H (Ex.refl _) _ fun J H2 e2 w Dl hD => ?_
  refine ⟨fun n q H' => q = as.length - n ∧ n ≤ as.length ∧ Ex H2 H' ∧ LstAt X.K H' Dl ((as.take n).flatMap fun a => (List.range (m a)).map (g a)), ⟨_, rfl, Nat.zero_le _, Ex.new hD, [], upd_same, .nil, rfl⟩, ?_⟩
  rintro n q H' ⟨rfl, hnl', ex, hL⟩
  by_cases hlt : n < as.length
  · refine .inr ⟨w.goes n H' hlt ex, fun H'' => Ex H2 H'' ∧ LstAt X.K H'' Dl ((as.take (n + 1)).flatMap fun a => (List.range (m a)).map (g a)), fun H'' p => ⟨as.length - (n + 1), by omega, rfl, hlt, p.1, p.2⟩, fun v H'' hy => ?_⟩
    obtain ⟨rfl, a, ha, hv⟩ := w.yields n H' v H'' hlt ex hy
    have hm : a ∈ as := List.mem_of_getElem? ha
    refine ⟨hw v, fun s H0 C cl fp => hr a hm v H'' (e2.trans ex) hv s H0 C cl fp H'' (Ex.refl _) _ fun u H4 e4 hu => ?_⟩
    cases hu
    have hsm := hsum n a ha
    refine ⟨(m a : Int), rfl, by omega, by omega, ?_⟩
    rw [show ((m a : Int)).toNat = m a from Int.toNat_natCast _]
    refine ⟨fun t q H6 => q = m a - t ∧ t ≤ m a ∧ Ex H2 H6 ∧ Dq X.K H6 v (ι a) ∧ LstAt X.K H6 Dl (((as.take n).flatMap fun a => (List.range (m a)).map (g a)) ++ (List.range t).map (g a)), ⟨_, rfl, Nat.zero_le _, ex.trans e4, hv.ex e4, ?_⟩, ?_⟩
    · show LstAt X.K H4 Dl (_ ++ [])
      rw [List.append_nil]; exact hL.ex e4
    rintro t q H6 ⟨rfl, ht', ex6, hv6, hL6⟩
    by_cases htm : t < m a
    · refine .inr ⟨htm, fun H7 => Ex H2 H7 ∧ Dq X.K H7 v (ι a) ∧ LstAt X.K H7 Dl (((as.take n).flatMap fun a => (List.range (m a)).map (g a)) ++ (List.range (t + 1)).map (g a)), fun H7 p => ⟨m a - (t + 1), by omega, rfl, htm, p.1, p.2.1, p.2.2⟩, fun u H7 hy => ?_⟩
      obtain ⟨rfl, rfl⟩ := hy
      rw [Int.zero_add]
      refine ⟨hw1 v _, fun s H0 C cl fp => he a hm v H7 (e2.trans ex6) hv6 t htm s H0 C cl fp _ (Ex.refl _) _ fun y H8 e8 hy => ?_⟩
      obtain ⟨ws, l1, l2, l3⟩ := hL6
      refine ⟨ws, e8 _ _ l1, ?_, (ex6.trans e8).mut hD, dq_upd (e8 _ _ l1) _ _ (hni a hm) (hv6.ex e8), ?_⟩
      · rw [l2.len, List.length_append, hlen, List.length_map, List.length_range]
        exact sz_lt (by omega)
      · rw [List.range_succ, List.map_append, ← List.append_assoc]
        exact LstAt.add (e8 _ _ l1) (l2.ex e8) l3 hy (hn a hm t)
    · have et : t = m a := by omega
      subst et
      refine .inl ⟨Nat.le_refl _, ex6, ?_⟩
      rw [take_fl ha]
      exact hL6
  · have e : n = as.length := by omega
    subst e
    refine .inl ⟨w.stops H' ex, ?_⟩
    obtain ⟨ws, l1, l2, l3⟩ := hL
    rw [List.take_length] at l2
    exact k _ H' (e2.trans ex) ⟨Dl, ws, rfl, fresh_back e2 hD, l1, l2⟩
end
end FW
set_option maxRecDepth 100000
set_option maxHeartbeats 4000000
/-! W10: a tuple taken many times. -/
namespace FW
open PySem PySem.Spec PyProof.Rows L2 Evl
theorem tuple_mul1 (l : Addr) (items : Array Value) (n : Nat) (dd : Option Addr) (sl : Array (Option Value)) (u : Tok) (hi : items.isEmpty = false) :
    Meets (Builtin.«tuple.__mul__» ⟨[.ref l, .int 1 u], []⟩) (fun _ R s => s.heap.get? l = some { cls := .type "tuple", dict := dd, data := .seq items n, slots := sl } ∧
      R (.ok (.ret (.ref l))) s) :=
  .of_wp fun prog w A R s h => by
    obtain ⟨hp, g, d, tk, os⟩ := s
    obtain ⟨hl, h⟩ := h
    have f1 := AutoSeq1.idx_int
    wp_walk using wpAny_loadPart' hl
    repeat (first
      | (refine wpAny_ite_false (decide_eq_false (by decide)) ?_; wp_walk using wpAny_loadPart' hl)
      | (refine wpAny_ite_true (decide_eq_true (by simp)) ?_; wp_walk using wpAny_loadPart' hl))
    exact ⟨_, rfl, h⟩
def rRepF (K : PySem.W.Frag) : R2 := fun x y H Q => ∃ l k xs, x = .ref l ∧ y = .int k ∧ SqT K H l xs ∧ xs ≠ [] ∧ 1 ≤ k ∧ k ≤ 1000 ∧ xs.length ≤ 1000 ∧ (k = 1 → Q (.ref l) H) ∧ (k ≠ 1 → ∀ p (o : Obj), H p = none → o.dict = none → Q (.ref p) (upd H p (.frz o (.tup (List.replicate k.toNat xs).flatten))))
section
variable {X : Cx}
theorem op_repF : OpR X (binaryOp .Mult) (rRepF X.K) := by
  intro pins s σ H x y v u Q I rx ry h
  obtain ⟨l, k, xs, rfl, rfl, hT, hne, h1, h2, hz, q1, q⟩ := h
  cases rx
  obtain ⟨t, rfl⟩ := ry
  obtain ⟨its, r, ⟨⟨cls, dd, data, sl⟩, ho, hc, n, hd⟩, hs⟩ := I.tuple hT
  simp only at hc hd
  subst hc hd
  have hle : its.length = xs.length := r.length.symm
  have hn : its ≠ [] := fun e => hne (by
    rw [e] at hle
    exact List.eq_nil_of_length_eq_zero hle.symm)
  have hi : its.toArray.isEmpty = false := by
    cases its with
    | nil => exact absurd rfl hn
    | cons a b => rfl
  by_cases hk1 : k = 1
  · subst hk1
    exact wpAny_binaryOp_repeat_ref (T := "tuple") (U := "int") (by decide) ⟨_, ho, rfl⟩ (fun s' => typeIs_int s' 1 t) noFill_tuple_mul F.fills_int_mul F.slot_int_rmul repeat_tuple F.slot_int_index.lookup
      (call_meets F.slot_int_rmul (typeIs_int s 1 t) F.entry_int_rmul (F.args_int_rmul_2 _ _) (int_rmul_tuple 1 t l its.toArray n dd sl)
        ⟨ho, rfl, ⟨_, ho, rfl⟩, call_meets F.slot_tuple_mul ⟨_, ho, rfl⟩ F.entry_tuple_mul (F.args_tuple_mul_2 _ _) (tuple_mul1 l its.toArray n dd sl t hi) ⟨ho, ⟨.ref l, H, I, rfl, q1 rfl⟩⟩⟩)
  have h1 : 2 ≤ k := by omega
  have hsz0 : its.toArray.size = xs.length := by rw [List.size_toArray, hle]
  have hm : ((its.toArray.size : Nat) : Int) * k ≤ 1000000 := by
    rw [hsz0]
    have a1 : ((xs.length : Nat) : Int) * k ≤ 1000 * k := Int.mul_le_mul_of_nonneg_right (by omega) (by omega)
    omega
  have flen : (List.replicate k.toNat its).flatten.length ≤ sizeLine := by
    rw [PyProof.Rows.lm_len_rep_flat, hle, sizeLine_eq]
    have a1 : k.toNat * xs.length ≤ 1000 * 1000 := Nat.mul_le_mul (by omega) hz
    omega
  have c0 : (decide (k < -(2 ^ 63)) || decide (k ≥ 2 ^ 63)) = false := by
    rw [decide_eq_false (by omega), decide_eq_false (by omega)] <;> rfl
  have c1 : (its.toArray.isEmpty || k == 1) = false := by
    rw [hi, Bool.false_or]
    exact beq_eq_false_iff_ne.mpr (by omega)
  have c2 : (decide (k ≤ 0) || its.toArray.isEmpty) = false := by
    rw [hi, Bool.or_false]
    exact decide_eq_false (by omega)
  have c4 : Builtin.Tuple.tupleTooMany (((its.toArray.size : Nat) : Int) * k) = false := by
    unfold Builtin.Tuple.tupleTooMany
    rw [sizeLine_eq]
    exact decide_eq_false (by omega)
  refine wpAny_binaryOp_repeat_ref (T := "tuple") (U := "int") (by decide) ⟨_, ho, rfl⟩ (fun s' => typeIs_int s' k t) noFill_tuple_mul F.fills_int_mul F.slot_int_rmul repeat_tuple F.slot_int_index.lookup
    (call_meets F.slot_int_rmul (typeIs_int s k t) F.entry_int_rmul (F.args_int_rmul_2 _ _) (int_rmul_tuple k t l its.toArray n dd sl)
      ⟨ho, rfl, ⟨_, ho, rfl⟩, call_meets F.slot_tuple_mul ⟨_, ho, rfl⟩ F.entry_tuple_mul (F.args_tuple_mul_2 _ _) (tuple_mulW l its.toArray n dd sl k t c0 c1 c2 (by omega) c4 (by rw [size_rep, List.size_toArray]; exact flen)) ⟨ho, ?_⟩⟩)
  rw [size_rep]
  exact ⟨.ref s.heap.objs.size, _, laidF (s := s) (h' := s.heap) (t' := s.toks) I (r.rep k.toNat) (by rw [PyProof.Rows.lm_len_rep_flat, sizeLine_eq]; have a1 : k.toNat * xs.length ≤ 1000 * 1000 := Nat.mul_le_mul (by omega) hz; omega), rfl, q hk1 _ _ (I.hok.fresh (Nat.le_refl _)) rfl⟩
variable {σ : L2.St} {H H' : Hp} {a b : Expr} {pos : Pos}
theorem w_repT {ds : List PyData} {n : Nat} (ha : Wd X a σ H (.tuple ds)) (hb : Wd X b σ H (.int (n : Int))) (h0 : ds ≠ []) (hz : ds.length ≤ 1000) (h1 : 1 ≤ n) (hn : n ≤ 1000) : Wd X (.BinOp a .Mult b pos) σ H (.tuple (List.replicate n ds).flatten) :=
  W.of (pe_op op_repF wp_e wp_e) fun H1 e1 Q k => ha H1 e1 _ fun v H2 e2 hv => hb H2 (e1.trans e2) _ fun u H3 e3 hu => by
    cases hu
    cases hv with
    | tup g1 g2 =>
      refine ⟨_, (n : Int), _, rfl, rfl, ex_t e3 g1.seq, fun e => h0 ?_, by omega, by omega, by rw [g2.len]; exact hz, fun e => ?_, fun e p o hp ho => ?_⟩
      · rw [e] at g2; cases g2; rfl
      · have : n = 1 := by omega
        subst this
        refine k _ H3 (e2.trans e3) ?_
        rw [show (List.replicate 1 ds).flatten = ds by simp [List.replicate]]
        exact .tup (g1.ex e3) (g2.ex e3)
      · exact k _ _ (e2.trans (e3.trans (Ex.new hp))) (.tup (.of ho) ((g2.rep n).ex (e3.trans (Ex.new hp))))
end
end FW
set_option maxRecDepth 100000
set_option maxHeartbeats 4000000
/-! D5: sorted rows; foldings_told, folding_list, foldings_with -/
namespace FW
open PySem PySem.Spec PyProof.Rows L2 Evl
/-! ### rows sorted -/
theorem code_inj {B : Int} : ∀ {r q : List Int}, r.length = q.length → TS.Bd B r → TS.Bd B q → TS.code B r = TS.code B q → r = q
  | [], [], _, _, _, _ => rfl
  | d :: r, e :: q, hl, hr, hq, h => by
    have hl' : r.length = q.length := Nat.succ.inj hl
    have hd : ¬ d < e := fun x => by have := TS.code_lt (d := d) (e := e) hl' hr.tail hq.tail x; omega
    have he : ¬ e < d := fun x => by have := TS.code_lt (d := e) (e := d) hl'.symm hq.tail hr.tail x; omega
    have : d = e := by omega
    subst this
    have h' : d * B ^ r.length + TS.code B r = d * B ^ q.length + TS.code B q := h
    rw [hl'] at h'
    rw [code_inj hl' hr.tail hq.tail (by omega)]
theorem codeN_inj {r q : List Nat} (hl : r.length = q.length) (hr : ∀ m ∈ r, m < 16) (hq : ∀ m ∈ q, m < 16) (h : codeN r = codeN q) : r = q := by
  have bd : ∀ {r : List Nat}, (∀ m ∈ r, m < 16) → TS.Bd 16 (toI r) := fun {r} h x hx => by
    obtain ⟨m, hm, rfl⟩ := List.mem_map.mp hx
    have := h m hm
    omega
  exact toI_inj (code_inj (by rw [List.length_map, List.length_map]; exact hl) (bd hr) (bd hq) h)
def leN (a b : List Nat) : Bool := decide (codeN a ≤ codeN b)
def srt (rows : List (List Nat)) : List (List Nat) := rows.mergeSort leN
theorem srt_perm (rows : List (List Nat)) : (srt rows).Perm rows := List.mergeSort_perm _ _
theorem srt_pw (rows : List (List Nat)) : (srt rows).Pairwise (fun a b => codeN a ≤ codeN b) :=
  (List.pairwise_mergeSort (le := leN) (fun a b c h1 h2 => decide_eq_true (by have := of_decide_eq_true h1; have := of_decide_eq_true h2; omega))
    (fun a b => by unfold leN; rw [Bool.or_eq_true, decide_eq_true_iff, decide_eq_true_iff]; omega) rows).imp fun h => of_decide_eq_true h
/-- rows of n numbers below 16 -/
def Rows (n : Nat) (rows : List (List Nat)) : Prop := ∀ r ∈ rows, r.length = n ∧ ∀ m ∈ r, m < 16
theorem sorted_uniq {n : Nat} {r s : List (List Nat)} (h : r.Perm s) (hr : Rows n s) (h1 : r.Pairwise (fun a b => codeN a ≤ codeN b)) (h2 : s.Pairwise (fun a b => codeN a ≤ codeN b)) : r = s :=
  h.eq_of_pairwise (fun a b ha hb l1 l2 => by
    obtain ⟨a1, a2⟩ := hr a (h.mem_iff.mp ha)
    obtain ⟨b1, b2⟩ := hr b hb
    exact codeN_inj (a1.trans b1.symm) a2 b2 (by omega)) h1 h2
theorem srt_uniq {n : Nat} {r s : List (List Nat)} (h : r.Perm s) (hr : Rows n s) (h1 : r.Pairwise (fun a b => codeN a ≤ codeN b)) : r = srt s :=
  sorted_uniq (h.trans (srt_perm s).symm) (fun x hx => hr x ((srt_perm s).mem_iff.mp hx)) h1 (srt_pw s)
section
variable {X : Cx} {σ : L2.St} {H H' : Hp} {a : Expr} {p pos : Pos}
theorem w_srt {rows : List (List Nat)} {n : Nat} (T : BT X.mg) (ha : Wd X a σ H (.list (rows.map dN))) (hz : rows.length < 64) (hn : 1 ≤ n) (hr : Rows n rows) (hg : Gl X "sorted" := by rfl)
    (he : starEach [a] X.env = (false, eval a X.env) :: starEach [] X.env := by rfl) (hpl : (backTo pos (starEach [] X.env)).any (·.1) = false := by rfl) :
    W X (.Call (.Name "sorted" p) [a] [] pos) σ H (newL X H ((srt rows).map dN)) :=
  (w_sortT T ha hz hn hr hg he hpl).imp fun v H1 _ ⟨rows', h1, h2, h3⟩ => by
    rw [← srt_uniq h1 hr h2]; exact h3
end
/-! ### piles with one piece more -/
theorem ins_perm (p : List Nat) (i x : Nat) : (ins p i x).Perm (x :: p) := by
  unfold ins
  refine List.perm_middle.trans (.cons _ ?_)
  rw [List.take_append_drop]
theorem ins_len (p : List Nat) (i x : Nat) : (ins p i x).length = p.length + 1 := by
  rw [(ins_perm p i x).length_eq]; rfl
theorem ins_pile {p : List Nat} (hp : Pile p) (i : Nat) : Pile (ins p i p.length) := by
  unfold Pile
  rw [ins_len, List.range_succ]
  exact (ins_perm p i p.length).trans ((List.Perm.cons _ hp).trans (List.perm_append_singleton _ _).symm)
theorem pile0 : Pile [0] := List.Perm.refl _
theorem grow_pile {p q : List Nat} (hp : Pile p) (h : q ∈ grow p p.length) : Pile q ∧ q.length = p.length + 1 := by
  obtain ⟨i, _, rfl⟩ := List.mem_map.mp h
  exact ⟨ins_pile hp i, ins_len _ _ _⟩
theorem told_pile {bs : List Bool} : ∀ {m : Nat} {q : List Nat}, q ∈ told bs m → Pile q ∧ q.length = m + 1
  | 0, q, h => by
    rw [List.mem_singleton.mp h]; exact ⟨pile0, rfl⟩
  | m + 1, q, h => by
    obtain ⟨h, _⟩ := List.mem_filter.mp h
    obtain ⟨p, hp, hq⟩ := List.mem_flatMap.mp h
    obtain ⟨h1, h2⟩ := told_pile hp
    obtain ⟨h3, h4⟩ := grow_pile h1 hq
    exact ⟨h3, by omega⟩
theorem lay_pile {L : List Nat} : ∀ {m : Nat} {q : List Nat}, q ∈ lay L m → Pile q ∧ q.length = m + 1
  | 0, q, h => by
    rw [List.mem_singleton.mp h]; exact ⟨pile0, rfl⟩
  | m + 1, q, h => by
    obtain ⟨p, hp, hq⟩ := List.mem_flatMap.mp h
    obtain ⟨hq, _⟩ := List.mem_filter.mp hq
    obtain ⟨h1, h2⟩ := lay_pile hp
    rw [← h2] at hq
    obtain ⟨h3, h4⟩ := grow_pile h1 hq
    exact ⟨h3, by omega⟩
theorem rows_of {rows : List (List Nat)} {n : Nat} (hn : n ≤ 8) (h : ∀ q ∈ rows, Pile q ∧ q.length = n) : Rows n rows := fun q hq => by
  obtain ⟨h1, h2⟩ := h q hq
  exact ⟨h2, fun m hm => by have := h1.mem.mp hm; omega⟩
section
variable {P : Program} {w : World} {K : PySem.W.Frag} {mg : Str → Option Value} {base : Heap}
def G_told : List PyData → PyData → Prop := fun ds d => ∃ bs : List Bool, ds = [.str (mstr bs)] ∧ bs.length ≤ 7 ∧ (∀ m, m ≤ bs.length → (told bs m).length < 64) ∧ d = .list ((srt (told bs bs.length)).map dN)
theorem in_sign (b c : Bool) : (([Str.ofString "?", sign b] : List Str).any fun y => y == (⟨#[mcode c]⟩ : Str)) = (b == c) := by
  cases b <;> cases c <;> decide +kernel
theorem sum_le {l : List (List Nat)} {n k : Nat} (h : ∀ q ∈ l, q.length = n) : (l.map fun q => q.length + k).sum = l.length * (n + k) := by
  induction l with
  | nil => simp
  | cons a r ih =>
    rw [List.map_cons, List.sum_cons, ih fun q hq => h q (List.mem_cons_of_mem _ hq), h a (List.mem_cons_self ..), List.length_cons, Nat.succ_mul, Nat.add_comm]
theorem c_foldings_told (D : Df K mg "foldings_told" s_foldings_told) (T : BT mg) (C1 : Cal P w K mg base 1 "with_piece" ["layers", "place"] (spD K G_with)) (C2 : Cal P w K mg base 3 "does_last_fit" ["layers"] (spD K G_last)) (C3 : Cal P w K mg base 1 "mark_in" ["layers", "crease"] (spD K G_mark)) :
    Cal P w K mg base 4 "foldings_told" ["told"] (spD K G_told) := by
  refine D.cal (fun _ _ _ _ _ _ us hl => match us, hl with | [_], _ => rfl) fun f fd F => ?_
  refine okD F sc_foldings_told (fun ds d ⟨i, h, _⟩ => by rw [h]; rfl) fun cdv A outer s H vs Q E ds d hr hv hG hQ => ?_
  obtain ⟨bs, rfl, hz, h64, rfl⟩ := hG
  obtain ⟨v, rfl, h0⟩ := dpa1 hv
  have nd := sc_foldings_told.nd
  refine ss_cons (s_set 1 nd (w_lst (wd_cons (w_tup (wd_cons w_int wd_nil) (by simp)) wd_nil) (by simp)) fun fv H1 e1 hf => ?_)
  refine ss_cons (s_forES 2 3 T nd rfl (w_v 0 (h0.ex e1)) fun H2 e2 => ⟨fun n σ' H' => Ex H1 H' ∧ ∃ y1 y2 y3 y4 y5 y6, Dq K H' y1 (.list ((told bs n).map dN)) ∧ σ' = [some v, some y1, y2, y3, y4, y5, y6], ⟨e2, fv, none, none, none, none, none, hf.ex e2, rfl⟩,
    fun n c σ' H' H3 hc ⟨ex, y1, y2, y3, y4, y5, y6, hy, hσ⟩ e3 => ?_, fun σ' H' ⟨ex, y1, y2, y3, y4, y5, y6, hy, hσ⟩ => ?_⟩)
  · subst hσ
    have hc' : (bs.map mcode)[n]? = some c := by rw [← mstr_list, Array.getElem?_toList]; exact hc
    rw [List.getElem?_map] at hc'
    obtain ⟨b, hb, rfl⟩ := Option.map_eq_some_iff.mp hc'
    have hn : n < bs.length := (List.getElem?_eq_some_iff.mp hb).1
    have hlen := h64 n (by omega)
    refine ss_cons (s_lcR2 4 5 6 (own := [("layers", 5), ("place", 6)]) (m := fun p : List Nat => p.length + 1) (g := fun p t => dN (ins p t p.length)) T nd rfl (src_list (as := told bs n) (ι := dN) (w_v 1 (hy.ex e3))) ?_ (fun _ _ _ => noL_dN _) (fun _ _ => noL_dN _)
      (fun p hp u H4 e4 hu s0 H0 C cl fp => Wd.is (w_add (w_len T (w_v 5 hu) (dN_len p)) w_int) (congrArg PyData.int (by omega)))
      (fun p hp u H4 e4 hu t ht s0 H0 C cl fp => w_C C1 (hr.mono (by decide)) (wd_cons (w_v 5 hu) (wd_cons (w_v 6 (.int _)) wd_nil)) ⟨p, t, rfl, by have := (told_pile hp).2; omega, rfl⟩)
      (fun sv H4 e4 hs => ?_) (blkOk_by (N := n_foldings_told) (sc := defScope s_foldings_told) (by decide +kernel)) rfl (by decide))
    · rw [sum_le (n := n + 1) fun q hq => (told_pile hq).2]
      have := Nat.mul_le_mul (Nat.le_of_lt hlen) (show n + 1 + 1 ≤ 9 by omega)
      omega
    have hs' : Dq K H4 sv (.list (((told bs n).flatMap fun p => grow p p.length).map dN)) := by
      obtain ⟨q, ws, rfl, h1, h2, h3⟩ := hs
      refine .lst (sq_of h2) ?_
      have e : (((told bs n).flatMap fun p => grow p p.length).map dN) = ((told bs n).flatMap fun a => (List.range (a.length + 1)).map fun t => dN (ins a t a.length)) := by
        rw [List.map_flatMap]
        congr 1
        funext p
        unfold grow
        rw [List.map_map]; rfl
      rw [e]; exact h3
    have hgp : ∀ q ∈ (told bs n).flatMap fun p => grow p p.length, Pile q ∧ q.length = n + 2 := fun q hq => by
      obtain ⟨p, hp, hq⟩ := List.mem_flatMap.mp hq
      obtain ⟨h1, h2⟩ := told_pile hp
      obtain ⟨h3, h4⟩ := grow_pile h1 hq
      exact ⟨h3, by omega⟩
    have hgl : ((told bs n).flatMap fun p => grow p p.length).length ≤ 40000 := by
      rw [List.length_flatMap, show (List.map (fun a : List Nat => (grow a a.length).length) (told bs n)) = (told bs n).map fun q => q.length + 1 from List.map_congr_left fun a _ => by unfold grow; rw [List.length_map, List.length_range], sum_le (n := n + 1) fun q hq => (told_pile hq).2]
      have := Nat.mul_le_mul (Nat.le_of_lt hlen) (show n + 1 + 1 ≤ 9 by omega)
      omega
    refine ss_cons (s_lc1 1 5 nd rfl (as := (told bs n).flatMap fun p => grow p p.length) (ι := dN) (g := dN) (f := fun q => lastFit q && (markAt q n == bs.getD n true)) (src_list (w_v 4 hs')) hgl (fun _ _ => noL_dN _)
      (fun q hq u H5 e5 hu s0 H0 C cl fp => wt_and (wt_v (w_C C2 hr (wd_cons (w_v 5 hu) wd_nil) ⟨q, rfl, (hgp q hq).1, by have := (hgp q hq).2; omega, by have := (hgp q hq).2; omega, rfl⟩)) fun _ => WT.is (wt_inS (ys := ["?", sign (markAt q n)]) (w_v 3 (.str _)) (w_tup (wd_cons w_str (wd_cons (w_C C3 (hr.mono (by decide)) (wd_cons (w_v 5 hu) (wd_cons (w_v 2 (.int (n : Int))) wd_nil)) ⟨q, n, rfl, (hgp q hq).1, by have := (hgp q hq).2; omega, rfl⟩) wd_nil)) (by simp))) ?_)
      (fun q hq hf u H5 e5 hu s0 H0 C cl fp => w_v 5 hu) (fun fv2 H5 e5 hf => ss_nil ⟨ex.trans (e3.trans (e4.trans e5)), _, _, _, _, _, _, ?_, rfl⟩) (blkOk_by (N := n_foldings_told) (sc := defScope s_foldings_told) (by decide +kernel)) rfl)
    · rw [in_sign, List.getD_eq_getElem?_getD, hb]; rfl
    · obtain ⟨q, ws, rfl, h1, h2, h3⟩ := hf
      exact .lst (sq_of h2) h3
  · subst hσ
    have esz : (mstr bs).cps.size = bs.length := by show (bs.map mcode).toArray.size = _; simp
    rw [esz] at hy
    exact ss_cons (s_ret (w_srt T (w_v 1 hy) (h64 _ (Nat.le_refl _)) (n := bs.length + 1) (by omega) (rows_of (by omega) fun q hq => told_pile hq)) fun u H3 e3 q => hQ u H3 (e1.trans (ex.trans e3)) (by
      obtain ⟨q, ws, rfl, h1, h2, h3⟩ := q
      exact .lst (sq_of h2) h3))
theorem c_folding_list (D : Df K mg "folding_list" s_folding_list) (C1 : Cal P w K mg base 4 "foldings_told" ["told"] (spD K G_told)) : Cal P w K mg base 5 "folding_list" ["marks"] (spD K G_told) := by
  refine D.cal (fun _ _ _ _ _ _ us hl => match us, hl with | [_], _ => rfl) fun f fd F => ?_
  refine okD F sc_folding_list (fun ds d ⟨i, h, _⟩ => by rw [h]; rfl) fun cdv A outer s H vs Q E ds d hr hv hG hQ => ?_
  obtain ⟨bs, rfl, hz, h64, rfl⟩ := hG
  obtain ⟨v, rfl, h0⟩ := dpa1 hv
  exact ss_cons (s_ret (w_C C1 hr (wd_cons (w_v 0 h0) wd_nil) ⟨bs, rfl, hz, h64, rfl⟩) fun v H1 e1 q => hQ v H1 e1 q)
def G_foldings_with : List PyData → PyData → Prop := fun ds d => ∃ bs : List Bool, ds = [.str (mstr bs)] ∧ bs.length ≤ 7 ∧ (∀ m, m ≤ bs.length → (told bs m).length < 64) ∧ d = .tuple ((srt (told bs bs.length)).map dN)
theorem c_foldings_with (D : Df K mg "foldings_with" s_foldings_with) (T : BT mg) (C1 : Cal P w K mg base 2 "check_marks" ["marks"] (spD K G_check_marks)) (C2 : Cal P w K mg base 5 "folding_list" ["marks"] (spD K G_told)) : Cal P w K mg base 6 "foldings_with" ["marks"] (spD K G_foldings_with) := by
  refine D.cal (fun _ _ _ _ _ _ us hl => match us, hl with | [_], _ => rfl) fun f fd F => ?_
  refine okD F sc_foldings_with (fun ds d ⟨i, h, _⟩ => by rw [h]; rfl) fun cdv A outer s H vs Q E ds d hr hv hG hQ => ?_
  obtain ⟨bs, rfl, hz, h64, rfl⟩ := hG
  obtain ⟨v, rfl, h0⟩ := dpa1 hv
  refine ss_cons (s_do (w_C C1 (hr.mono (by decide)) (wd_cons (w_v 0 h0) wd_nil) ⟨bs, rfl, hz, rfl⟩) fun H1 e1 => ?_)
  exact ss_cons (s_ret (w_tupL T (w_C C2 hr (wd_cons (w_v 0 (h0.ex e1)) wd_nil) ⟨bs, rfl, hz, h64, rfl⟩)) fun v H2 e2 q => hQ v H2 (e1.trans e2) q)
end
end FW
set_option maxRecDepth 100000
set_option maxHeartbeats 4000000
/-! D6: layering_list to count_layerings -/
namespace FW
open PySem PySem.Spec PyProof.Rows L2 Evl
section
variable {X : Cx} {σ : L2.St} {H H' Hb : Hp} {P P1 P2 : VP} {e a b c iter : Expr} {pos p p2 px py tp : Pos} {D : Ends} {body : List Stmt} {k : Nat} {ps : List Str} {x y z : Str} {es : List Expr}
/-- as s_forLb; the members are told in the older heap -/
theorem s_forLB (j : Nat) {v : V} {ds : List PyData} (nd : X.N.Nodup) (hc : X.calm = true) (hi : W X iter σ H (fun u _ => u = v)) (hv : Dq X.K Hb v (.list ds))
    (k : ∀ H1, Ex H H1 → ∃ Pv : Nat → L2.St → Hp → Prop, Pv 0 σ H1 ∧ (∀ i σ' H', Pv i σ' H' → Ex Hb H') ∧ (∀ i v d σ' H', ds[i]? = some d → Dq X.K Hb v d → Pv i σ' H' → tWss X body (nextD D (Pv (i + 1))) (σ'.set j (some v)) H') ∧ ∀ σ' H', Pv ds.length σ' H' → D.nx σ' H')
    (hj : X.N[j]? = some x := by rfl) (hx : Loc X.env.scope x := by first | exact Or.inl rfl | exact Or.inr rfl) (hp : PassesOwn (model X.prog X.w) X.A X.env X.xe := by exact PassesOwn.never) (hs : ∀ x, foldedSetIterable iter X.env x = pure x := by intro _; rfl)
    (hf : X.fn x = true ∨ X.env.scope.names.lookup x = some .local := by first | exact .inl rfl | exact .inr rfl) : tWs X (.For (.Name x px) iter body [] pos) D σ H :=
  s_of (ps_for hp hc (pi_list wp_e) (pg_name nd hj hx hf) wp_ss hs) (hi H (Ex.refl _) _ fun u H1 e1 hu => by
    subst hu
    obtain ⟨Pv, p0, px, ps, pd⟩ := k H1 e1
    cases hv with
    | lst h1 h2 =>
      refine ⟨_, rfl, ⟨_, ex_l (px 0 _ _ p0) h1⟩, for_list Pv p0 (fun i σ' H' _ p => ex_l (px i σ' H' p) h1) (fun i v σ' H' hv p => ?_) (fun σ' H' p => pd σ' H' (by rw [← h2.len]; exact p))⟩
      obtain ⟨d, q1, q2⟩ := h2.getV hv
      exact ps i v d σ' H' q1 q2 p)
end
/-! ### the first pieces alone -/
theorem pt_take {L : List Nat} {n : Nat} : ∀ {k : Nat}, k ≤ n → pt (L.take n) k = pt L k
  | 0, _ => rfl
  | k + 1, h => by
    have hk : (L.take n).getD k 0 = L.getD k 0 := by
      rw [List.getD_eq_getElem?_getD, List.getD_eq_getElem?_getD, List.getElem?_take, if_pos (by omega)]
    show pt (L.take n) k + _ = pt L k + _
    rw [pt_take (by omega), hk]
theorem laid_take {L : List Nat} {n : Nat} {s : Nat → Nat} : Laid (L.take n) n s ↔ Laid L n s := by
  have h1 : ∀ k j, k + 1 < n → j < n → (PierceAt (L.take n) s k j ↔ PierceAt L s k j) := fun k j hk hj => by
    unfold PierceAt lo hi
    rw [pt_take (by omega), pt_take (by omega), pt_take (by omega)]
  have h2 : ∀ k j, k + 1 < n → j + 1 < n → (CrossAt (L.take n) s k j ↔ CrossAt L s k j) := fun k j hk hj => by
    unfold CrossAt
    rw [pt_take (by omega), pt_take (by omega)]
  unfold Laid Pierced Crossed
  constructor
  · exact fun ⟨a, b⟩ => ⟨fun ⟨k, j, x, y, z⟩ => a ⟨k, j, x, y, (h1 k j x y).mpr z⟩, fun ⟨k, j, x, y, p, z⟩ => b ⟨k, j, x, y, p, (h2 k j x y).mpr z⟩⟩
  · exact fun ⟨a, b⟩ => ⟨fun ⟨k, j, x, y, z⟩ => a ⟨k, j, x, y, (h1 k j x y).mp z⟩, fun ⟨k, j, x, y, p, z⟩ => b ⟨k, j, x, y, p, (h2 k j x y).mp z⟩⟩
theorem laidB_take {L : List Nat} {n : Nat} {s : Nat → Nat} : laidB (L.take n) n s = laidB L n s := by
  rw [Bool.eq_iff_iff, laidB_iff, laidB_iff]
  exact laid_take
/-- the rows that one pile gives -/
noncomputable def nexts (L : List Nat) (m : Nat) (p : List Nat) : List (List Nat) := (grow p (m + 1)).filter fun q => laidB L (m + 2) (spot q)
theorem lay_succ (L : List Nat) (m : Nat) : lay L (m + 1) = (lay L m).flatMap (nexts L m) := rfl
theorem fl_le {α β : Type} {g : α → List β} {c : Nat} (l : List α) (h : ∀ a ∈ l, (g a).length ≤ c) : (l.flatMap g).length ≤ l.length * c := by
  induction l with
  | nil => simp
  | cons a r ih =>
    rw [List.flatMap_cons, List.length_append, List.length_cons, Nat.succ_mul]
    have := h a (List.mem_cons_self ..)
    have := ih fun a ha => h a (List.mem_cons_of_mem _ ha)
    omega
theorem filter_one {α : Type} (f : α → Bool) (a : α) : List.filter f [a] = if f a = true then [a] else [] := by
  by_cases h : f a = true
  · rw [if_pos h, List.filter_cons_of_pos h]; rfl
  · rw [if_neg h, List.filter_cons_of_neg h]; rfl
theorem noLs_rows (l : List (List Nat)) : noLs (l.map dN) = true := by
  induction l with
  | nil => rfl
  | cons a r ih =>
    show (noL (dN a) && noLs (r.map dN)) = true
    rw [noL_dN, ih]; rfl
section
variable {P : Program} {w : World} {K : PySem.W.Frag} {mg : Str → Option Value} {base : Heap}
def Few (L : List Nat) : Prop := ∀ m, m < L.length → (lay L m).length < 64
def G_layering_list : List PyData → PyData → Prop := fun ds d => ∃ L : List Nat, ds = [dN L] ∧ 1 ≤ L.length ∧ L.length ≤ 8 ∧ Few L ∧ d = .list ((srt (lay L (L.length - 1))).map dN)
theorem c_layering_list (D : Df K mg "layering_list" s_layering_list) (T : BT mg) (C1 : Cal P w K mg base 4 "is_laid" ["lengths", "layers"] (spD K G_is_laid)) : Cal P w K mg base 5 "layering_list" ["lengths"] (spD K G_layering_list) := by
  refine D.cal (fun _ _ _ _ _ _ us hl => match us, hl with | [_], _ => rfl) fun f fd F => ?_
  refine okD F sc_layering_list (fun ds d ⟨i, h, _⟩ => by rw [h]; rfl) fun cdv A outer s H vs Q E ds d hr hv hG hQ => ?_
  obtain ⟨L, rfl, hz1, hz2, h64, rfl⟩ := hG
  obtain ⟨v, rfl, h0⟩ := dpa1 hv
  have nd := sc_layering_list.nd
  refine ss_cons (s_set 1 nd (w_lst (wd_cons (w_tup (wd_cons w_int wd_nil) (by simp)) wd_nil) (by simp)) fun fv H1 e1 hf => ?_)
  refine ss_cons (s_forR2 2 (lo := 1) (hi := (L.length : Int)) (n := L.length - 1) T nd rfl w_int (w_len T (w_v 0 (h0.ex e1)) (dN_len L)) (by omega) (by omega) fun H2 e2 => ⟨fun i σ' H' => Ex H1 H' ∧ ∃ y1 y2 y3 y4 y5 y6, Dq K H' y1 (.list ((lay L i).map dN)) ∧ σ' = [some v, some y1, y2, y3, y4, y5, y6], ⟨e2, fv, none, none, none, none, none, hf.ex e2, rfl⟩,
    fun i σ' H' hi ⟨ex, y1, y2, y3, y4, y5, y6, hy, hσ⟩ => ?_, fun σ' H' ⟨ex, y1, y2, y3, y4, y5, y6, hy, hσ⟩ => ?_⟩)
  · subst hσ
    have hlen := h64 i (by omega)
    refine ss_cons (s_set 3 nd (w_lstN wd_nil (by simp)) fun l0 H3 e3 ⟨l, ws, el, fl, hl1, hl2⟩ => ?_)
    subst el
    have hL3 : LstAt K H3 l ([].map dN) := ⟨ws, hl1, hl2, rfl⟩
    refine ss_cons (s_forLB 4 (Hb := H') nd rfl (w_is 1) hy fun H4 e4 => ⟨fun n σ' H5 => Ex H' H5 ∧ LstAt K H5 l ((((lay L i).take n).flatMap (nexts L i)).map dN) ∧ ∃ y4 y5 y6, σ' = [some v, some y1, some (.int (1 + (i : Int))), some (.ref l), y4, y5, y6],
      ⟨e3.trans e4, hL3.ex e4, y4, y5, y6, rfl⟩, fun n σ' H5 h => h.1, fun n u d σ' H5 hd hu ⟨ex5, hl5, y4, y5, y6, hσ⟩ => ?_, fun σ' H5 ⟨ex5, hl5, y4, y5, y6, hσ⟩ => ?_⟩)
    · subst hσ
      rw [List.getElem?_map] at hd
      obtain ⟨q, hq, rfl⟩ := Option.map_eq_some_iff.mp hd
      obtain ⟨pq, lq⟩ := lay_pile (List.mem_of_getElem? hq)
      have hb9 : (((lay L i).take n).flatMap (nexts L i)).length ≤ 64 * 9 := by
        refine Nat.le_trans (fl_le (c := 9) _ fun a ha => ?_) (Nat.mul_le_mul_right 9 (Nat.le_trans (List.length_take_le' ..) (Nat.le_of_lt hlen)))
        have := (lay_pile (List.mem_of_mem_take ha)).2
        refine Nat.le_trans (List.length_filter_le ..) ?_
        unfold grow
        rw [List.length_map, List.length_range]
        omega
      have hv0 : Ex H H' := e1.trans ex
      refine ss_cons (s_forR1 5 (n := i + 2) T nd rfl (Wd.is (w_add (w_v 2 (.int _)) w_int) (congrArg PyData.int (by omega))) (by omega) fun H6 e6 => ⟨fun t σ' H7 => Ex H' H7 ∧ LstAt K H7 l (((((lay L i).take n).flatMap (nexts L i)) ++ ((List.range t).map fun j => ins q j (i + 1)).filter fun z => laidB L (i + 2) (spot z)).map dN) ∧ ∃ y5 y6, σ' = [some v, some y1, some (.int (1 + (i : Int))), some (.ref l), some u, y5, y6],
        ⟨ex5.trans e6, ?_, y5, y6, rfl⟩, fun t σ' H7 ht ⟨ex7, hl7, y5, y6, hσ⟩ => ?_, fun σ' H7 ⟨ex7, hl7, y5, y6, hσ⟩ => ?_⟩)
      · show LstAt K H6 l ((_ ++ []).map dN)
        rw [List.append_nil]; exact hl5.ex e6
      · subst hσ
        have hi1 : Dq K H7 (.int (1 + (i : Int))) (.int ((i + 1 : Nat) : Int)) := by
          rw [show (1 + (i : Int)) = ((i + 1 : Nat) : Int) by omega]; exact .int _
        have ht1 : Dq K H7 (.int (t : Int)) (.int (t : Int)) := .int _
        have hu7 := hu.ex ex7
        refine ss_cons (s_set 6 nd (Wd.is (w_addt (w_addt (w_slT (w_v 4 hu7) wo_n (wo_s (w_v 5 ht1))) (w_tup (wd_cons (w_v 2 hi1) wd_nil) (by simp)) ?_) (w_slT (w_v 4 hu7) (wo_s (w_v 5 ht1)) wo_n) ?_) (ins_dN q t (i + 1))) fun mv H8 e8 hm => ?_)
        · rw [cutD_take]; simp; omega
        · rw [cutD_take, cutD_drop]; simp; omega
        have pz : Pile (ins q t (i + 1)) := by rw [← lq]; exact ins_pile pq t
        have lz : (ins q t (i + 1)).length = i + 2 := by rw [ins_len]; omega
        have tl : (L.take (i + 2)).length = i + 2 := by rw [List.length_take]; omega
        have et : ((List.range (t + 1)).map fun j => ins q j (i + 1)).filter (fun z => laidB L (i + 2) (spot z)) = ((List.range t).map fun j => ins q j (i + 1)).filter (fun z => laidB L (i + 2) (spot z)) ++ (if laidB L (i + 2) (spot (ins q t (i + 1))) = true then [ins q t (i + 1)] else []) := by
          rw [List.range_succ, List.map_append, List.filter_append]
          congr 1
          exact filter_one _ _
        refine ss_cons (s_if (r := laidB L (i + 2) (spot (ins q t (i + 1)))) (wt_v (Wd.is (w_C C1 (hr.mono (by decide)) (wd_cons (Wd.is (w_slT (w_v 0 (h0.ex (hv0.trans (ex7.trans e8)))) wo_n (wo_s (Wd.is (w_add (w_v 2 (hi1.ex e8)) w_int) (show _ = PyData.int ((i + 2 : Nat) : Int) from congrArg PyData.int (by omega))))) (d' := dN (L.take (i + 2))) ?_) (wd_cons (w_v 6 hm) wd_nil)) ⟨L.take (i + 2), ins q t (i + 1), rfl, pz, by rw [lz, tl], by omega, by omega, rfl⟩) (by rw [tl, laidB_take]))) (fun h H9 e9 => ?_) fun h H9 e9 => ?_)
        · rw [cutD_take, ← List.map_take]
        · have hfin : (((List.range t).map fun j => ins q j (i + 1)).filter fun z => laidB L (i + 2) (spot z)).length ≤ 9 := by
            refine Nat.le_trans (List.length_filter_le ..) ?_
            rw [List.length_map, List.length_range]; omega
          refine ss_cons (s_app (w_is 3) (hl7.ex (e8.trans e9)) (w_v 6 (hm.ex e9)) (noL_dN _) (by rw [List.length_map, List.length_append]; omega) fun H10 hl10 hx10 => ss_nil (ss_nil ⟨hx10 H' (ex7.trans (e8.trans e9)) fl, ?_, _, _, rfl⟩))
          rw [et, if_pos h, ← List.append_assoc, List.map_append]
          exact hl10
        · refine ss_nil (ss_nil ⟨ex7.trans (e8.trans e9), ?_, _, _, rfl⟩)
          rw [et, if_neg (by rw [h]; exact Bool.false_ne_true), List.append_nil]
          exact hl7.ex (e8.trans e9)
      · subst hσ
        refine ss_nil ⟨ex7, ?_, _, _, _, rfl⟩
        rw [take_fl hq]
        show LstAt K H7 l ((_ ++ (grow q (i + 1)).filter _).map dN)
        unfold grow
        rw [lq]
        exact hl7
    · subst hσ
      rw [List.length_map, List.take_length] at hl5
      refine ss_cons (s_set 1 nd (w_v 3 hl5.dq) fun nv H6 e6 hn => ss_nil ⟨ex.trans (ex5.trans e6), nv, _, _, _, _, _, hn, rfl⟩)
  · subst hσ
    exact ss_cons (s_ret (w_srt T (w_v 1 hy) (h64 _ (by omega)) (n := L.length) (by omega) (rows_of (by omega) fun q hq => by have := lay_pile hq; exact ⟨this.1, by omega⟩)) fun u H3 e3 q => hQ u H3 (e1.trans (ex.trans e3)) (by
      obtain ⟨q, ws, rfl, h1, h2, h3⟩ := q
      exact .lst (sq_of h2) h3))
theorem mstr_inj {bs cs : List Bool} : mstr bs = mstr cs ↔ bs = cs := by
  constructor
  · intro h
    have h1 : bs.map mcode = cs.map mcode := by rw [← mstr_list, ← mstr_list, h]
    clear h
    induction bs generalizing cs with
    | nil => cases cs with
      | nil => rfl
      | cons b r => cases h1
    | cons a r ih => cases cs with
      | nil => cases h1
      | cons b t =>
        rw [List.map_cons, List.map_cons] at h1
        injection h1 with h1 h2
        rw [ih h2]
        cases a <;> cases b <;> first | rfl | cases h1
  · rintro rfl; rfl
theorem mstr_eqb (bs cs : List Bool) : decide (mstr bs = mstr cs) = (bs == cs) := by
  rw [Bool.eq_iff_iff, decide_eq_true_iff, mstr_inj, beq_iff_eq]
/-- the layerings with these marks, in order -/
noncomputable def marked (L : List Nat) (bs : List Bool) : List (List Nat) := (srt (lay L (L.length - 1))).filter fun q => marksOf L.length q == bs
theorem srt_pile {L : List Nat} (h : 1 ≤ L.length) {q : List Nat} (hq : q ∈ srt (lay L (L.length - 1))) : Pile q ∧ q.length = L.length := by
  have := lay_pile ((srt_perm _).mem_iff.mp hq)
  exact ⟨this.1, by omega⟩
def G_marked_list : List PyData → PyData → Prop := fun ds d => ∃ (L : List Nat) (bs : List Bool), ds = [dN L, .str (mstr bs)] ∧ 1 ≤ L.length ∧ L.length ≤ 8 ∧ Few L ∧ d = .list ((marked L bs).map dN)
theorem c_marked_list (D : Df K mg "marked_list" s_marked_list) (C1 : Cal P w K mg base 5 "layering_list" ["lengths"] (spD K G_layering_list)) (C2 : Cal P w K mg base 2 "marks_by" ["layers"] (spD K G_marks_by)) : Cal P w K mg base 6 "marked_list" ["lengths", "marks"] (spD K G_marked_list) := by
  refine D.cal (fun _ _ _ _ _ _ us hl => match us, hl with | [_, _], _ => rfl) fun f fd F => ?_
  refine okD F sc_marked_list (fun ds d ⟨L, bs, h, _⟩ => by rw [h]; rfl) fun cdv A outer s H vs Q E ds d hr hv hG hQ => ?_
  obtain ⟨L, bs, rfl, hz1, hz2, h64, rfl⟩ := hG
  obtain ⟨v, u, rfl, h0, h1⟩ := dpa2 hv
  refine ss_cons (s_ret (newL_dt (w_lc1 2 sc_marked_list.nd rfl (as := srt (lay L (L.length - 1))) (ι := dN) (g := dN) (f := fun q => marksOf L.length q == bs) (src_list (w_C C1 hr (wd_cons (w_v 0 h0) wd_nil) ⟨L, rfl, hz1, hz2, h64, rfl⟩)) (by rw [(srt_perm _).length_eq]; have := h64 (L.length - 1) (by omega); omega) (fun _ _ => noL_dN _)
    (fun q hq u2 H2 e2 hu s0 H0 C cl fp => WT.is (wt_eqs (w_C C2 (hr.mono (by decide)) (wd_cons (w_v 2 hu) wd_nil) ⟨q, rfl, (srt_pile hz1 hq).1, by rw [(srt_pile hz1 hq).2]; omega, by rw [(srt_pile hz1 hq).2]; omega, rfl⟩) (w_v 1 (h1.ex e2))) (by rw [mstr_eqb, (srt_pile hz1 hq).2]))
    (fun q hq hf u2 H2 e2 hu s0 H0 C cl fp => w_v 2 hu) (blkOk_by (N := n_marked_list) (sc := defScope s_marked_list) (by decide +kernel)))) fun z H2 e2 q => hQ z H2 e2 q)
def G_stretches : List PyData → PyData → Prop := fun ds d => ∃ L : List Nat, ds = [dN L] ∧ Strip L ∧ d = .tuple ((List.range L.length).map (stD L))
theorem c_stretches (D : Df K mg "stretches" s_stretches) (T : BT mg) (C1 : Cal P w K mg base 3 "check_lengths" ["lengths"] (spD K G_check_lengths)) (C2 : Cal P w K mg base 2 "stretch_list" ["lengths"] (spD K G_stretch_list)) : Cal P w K mg base 4 "stretches" ["lengths"] (spD K G_stretches) := by
  refine D.cal (fun _ _ _ _ _ _ us hl => match us, hl with | [_], _ => rfl) fun f fd F => ?_
  refine okD F sc_stretches (fun ds d ⟨L, h, _⟩ => by rw [h]; rfl) fun cdv A outer s H vs Q E ds d hr hv hG hQ => ?_
  obtain ⟨L, rfl, hS, rfl⟩ := hG
  obtain ⟨v, rfl, h0⟩ := dpa1 hv
  refine ss_cons (s_do (w_C C1 (hr.mono (by decide)) (wd_cons (w_v 0 h0) wd_nil) ⟨L, rfl, hS, rfl⟩) fun H1 e1 => ?_)
  exact ss_cons (s_ret (w_tupL T (w_C C2 (hr.mono (by decide)) (wd_cons (w_v 0 (h0.ex e1)) wd_nil) ⟨L, rfl, by have := hS.few; omega, rfl⟩)) fun z H2 e2 q => hQ z H2 (e1.trans e2) q)
def G_span : List PyData → PyData → Prop := fun ds d => ∃ (L : List Nat) (M m : Int), ds = [dN L] ∧ Strip L ∧ (M ∈ ptsL L ∧ ∀ y ∈ ptsL L, y ≤ M) ∧ (m ∈ ptsL L ∧ ∀ y ∈ ptsL L, m ≤ y) ∧ d = .int (M - m)
theorem c_span (D : Df K mg "span" s_span) (T : BT mg) (C1 : Cal P w K mg base 3 "check_lengths" ["lengths"] (spD K G_check_lengths)) (C2 : Cal P w K mg base 1 "points_of" ["lengths"] (spD K G_points_of)) : Cal P w K mg base 4 "span" ["lengths"] (spD K G_span) := by
  refine D.cal (fun _ _ _ _ _ _ us hl => match us, hl with | [_], _ => rfl) fun f fd F => ?_
  refine okD F sc_span (fun ds d ⟨L, _, _, h, _⟩ => by rw [h]; rfl) fun cdv A outer s H vs Q E ds d hr hv hG hQ => ?_
  obtain ⟨L, M, m, rfl, hS, ⟨hM1, hM2⟩, ⟨hm1, hm2⟩, rfl⟩ := hG
  obtain ⟨v, rfl, h0⟩ := dpa1 hv
  refine ss_cons (s_do (w_C C1 (hr.mono (by decide)) (wd_cons (w_v 0 h0) wd_nil) ⟨L, rfl, hS, rfl⟩) fun H1 e1 => ?_)
  refine ss_cons (s_set 1 sc_span.nd (w_C C2 (hr.mono (by decide)) (wd_cons (w_v 0 (h0.ex e1)) wd_nil) ⟨L, rfl, by have := hS.few; omega, rfl⟩) fun p H2 e2 hp => ?_)
  exact ss_cons (s_ret (w_sub (w_maxL T rfl (w_v 1 hp) hM1 hM2) (w_minL T rfl (w_v 1 hp) hm1 hm2)) fun z H3 e3 q => hQ z H3 (e1.trans (e2.trans e3)) q)
def G_is_layering : List PyData → PyData → Prop := fun ds d => ∃ L p : List Nat, ds = [dN L, dN p] ∧ Strip L ∧ Pile p ∧ p.length = L.length ∧ d = .bool (laidB L L.length (spot p))
theorem c_is_layering (D : Df K mg "is_layering" s_is_layering) (T : BT mg) (C1 : Cal P w K mg base 3 "check_lengths" ["lengths"] (spD K G_check_lengths)) (C2 : Cal P w K mg base 5 "check_layers" ["layers"] (spD K G_check_layers)) (C3 : Cal P w K mg base 4 "is_laid" ["lengths", "layers"] (spD K G_is_laid)) : Cal P w K mg base 6 "is_layering" ["lengths", "layers"] (spD K G_is_layering) := by
  refine D.cal (fun _ _ _ _ _ _ us hl => match us, hl with | [_, _], _ => rfl) fun f fd F => ?_
  refine okD F sc_is_layering (fun ds d ⟨L, p, h, _⟩ => by rw [h]; rfl) fun cdv A outer s H vs Q E ds d hr hv hG hQ => ?_
  obtain ⟨L, p, rfl, hS, hp, hl, rfl⟩ := hG
  obtain ⟨v, u, rfl, h0, h1⟩ := dpa2 hv
  have hp1 := hS.pos
  have hp2 := hS.few
  refine ss_cons (s_do (w_C C1 (hr.mono (by decide)) (wd_cons (w_v 0 h0) wd_nil) ⟨L, rfl, hS, rfl⟩) fun H1 e1 => ?_)
  refine ss_cons (s_ifF ((wt_or (wt_not (wt_v (w_isTup T (w_v 1 (h1.ex e1)) rfl kb_tt))) fun _ => wt_nei (w_len T (w_v 1 (h1.ex e1)) (dN_len p)) (w_len T (w_v 0 (h0.ex e1)) (dN_len L))).is (by simp; omega)) fun H2 e2 => ss_nil ?_)
  refine ss_cons (s_do (w_C C2 (hr.mono (by decide)) (wd_cons (w_v 1 (h1.ex (e1.trans e2))) wd_nil) ⟨p, rfl, hp, by omega, by omega, rfl⟩) fun H3 e3 => ?_)
  have e13 := e1.trans (e2.trans e3)
  exact ss_cons (s_ret (w_C C3 (hr.mono (by decide)) (wd_cons (w_v 0 (h0.ex e13)) (wd_cons (w_v 1 (h1.ex e13)) wd_nil)) ⟨L, p, rfl, hp, hl, hp1, by omega, rfl⟩) fun z H4 e4 q => hQ z H4 (e13.trans e4) q)
def G_layerings : List PyData → PyData → Prop := fun ds d => ∃ (L : List Nat) (bs : List Bool), ds = [dN L, .str (mstr bs)] ∧ Strip L ∧ bs.length + 1 = L.length ∧ Few L ∧ d = .tuple ((marked L bs).map dN)
theorem c_layerings (D : Df K mg "layerings" s_layerings) (T : BT mg) (C1 : Cal P w K mg base 4 "check_strip" ["lengths", "marks"] (spD K G_check_strip)) (C2 : Cal P w K mg base 6 "marked_list" ["lengths", "marks"] (spD K G_marked_list)) : Cal P w K mg base 7 "layerings" ["lengths", "marks"] (spD K G_layerings) := by
  refine D.cal (fun _ _ _ _ _ _ us hl => match us, hl with | [_, _], _ => rfl) fun f fd F => ?_
  refine okD F sc_layerings (fun ds d ⟨L, bs, h, _⟩ => by rw [h]; rfl) fun cdv A outer s H vs Q E ds d hr hv hG hQ => ?_
  obtain ⟨L, bs, rfl, hS, hb, h64, rfl⟩ := hG
  obtain ⟨v, u, rfl, h0, h1⟩ := dpa2 hv
  refine ss_cons (s_do (w_C C1 (hr.mono (by decide)) (wd_cons (w_v 0 h0) (wd_cons (w_v 1 h1) wd_nil)) ⟨L, bs, rfl, hS, hb, rfl⟩) fun H1 e1 => ?_)
  exact ss_cons (s_ret (w_tupL T (w_C C2 hr (wd_cons (w_v 0 (h0.ex e1)) (wd_cons (w_v 1 (h1.ex e1)) wd_nil)) ⟨L, bs, rfl, hS.pos, hS.few, h64, rfl⟩)) fun z H2 e2 q => hQ z H2 (e1.trans e2) q)
def G_count : List PyData → PyData → Prop := fun ds d => ∃ L : List Nat, ds = [dN L] ∧ Strip L ∧ Few L ∧ d = .int ((lay L (L.length - 1)).length : Int)
theorem c_count_layerings (D : Df K mg "count_layerings" s_count_layerings) (T : BT mg) (C1 : Cal P w K mg base 3 "check_lengths" ["lengths"] (spD K G_check_lengths)) (C2 : Cal P w K mg base 5 "layering_list" ["lengths"] (spD K G_layering_list)) : Cal P w K mg base 6 "count_layerings" ["lengths"] (spD K G_count) := by
  refine D.cal (fun _ _ _ _ _ _ us hl => match us, hl with | [_], _ => rfl) fun f fd F => ?_
  refine okD F sc_count_layerings (fun ds d ⟨L, h, _⟩ => by rw [h]; rfl) fun cdv A outer s H vs Q E ds d hr hv hG hQ => ?_
  obtain ⟨L, rfl, hS, h64, rfl⟩ := hG
  obtain ⟨v, rfl, h0⟩ := dpa1 hv
  refine ss_cons (s_do (w_C C1 (hr.mono (by decide)) (wd_cons (w_v 0 h0) wd_nil) ⟨L, rfl, hS, rfl⟩) fun H1 e1 => ?_)
  exact ss_cons (s_ret (w_len T (w_C C2 (hr.mono (by decide)) (wd_cons (w_v 0 (h0.ex e1)) wd_nil) ⟨L, rfl, hS.pos, hS.few, h64, rfl⟩) (by show some _ = _; rw [List.length_map, (srt_perm _).length_eq])) fun z H2 e2 q => hQ z H2 (e1.trans e2) q)
end
end FW
set_option maxRecDepth 100000
set_option maxHeartbeats 4000000
/-! W11: plain data compared; what stays when a list is written; range of what may be negative. -/
namespace FW
open PySem PySem.Spec PyProof.Rows L2 Evl
/-- ints, texts, lists, tuples, to a depth -/
inductive Pu : Nat → PyData → Prop
  | int (n : Nat) (i : Int) : Pu n (.int i)
  | str (n : Nat) {x : Str} (h : PyData.canLay0 (.str x) = true) : Pu n (.str x)
  | lst {n : Nat} {ds : List PyData} (h : ∀ d ∈ ds, Pu n d) : Pu (n + 1) (.list ds)
  | tup {n : Nat} {ds : List PyData} (h : ∀ d ∈ ds, Pu n d) : Pu (n + 1) (.tuple ds)
theorem canLayAll_of : ∀ {ds : List PyData}, (∀ d ∈ ds, d.canLay0 = true) → PyData.canLayAll0 ds = true
  | [], _ => by simp only [PyData.canLayAll0]
  | d :: ds, h => by
    simp only [PyData.canLayAll0]
    rw [h d (List.mem_cons_self ..), canLayAll_of fun e he => h e (List.mem_cons_of_mem _ he)]; rfl
theorem depthAll_of {n : Nat} : ∀ {ds : List PyData}, (∀ d ∈ ds, d.depth ≤ n) → PyData.depthAll ds ≤ n
  | [], _ => by simp only [PyData.depthAll]; omega
  | d :: ds, h => by
    simp only [PyData.depthAll]
    have h1 := h d (List.mem_cons_self ..)
    have h2 := depthAll_of fun e he => h e (List.mem_cons_of_mem _ he)
    omega
theorem Pu.lay {n : Nat} {d : PyData} (h : Pu n d) : d.canLay0 = true := by
  induction h with
  | int => simp only [PyData.canLay0]
  | str n h => exact h
  | lst h ih => simp only [PyData.canLay0]; exact canLayAll_of ih
  | tup h ih => simp only [PyData.canLay0]; exact canLayAll_of ih
theorem Pu.dep {n : Nat} {d : PyData} (h : Pu n d) : d.depth ≤ n := by
  induction h with
  | int => simp only [PyData.depth]; omega
  | str n h => simp only [PyData.depth]; omega
  | lst h ih => simp only [PyData.depth]; have := depthAll_of ih; omega
  | tup h ih => simp only [PyData.depth]; have := depthAll_of ih; omega
theorem Pu.shaped {n : Nat} {d : PyData} (h : Pu n d) (hn : n ≤ 64 := by decide) : SeqAt.shaped d = true := by
  show (d.canLay0 && decide (d.depth ≤ 64)) = true
  rw [h.lay, decide_eq_true (Nat.le_trans h.dep hn)]; rfl
theorem eqvAll_iff {n m : Nat} : ∀ {ds es : List PyData}, (∀ d ∈ ds, ∀ e, Pu m e → (PyData.eqv d e = true ↔ d = e)) → (∀ e ∈ es, Pu m e) → (PyData.eqvAll ds es = true ↔ ds = es)
  | [], [], _, _ => by simp [PyData.eqvAll]
  | [], _ :: _, _, _ => by simp [PyData.eqvAll]
  | _ :: _, [], _, _ => by simp [PyData.eqvAll]
  | d :: ds, e :: es, h, k => by
    simp only [PyData.eqvAll]
    rw [Bool.and_eq_true, h d (List.mem_cons_self ..) e (k e (List.mem_cons_self ..)), eqvAll_iff (n := n) (fun d hd => h d (List.mem_cons_of_mem _ hd)) (fun e he => k e (List.mem_cons_of_mem _ he))]
    simp
theorem Pu.eqv {n : Nat} {d : PyData} (h : Pu n d) : ∀ {m : Nat} (e : PyData), Pu m e → (PyData.eqv d e = true ↔ d = e) := by
  induction h with
  | int n i =>
    intro m e he
    cases he with
    | int j => simp [PyData.eqv]
    | str h => simp [PyData.eqv]
    | lst h => simp [PyData.eqv]
    | tup h => simp [PyData.eqv]
  | str n h =>
    intro m e he
    cases he with
    | int j => simp [PyData.eqv]
    | str h => simp [PyData.eqv]
    | lst h => simp [PyData.eqv]
    | tup h => simp [PyData.eqv]
  | lst h ih =>
    intro m e he
    cases he with
    | int j => simp [PyData.eqv]
    | str h => simp [PyData.eqv]
    | @lst m' es k =>
      simp only [PyData.eqv]
      rw [eqvAll_iff (n := m') (m := m') (fun d hd e he => ih d hd e he) k]
      simp
    | tup h => simp [PyData.eqv]
  | tup h ih =>
    intro m e he
    cases he with
    | int j => simp [PyData.eqv]
    | str h => simp [PyData.eqv]
    | lst h => simp [PyData.eqv]
    | @tup m' es k =>
      simp only [PyData.eqv]
      rw [eqvAll_iff (n := m') (m := m') (fun d hd e he => ih d hd e he) k]
      simp
theorem Pu.up {n m : Nat} {d : PyData} (h : Pu n d) (hm : n ≤ m) : Pu m d := by
  induction h generalizing m with
  | int n i => exact .int _ i
  | str n h => exact .str _ h
  | lst h ih => obtain ⟨m, rfl⟩ : ∃ m', m = m' + 1 := ⟨m - 1, by omega⟩; exact .lst fun d hd => ih d hd (by omega)
  | tup h ih => obtain ⟨m, rfl⟩ : ∃ m', m = m' + 1 := ⟨m - 1, by omega⟩; exact .tup fun d hd => ih d hd (by omega)
theorem pu_dN (ns : List Nat) : Pu 1 (dN ns) := .tup fun d hd => by
  obtain ⟨n, _, rfl⟩ := List.mem_map.mp hd
  exact .int _ _
theorem pu_rows (l : List (List Nat)) : Pu 2 (.tuple (l.map dN)) := .tup fun d hd => by
  obtain ⟨n, _, rfl⟩ := List.mem_map.mp hd
  exact pu_dN _
theorem pu_rowsL (l : List (List Nat)) : Pu 2 (.list (l.map dN)) := .lst fun d hd => by
  obtain ⟨n, _, rfl⟩ := List.mem_map.mp hd
  exact pu_dN _
theorem pu_nilL {n : Nat} : Pu (n + 1) (.list []) := .lst fun d hd => nomatch hd
theorem pu_nilT {n : Nat} : Pu (n + 1) (.tuple []) := .tup fun d hd => nomatch hd
section
variable {X : Cx} {σ : L2.St} {H H' Hb : Hp} {P P1 P2 : VP} {e a b c iter : Expr} {pos p p2 px py tp : Pos} {D : Ends} {body : List Stmt} {k n m : Nat} {ps : List Str} {x y z : Str} {es : List Expr} {r : Bool} {d1 d2 : PyData}
theorem wt_eqP (hr : Room k X.A) (ha : Wd X a σ H d1) (hb : Wd X b σ H d2) (p1 : Pu 3 d1) (p2 : Pu 3 d2) (h : r = true ↔ d1 = d2) : WT X (.Compare a [.Eq] [b] pos) σ H r :=
  (wt_eqD (by have := hr.un; omega) ha hb p1.shaped p2.shaped).is (by rw [Bool.eq_iff_iff, p1.eqv _ p2, h])
theorem wt_neP (hr : Room k X.A) (ha : Wd X a σ H d1) (hb : Wd X b σ H d2) (p1 : Pu 3 d1) (p2 : Pu 3 d2) (h : r = true ↔ d1 ≠ d2) : WT X (.Compare a [.NotEq] [b] pos) σ H r :=
  (wt_neD (by have := hr.un; omega) ha hb p1.shaped p2.shaped).is (by rw [Bool.eq_iff_iff, Bool.not_eq_true', ← Bool.not_eq_true, p1.eqv _ p2, h])
theorem w_eqP (hr : Room k X.A) (ha : Wd X a σ H d1) (hb : Wd X b σ H d2) (p1 : Pu 3 d1) (p2 : Pu 3 d2) (h : r = true ↔ d1 = d2) : Wd X (.Compare a [.Eq] [b] pos) σ H (.bool r) :=
  (w_eqD (by have := hr.un; omega) ha hb p1.shaped p2.shaped).is (congrArg PyData.bool (by rw [Bool.eq_iff_iff, p1.eqv _ p2, h]))
theorem w_neP (hr : Room k X.A) (ha : Wd X a σ H d1) (hb : Wd X b σ H d2) (p1 : Pu 3 d1) (p2 : Pu 3 d2) (h : r = true ↔ d1 ≠ d2) : Wd X (.Compare a [.NotEq] [b] pos) σ H (.bool r) :=
  (w_neD (by have := hr.un; omega) ha hb p1.shaped p2.shaped).is (congrArg PyData.bool (by rw [Bool.eq_iff_iff, Bool.not_eq_true', ← Bool.not_eq_true, p1.eqv _ p2, h]))
theorem any_iff {d : PyData} {ds : List PyData} (p1 : Pu 3 d) (p2 : ∀ e ∈ ds, Pu 3 e) : (ds.any fun z => PyData.eqv z d) = true ↔ d ∈ ds := by
  rw [List.any_eq_true]
  constructor
  · rintro ⟨z, hz, h⟩
    rw [(p2 z hz).eqv _ p1] at h
    subst h; exact hz
  · exact fun h => ⟨d, h, (p1.eqv _ p1).mpr rfl⟩
theorem w_inP {d : PyData} {ds : List PyData} (hr : Room k X.A) (ha : Wd X a σ H d) (hb : Wd X b σ H (.list ds)) (p1 : Pu 3 d) (p2 : ∀ e ∈ ds, Pu 3 e) (h : r = true ↔ d ∈ ds) (hm : behindInMarks .In b = false := by rfl) : Wd X (.Compare a [.In] [b] pos) σ H (.bool r) :=
  (w_inD (by have := hr.un; omega) ha hb p1.shaped (Pu.lst p2).shaped hm).is (congrArg PyData.bool (by rw [Bool.eq_iff_iff, any_iff p1 p2, h]))
theorem wt_niP {d : PyData} {ds : List PyData} (hr : Room k X.A) (ha : Wd X a σ H d) (hb : Wd X b σ H (.tuple ds)) (p1 : Pu 3 d) (p2 : ∀ e ∈ ds, Pu 3 e) (h : r = false ↔ d ∈ ds) (hm : behindInMarks .NotIn b = false := by rfl) : WT X (.Compare a [.NotIn] [b] pos) σ H r :=
  (wt_niDT (by have := hr.un; omega) ha hb p1.shaped (Pu.tup p2).shaped hm).is (by
    have := any_iff p1 p2
    cases r with
    | true =>
      rw [Bool.not_eq_true', ← Bool.not_eq_true, this]
      exact fun x => nomatch h.mpr x
    | false =>
      rw [Bool.not_eq_false', this]
      exact h.mp rfl)
/-! ### what stays when one list is written -/
theorem Exm.refl (l : Addr) (H : Hp) : Exm l H H := fun _ _ _ h => h
theorem Exm.trans {l : Addr} {H1 H2 H3 : Hp} (h : Exm l H1 H2) (k : Exm l H2 H3) : Exm l H1 H3 := fun a o n e => k a o n (h a o n e)
theorem Ex.exm (l : Addr) (h : Ex H H') : Exm l H H' := fun a o _ e => h a o e
theorem PlT.exm {K : PySem.W.Frag} {l q : Addr} {xs vs : List V} (h : Exm l H H') (hl : H l = some (.lst vs)) (p : PlT H q xs) : PlT H' q xs := by
  obtain ⟨o, h1, h2⟩ := p
  exact ⟨o, h _ _ (ne_of h1 hl (fun z => by cases z)) h1, h2⟩
mutual
theorem dq_exm {K : PySem.W.Frag} {l : Addr} {vs : List V} (h : Exm l H H') (hl : H l = some (.lst vs)) : ∀ (d : PyData) (v : V), noL d = true → Dq K H v d → Dq K H' v d
  | .none, _, _, h => by cases h; exact .non
  | .bool _, _, _, h => by cases h; exact .bl _
  | .int _, _, _, h => by cases h; exact .int _
  | .str _, _, _, h => by cases h; exact .str _
  | .list ds, _, n, h => by cases n
  | .tuple ds, _, n, k => by
    cases k with
    | tup hs ha => exact .tup (hs.exm (K := K) h hl) (dqa_exm h hl ds _ n ha)
  | .dict _, _, n, h => by cases n
theorem dqa_exm {K : PySem.W.Frag} {l : Addr} {vs : List V} (h : Exm l H H') (hl : H l = some (.lst vs)) : ∀ (ds : List PyData) (us : List V), noLs ds = true → DqAll K H us ds → DqAll K H' us ds
  | [], _, _, h => by cases h; exact .nil
  | d :: ds, _, n, k => by
    have n' : (noL d && noLs ds) = true := n
    rw [Bool.and_eq_true] at n'
    cases k with
    | cons h1 h2 => exact .cons (dq_exm h hl d _ n'.1 h1) (dqa_exm h hl ds _ n'.2 h2)
end
/-- another list -/
theorem LstAt.exm {K : PySem.W.Frag} {l q : Addr} {vs : List V} {ds : List PyData} (h : Exm l H H') (hl : H l = some (.lst vs)) (n : q ≠ l) (k : LstAt K H q ds) : LstAt K H' q ds := by
  obtain ⟨us, h1, h2, h3⟩ := k
  exact ⟨us, h _ _ n h1, dqa_exm h hl _ _ h3 h2, h3⟩
/-- range(e), e maybe negative -/
theorem s_forR0 (j : Nat) {x : Str} {i : Int} {n : Nat} (T : BT X.mg) (nd : X.N.Nodup) (hc : X.calm = true) (ha : Wd X a σ H (.int i)) (hn : n = i.toNat) (hb : -100000 ≤ i ∧ i ≤ 100000)
    (k : ∀ H1, Ex H H1 → ∃ Pv : Nat → L2.St → Hp → Prop, Pv 0 σ H1 ∧ (∀ (i : Nat) σ' H', i < n → Pv i σ' H' → tWss X body (nextD D (Pv (i + 1))) (σ'.set j (some (.int (i : Int)))) H') ∧ ∀ σ' H', Pv n σ' H' → D.nx σ' H')
    (hj : X.N[j]? = some x := by rfl) (hx : Loc X.env.scope x := by first | exact Or.inl rfl | exact Or.inr rfl) (hp : PassesOwn (model X.prog X.w) X.A X.env X.xe := by exact PassesOwn.never) (hg : Gl X "range" := by rfl)
    (he : starEach [a] X.env = [(false, eval a X.env)] := by rfl) (hs : ∀ x, foldedSetIterable (.Call (.Name "range" p) [a] [] p2) X.env x = pure x := by intro _; rfl)
    (hf : X.fn x = true ∨ X.env.scope.names.lookup x = some .local := by first | exact .inl rfl | exact .inr rfl) : tWs X (.For (.Name x px) (.Call (.Name "range" p) [a] [] p2) body [] pos) D σ H :=
  s_of (ps_for hp hc (pi_range1 hg T.range (pa_cons wp_e pa_nil he) he) (pg_name nd hj hx hf) wp_ss hs) (ha H (Ex.refl _) _ fun v H1 e1 hv => by
    cases hv
    obtain ⟨Pv, p0, ps, pd⟩ := k H1 e1
    subst hn
    refine ⟨i, rfl, by omega, by omega, for_range (lo := 0) (n := i.toNat) Pv p0 (fun i σ' H' hi p => ?_) (fun σ' H' p => pd σ' H' p)⟩
    rw [Int.zero_add]
    exact ps i σ' H' (by omega) p)
end
/-- a promise of a new list -/
def spL (K : PySem.W.Frag) (F : List PyData → List PyData → Prop) : Sp := fun vs H Q _ => ∃ ds es, DqAll K H vs ds ∧ F ds es ∧ ∀ p ws H2, Ex H H2 → H p = none → H2 p = some (.lst ws) → DqAll K H2 ws es → Q (.ref p) H2
section
variable {X : Cx} {σ : L2.St} {H H' Hb : Hp} {e : Expr} {pos p : Pos} {k : Nat} {ps : List Str} {x y z : Str} {es : List Expr}
theorem w_CL {G : List PyData → List PyData → Prop} {ds rs : List PyData} (C : Cal X.prog X.w X.K X.mg X.base k x ps (spL X.K G)) (hr : Room k X.A) (ha : WAd X (e :: es) σ H ds) (hG : G ds rs) (hg : Gl X x := by rfl)
    (hd : (x == ("__debug__" : Str)) = false := by decide) (hs : starEach (e :: es) X.env = (false, eval e X.env) :: starEach es X.env := by rfl) (hpl : (backTo pos (starEach es X.env)).any (·.1) = false := by rfl) : W X (.Call (.Name x p) (e :: es) [] pos) σ H (newL X H rs) :=
  w_Cg C hr ha (fun vs H1 e1 hv Q k => ⟨ds, rs, hv, hG, fun p ws H2 e2 n1 h1 h2 => k _ H2 e2 ⟨p, ws, rfl, fresh_back e1 n1, h1, h2⟩⟩) hg hd hs hpl
end
theorem cutS_mstr (bs : List Bool) (l u : Option Int) : cutS (mstr bs) l u = mstr (cutD bs l u) := by
  unfold cutS cutD
  rw [mstr_len, mstr_list]
  unfold mstr
  rw [List.map_take, List.map_drop]
theorem cutD_last {α : Type} (xs : List α) : cutD xs none (some (-1)) = xs.dropLast := by
  unfold cutD
  rw [HT.sIx_none, List.drop_zero, Nat.sub_zero, List.dropLast_eq_take]
  congr 1
  show (if (-1 : Int) < 0 then ((-1 : Int) + (xs.length : Int)).toNat else min (-1 : Int).toNat xs.length) = _
  rw [if_pos (by decide)]
  omega
theorem cutD_mid {α : Type} (xs : List α) (a b : Nat) : cutD xs (some (a : Int)) (some (b : Int)) = (xs.drop a).take (b - a) := by
  unfold cutD
  rw [HT.sIx_nat, HT.sIx_nat]
  by_cases h : a ≤ xs.length
  · rw [Nat.min_eq_left h, List.take_eq_take_iff, List.length_drop]
    by_cases h2 : b ≤ xs.length
    · rw [Nat.min_eq_left h2]
    · rw [Nat.min_eq_right (by omega : xs.length ≤ b)]
      omega
  · rw [Nat.min_eq_right (by omega : xs.length ≤ a), List.drop_of_length_le (Nat.le_refl _), List.drop_of_length_le (by omega : xs.length ≤ a)]
    simp
end FW
set_option maxRecDepth 100000
set_option maxHeartbeats 4000000
/-! D7: steps -/
namespace FW
open PySem PySem.Spec PyProof.Rows L2 Evl
def stepD : Step → PyData
  | .crimp k => .tuple [.str "crimp", .int (k : Int)]
  | .fst => .tuple [.str "end", .int 0]
  | .lst => .tuple [.str "end", .int 1]
theorem pu_step (s : Step) : Pu 1 (stepD s) := by
  cases s <;> exact .tup fun d hd => by
    rcases List.mem_cons.mp hd with rfl | hd
    · exact .str _ (by decide +kernel)
    · rw [List.mem_singleton.mp hd]; exact .int _ _
theorem noL_step (s : Step) : noL (stepD s) = true := by cases s <;> rfl
theorem noLs_steps (l : List Step) : noLs (l.map stepD) = true := by
  induction l with
  | nil => rfl
  | cons a r ih =>
    show (noL (stepD a) && noLs (r.map stepD)) = true
    rw [noL_step, ih]; rfl
theorem stepD_inj {s t : Step} (h : stepD s = stepD t) : s = t := by
  have hne : (Str.ofString "crimp") ≠ Str.ofString "end" := by decide +kernel
  cases s <;> cases t <;> simp only [stepD, PyData.tuple.injEq, List.cons.injEq, PyData.str.injEq, PyData.int.injEq] at h
  · have : (_ : Nat) = _ := Int.ofNat.inj h.2.1
    rw [this]
  · exact absurd h.1 hne
  · exact absurd h.1 hne
  · exact absurd h.1.symm hne
  · rfl
  · exact absurd h.2.1 (by decide)
  · exact absurd h.1.symm hne
  · exact absurd h.2.1 (by decide)
  · rfl
theorem atI_neg {α : Type} {xs : List α} {k : Nat} (h1 : 1 ≤ k) (h2 : k ≤ xs.length) : atI xs (-(k : Int)) = xs[xs.length - k]? := by
  unfold atI ixN
  rw [if_neg (by omega), if_pos (by omega)]
  show xs[(-(k : Int) + (xs.length : Int)).toNat]? = _
  congr 1
  omega
theorem drop_take3 {α : Type} {xs : List α} {i : Nat} {a b c : α} (h0 : xs[i]? = some a) (h1 : xs[i + 1]? = some b) (h2 : xs[i + 2]? = some c) : (xs.drop i).take 3 = [a, b, c] := by
  apply List.ext_getElem?
  intro n
  rw [List.getElem?_take, List.getElem?_drop]
  match n with
  | 0 => exact h0
  | 1 => exact h1
  | 2 => exact h2
  | n + 3 => rw [if_neg (by omega)]; rfl
theorem getD_at {α : Type} {xs : List α} {i : Nat} {d : α} (h : i < xs.length) : xs[i]? = some (xs.getD i d) := by
  rw [List.getD_eq_getElem?_getD, List.getElem?_eq_getElem h]; rfl
theorem dN_at {L : List Nat} {i : Nat} (h : i < L.length) : (L.map fun n : Nat => PyData.int (n : Int))[i]? = some (.int (L.getD i 0 : Int)) := by
  rw [List.getElem?_map, getD_at (d := 0) h]; rfl
theorem ms_at {bs : List Bool} {i : Nat} (h : i < bs.length) : atI (mstr bs).cps.toList (i : Int) = some (mcode (bs.getD i true)) :=
  atI_nat (by rw [mstr_list, List.getElem?_map, getD_at (d := true) h]; rfl)
theorem mc_ne (a b : Bool) : (!decide ((⟨#[mcode a]⟩ : Str) = ⟨#[mcode b]⟩)) = (a != b) := by
  cases a <;> cases b <;> decide +kernel
/-- the crimps below i -/
def crimps (L : List Nat) (bs : List Bool) (i : Nat) : List Step := ((List.range i).filter (crimpOk L bs)).map Step.crimp
theorem crimps_succ (L : List Nat) (bs : List Bool) (i : Nat) : crimps L bs (i + 1) = crimps L bs i ++ (if crimpOk L bs i = true then [Step.crimp i] else []) := by
  unfold crimps
  rw [List.range_succ, List.filter_append, List.map_append, filter_one]
  congr 1
  by_cases h : crimpOk L bs i = true
  · rw [if_pos h, if_pos h]; rfl
  · rw [if_neg h, if_neg h]; rfl
theorem crimps_len (L : List Nat) (bs : List Bool) (i : Nat) : (crimps L bs i).length ≤ i := by
  unfold crimps
  rw [List.length_map]
  exact Nat.le_trans (List.length_filter_le ..) (by rw [List.length_range]; omega)
theorem stepList_len (L : List Nat) (bs : List Bool) : (stepList L bs).length ≤ L.length + 2 := by
  show (crimps L bs (L.length - 2) ++ (_ ++ _)).length ≤ _
  rw [List.length_append, List.length_append]
  have := crimps_len L bs (L.length - 2)
  have h1 : ∀ (c : Bool) (s : Step), (if c = true then [s] else []).length ≤ 1 := fun c s => by cases c <;> simp
  have := h1 (Nat.blt 1 L.length && Nat.ble (L.getD 0 0) (L.getD 1 0)) Step.fst
  have := h1 (Nat.blt 1 L.length && Nat.ble (L.getD (L.length-1) 0) (L.getD (L.length-2) 0)) Step.lst
  omega
section
variable {P : Program} {w : World} {K : PySem.W.Frag} {mg : Str → Option Value} {base : Heap}
def G_step_list : List PyData → List PyData → Prop := fun ds es => ∃ (L : List Nat) (bs : List Bool), ds = [dN L, .str (mstr bs)] ∧ 1 ≤ L.length ∧ L.length ≤ 8 ∧ bs.length + 1 = L.length ∧ es = (stepList L bs).map stepD
theorem c_step_list (D : Df K mg "step_list" s_step_list) (T : BT mg) : Cal P w K mg base 1 "step_list" ["lengths", "marks"] (spL K G_step_list) := by
  refine D.cal (fun _ _ _ _ _ _ us hl => match us, hl with | [_, _], _ => rfl) fun f fd F => ?_
  refine okW F sc_step_list (fun vs H Q E ⟨ds, es, h1, ⟨L, bs, h, _⟩, _⟩ => by rw [h1.len, h]; rfl) fun cdv A outer s H vs Q E hr ⟨ds, es, hv, ⟨L, bs, e0, hz1, hz2, hb, e1'⟩, hQ⟩ => ?_
  subst e0 e1'
  obtain ⟨v, u, rfl, h0, h1⟩ := dpa2 hv
  have nd := sc_step_list.nd
  refine ss_cons (s_set 2 nd (w_lstN wd_nil (by simp)) fun l0 H1 e1 ⟨l, ws, el, fl, hl1, hl2⟩ => ?_)
  subst el
  have hL1 : LstAt K H1 l ((crimps L bs 0).map stepD) := ⟨ws, hl1, hl2, rfl⟩
  refine ss_cons (s_forR0 3 (n := L.length - 2) T nd rfl (w_sub (w_len T (w_v 0 (h0.ex e1)) (dN_len L)) w_int) (by omega) (by omega) fun H2 e2 => ⟨fun i σ' H' => Ex H H' ∧ LstAt K H' l ((crimps L bs i).map stepD) ∧ ∃ y3 y4 y5 y6, σ' = [some v, some u, some (.ref l), y3, y4, y5, y6],
    ⟨e1.trans e2, hL1.ex e2, none, none, none, none, rfl⟩, fun i σ' H' hi ⟨ex, hl, y3, y4, y5, y6, hσ⟩ => ?_, fun σ' H' ⟨ex, hl, y3, y4, y5, y6, hσ⟩ => ?_⟩)
  · subst hσ
    have g0 := h0.ex ex
    have g1 := h1.ex ex
    have hi3 : Dq K H' (.int (i : Int)) (.int (i : Int)) := .int _
    refine ss_cons (s_unp3 4 5 6 (d1 := .int (L.getD i 0 : Int)) (d2 := .int (L.getD (i+1) 0 : Int)) (d3 := .int (L.getD (i+2) 0 : Int)) nd rfl (Wd.is (w_slT (w_v 0 g0) (wo_s (w_v 3 hi3)) (wo_s (Wd.is (w_add (w_v 3 hi3) w_int) (show _ = PyData.int ((i + 3 : Nat) : Int) from congrArg PyData.int (by omega))))) ?_) fun b1 b2 b3 H3 e3 q1 q2 q3 => ?_)
    · rw [cutD_mid, show i + 3 - i = 3 by omega, drop_take3 (dN_at (by omega)) (dN_at (by omega)) (dN_at (by omega))]
    have g1' := g1.ex e3
    have hz : (mstr bs).length ≤ 100000 := by rw [mstr_len]; omega
    have hi3' : Dq K H3 (.int (i : Int)) (.int (i : Int)) := .int _
    refine ss_cons (s_if (r := crimpOk L bs i) ((wt_and (wt_nes (w_ixS (w_v 1 g1') (w_v 3 hi3') hz (ms_at (by omega))) (w_ixS (w_v 1 g1') (Wd.is (w_add (w_v 3 hi3') w_int) (show _ = PyData.int ((i + 1 : Nat) : Int) from congrArg PyData.int (by omega))) hz (ms_at (by omega)))) fun _ => wt_le (w_v 5 q2) (w_min2 T rfl (w_v 4 q1) (w_v 6 q3))).is ?_) (fun h H4 e4 => ?_) fun h H4 e4 => ?_)
    · rw [mc_ne]
      unfold crimpOk
      congr 1
      rw [Bool.eq_iff_iff, decide_eq_true_iff, Bool.and_eq_true, Nat.ble_eq, Nat.ble_eq]
      omega
    · refine ss_cons (s_app (w_is 2) (hl.ex (e3.trans e4)) (d := stepD (.crimp i)) (w_tup (wd_cons w_str (wd_cons (w_v 3 (.int _)) wd_nil)) (by simp)) (noL_step _) (by rw [List.length_map]; have := crimps_len L bs i; omega) fun H5 hl5 hx5 => ss_nil (ss_nil ⟨hx5 H (ex.trans (e3.trans e4)) fl, ?_, _, _, _, _, rfl⟩))
      rw [crimps_succ, if_pos h, List.map_append]
      exact hl5
    · refine ss_nil (ss_nil ⟨ex.trans (e3.trans e4), ?_, _, _, _, _, rfl⟩)
      rw [crimps_succ, if_neg (by rw [h]; exact Bool.false_ne_true), List.append_nil]
      exact hl.ex (e3.trans e4)
  · subst hσ
    -- the two ends
    have key : ∀ (c : Bool) (acc : List Step) (s0 : Step), ((if c = true then [s0] else []).map stepD) = (if c = true then [stepD s0] else []) := fun c _ s0 => by cases c <;> rfl
    have hc := crimps_len L bs (L.length - 2)
    have fin : ∀ H9, Ex H H9 → LstAt K H9 l ((stepList L bs).map stepD) → Q (.ref l) H9 := fun H9 e9 ⟨ws, k1, k2, _⟩ => hQ l ws H9 e9 fl k1 k2
    -- last end
    have part2 : ∀ (H5 : Hp) (acc : List Step), Ex H H5 → LstAt K H5 l (acc.map stepD) → acc.length ≤ 20 → acc ++ (if Nat.blt 1 L.length && Nat.ble (L.getD (L.length-1) 0) (L.getD (L.length-2) 0) then [Step.lst] else []) = stepList L bs →
        tWss (cx P w K mg base n_step_list "step_list" s_step_list f cdv A outer s H E) ((defBody s_step_list).drop 3) { nx := fun _ H' => Q .non H', rt := Q } [some v, some u, some (.ref l), y3, y4, y5, y6] H5 := fun H5 acc ex5 hl5 hn hacc => by
      have g0 := h0.ex ex5
      refine ss_cons (s_if (r := Nat.blt 1 L.length && Nat.ble (L.getD (L.length-1) 0) (L.getD (L.length-2) 0)) ((wt_and (r := Nat.blt 1 L.length) (s := Nat.ble (L.getD (L.length-1) 0) (L.getD (L.length-2) 0)) (WT.is (wt_gt (w_len T (w_v 0 g0) (dN_len L)) w_int) ?_) fun hc => ?_)) (fun h H6 e6 => ?_) fun h H6 e6 => ?_)
      · rw [Bool.eq_iff_iff, decide_eq_true_iff, Nat.blt_eq]; omega
      · rw [Nat.blt_eq] at hc
        refine WT.is (wt_le (w_ixT (w_v 0 g0) (w_neg w_int) (d := .int (L.getD (L.length-1) 0 : Int)) ?_) (w_ixT (w_v 0 g0) (w_neg w_int) (d := .int (L.getD (L.length-2) 0 : Int)) ?_)) ?_
        · show atI _ (-((1 : Nat) : Int)) = _
          rw [atI_neg (by omega) (by rw [List.length_map]; omega), List.length_map]
          exact dN_at (by omega)
        · show atI _ (-((2 : Nat) : Int)) = _
          rw [atI_neg (by omega) (by rw [List.length_map]; omega), List.length_map]
          exact dN_at (by omega)
        · rw [Bool.eq_iff_iff, decide_eq_true_iff, Nat.ble_eq]; omega
      · refine ss_cons (s_app (w_is 2) (hl5.ex e6) (d := stepD .lst) (w_tup (wd_cons w_str (wd_cons w_int wd_nil)) (by simp)) (noL_step _) (by rw [List.length_map]; omega) fun H7 hl7 hx7 => ss_nil ?_)
        refine ss_cons (s_ret (w_is 2) fun z H8 e8 q => ?_)
        subst q
        refine fin H8 ((hx7 H (ex5.trans e6) fl).trans e8) (LstAt.ex ?_ e8)
        rw [← hacc, if_pos h, List.map_append]
        exact hl7
      · refine ss_nil (ss_cons (s_ret (w_is 2) fun z H8 e8 q => ?_))
        subst q
        refine fin H8 (ex5.trans (e6.trans e8)) (LstAt.ex ?_ (e6.trans e8))
        rw [← hacc, if_neg (by rw [h]; exact Bool.false_ne_true), List.append_nil]
        exact hl5
    have g0 := h0.ex ex
    refine ss_cons (s_if (r := Nat.blt 1 L.length && Nat.ble (L.getD 0 0) (L.getD 1 0)) ((wt_and (r := Nat.blt 1 L.length) (s := Nat.ble (L.getD 0 0) (L.getD 1 0)) (WT.is (wt_gt (w_len T (w_v 0 g0) (dN_len L)) w_int) ?_) fun hc => ?_)) (fun h H6 e6 => ?_) fun h H6 e6 => ?_)
    · rw [Bool.eq_iff_iff, decide_eq_true_iff, Nat.blt_eq]; omega
    · rw [Nat.blt_eq] at hc
      refine WT.is (wt_le (w_ixT (w_v 0 g0) w_int (d := .int (L.getD 0 0 : Int)) ?_) (w_ixT (w_v 0 g0) w_int (d := .int (L.getD 1 0 : Int)) ?_)) ?_
      · exact atI_nat (j := 0) (dN_at (by omega))
      · exact atI_nat (j := 1) (dN_at (by omega))
      · rw [Bool.eq_iff_iff, decide_eq_true_iff, Nat.ble_eq]; omega
    · refine ss_cons (s_app (w_is 2) (hl.ex e6) (d := stepD .fst) (w_tup (wd_cons w_str (wd_cons w_int wd_nil)) (by simp)) (noL_step _) (by rw [List.length_map]; omega) fun H7 hl7 hx7 => ss_nil ?_)
      refine part2 H7 (crimps L bs (L.length - 2) ++ [Step.fst]) (hx7 H (ex.trans e6) fl) ?_ (by rw [List.length_append]; show _ + 1 ≤ 20; omega) ?_
      · rw [List.map_append]; exact hl7
      · show _ = crimps L bs (L.length - 2) ++ (_ ++ _)
        rw [if_pos h, List.append_assoc]
    · refine ss_nil (part2 H6 (crimps L bs (L.length - 2)) (ex.trans e6) (hl.ex e6) (by omega) ?_)
      show _ = crimps L bs (L.length - 2) ++ (_ ++ _)
      have h' : ¬ ((Nat.blt 1 L.length && Nat.ble (L.getD 0 0) (L.getD 1 0)) = true) := by rw [h]; exact Bool.false_ne_true
      rw [if_neg h', List.nil_append]
/-- a step that the strip has -/
def G_stepped : List PyData → PyData → Prop := fun ds d => ∃ (L : List Nat) (bs : List Bool) (s : Step), ds = [dN L, .str (mstr bs), stepD s] ∧ L.length ≤ 8 ∧ bs.length + 1 = L.length ∧ s ∈ stepList L bs ∧ d = .tuple [dN (after L bs s).1, .str (mstr (after L bs s).2)]
theorem mem_stepList {L : List Nat} {bs : List Bool} {s : Step} (h : s ∈ stepList L bs) : 2 ≤ L.length ∧ ∀ k, s = .crimp k → k + 2 < L.length ∧ L.getD (k+1) 0 ≤ L.getD k 0 ∧ L.getD (k+1) 0 ≤ L.getD (k+2) 0 ∧ bs.getD k true ≠ bs.getD (k+1) true := by
  unfold stepList at h
  rcases List.mem_append.mp h with h | h
  · obtain ⟨k, hk, rfl⟩ := List.mem_map.mp h
    obtain ⟨hk1, hk2⟩ := List.mem_filter.mp hk
    have := List.mem_range.mp hk1
    refine ⟨by omega, fun k' e => ?_⟩
    cases e
    unfold crimpOk at hk2
    rw [Bool.and_eq_true, Bool.and_eq_true, Nat.ble_eq, Nat.ble_eq, bne_iff_ne] at hk2
    exact ⟨by omega, hk2.2.1, hk2.2.2, hk2.1⟩
  · have : 2 ≤ L.length ∧ (s = .fst ∨ s = .lst) := by
      rcases List.mem_append.mp h with h | h
      · by_cases c : (Nat.blt 1 L.length && Nat.ble (L.getD 0 0) (L.getD 1 0)) = true
        · rw [if_pos c] at h
          rw [Bool.and_eq_true, Nat.blt_eq] at c
          exact ⟨c.1, .inl (List.mem_singleton.mp h)⟩
        · rw [if_neg c] at h; cases h
      · by_cases c : (Nat.blt 1 L.length && Nat.ble (L.getD (L.length-1) 0) (L.getD (L.length-2) 0)) = true
        · rw [if_pos c] at h
          rw [Bool.and_eq_true, Nat.blt_eq] at c
          exact ⟨c.1, .inr (List.mem_singleton.mp h)⟩
        · rw [if_neg c] at h; cases h
    refine ⟨this.1, fun k e => ?_⟩
    subst e
    rcases this.2 with e | e <;> cases e
theorem mstr_app (a b : List Bool) : mstr a ++ mstr b = mstr (a ++ b) := by
  show (⟨(a.map mcode).toArray ++ (b.map mcode).toArray⟩ : Str) = ⟨((a ++ b).map mcode).toArray⟩
  rw [List.map_append, List.append_toArray]
theorem c_stepped (D : Df K mg "stepped" s_stepped) : Cal P w K mg base 1 "stepped" ["lengths", "marks", "step"] (spD K G_stepped) := by
  refine D.cal (fun _ _ _ _ _ _ us hl => match us, hl with | [_, _, _], _ => rfl) fun f fd F => ?_
  refine okD F sc_stepped (fun ds d ⟨_, _, _, h, _⟩ => by rw [h]; rfl) fun cdv A outer s0 H vs Q E ds d hr hv hG hQ => ?_
  obtain ⟨L, bs, s, rfl, hz, hb, hs, rfl⟩ := hG
  obtain ⟨v, u, t, rfl, h0, h1, h2⟩ := dpa3 hv
  obtain ⟨h2L, hk⟩ := mem_stepList hs
  have nd := sc_stepped.nd
  have hzs : (mstr bs).length ≤ 100000 := by rw [mstr_len]; omega
  have sl : ∀ {X : Cx} {σ : L2.St} {H : Hp} {lo hi : Option Expr} {l u : Option Int} {e : Expr} {pos p2 : Pos}, Wd X e σ H (.str (mstr bs)) → WO X lo σ H l → WO X hi σ H u → Wd X (.Subscript e (.Slice lo hi none p2) pos) σ H (.str (mstr (cutD bs l u))) := fun h0 h1 h2 => Wd.is (w_slS h0 hzs h1 h2) (congrArg PyData.str (cutS_mstr _ _ _))
  have sd : ∀ (l u : Option Int), PyData.tuple (cutD (L.map fun n : Nat => PyData.int (n : Int)) l u) = dN (cutD L l u) := fun l u => by
    unfold cutD
    rw [List.length_map, ← List.map_drop, ← List.map_take]
  have hne : (Str.ofString "crimp") ≠ Str.ofString "end" := by decide +kernel
  cases s with
  | crimp k =>
    obtain ⟨k1, k2, k3, k4⟩ := hk k rfl
    refine ss_cons (s_unp 3 4 nd rfl (w_v 2 h2) fun wv iv H1 e1 hw hi => ?_)
    have g0 := h0.ex e1
    have g1 := h1.ex e1
    refine ss_cons (s_ifF (WT.is (wt_eqs (w_v 3 hw) w_str) (decide_eq_false hne)) fun H2 e2 => ss_nil ?_)
    have hi2 := hi.ex e2
    refine ss_cons (s_set 5 nd (Wd.is (w_add (w_sub (w_ixT (w_v 0 (g0.ex e2)) (w_v 4 hi2) (atI_nat (dN_at (by omega)))) (w_ixT (w_v 0 (g0.ex e2)) (Wd.is (w_add (w_v 4 hi2) w_int) (show _ = PyData.int ((k + 1 : Nat) : Int) from congrArg PyData.int (by omega))) (atI_nat (dN_at (by omega))))) (w_ixT (w_v 0 (g0.ex e2)) (Wd.is (w_add (w_v 4 hi2) w_int) (show _ = PyData.int ((k + 2 : Nat) : Int) from congrArg PyData.int (by omega))) (atI_nat (dN_at (by omega))))) (d' := .int ((L.getD k 0 - L.getD (k+1) 0 + L.getD (k+2) 0 : Nat) : Int)) (congrArg PyData.int (by omega))) fun xv H3 e3 hx => ?_)
    have e13 := e1.trans (e2.trans e3)
    have f0 := h0.ex e13
    have f1 := h1.ex e13
    have hi3 := hi2.ex e3
    refine ss_cons (s_ret (w_tup (wd_cons (Wd.is (w_addt (w_addt (w_slT (w_v 0 f0) wo_n (wo_s (w_v 4 hi3))) (w_tup (wd_cons (w_v 5 hx) wd_nil) (by simp)) ?_) (w_slT (w_v 0 f0) (wo_s (Wd.is (w_add (w_v 4 hi3) w_int) (show _ = PyData.int ((k + 3 : Nat) : Int) from congrArg PyData.int (by omega)))) wo_n) ?_) (d' := dN (after L bs (.crimp k)).1) ?_) (wd_cons (Wd.is (w_adds (sl (w_v 1 f1) wo_n (wo_s (w_v 4 hi3))) (sl (w_v 1 f1) (wo_s (Wd.is (w_add (w_v 4 hi3) w_int) (show _ = PyData.int ((k + 2 : Nat) : Int) from congrArg PyData.int (by omega)))) wo_n) ?_) (congrArg PyData.str ?_)) wd_nil)) (by simp)) fun z H4 e4 q => hQ z H4 (e13.trans e4) q)
    · rw [cutD_take]; simp; omega
    · rw [cutD_take, cutD_drop]; simp; omega
    · rw [cutD_take, cutD_drop]
      show _ = PyData.tuple (List.map _ (L.take k ++ _ :: L.drop (k + 3)))
      rw [List.map_append, List.map_cons, List.map_take, List.map_drop, List.append_assoc]
      rfl
    · rw [mstr_len, mstr_len, cutD_take, cutD_drop]; simp; omega
    · rw [mstr_app, cutD_take, cutD_drop]; rfl
  | fst =>
    refine ss_cons (s_unp 3 4 nd rfl (w_v 2 h2) fun wv iv H1 e1 hw hi => ?_)
    have g0 := h0.ex e1
    have g1 := h1.ex e1
    refine ss_cons (s_ifT (WT.is (wt_eqs (w_v 3 hw) w_str) (decide_eq_true rfl)) fun H2 e2 => ?_)
    refine ss_cons (s_ret (w_if (r := true) (WT.is (wt_eqi (w_v 4 (hi.ex e2)) w_int) (decide_eq_true rfl)) (fun _ => w_tup (wd_cons (Wd.is (w_slT (w_v 0 (g0.ex e2)) (wo_s w_int) wo_n) (sd _ _)) (wd_cons (sl (w_v 1 (g1.ex e2)) (wo_s w_int) wo_n) wd_nil)) (by simp)) fun h => nomatch h) fun z H4 e4 q => hQ z H4 (e1.trans (e2.trans e4)) ?_)
    rw [show (1 : Int) = ((1 : Nat) : Int) from rfl, cutD_drop, cutD_drop] at q
    exact q
  | lst =>
    refine ss_cons (s_unp 3 4 nd rfl (w_v 2 h2) fun wv iv H1 e1 hw hi => ?_)
    have g0 := h0.ex e1
    have g1 := h1.ex e1
    refine ss_cons (s_ifT (WT.is (wt_eqs (w_v 3 hw) w_str) (decide_eq_true rfl)) fun H2 e2 => ?_)
    refine ss_cons (s_ret (w_if (r := false) (WT.is (wt_eqi (w_v 4 (hi.ex e2)) w_int) (decide_eq_false (by decide))) (fun h => nomatch h) fun _ => w_tup (wd_cons (Wd.is (w_slT (w_v 0 (g0.ex e2)) wo_n (wo_s (w_neg w_int))) (sd _ _)) (wd_cons (sl (w_v 1 (g1.ex e2)) wo_n (wo_s (w_neg w_int))) wd_nil)) (by simp)) fun z H4 e4 q => hQ z H4 (e1.trans (e2.trans e4)) ?_)
    rw [cutD_last, cutD_last] at q
    exact q
end
end FW
set_option maxRecDepth 100000
set_option maxHeartbeats 4000000
/-! D8: steps_of to steps_now -/
namespace FW
open PySem PySem.Spec PyProof.Rows L2 Evl
theorem after_ok {L : List Nat} {bs : List Bool} {s : Step} (hb : bs.length + 1 = L.length) (h : s ∈ stepList L bs) : 1 ≤ (after L bs s).1.length ∧ (after L bs s).1.length < L.length ∧ (after L bs s).2.length + 1 = (after L bs s).1.length := by
  obtain ⟨h2, hk⟩ := mem_stepList h
  cases s with
  | crimp k =>
    obtain ⟨k1, _⟩ := hk k rfl
    simp only [after, List.length_append, List.length_cons, List.length_take, List.length_drop]
    omega
  | fst => simp only [after, List.length_drop]; omega
  | lst => simp only [after, List.length_dropLast]; omega
theorem walk_cons {f : Nat} {L : List Nat} {bs : List Bool} {s : Step} {r : List Step} (h : stepList L bs = s :: r) : walk (f + 1) L bs = (s :: (walk f (after L bs s).1 (after L bs s).2).1, (walk f (after L bs s).1 (after L bs s).2).2) := by
  show (match stepList L bs with | [] => ([], L) | s :: _ => _) = _
  rw [h]
theorem walk_nil {f : Nat} {L : List Nat} {bs : List Bool} (h : stepList L bs = []) : walk f L bs = ([], L) := by
  cases f with
  | zero => rfl
  | succ f =>
    show (match stepList L bs with | [] => ([], L) | s :: _ => _) = _
    rw [h]
section
variable {P : Program} {w : World} {K : PySem.W.Frag} {mg : Str → Option Value} {base : Heap}
def G_steps_of : List PyData → PyData → Prop := fun ds d => ∃ (L : List Nat) (bs : List Bool), ds = [dN L, .str (mstr bs)] ∧ 1 ≤ L.length ∧ L.length ≤ 8 ∧ bs.length + 1 = L.length ∧ d = .tuple [.list ((walk L.length L bs).1.map stepD), dN (walk L.length L bs).2]
theorem c_steps_of (D : Df K mg "steps_of" s_steps_of) (C1 : Cal P w K mg base 1 "step_list" ["lengths", "marks"] (spL K G_step_list)) (C2 : Cal P w K mg base 1 "stepped" ["lengths", "marks", "step"] (spD K G_stepped)) : Cal P w K mg base 2 "steps_of" ["lengths", "marks"] (spD K G_steps_of) := by
  refine D.cal (fun _ _ _ _ _ _ us hl => match us, hl with | [_, _], _ => rfl) fun f fd F => ?_
  refine okD F sc_steps_of (fun ds d ⟨_, _, h, _⟩ => by rw [h]; rfl) fun cdv A outer s0 H vs Q E ds d hr hv hG hQ => ?_
  obtain ⟨L, bs, rfl, hz1, hz2, hb, rfl⟩ := hG
  obtain ⟨v, u, rfl, h0, h1⟩ := dpa2 hv
  have nd := sc_steps_of.nd
  refine ss_cons (s_set 2 nd (w_lstN wd_nil (by simp)) fun l0 H1 e1 ⟨l, ws, el, fl, hl1, hl2⟩ => ?_)
  subst el
  have hL1 : LstAt K H1 l (([] : List Step).map stepD) := ⟨ws, hl1, hl2, rfl⟩
  refine ss_cons (s_while (fun m σ' H' => ∃ (L' : List Nat) (bs' : List Bool) (acc : List Step) (y0 y1 : V) (y3 : Option V) (fu : Nat), m = L'.length ∧ 1 ≤ L'.length ∧ bs'.length + 1 = L'.length ∧ acc.length + L'.length ≤ L.length ∧ L'.length ≤ fu ∧ acc ++ (walk fu L' bs').1 = (walk L.length L bs).1 ∧ (walk fu L' bs').2 = (walk L.length L bs).2 ∧
      Ex H H' ∧ LstAt K H' l (acc.map stepD) ∧ Dq K H' y0 (dN L') ∧ Dq K H' y1 (.str (mstr bs')) ∧ σ' = [some y0, some y1, some (.ref l), y3]) L.length
    ⟨L, bs, [], v, u, none, L.length, rfl, hz1, hb, by simp, Nat.le_refl _, rfl, rfl, e1, hL1, h0.ex e1, h1.ex e1, rfl⟩ fun m σ' H' ⟨L', bs', acc, y0, y1, y3, fu, em, l1, lb, la, lf, w1, w2, ex, hl, g0, g1, hσ⟩ => ⟨wt_v w_bl, fun H2 e2 => ⟨_, fun σ2 H2 h => h, ?_⟩⟩)
  subst hσ em
  refine ss_cons (s_set 3 nd (w_CL C1 (hr.mono (by decide)) (wd_cons (w_v 0 (g0.ex e2)) (wd_cons (w_v 1 (g1.ex e2)) wd_nil)) ⟨L', bs', rfl, l1, by omega, lb, rfl⟩) fun sv H3 e3 ⟨p, us, es, fp, hp1, hp2⟩ => ?_)
  subst es
  have hsv : Dq K H3 (.ref p) (.list ((stepList L' bs').map stepD)) := .lst (sq_of hp1) hp2
  have e23 := e2.trans e3
  refine ss_cons (s_if (r := (stepList L' bs').isEmpty) (wt_eqP hr (w_v 3 hsv) (w_lst wd_nil (by simp)) (.lst fun d hd => ?_) pu_nilL ?_) (fun h H4 e4 => ?_) fun h H4 e4 => ?_)
  · obtain ⟨s, _, rfl⟩ := List.mem_map.mp hd
    exact (pu_step s).up (by decide)
  · rw [List.isEmpty_iff, PyData.list.injEq, List.map_eq_nil_iff]
  · have h' := List.isEmpty_iff.mp h
    rw [walk_nil h', List.append_nil] at w1
    rw [walk_nil h'] at w2
    refine ss_cons (s_ret (w_tup (wd_cons (w_v 2 (hl.ex (e23.trans e4)).dq) (wd_cons (w_v 0 (g0.ex (e23.trans e4))) wd_nil)) (by simp)) fun z H5 e5 q => hQ z H5 (ex.trans (e23.trans (e4.trans e5))) ?_)
    rw [← w1, ← w2]
    exact q
  · refine ss_nil ?_
    have hne : stepList L' bs' ≠ [] := fun e => by rw [e] at h; cases h
    obtain ⟨s, r, hsr⟩ := List.exists_cons_of_ne_nil hne
    have hmem : s ∈ stepList L' bs' := by rw [hsr]; exact List.mem_cons_self ..
    obtain ⟨a1, a2, a3⟩ := after_ok lb hmem
    have e24 := e23.trans e4
    have hl4 := hl.ex e24
    have at0 : atI ((stepList L' bs').map stepD) 0 = some (stepD s) := atI_nat (j := 0) (by rw [hsr]; rfl)
    refine ss_cons (s_appm (w_is 2) hl4 (w_ixL (w_v 3 (hsv.ex e4)) w_int at0) (noL_step s) (by rw [List.length_map]; omega) fun H5 hl5 hx5 => ?_)
    obtain ⟨vs4, hv4, _, _⟩ := hl4
    have npl : p ≠ l := fun e => by
      obtain ⟨vs', h', _, _⟩ := hl
      rw [← e] at h'
      have := e2 _ _ h'
      rw [fp] at this; cases this
    have hsv5 : Dq K H5 (.ref p) (.list ((stepList L' bs').map stepD)) := .lst (sq_of (hx5 _ _ npl (e4 _ _ hp1))) (dqa_exm hx5 hv4 _ _ (noLs_steps _) (hp2.ex e4))
    have g05 : Dq K H5 y0 (dN L') := dq_exm hx5 hv4 _ _ (noL_dN _) (g0.ex e24)
    have g15 : Dq K H5 y1 (.str (mstr bs')) := dq_exm hx5 hv4 _ _ rfl (g1.ex e24)
    refine ss_cons (s_unp 0 1 nd rfl (w_C C2 (hr.mono (by decide)) (wd_cons (w_v 0 g05) (wd_cons (w_v 1 g15) (wd_cons (w_ixL (w_v 3 hsv5) w_int at0) wd_nil))) ⟨L', bs', s, rfl, by omega, lb, hmem, rfl⟩) fun z0 z1 H6 e6 q0 q1 => ss_nil ?_)
    obtain ⟨fu, rfl⟩ : ∃ f', fu = f' + 1 := ⟨fu - 1, by omega⟩
    rw [walk_cons hsr] at w1 w2
    refine ⟨(after L' bs' s).1.length, a2, (after L' bs' s).1, (after L' bs' s).2, acc ++ [s], z0, z1, _, fu, rfl, a1, a3, ?_, by omega, ?_, w2, (hx5.ex (ex.trans e24) fl).trans e6, ?_, q0, q1, rfl⟩
    · rw [List.length_append]; show acc.length + 1 + _ ≤ _; omega
    · rw [List.append_assoc]; exact w1
    · rw [List.map_append]; exact hl5.ex e6
def G_does_fold : List PyData → PyData → Prop := fun ds d => ∃ (L : List Nat) (bs : List Bool), ds = [dN L, .str (mstr bs)] ∧ 1 ≤ L.length ∧ L.length ≤ 8 ∧ bs.length + 1 = L.length ∧ d = .bool (fold L bs)
theorem c_does_fold (D : Df K mg "does_fold" s_does_fold) (T : BT mg) (C1 : Cal P w K mg base 2 "steps_of" ["lengths", "marks"] (spD K G_steps_of)) : Cal P w K mg base 3 "does_fold" ["lengths", "marks"] (spD K G_does_fold) := by
  refine D.cal (fun _ _ _ _ _ _ us hl => match us, hl with | [_, _], _ => rfl) fun f fd F => ?_
  refine okD F sc_does_fold (fun ds d ⟨_, _, h, _⟩ => by rw [h]; rfl) fun cdv A outer s0 H vs Q E ds d hr hv hG hQ => ?_
  obtain ⟨L, bs, rfl, hz1, hz2, hb, rfl⟩ := hG
  obtain ⟨v, u, rfl, h0, h1⟩ := dpa2 hv
  refine ss_cons (s_ret (Wd.is (w_eqi (w_len T (w_ixT (w_C C1 hr (wd_cons (w_v 0 h0) (wd_cons (w_v 1 h1) wd_nil)) ⟨L, bs, rfl, hz1, hz2, hb, rfl⟩) w_int (atI_nat (j := 1) rfl)) (dN_len _)) w_int) (congrArg PyData.bool ?_)) fun z H2 e2 q => hQ z H2 e2 q)
  unfold fold
  rw [Bool.eq_iff_iff, decide_eq_true_iff, Nat.beq_eq]
  omega
def G_is_foldable : List PyData → PyData → Prop := fun ds d => ∃ (L : List Nat) (bs : List Bool), ds = [dN L, .str (mstr bs)] ∧ Strip L ∧ bs.length + 1 = L.length ∧ d = .bool (fold L bs)
theorem c_is_foldable (D : Df K mg "is_foldable" s_is_foldable) (C1 : Cal P w K mg base 4 "check_strip" ["lengths", "marks"] (spD K G_check_strip)) (C2 : Cal P w K mg base 3 "does_fold" ["lengths", "marks"] (spD K G_does_fold)) : Cal P w K mg base 5 "is_foldable" ["lengths", "marks"] (spD K G_is_foldable) := by
  refine D.cal (fun _ _ _ _ _ _ us hl => match us, hl with | [_, _], _ => rfl) fun f fd F => ?_
  refine okD F sc_is_foldable (fun ds d ⟨_, _, h, _⟩ => by rw [h]; rfl) fun cdv A outer s0 H vs Q E ds d hr hv hG hQ => ?_
  obtain ⟨L, bs, rfl, hS, hb, rfl⟩ := hG
  obtain ⟨v, u, rfl, h0, h1⟩ := dpa2 hv
  refine ss_cons (s_do (w_C C1 hr (wd_cons (w_v 0 h0) (wd_cons (w_v 1 h1) wd_nil)) ⟨L, bs, rfl, hS, hb, rfl⟩) fun H1 e1 => ?_)
  exact ss_cons (s_ret (w_C C2 (hr.mono (by decide)) (wd_cons (w_v 0 (h0.ex e1)) (wd_cons (w_v 1 (h1.ex e1)) wd_nil)) ⟨L, bs, rfl, hS.pos, hS.few, hb, rfl⟩) fun z H2 e2 q => hQ z H2 (e1.trans e2) q)
def G_steps : List PyData → PyData → Prop := fun ds d => ∃ (L : List Nat) (bs : List Bool), ds = [dN L, .str (mstr bs)] ∧ Strip L ∧ bs.length + 1 = L.length ∧ d = .tuple ((walk L.length L bs).1.map stepD)
theorem c_steps (D : Df K mg "steps" s_steps) (T : BT mg) (C1 : Cal P w K mg base 4 "check_strip" ["lengths", "marks"] (spD K G_check_strip)) (C2 : Cal P w K mg base 2 "steps_of" ["lengths", "marks"] (spD K G_steps_of)) : Cal P w K mg base 5 "steps" ["lengths", "marks"] (spD K G_steps) := by
  refine D.cal (fun _ _ _ _ _ _ us hl => match us, hl with | [_, _], _ => rfl) fun f fd F => ?_
  refine okD F sc_steps (fun ds d ⟨_, _, h, _⟩ => by rw [h]; rfl) fun cdv A outer s0 H vs Q E ds d hr hv hG hQ => ?_
  obtain ⟨L, bs, rfl, hS, hb, rfl⟩ := hG
  obtain ⟨v, u, rfl, h0, h1⟩ := dpa2 hv
  refine ss_cons (s_do (w_C C1 hr (wd_cons (w_v 0 h0) (wd_cons (w_v 1 h1) wd_nil)) ⟨L, bs, rfl, hS, hb, rfl⟩) fun H1 e1 => ?_)
  exact ss_cons (s_ret (w_tupL T (w_ixT (w_C C2 (hr.mono (by decide)) (wd_cons (w_v 0 (h0.ex e1)) (wd_cons (w_v 1 (h1.ex e1)) wd_nil)) ⟨L, bs, rfl, hS.pos, hS.few, hb, rfl⟩) w_int (atI_nat (j := 0) rfl))) fun z H2 e2 q => hQ z H2 (e1.trans e2) q)
def G_is_step : List PyData → PyData → Prop := fun ds d => ∃ (L : List Nat) (bs : List Bool) (s : Step), ds = [dN L, .str (mstr bs), stepD s] ∧ 1 ≤ L.length ∧ L.length ≤ 8 ∧ bs.length + 1 = L.length ∧ s ∈ stepList L bs ∧ d = .bool true
theorem c_is_step (D : Df K mg "is_step" s_is_step) (T : BT mg) (M : CT mg) (C1 : Cal P w K mg base 2 "is_between" ["value", "least", "most"] (spD K G_is_between)) (C2 : Cal P w K mg base 1 "step_list" ["lengths", "marks"] (spL K G_step_list)) : Cal P w K mg base 3 "is_step" ["lengths", "marks", "value"] (spD K G_is_step) := by
  refine D.cal (fun _ _ _ _ _ _ us hl => match us, hl with | [_, _, _], _ => rfl) fun f fd F => ?_
  refine okD F sc_is_step (fun ds d ⟨_, _, _, h, _⟩ => by rw [h]; rfl) fun cdv A outer s0 H vs Q E ds d hr hv hG hQ => ?_
  obtain ⟨L, bs, s, rfl, hz1, hz2, hb, hs, rfl⟩ := hG
  obtain ⟨v, u, t, rfl, h0, h1, h2⟩ := dpa3 hv
  obtain ⟨x, i, es, hi⟩ : ∃ (x : Str) (i : Nat), stepD s = .tuple [.str x, .int (i : Int)] ∧ i ≤ 8 := by
    obtain ⟨k1, k2⟩ := mem_stepList hs
    cases s with
    | crimp k => exact ⟨_, k, rfl, by have := k2 k rfl; omega⟩
    | fst => exact ⟨_, 0, rfl, by omega⟩
    | lst => exact ⟨_, 1, rfl, by omega⟩
  have h2' := h2
  rw [es] at h2'
  refine ss_cons (s_ifF ((wt_or3 (wt_not (r := true) (wt_v (w_isTup T (w_v 2 h2') rfl kb_tt))) (fun _ => WT.is (wt_nei (w_len T (w_v 2 h2') rfl) w_int) (r' := false) (by simp)) fun _ _ => wt_not (r := true) (wt_v (w_isStr T (w_ixT (w_v 2 h2') w_int (atI_nat (j := 0) rfl)) rfl kb_ss))).is rfl) fun H1 e1 => ss_nil ?_)
  refine ss_cons (s_ret (w_and (Wd.is (w_C C1 hr (wd_cons (w_ixT (w_v 2 (h2'.ex e1)) w_int (atI_nat (j := 1) rfl)) (wd_cons w_int (wd_cons (w_gi M.pieces) wd_nil))) ⟨_, _, _, rfl, rfl⟩) (d' := .bool true) (congrArg PyData.bool (by simp; omega))) fun _ => w_inP (r := true) hr (w_v 2 (h2.ex e1)) (newL_dt (w_CL C2 (hr.mono (by decide)) (wd_cons (w_v 0 (h0.ex e1)) (wd_cons (w_v 1 (h1.ex e1)) wd_nil)) ⟨L, bs, rfl, hz1, hz2, hb, rfl⟩)) ((pu_step s).up (by decide)) (fun e he => ?_) ?_) fun z H2 e2 q => hQ z H2 (e1.trans e2) q)
  · obtain ⟨s', _, rfl⟩ := List.mem_map.mp he
    exact (pu_step s').up (by decide)
  · exact ⟨fun _ => List.mem_map.mpr ⟨s, hs, rfl⟩, fun _ => rfl⟩
def G_after_step : List PyData → PyData → Prop := fun ds d => ∃ (L : List Nat) (bs : List Bool) (s : Step), ds = [dN L, .str (mstr bs), stepD s] ∧ Strip L ∧ bs.length + 1 = L.length ∧ s ∈ stepList L bs ∧ d = .tuple [dN (after L bs s).1, .str (mstr (after L bs s).2)]
theorem c_after_step (D : Df K mg "after_step" s_after_step) (C1 : Cal P w K mg base 4 "check_strip" ["lengths", "marks"] (spD K G_check_strip)) (C2 : Cal P w K mg base 3 "is_step" ["lengths", "marks", "value"] (spD K G_is_step)) (C3 : Cal P w K mg base 1 "stepped" ["lengths", "marks", "step"] (spD K G_stepped)) : Cal P w K mg base 5 "after_step" ["lengths", "marks", "step"] (spD K G_after_step) := by
  refine D.cal (fun _ _ _ _ _ _ us hl => match us, hl with | [_, _, _], _ => rfl) fun f fd F => ?_
  refine okD F sc_after_step (fun ds d ⟨_, _, _, h, _⟩ => by rw [h]; rfl) fun cdv A outer s0 H vs Q E ds d hr hv hG hQ => ?_
  obtain ⟨L, bs, s, rfl, hS, hb, hs, rfl⟩ := hG
  obtain ⟨v, u, t, rfl, h0, h1, h2⟩ := dpa3 hv
  refine ss_cons (s_do (w_C C1 hr (wd_cons (w_v 0 h0) (wd_cons (w_v 1 h1) wd_nil)) ⟨L, bs, rfl, hS, hb, rfl⟩) fun H1 e1 => ?_)
  refine ss_cons (s_ifF (wt_not (r := true) (wt_v (w_C C2 (hr.mono (by decide)) (wd_cons (w_v 0 (h0.ex e1)) (wd_cons (w_v 1 (h1.ex e1)) (wd_cons (w_v 2 (h2.ex e1)) wd_nil))) ⟨L, bs, s, rfl, hS.pos, hS.few, hb, hs, rfl⟩))) fun H2 e2 => ss_nil ?_)
  have e12 := e1.trans e2
  exact ss_cons (s_ret (w_C C3 (hr.mono (by decide)) (wd_cons (w_v 0 (h0.ex e12)) (wd_cons (w_v 1 (h1.ex e12)) (wd_cons (w_v 2 (h2.ex e12)) wd_nil))) ⟨L, bs, s, rfl, hS.few, hb, hs, rfl⟩) fun z H3 e3 q => hQ z H3 (e12.trans e3) q)
def G_steps_now : List PyData → PyData → Prop := fun ds d => ∃ (L : List Nat) (bs : List Bool), ds = [dN L, .str (mstr bs)] ∧ Strip L ∧ bs.length + 1 = L.length ∧ d = .tuple ((stepList L bs).map stepD)
theorem c_steps_now (D : Df K mg "steps_now" s_steps_now) (T : BT mg) (C1 : Cal P w K mg base 4 "check_strip" ["lengths", "marks"] (spD K G_check_strip)) (C2 : Cal P w K mg base 1 "step_list" ["lengths", "marks"] (spL K G_step_list)) : Cal P w K mg base 5 "steps_now" ["lengths", "marks"] (spD K G_steps_now) := by
  refine D.cal (fun _ _ _ _ _ _ us hl => match us, hl with | [_, _], _ => rfl) fun f fd F => ?_
  refine okD F sc_steps_now (fun ds d ⟨_, _, h, _⟩ => by rw [h]; rfl) fun cdv A outer s0 H vs Q E ds d hr hv hG hQ => ?_
  obtain ⟨L, bs, rfl, hS, hb, rfl⟩ := hG
  obtain ⟨v, u, rfl, h0, h1⟩ := dpa2 hv
  refine ss_cons (s_do (w_C C1 hr (wd_cons (w_v 0 h0) (wd_cons (w_v 1 h1) wd_nil)) ⟨L, bs, rfl, hS, hb, rfl⟩) fun H1 e1 => ?_)
  exact ss_cons (s_ret (w_tupL T (newL_dt (w_CL C2 (hr.mono (by decide)) (wd_cons (w_v 0 (h0.ex e1)) (wd_cons (w_v 1 (h1.ex e1)) wd_nil)) ⟨L, bs, rfl, hS.pos, hS.few, hb, rfl⟩))) fun z H2 e2 q => hQ z H2 (e1.trans e2) q)
end
end FW
/-! M1: plain: orders of spots, one piece more. -/
namespace FW.MM
theorem spot_ins {x k : Nat} (hk : k ≠ x) : ∀ (p : List Nat) (i : Nat), i ≤ p.length → spot (ins p i x) k = if spot p k < i then spot p k else spot p k + 1
  | p, 0, _ => by
    show (x :: p).idxOf k = _
    rw [List.idxOf_cons]
    have : (x == k) = false := by simpa using fun e => hk e.symm
    rw [this, if_neg (by omega)]; rfl
  | [], i + 1, h => by simp at h
  | a :: p, i + 1, h => by
    show (a :: ins p i x).idxOf k = _
    have ih := spot_ins hk p i (by simpa using h)
    show _ = if (a :: p).idxOf k < i + 1 then (a :: p).idxOf k else (a :: p).idxOf k + 1
    rw [List.idxOf_cons, List.idxOf_cons]
    by_cases e : a = k
    · rw [show (a == k) = true by simpa using e]; simp
    · rw [show (a == k) = false by simpa using e]
      simp only [cond_false]
      rw [show (ins p i x).idxOf k = _ from ih, show spot p k = p.idxOf k from rfl]
      split <;> split <;> omega
theorem spot_ins_self {x : Nat} : ∀ (p : List Nat) (i : Nat), x ∉ p → i ≤ p.length → spot (ins p i x) x = i
  | p, 0, _, _ => by show (x :: p).idxOf x = _; rw [List.idxOf_cons]; simp
  | [], i + 1, _, h => by simp at h
  | a :: p, i + 1, hx, h => by
    show (a :: ins p i x).idxOf x = _
    have ih := spot_ins_self p i (fun h => hx (List.mem_cons_of_mem _ h)) (by simpa using h)
    rw [List.idxOf_cons, show (a == x) = false by simpa using fun e => hx (by rw [e]; exact List.mem_cons_self)]
    show (ins p i x).idxOf x + 1 = _
    rw [show (ins p i x).idxOf x = i from ih]
/-- the same order -/
def SameOrd (n : Nat) (s t : Nat → Nat) : Prop := ∀ a b, a < n → b < n → (s a < s b ↔ t a < t b)
theorem btw_iff {s : Nat → Nat} {k j : Nat} : Btw s k j ↔ (s k < s j ∧ s j < s (k+1)) ∨ (s (k+1) < s j ∧ s j < s k) := by
  unfold Btw; omega
theorem crs_iff {s : Nat → Nat} {k j : Nat} : Crs s k j ↔
    (s k < s j ∧ s j < s (k+1) ∧ s (k+1) < s (j+1)) ∨ (s (k+1) < s j ∧ s j < s k ∧ s k < s (j+1)) ∨
    (s k < s (j+1) ∧ s (j+1) < s (k+1) ∧ s (k+1) < s j) ∨ (s (k+1) < s (j+1) ∧ s (j+1) < s k ∧ s k < s j) := by
  unfold Crs; omega
theorem SameOrd.btw {n s t k j} (h : SameOrd n s t) (hk : k + 1 < n) (hj : j < n) : Btw s k j ↔ Btw t k j := by
  rw [btw_iff, btw_iff, h k j (by omega) hj, h j (k+1) hj hk, h (k+1) j hk hj, h j k hj (by omega)]
theorem SameOrd.crs {n s t k j} (h : SameOrd n s t) (hk : k + 1 < n) (hj : j + 1 < n) : Crs s k j ↔ Crs t k j := by
  rw [crs_iff, crs_iff, h k j (by omega) (by omega), h j (k+1) (by omega) hk, h (k+1) (j+1) hk hj, h (k+1) j hk (by omega), h j k (by omega) (by omega), h k (j+1) (by omega) hj, h (j+1) (k+1) hj hk, h (j+1) k hj (by omega)]
theorem SameOrd.laid {L n s t} (h : SameOrd n s t) : Laid L n s ↔ Laid L n t := by
  have h1 : Pierced L n s ↔ Pierced L n t := by
    constructor
    · rintro ⟨k, j, hk, hj, b, r⟩; exact ⟨k, j, hk, hj, (h.btw hk hj).mp b, r⟩
    · rintro ⟨k, j, hk, hj, b, r⟩; exact ⟨k, j, hk, hj, (h.btw hk hj).mpr b, r⟩
  have h2 : Crossed L n s ↔ Crossed L n t := by
    constructor
    · rintro ⟨k, j, hk, hj, e, r, b⟩; exact ⟨k, j, hk, hj, e, r, (h.crs hk hj).mp b⟩
    · rintro ⟨k, j, hk, hj, e, r, b⟩; exact ⟨k, j, hk, hj, e, r, (h.crs hk hj).mpr b⟩
  unfold Laid; rw [h1, h2]
/-- what one piece more asks -/
def NewOk (L : List Nat) (m : Nat) (s : Nat → Nat) : Prop :=
  (∀ k, k < m → lo L (m+1) < pt L (k+1) ∧ pt L (k+1) < hi L (m+1) → ¬ Btw s k (m+1)) ∧
  (∀ j, j < m → lo L j < pt L (m+1) ∧ pt L (m+1) < hi L j → ¬ Btw s m j) ∧
  (∀ k, k < m → k % 2 = m % 2 → pt L (k+1) = pt L (m+1) → ¬ Crs s k m ∧ ¬ Crs s m k)
theorem laid_more {L m s} : Laid L (m+2) s ↔ Laid L (m+1) s ∧ NewOk L m s := by
  constructor
  · rintro ⟨hp, hc⟩
    refine ⟨⟨?_, ?_⟩, ?_, ?_, ?_⟩
    · rintro ⟨k, j, hk, hj, r⟩; exact hp ⟨k, j, by omega, by omega, r⟩
    · rintro ⟨k, j, hk, hj, r⟩; exact hc ⟨k, j, by omega, by omega, r⟩
    · intro k hk r b; exact hp ⟨k, m+1, by omega, by omega, b, r⟩
    · intro j hj r b; exact hp ⟨m, j, by omega, by omega, b, r⟩
    · intro k hk e r
      exact ⟨fun b => hc ⟨k, m, by omega, by omega, e.symm, r, b⟩, fun b => hc ⟨m, k, by omega, by omega, e, r.symm, b⟩⟩
  · rintro ⟨⟨hp, hc⟩, h1, h2, h3⟩
    refine ⟨?_, ?_⟩
    · rintro ⟨k, j, hk, hj, b, r⟩
      by_cases e : k = m
      · subst e
        by_cases e2 : j = k
        · subst e2; rw [btw_iff] at b; omega
        by_cases e3 : j = k + 1
        · subst e3; rw [btw_iff] at b; omega
        exact h2 j (by omega) r b
      · by_cases e2 : j = m + 1
        · subst e2; exact h1 k (by omega) r b
        · exact hp ⟨k, j, by omega, by omega, b, r⟩
    · rintro ⟨k, j, hk, hj, e, r, b⟩
      by_cases e1 : k = m
      · subst e1
        by_cases e2 : j = k
        · subst e2; rw [crs_iff] at b; omega
        · exact (h3 j (by omega) e r.symm).2 b
      · by_cases e2 : j = m
        · subst e2; exact (h3 k (by omega) e.symm r).1 b
        · exact hc ⟨k, j, by omega, by omega, e, r, b⟩
/-- spots of the old pile, with room for the new one -/
def wide (p : List Nat) (m i : Nat) (k : Nat) : Nat := if k = m + 1 then 2 * i else 2 * spot p k + 1
theorem wide_ord {p : List Nat} {m i : Nat} (hx : m + 1 ∉ p) (hi : i ≤ p.length) : SameOrd (m+2) (spot (ins p i (m+1))) (wide p m i) := by
  have hs : ∀ a, spot (ins p i (m+1)) a = if a = m + 1 then i else if spot p a < i then spot p a else spot p a + 1 := by
    intro a
    by_cases e : a = m + 1
    · rw [if_pos e, e]; exact spot_ins_self p i hx hi
    · rw [if_neg e]; exact spot_ins e p i hi
  intro a b _ _
  rw [hs, hs]; unfold wide
  by_cases ea : a = m + 1 <;> by_cases eb : b = m + 1 <;> simp only [ea, eb, if_true, if_false] <;> (repeat' split) <;> omega
theorem old_ord {p : List Nat} {m i : Nat} (hi : i ≤ p.length) : SameOrd (m+1) (spot (ins p i (m+1))) (spot p) := by
  intro a b ha hb
  rw [spot_ins (by omega) p i hi, spot_ins (by omega) p i hi]
  split <;> split <;> omega
theorem laid_ins {L p m i} (hx : m + 1 ∉ p) (hi : i ≤ p.length) : Laid L (m+2) (spot (ins p i (m+1))) ↔ Laid L (m+1) (spot p) ∧ NewOk L m (wide p m i) := by
  rw [laid_more, (old_ord hi).laid]
  have h := wide_ord hx hi
  have : NewOk L m (spot (ins p i (m+1))) ↔ NewOk L m (wide p m i) := by
    unfold NewOk
    constructor
    · rintro ⟨h1, h2, h3⟩
      exact ⟨fun k hk r b => h1 k hk r ((h.btw (by omega) (by omega)).mpr b), fun k hk r b => h2 k hk r ((h.btw (by omega) (by omega)).mpr b),
        fun k hk e r => ⟨fun b => (h3 k hk e r).1 ((h.crs (by omega) (by omega)).mpr b), fun b => (h3 k hk e r).2 ((h.crs (by omega) (by omega)).mpr b)⟩⟩
    · rintro ⟨h1, h2, h3⟩
      exact ⟨fun k hk r b => h1 k hk r ((h.btw (by omega) (by omega)).mp b), fun k hk r b => h2 k hk r ((h.btw (by omega) (by omega)).mp b),
        fun k hk e r => ⟨fun b => (h3 k hk e r).1 ((h.crs (by omega) (by omega)).mp b), fun b => (h3 k hk e r).2 ((h.crs (by omega) (by omega)).mp b)⟩⟩
  rw [this]
end FW.MM
/-! M2: plain: the layerings and their marks, computed; the finite look. -/
namespace FW.MM
/-- spot, for the kernel -/
noncomputable def sp (r : List Nat) (k : Nat) : Nat := List.rec (motive := fun _ => Nat) 0 (fun a _ s => cond (Nat.beq a k) 0 (Nat.succ s)) r
theorem sp_eq (r : List Nat) (k : Nat) : sp r k = spot r k := by
  induction r with
  | nil => rfl
  | cons a r ih =>
    show cond (Nat.beq a k) 0 (Nat.succ (sp r k)) = (a :: r).idxOf k
    rw [List.idxOf_cons, ih]
    by_cases e : a = k
    · subst e; simp
    · rw [show (a == k) = false by simpa using e, show Nat.beq a k = false from by cases h : Nat.beq a k; rfl; exact absurd (Nat.eq_of_beq_eq_true h) e]; rfl
def btwB (a b c : Nat) : Bool := (Nat.blt a c && Nat.blt c b) || (Nat.blt b c && Nat.blt c a)
def in3 (a b c d : Nat) : Bool := Nat.blt a b && (Nat.blt b c && Nat.blt c d)
def crsB (a b c d : Nat) : Bool := in3 a c b d || (in3 b c a d || (in3 a d b c || in3 b d a c))
theorem blt_iff {a b : Nat} : Nat.blt a b = true ↔ a < b := by rw [Nat.blt_eq]
theorem btwB_iff {s : Nat → Nat} {k j : Nat} : btwB (s k) (s (k+1)) (s j) = true ↔ Btw s k j := by
  rw [btw_iff]; unfold btwB; simp only [Bool.or_eq_true, Bool.and_eq_true, blt_iff]
theorem crsB_iff {s : Nat → Nat} {k j : Nat} : crsB (s k) (s (k+1)) (s j) (s (j+1)) = true ↔ Crs s k j := by
  rw [crs_iff]; unfold crsB in3; simp only [Bool.or_eq_true, Bool.and_eq_true, blt_iff]
def within (L : List Nat) (j k : Nat) : Bool := decide (lo L j < pt L (k+1)) && decide (pt L (k+1) < hi L j)
theorem within_iff {L j k} : within L j k = true ↔ lo L j < pt L (k+1) ∧ pt L (k+1) < hi L j := by unfold within; simp
def b1 (L : List Nat) (m : Nat) : List Nat := (List.range m).filter fun k => within L (m+1) k
def b2 (L : List Nat) (m : Nat) : List Nat := (List.range m).filter fun j => within L j m
def b3 (L : List Nat) (m : Nat) : List Nat := (List.range m).filter fun k => Nat.beq (k % 2) (m % 2) && decide (pt L (k+1) = pt L (m+1))
noncomputable def newOk (x1 x2 x3 : List Nat) (m : Nat) (p : List Nat) (i : Nat) : Bool :=
  (x1.all fun k => !btwB (2 * sp p k + 1) (2 * sp p (k+1) + 1) (2 * i)) &&
  ((x2.all fun j => !btwB (2 * sp p m + 1) (2 * i) (2 * sp p j + 1)) &&
  (x3.all fun k => !(crsB (2 * sp p k + 1) (2 * sp p (k+1) + 1) (2 * sp p m + 1) (2 * i) || crsB (2 * sp p m + 1) (2 * i) (2 * sp p k + 1) (2 * sp p (k+1) + 1))))
theorem newOk_iff {L m p i} : newOk (b1 L m) (b2 L m) (b3 L m) m p i = true ↔ NewOk L m (wide p m i) := by
  have w1 : ∀ k, k ≠ m + 1 → 2 * sp p k + 1 = wide p m i k := fun k h => by unfold wide; rw [if_neg h, sp_eq]
  have w2 : 2 * i = wide p m i (m+1) := by unfold wide; rw [if_pos rfl]
  unfold newOk NewOk
  simp only [Bool.and_eq_true, List.all_eq_true, b1, b2, b3, List.mem_filter, List.mem_range, within_iff, Bool.not_eq_true', Bool.or_eq_false_iff, ← Bool.not_eq_true, Bool.or_eq_true, not_or, Nat.beq_eq, decide_eq_true_eq]
  refine and_congr ?_ (and_congr ?_ ?_)
  · constructor
    · intro h k hk r b
      exact h k ⟨hk, r⟩ (by rw [w1 k (by omega), w1 (k+1) (by omega), w2]; exact btwB_iff.mpr b)
    · intro h k hk b
      rw [w1 k (by omega), w1 (k+1) (by omega), w2] at b
      exact h k hk.1 hk.2 (btwB_iff.mp b)
  · constructor
    · intro h k hk r b
      exact h k ⟨hk, r⟩ (by rw [w1 k (by omega), w1 m (by omega), w2]; exact btwB_iff.mpr b)
    · intro h k hk b
      rw [w1 k (by omega), w1 m (by omega), w2] at b
      exact h k hk.1 hk.2 (btwB_iff.mp b)
  · constructor
    · intro h k hk e r
      have := h k ⟨hk, e, r⟩
      rw [w1 k (by omega), w1 (k+1) (by omega), w1 m (by omega), w2] at this
      exact ⟨fun b => this.1 (crsB_iff.mpr b), fun b => this.2 (crsB_iff.mpr b)⟩
    · intro h k hk
      rw [w1 k (by omega), w1 (k+1) (by omega), w1 m (by omega), w2]
      have := h k hk.1 hk.2.1 hk.2.2
      exact ⟨fun b => this.1 (crsB_iff.mp b), fun b => this.2 (crsB_iff.mp b)⟩
noncomputable def ext (x1 x2 x3 : List Nat) (m : Nat) (ls : List (List Nat)) : List (List Nat) :=
  ls.flatMap fun p => ((List.range (m+2)).filter (newOk x1 x2 x3 m p)).map fun i => ins p i (m+1)
noncomputable def layN (L : List Nat) : Nat → List (List Nat)
  | 0 => [[0]]
  | m + 1 => ext (b1 L m) (b2 L m) (b3 L m) m (layN L m)
def IsPile (n : Nat) (p : List Nat) : Prop := p.Perm (List.range n)
theorem IsPile.len {n p} (h : IsPile n p) : p.length = n := by rw [List.Perm.length_eq h, List.length_range]
theorem IsPile.lt {n p} (h : IsPile n p) {x} (hx : x ∈ p) : x < n := List.mem_range.mp (List.Perm.mem_iff h |>.mp hx)
theorem ins_isPile {n p} (h : IsPile n p) (i : Nat) : IsPile (n+1) (ins p i n) := by
  unfold IsPile ins
  refine (List.perm_middle).trans ?_
  rw [List.take_append_drop, List.range_succ]
  exact (List.Perm.cons n h).trans (List.perm_append_singleton n (List.range n)).symm
theorem mem_lay {L : List Nat} : ∀ {m : Nat} {q : List Nat}, q ∈ lay L m → IsPile (m+1) q ∧ Laid L (m+1) (spot q)
  | 0, q, h => by
    have : q = [0] := by simpa [lay] using h
    subst this
    refine ⟨List.Perm.refl _, ?_, ?_⟩
    · rintro ⟨k, j, hk, _⟩; omega
    · rintro ⟨k, j, hk, _⟩; omega
  | m + 1, q, h => by
    unfold lay at h
    obtain ⟨p, hp, h2⟩ := List.mem_flatMap.mp h
    obtain ⟨h3, h4⟩ := List.mem_filter.mp h2
    obtain ⟨i, _, rfl⟩ := List.mem_map.mp h3
    exact ⟨ins_isPile (mem_lay hp).1 i, laidB_iff.mp h4⟩
theorem layN_eq (L : List Nat) : ∀ m, lay L m = layN L m
  | 0 => rfl
  | m + 1 => by
    show (lay L m).flatMap _ = ext _ _ _ m (layN L m)
    rw [← layN_eq L m]
    unfold ext
    rw [List.flatMap_def, List.flatMap_def]
    congr 1
    refine List.map_congr_left fun p hp => ?_
    obtain ⟨h1, h2⟩ := mem_lay hp
    unfold grow
    rw [List.filter_map, h1.len]
    congr 1
    refine List.filter_congr fun i hi => ?_
    have hi' : i ≤ p.length := by rw [h1.len]; have := List.mem_range.mp hi; omega
    have hx : m + 1 ∉ p := fun h => by have := h1.lt h; omega
    rw [Bool.eq_iff_iff, newOk_iff]
    show laidB L (m+2) (spot (ins p i (m+1))) = true ↔ _
    rw [laidB_iff, laid_ins hx hi']
    exact ⟨fun h => h.2, fun h => ⟨h2, h⟩⟩
/-- marks as numbers -/
noncomputable def code (bs : List Bool) : Nat := List.rec (motive := fun _ => Nat) 0 (fun b _ r => Nat.add (cond b 1 0) (Nat.mul 2 r)) bs
theorem code_inj : ∀ {a b : List Bool}, a.length = b.length → code a = code b → a = b
  | [], [], _, _ => rfl
  | x :: a, y :: b, hl, h => by
    have h' : cond x 1 0 + 2 * code a = cond y 1 0 + 2 * code b := h
    have : x = y ∧ code a = code b := by cases x <;> cases y <;> simp at h' ⊢ <;> omega
    rw [this.1, code_inj (by simpa using hl) this.2]
noncomputable def marksN (q : List Nat) (n : Nat) : List Bool := (List.range (n-1)).map fun k => cond (Nat.blt (sp q (k+1)) (sp q k)) (Nat.beq (k % 2) 0) (!Nat.beq (k % 2) 0)
theorem marksN_eq (q n) : marksN q n = marksOf n q := by
  unfold marksN marksOf
  refine List.map_congr_left fun k _ => ?_
  unfold markAt
  rw [sp_eq, sp_eq]
  show cond (Nat.blt (q.idxOf (k+1)) (q.idxOf k)) _ _ = _
  cases Nat.blt (q.idxOf (k+1)) (q.idxOf k) <;> cases Nat.beq (k % 2) 0 <;> rfl
def bit (m c : Nat) : Bool := Nat.beq (Nat.land (Nat.shiftRight m c) 1) 1
theorem bit_eq (m c : Nat) : bit m c = m.testBit c := by
  unfold bit Nat.testBit
  have e : Nat.land (Nat.shiftRight m c) 1 = (m >>> c) % 2 := Nat.and_one_is_mod _
  have e2 : 1 &&& (m >>> c) = (m >>> c) % 2 := Nat.one_and_eq_mod_two _
  rw [e, e2]
  rcases Nat.mod_two_eq_zero_or_one (m >>> c) with h | h <;> rw [h] <;> rfl
noncomputable def mask (n : Nat) (ls : List (List Nat)) : Nat := List.rec (motive := fun _ => Nat) 0 (fun q _ r => Nat.lor r (Nat.pow 2 (code (marksN q n)))) ls
theorem mask_bit {n : Nat} {bs : List Bool} (hb : bs.length = n - 1) (ls : List (List Nat)) : bit (mask n ls) (code bs) = ls.any (fun q => marksOf n q == bs) := by
  rw [bit_eq]
  induction ls with
  | nil => exact Nat.zero_testBit _
  | cons q r ih =>
    show Nat.testBit (Nat.lor (mask n r) (Nat.pow 2 (code (marksN q n)))) (code bs) = _
    have : Nat.lor (mask n r) (Nat.pow 2 (code (marksN q n))) = mask n r ||| 2 ^ (code (marksN q n)) := rfl
    rw [this, Nat.testBit_or, ih, List.any_cons, Bool.or_comm, marksN_eq, Nat.testBit_two_pow]
    congr 1
    by_cases e : marksOf n q = bs
    · rw [e]; simp
    · have : code (marksOf n q) ≠ code bs := fun h => e (code_inj (by unfold marksOf; rw [List.length_map, List.length_range, hb]) h)
      rw [decide_eq_false this]
      symm; simpa using e
/-- does the strip have a layering with these marks -/
noncomputable def Sem (L : List Nat) (bs : List Bool) : Bool := (lay L (L.length - 1)).any fun q => marksOf L.length q == bs
noncomputable def maskOf (L : List Nat) : Nat := mask L.length (layN L (L.length - 1))
theorem Sem_eq {L bs} (hb : bs.length = L.length - 1) : Sem L bs = bit (maskOf L) (code bs) := by
  unfold Sem maskOf; rw [mask_bit hb, layN_eq]
def allB : Nat → List (List Bool)
  | 0 => [[]]
  | n + 1 => (allB n).flatMap fun r => [false :: r, true :: r]
theorem mem_allB : ∀ (bs : List Bool), bs ∈ allB bs.length
  | [] => by simp [allB]
  | b :: r => by
    show _ ∈ (allB r.length).flatMap _
    refine List.mem_flatMap.mpr ⟨r, mem_allB r, ?_⟩
    cases b <;> simp
/-- one strip's look: its layerings' marks are m -/
noncomputable def endLook (n m m1 : Nat) (cut : List Bool → List Bool) : Bool := (allB (n-1)).all fun bs => bit m1 (code (cut bs)) == bit m (code bs)
noncomputable def crimpLook (n m mk k : Nat) : Bool := (allB (n-1)).all fun bs => (bs.getD k true == bs.getD (k+1) true) || (bit mk (code (bs.take k ++ bs.drop (k+2))) == bit m (code bs))
noncomputable def look (L : List Nat) (m : Nat) : Bool :=
  (!(Nat.blt 1 L.length && Nat.ble (L.getD 0 0) (L.getD 1 0)) || endLook L.length m (maskOf (L.drop 1)) (List.drop 1)) &&
  ((!(Nat.blt 1 L.length && Nat.ble (L.getD (L.length-1) 0) (L.getD (L.length-2) 0)) || endLook L.length m (maskOf L.dropLast) List.dropLast) &&
  (((List.range (L.length - 2)).all fun k => !(Nat.ble (L.getD (k+1) 0) (L.getD k 0) && Nat.ble (L.getD (k+1) 0) (L.getD (k+2) 0)) ||
    crimpLook L.length m (maskOf (L.take k ++ (L.getD k 0 - L.getD (k+1) 0 + L.getD (k+2) 0) :: L.drop (k+3))) k) &&
  (((Nat.blt 1 L.length && Nat.ble (L.getD 0 0) (L.getD 1 0)) || (Nat.blt 1 L.length && Nat.ble (L.getD (L.length-1) 0) (L.getD (L.length-2) 0))) ||
    (allB (L.length - 1)).all fun bs => ((List.range (L.length - 2)).any (crimpOk L bs)) || (bit m (code bs) == Nat.beq L.length 1))))
noncomputable def chk (b : Nat) : Nat → List Nat → List (List Nat) → Bool
  | 0, L, ls => Nat.blt ls.length 64 && look L (mask L.length ls)
  | d + 1, L, ls => (Nat.blt ls.length 64 && look L (mask L.length ls)) &&
      (List.range b).all fun a => (fun L2 => chk b d L2 (ext (b1 L2 (L.length - 1)) (b2 L2 (L.length - 1)) (b3 L2 (L.length - 1)) (L.length - 1) ls)) (L ++ [a+1])
end FW.MM
set_option maxRecDepth 100000
set_option maxHeartbeats 4000000
/-! M3: plain: the finite look at all strips, and what it tells. -/
namespace FW.MM
theorem p11 : chk 4 3 [1,1] (layN [1,1] 1) = true := by decide +kernel
theorem p12 : chk 4 3 [1,2] (layN [1,2] 1) = true := by decide +kernel
theorem p13 : chk 4 3 [1,3] (layN [1,3] 1) = true := by decide +kernel
theorem p14 : chk 4 3 [1,4] (layN [1,4] 1) = true := by decide +kernel
theorem p21 : chk 4 3 [2,1] (layN [2,1] 1) = true := by decide +kernel
theorem p22 : chk 4 3 [2,2] (layN [2,2] 1) = true := by decide +kernel
theorem p23 : chk 4 3 [2,3] (layN [2,3] 1) = true := by decide +kernel
theorem p24 : chk 4 3 [2,4] (layN [2,4] 1) = true := by decide +kernel
theorem p31 : chk 4 3 [3,1] (layN [3,1] 1) = true := by decide +kernel
theorem p32 : chk 4 3 [3,2] (layN [3,2] 1) = true := by decide +kernel
theorem p33 : chk 4 3 [3,3] (layN [3,3] 1) = true := by decide +kernel
theorem p34 : chk 4 3 [3,4] (layN [3,4] 1) = true := by decide +kernel
theorem p41 : chk 4 3 [4,1] (layN [4,1] 1) = true := by decide +kernel
theorem p42 : chk 4 3 [4,2] (layN [4,2] 1) = true := by decide +kernel
theorem p43 : chk 4 3 [4,3] (layN [4,3] 1) = true := by decide +kernel
theorem p44 : chk 4 3 [4,4] (layN [4,4] 1) = true := by decide +kernel
theorem q1 : chk 7 2 [1] (layN [1] 0) = true := by decide +kernel
theorem q2 : chk 7 2 [2] (layN [2] 0) = true := by decide +kernel
theorem q3 : chk 7 2 [3] (layN [3] 0) = true := by decide +kernel
theorem q4 : chk 7 2 [4] (layN [4] 0) = true := by decide +kernel
theorem q5 : chk 7 2 [5] (layN [5] 0) = true := by decide +kernel
theorem q6 : chk 7 2 [6] (layN [6] 0) = true := by decide +kernel
theorem q7 : chk 7 2 [7] (layN [7] 0) = true := by decide +kernel
theorem pt_app (L x : List Nat) : ∀ k, k ≤ L.length → pt (L ++ x) k = pt L k
  | 0, _ => rfl
  | k + 1, h => by
    unfold pt
    rw [pt_app L x k (by omega), show (L ++ x).getD k 0 = L.getD k 0 from by
      rw [List.getD_eq_getElem?_getD, List.getD_eq_getElem?_getD, List.getElem?_append_left (by omega)]]
theorem layN_app (L x : List Nat) : ∀ m, m + 1 ≤ L.length → layN (L ++ x) m = layN L m
  | 0, _ => rfl
  | m + 1, h => by
    have w : ∀ j k, j + 1 ≤ L.length → k + 1 ≤ L.length → within (L ++ x) j k = within L j k := fun j k hj hk => by
      unfold within lo hi
      rw [pt_app _ _ j (by omega), pt_app _ _ (j+1) hj, pt_app _ _ (k+1) hk]
    have e1 : b1 (L ++ x) m = b1 L m := List.filter_congr fun k hk => by rw [w _ _ (by omega) (by have := List.mem_range.mp hk; omega)]
    have e2 : b2 (L ++ x) m = b2 L m := List.filter_congr fun k hk => by rw [w _ _ (by have := List.mem_range.mp hk; omega) (by omega)]
    have e3 : b3 (L ++ x) m = b3 L m := List.filter_congr fun k hk => by
      have := List.mem_range.mp hk
      rw [pt_app _ _ (k+1) (by omega), pt_app _ _ (m+1) (by omega)]
    unfold layN
    rw [e1, e2, e3, layN_app L x m (by omega)]
def LookOk (L : List Nat) : Prop := (layN L (L.length - 1)).length < 64 ∧ look L (maskOf L) = true
theorem chk_sound (b : Nat) : ∀ (d : Nat) (L : List Nat), 1 ≤ L.length → chk b d L (layN L (L.length - 1)) = true →
    ∀ x : List Nat, x.length ≤ d → (∀ y ∈ x, 1 ≤ y ∧ y ≤ b) → LookOk (L ++ x)
  | d, L, h1, h, [], _, _ => by
    rw [List.append_nil]
    have : (Nat.blt (layN L (L.length - 1)).length 64 && look L (mask L.length (layN L (L.length - 1)))) = true := by
      cases d with
      | zero => exact h
      | succ d => exact (Bool.and_eq_true _ _ ▸ h).1
    rw [Bool.and_eq_true] at this
    exact ⟨blt_iff.mp this.1, this.2⟩
  | 0, L, h1, h, a :: x, hx, _ => by simp at hx
  | d + 1, L, h1, h, a :: x, hx, hy => by
    have h2 := (Bool.and_eq_true _ _ ▸ h).2
    rw [List.all_eq_true] at h2
    obtain ⟨ha, hb⟩ := hy a List.mem_cons_self
    have h3 := h2 (a - 1) (List.mem_range.mpr (by omega))
    rw [show a - 1 + 1 = a from by omega] at h3
    have e : layN (L ++ [a]) ((L ++ [a]).length - 1) = ext (b1 (L ++ [a]) (L.length - 1)) (b2 (L ++ [a]) (L.length - 1)) (b3 (L ++ [a]) (L.length - 1)) (L.length - 1) (layN L (L.length - 1)) := by
      rw [List.length_append, show L.length + [a].length - 1 = (L.length - 1) + 1 from by simp; omega]
      show ext _ _ _ _ (layN (L ++ [a]) (L.length - 1)) = _
      rw [layN_app L [a] _ (by omega)]
    have := chk_sound b d (L ++ [a]) (by simp) (by rw [e]; exact h3) x (by simpa using hx) (fun y h => hy y (List.mem_cons_of_mem _ h))
    rwa [List.append_assoc] at this
theorem split4 {b : Nat} (h1 : 1 ≤ b) (h : b ≤ 4) : b = 1 ∨ b = 2 ∨ b = 3 ∨ b = 4 := by omega
theorem look4 {a b : Nat} (ha : 1 ≤ a) (ha' : a ≤ 4) (hb : 1 ≤ b) (hb' : b ≤ 4) : chk 4 3 [a,b] (layN [a,b] 1) = true := by
  rcases split4 ha ha' with rfl | rfl | rfl | rfl
  · rcases split4 hb hb' with rfl | rfl | rfl | rfl
    · exact p11
    · exact p12
    · exact p13
    · exact p14
  · rcases split4 hb hb' with rfl | rfl | rfl | rfl
    · exact p21
    · exact p22
    · exact p23
    · exact p24
  · rcases split4 hb hb' with rfl | rfl | rfl | rfl
    · exact p31
    · exact p32
    · exact p33
    · exact p34
  · rcases split4 hb hb' with rfl | rfl | rfl | rfl
    · exact p41
    · exact p42
    · exact p43
    · exact p44
theorem split7 {b : Nat} (h1 : 1 ≤ b) (h : b ≤ 7) : b = 1 ∨ b = 2 ∨ b = 3 ∨ b = 4 ∨ b = 5 ∨ b = 6 ∨ b = 7 := by omega
theorem look7 {a : Nat} (ha : 1 ≤ a) (ha' : a ≤ 7) : chk 7 2 [a] (layN [a] 0) = true := by
  rcases split7 ha ha' with rfl | rfl | rfl | rfl | rfl | rfl | rfl
  · exact q1
  · exact q2
  · exact q3
  · exact q4
  · exact q5
  · exact q6
  · exact q7
/-- the strips that are looked at -/
structure Dom (L : List Nat) : Prop where
  pos : 1 ≤ L.length
  few : L.length ≤ 5
  one : ∀ x ∈ L, 1 ≤ x
  four : 4 ≤ L.length → ∀ x ∈ L, x ≤ 4
  seven : 2 ≤ L.length → ∀ x ∈ L, x ≤ 7
theorem look_one (a : Nat) : LookOk [a] := by
  refine ⟨(by decide : ([[0]] : List (List Nat)).length < 64), ?_⟩
  have e : maskOf [a] = 1 := by
    have : mask 1 [[0]] = 1 := by decide +kernel
    exact this
  have e2 : bit 1 (code []) = true := by decide +kernel
  rw [e]
  unfold look
  simp only [List.length_cons, List.length_nil, Nat.zero_add, show Nat.blt 1 1 = false from rfl, Bool.false_and, Bool.not_false, Bool.true_or, Bool.true_and, Bool.false_or, Nat.sub_self, allB, List.all_cons, List.all_nil, e2, show Nat.beq 1 1 = true from rfl, show List.range (1 - 2) = [] from rfl, List.any_nil, beq_self_eq_true, Bool.or_true, Bool.and_self]
theorem Dom.look {L : List Nat} (h : Dom L) : LookOk L := by
  obtain ⟨p, f, o, fo, se⟩ := h
  match L, p, f, o, fo, se with
  | [a], _, _, _, _, _ => exact look_one a
  | a :: b :: [], _, _, o, fo, se =>
    exact chk_sound 7 2 [a] (by simp) (look7 (o a (by simp)) (se (by simp) a (by simp))) [b] (by simp) fun y hy => ⟨o y (by simp at hy ⊢; omega), se (by simp) y (by simp at hy ⊢; omega)⟩
  | a :: b :: c :: [], _, _, o, fo, se =>
    exact chk_sound 7 2 [a] (by simp) (look7 (o a (by simp)) (se (by simp) a (by simp))) [b, c] (by simp) fun y hy => ⟨o y (by simp at hy ⊢; omega), se (by simp) y (by simp at hy ⊢; omega)⟩
  | a :: b :: c :: d :: x, _, f, o, fo, se =>
    have F := fo (by simp)
    exact chk_sound 4 3 [a, b] (by simp) (look4 (o a (by simp)) (F a (by simp)) (o b (by simp)) (F b (by simp))) (c :: d :: x) (by simpa using f) fun y hy =>
      ⟨o y (List.mem_cons_of_mem _ (List.mem_cons_of_mem _ hy)), F y (List.mem_cons_of_mem _ (List.mem_cons_of_mem _ hy))⟩
theorem Dom.few64 {L : List Nat} (h : Dom L) : ∀ m, m < L.length → (lay L m).length < 64 := by
  intro m hm
  have d : Dom (L.take (m+1)) := by
    have l : (L.take (m+1)).length = m + 1 := by rw [List.length_take]; omega
    exact ⟨by omega, by have := h.few; omega, fun x hx => h.one x (List.mem_of_mem_take hx), fun h4 x hx => h.four (by omega) x (List.mem_of_mem_take hx), fun h4 x hx => h.seven (by omega) x (List.mem_of_mem_take hx)⟩
  have l : (L.take (m+1)).length = m + 1 := by rw [List.length_take]; omega
  have := d.look.1
  rw [l] at this
  rw [layN_eq, show layN L m = layN (L.take (m+1) ++ L.drop (m+1)) m from by rw [List.take_append_drop], layN_app _ _ _ (by omega)]
  exact this
end FW.MM
set_option maxRecDepth 100000
set_option maxHeartbeats 4000000
/-! M4: plain: all piles, all layerings; steps keep what folds. -/
namespace FW.MM
open L2
/-! ### the layerings are the laid piles -/
theorem take_idx {q : List Nat} {x : Nat} (h : x ∈ q) (hn : q.Nodup) : q = ins (q.eraseIdx (q.idxOf x)) (q.idxOf x) x := by
  have hi : q.idxOf x < q.length := List.idxOf_lt_length_of_mem h
  unfold ins
  rw [List.eraseIdx_eq_take_drop_succ, List.take_append_of_le_length (by rw [List.length_take]; omega), List.take_take, Nat.min_self,
    List.drop_append_of_le_length (by rw [List.length_take]; omega), show List.drop (q.idxOf x) (List.take (q.idxOf x) q) = [] from by rw [List.drop_take]; simp, List.nil_append]
  have : q[q.idxOf x]'hi = x := List.getElem_idxOf hi
  conv => lhs; rw [← List.take_append_drop (q.idxOf x) q, List.drop_eq_getElem_cons hi, this]
theorem isPile_nodup {n q} (h : IsPile n q) : q.Nodup := (List.Perm.nodup_iff h).mpr List.nodup_range
theorem isPile_of_ins {n p i} (h : IsPile (n+1) (ins p i n)) : IsPile n p := by
  have h1 : (n :: p).Perm (List.range (n+1)) := (ins_perm p i n).symm.trans h
  have h2 : (n :: p).Perm (n :: List.range n) := h1.trans (by rw [List.range_succ]; exact List.perm_append_singleton n (List.range n))
  exact h2.cons_inv
theorem mem_lay_iff {L : List Nat} : ∀ {m : Nat} {q : List Nat}, q ∈ lay L m ↔ IsPile (m+1) q ∧ Laid L (m+1) (spot q) := by
  intro m q
  refine ⟨mem_lay, ?_⟩
  induction m generalizing q with
  | zero =>
    intro ⟨h, _⟩
    have : q = [0] := List.perm_singleton.mp h
    rw [this]; exact List.mem_singleton.mpr rfl
  | succ m ih =>
    intro ⟨h, hl⟩
    have hm : m + 1 ∈ q := (List.Perm.mem_iff h).mpr (List.mem_range.mpr (by omega))
    have e := take_idx hm (isPile_nodup h)
    have hi : q.idxOf (m+1) < q.length := List.idxOf_lt_length_of_mem hm
    have hl1 := h.len
    have hp : IsPile (m+1) (q.eraseIdx (q.idxOf (m+1))) := isPile_of_ins (i := q.idxOf (m+1)) (by rw [← e]; exact h)
    have hx : m + 1 ∉ q.eraseIdx (q.idxOf (m+1)) := fun h => by have := hp.lt h; omega
    have hl2 : Laid L (m+2) (spot (ins (q.eraseIdx (q.idxOf (m+1))) (q.idxOf (m+1)) (m+1))) := by rw [← e]; exact hl
    have := (laid_ins hx (by rw [hp.len]; omega)).mp hl2
    refine List.mem_flatMap.mpr ⟨_, ih ⟨hp, this.1⟩, List.mem_filter.mpr ⟨List.mem_map.mpr ⟨q.idxOf (m+1), List.mem_range.mpr (by rw [hp.len]; omega), e.symm⟩, laidB_iff.mpr hl⟩⟩
theorem ins_erase {p : List Nat} {i x : Nat} (hx : x ∉ p) : (ins p i x).erase x = p := by
  unfold ins
  rw [List.erase_append_right _ (fun h => hx (List.mem_of_mem_take h)), List.erase_cons_head, List.take_append_drop]
theorem nodup_lay (L : List Nat) : ∀ m, (lay L m).Nodup
  | 0 => by show [[0]].Nodup; simp
  | m + 1 => by
    show ((lay L m).flatMap _).Nodup
    have key : ∀ p ∈ lay L m, m + 1 ∉ p := fun p hp h => by have := (mem_lay hp).1.lt h; omega
    unfold List.Nodup
    rw [List.pairwise_flatMap]
    refine ⟨fun p hp => ?_, ?_⟩
    · refine List.Pairwise.sublist List.filter_sublist ?_
      unfold grow
      rw [List.pairwise_map]
      refine List.Pairwise.imp_of_mem ?_ (List.nodup_range (n := p.length + 1))
      intro a b ha hb hab e
      have ha' := List.mem_range.mp ha
      have hb' := List.mem_range.mp hb
      have := congrArg (fun q => spot q (m+1)) e
      simp only [spot_ins_self _ _ (key p hp) (show a ≤ p.length by omega), spot_ins_self _ _ (key p hp) (show b ≤ p.length by omega)] at this
      exact hab this
    · refine List.Pairwise.imp_of_mem ?_ (nodup_lay L m)
      intro a b ha hb hab x hx y hy e
      obtain ⟨i, _, rfl⟩ := List.mem_map.mp (List.mem_filter.mp hx).1
      obtain ⟨j, _, e2⟩ := List.mem_map.mp (List.mem_filter.mp hy).1
      have := congrArg (fun q => List.erase q (m+1)) (e.trans e2.symm)
      simp only [ins_erase (key a ha), ins_erase (key b hb)] at this
      exact hab this
/-! ### all piles -/
theorem codeN_snoc (h : List Nat) (k : Nat) : codeN (h ++ [k]) = codeN h * 16 + (k : Int) := by
  unfold codeN
  have : ∀ r : List Int, TS.code 16 (r ++ [(k : Int)]) = TS.code 16 r * 16 + (k : Int) := by
    intro r
    induction r with
    | nil => show (k : Int) * 16 ^ 0 + 0 = 0 * 16 + (k : Int); omega
    | cons d r ih =>
      show d * 16 ^ (r ++ [(k : Int)]).length + TS.code 16 (r ++ [(k : Int)]) = (d * 16 ^ r.length + TS.code 16 r) * 16 + (k : Int)
      rw [ih, List.length_append, show r.length + [(k : Int)].length = r.length + 1 from rfl, Int.pow_succ, Int.add_mul, Int.mul_assoc, Int.add_assoc]
  rw [← this]
  exact congrArg (TS.code 16) (List.map_append ..)
theorem mem_piles {n : Nat} : ∀ {l : Nat} {p : List Nat}, p ∈ piles n l ↔ p.length = l ∧ p.Nodup ∧ ∀ x ∈ p, x < n
  | 0, p => by
    constructor
    · intro h
      rw [List.mem_singleton.mp h]; simp
    · intro ⟨h, _⟩
      rw [List.length_eq_zero_iff.mp h]; exact List.mem_singleton.mpr rfl
  | l + 1, p => by
    constructor
    · intro h
      obtain ⟨q, hq, h2⟩ := List.mem_flatMap.mp h
      obtain ⟨k, hk, rfl⟩ := List.mem_map.mp h2
      obtain ⟨hk1, hk2⟩ := List.mem_filter.mp hk
      obtain ⟨h1, h2, h3⟩ := mem_piles.mp hq
      have hk3 : k ∉ q := fun h => by rw [show q.elem k = true from List.elem_eq_true_of_mem h] at hk2; cases hk2
      refine ⟨by simp [h1], ?_, fun x hx => ?_⟩
      · rw [List.nodup_append]
        refine ⟨h2, by simp, fun a ha b hb e => hk3 ?_⟩
        rw [List.mem_singleton.mp hb] at e
        exact e ▸ ha
      · rcases List.mem_append.mp hx with h | h
        · exact h3 x h
        · rw [List.mem_singleton.mp h]; exact List.mem_range.mp hk1
    · intro ⟨h1, h2, h3⟩
      have hne : p ≠ [] := fun e => by rw [e] at h1; cases h1
      have e := (List.dropLast_concat_getLast hne).symm
      rw [e] at h2
      obtain ⟨n1, _, n3⟩ := List.nodup_append.mp h2
      refine List.mem_flatMap.mpr ⟨p.dropLast, mem_piles.mpr ⟨by rw [List.length_dropLast]; omega, n1, fun x hx => h3 x (List.dropLast_subset _ hx)⟩, List.mem_map.mpr ⟨p.getLast hne, List.mem_filter.mpr ⟨List.mem_range.mpr (h3 _ (List.getLast_mem hne)), ?_⟩, e.symm⟩⟩
      have : p.getLast hne ∉ p.dropLast := fun h => n3 _ h _ (List.mem_singleton.mpr rfl) rfl
      cases c : p.dropLast.elem (p.getLast hne)
      · rfl
      · exact absurd (List.mem_of_elem_eq_true c) this
theorem piles_sorted {n : Nat} (hn : n ≤ 16) : ∀ l, (piles n l).Pairwise (fun a b => codeN a < codeN b)
  | 0 => by show [[]].Pairwise _; simp
  | l + 1 => by
    show ((piles n l).flatMap _).Pairwise _
    rw [List.pairwise_flatMap]
    refine ⟨fun p hp => ?_, ?_⟩
    · rw [List.pairwise_map]
      refine List.Pairwise.sublist List.filter_sublist (List.Pairwise.imp ?_ (List.pairwise_lt_range (n := n)))
      intro a b hab
      rw [codeN_snoc, codeN_snoc]; omega
    · refine List.Pairwise.imp ?_ (piles_sorted hn l)
      intro a b hab x hx y hy
      obtain ⟨i, hi, rfl⟩ := List.mem_map.mp hx
      obtain ⟨j, hj, rfl⟩ := List.mem_map.mp hy
      have := List.mem_range.mp (List.mem_filter.mp hi).1
      rw [codeN_snoc, codeN_snoc]; omega
theorem perm_sub {α : Type} [DecidableEq α] : ∀ {p r : List α}, p.Nodup → (∀ x ∈ p, x ∈ r) → r.length ≤ p.length → p.Perm r
  | [], r, _, _, h => by rw [List.length_eq_zero_iff.mp (Nat.le_zero.mp h)]
  | a :: p, r, hn, hs, hl => by
    obtain ⟨n1, n2⟩ := List.nodup_cons.mp hn
    have ha := hs a List.mem_cons_self
    have e := List.perm_cons_erase ha
    have hl2 := e.length_eq
    refine (List.Perm.cons a (perm_sub n2 (fun x hx => ?_) ?_)).trans e.symm
    · have hx2 := e.mem_iff.mp (hs x (List.mem_cons_of_mem _ hx))
      rcases List.mem_cons.mp hx2 with c | c
      · exact absurd (c ▸ hx) n1
      · exact c
    · simp only [List.length_cons] at hl hl2; omega
theorem isPile_iff {n p} : IsPile n p ↔ p.length = n ∧ p.Nodup ∧ ∀ x ∈ p, x < n := by
  constructor
  · intro h; exact ⟨h.len, isPile_nodup h, fun x hx => h.lt hx⟩
  · intro ⟨h1, h2, h3⟩
    exact perm_sub h2 (fun x hx => List.mem_range.mpr (h3 x hx)) (by rw [List.length_range, h1]; exact Nat.le_refl _)
theorem mem_every {L : List Nat} {p : List Nat} : p ∈ every L ↔ IsPile L.length p ∧ Laid L L.length (spot p) := by
  unfold every
  rw [List.mem_filter, mem_piles, laidB_iff, isPile_iff]
theorem every_sorted {L : List Nat} (h : L.length ≤ 16) : (every L).Pairwise (fun a b => codeN a < codeN b) :=
  List.Pairwise.sublist List.filter_sublist (piles_sorted h _)
theorem every_nodup {L : List Nat} (h : L.length ≤ 16) : (every L).Nodup := (every_sorted h).imp fun {a b} h e => by rw [e] at h; omega
theorem every_perm {L : List Nat} (h1 : 1 ≤ L.length) (h : L.length ≤ 16) : (every L).Perm (lay L (L.length - 1)) := by
  rw [List.perm_ext_iff_of_nodup (every_nodup h) (nodup_lay _ _)]
  intro p
  rw [mem_every, mem_lay_iff, show L.length - 1 + 1 = L.length from by omega]
theorem lay_rows {L : List Nat} {m : Nat} (h : m + 1 ≤ 16) : Rows (m+1) (lay L m) := fun r hr => by
  have := (mem_lay hr).1
  exact ⟨this.len, fun x hx => by have := this.lt hx; omega⟩
theorem every_srt {L : List Nat} (h1 : 1 ≤ L.length) (h : L.length ≤ 16) : srt (lay L (L.length - 1)) = every L :=
  (srt_uniq (every_perm h1 h) (lay_rows (by omega)) ((every_sorted h).imp fun h => by omega)).symm
theorem marked_folds {L : List Nat} {bs : List Bool} (h1 : 1 ≤ L.length) (h : L.length ≤ 16) : marked L bs = folds L bs := by
  unfold marked folds; rw [every_srt h1 h]
theorem every_len {L : List Nat} (h1 : 1 ≤ L.length) (h : L.length ≤ 16) : (every L).length = (lay L (L.length - 1)).length := (every_perm h1 h).length_eq
theorem folds_sem {L : List Nat} {bs : List Bool} (h1 : 1 ≤ L.length) (h : L.length ≤ 16) : Sem L bs = !(folds L bs).isEmpty := by
  rw [Bool.eq_iff_iff, Bool.not_eq_true', ← Bool.not_eq_true, List.isEmpty_iff]
  unfold Sem folds
  rw [List.any_eq_true, List.filter_eq_nil_iff]
  constructor
  · rintro ⟨q, hq, e⟩ hn
    exact hn q ((every_perm h1 h).mem_iff.mpr hq) e
  · intro hn
    apply Classical.byContradiction
    intro hc
    exact hn fun q hq e => hc ⟨q, (every_perm h1 h).mem_iff.mp hq, e⟩
/-! ### steps -/
theorem getD_mem {L : List Nat} {k : Nat} (h : k < L.length) : L.getD k 0 ∈ L := by
  rw [List.getD_eq_getElem?_getD, List.getElem?_eq_getElem h]; exact List.getElem_mem h
theorem mem_all_bs {bs : List Bool} {n : Nat} (h : bs.length + 1 = n) : bs ∈ allB (n - 1) := by
  have := mem_allB bs
  rwa [show n - 1 = bs.length by omega]
theorem sem_step {L : List Nat} {bs : List Bool} {s : Step} (hd : Dom L) (hb : bs.length + 1 = L.length) (hs : s ∈ stepList L bs) :
    Sem (after L bs s).1 (after L bs s).2 = Sem L bs := by
  obtain ⟨h1, h2, h3⟩ := after_ok hb hs
  rw [Sem_eq (show bs.length = L.length - 1 by omega), Sem_eq (show (after L bs s).2.length = (after L bs s).1.length - 1 by omega)]
  have hl := hd.look.2
  unfold look at hl
  rw [Bool.and_eq_true, Bool.and_eq_true, Bool.and_eq_true] at hl
  obtain ⟨l1, l2, l3, l4⟩ := hl
  have hm := mem_all_bs hb
  unfold stepList at hs
  rcases List.mem_append.mp hs with h | h
  · obtain ⟨k, hk, rfl⟩ := List.mem_map.mp h
    obtain ⟨hk1, hk2⟩ := List.mem_filter.mp hk
    rw [List.all_eq_true] at l3
    have := l3 k hk1
    unfold crimpOk at hk2
    rw [Bool.and_eq_true] at hk2
    rw [hk2.2, Bool.not_true, Bool.false_or] at this
    unfold crimpLook at this
    rw [List.all_eq_true] at this
    have := this bs hm
    rw [Bool.or_eq_true] at this
    rcases this with c | c
    · rw [bne_iff_ne] at hk2
      exact absurd (beq_iff_eq.mp c) hk2.1
    · exact beq_iff_eq.mp c
  · rcases List.mem_append.mp h with h | h
    · by_cases c : (Nat.blt 1 L.length && Nat.ble (L.getD 0 0) (L.getD 1 0)) = true
      · rw [if_pos c] at h
        rw [List.mem_singleton.mp h]
        rw [c, Bool.not_true, Bool.false_or] at l1
        unfold endLook at l1
        rw [List.all_eq_true] at l1
        exact beq_iff_eq.mp (l1 bs hm)
      · rw [if_neg c] at h; cases h
    · by_cases c : (Nat.blt 1 L.length && Nat.ble (L.getD (L.length-1) 0) (L.getD (L.length-2) 0)) = true
      · rw [if_pos c] at h
        rw [List.mem_singleton.mp h]
        rw [c, Bool.not_true, Bool.false_or] at l2
        unfold endLook at l2
        rw [List.all_eq_true] at l2
        exact beq_iff_eq.mp (l2 bs hm)
      · rw [if_neg c] at h; cases h
theorem sem_stuck {L : List Nat} {bs : List Bool} (hd : Dom L) (hb : bs.length + 1 = L.length) (hs : stepList L bs = []) : Sem L bs = Nat.beq L.length 1 := by
  rw [Sem_eq (show bs.length = L.length - 1 by omega)]
  have hl := hd.look.2
  unfold look at hl
  rw [Bool.and_eq_true, Bool.and_eq_true, Bool.and_eq_true] at hl
  obtain ⟨l1, l2, l3, l4⟩ := hl
  unfold stepList at hs
  obtain ⟨e1, e2⟩ := List.append_eq_nil_iff.mp hs
  obtain ⟨e3, e4⟩ := List.append_eq_nil_iff.mp e2
  have c1 : (Nat.blt 1 L.length && Nat.ble (L.getD 0 0) (L.getD 1 0)) = false := by
    cases c : (Nat.blt 1 L.length && Nat.ble (L.getD 0 0) (L.getD 1 0))
    · rfl
    · rw [if_pos c] at e3; cases e3
  have c2 : (Nat.blt 1 L.length && Nat.ble (L.getD (L.length-1) 0) (L.getD (L.length-2) 0)) = false := by
    cases c : (Nat.blt 1 L.length && Nat.ble (L.getD (L.length-1) 0) (L.getD (L.length-2) 0))
    · rfl
    · rw [if_pos c] at e4; cases e4
  rw [c1, c2, Bool.false_or, Bool.false_or, List.all_eq_true] at l4
  have := l4 bs (mem_all_bs hb)
  rw [Bool.or_eq_true] at this
  rcases this with c | c
  · rw [List.any_eq_true] at c
    obtain ⟨k, hk1, hk2⟩ := c
    have := List.map_eq_nil_iff.mp e1
    rw [List.filter_eq_nil_iff] at this
    exact absurd hk2 (this k hk1)
  · exact beq_iff_eq.mp c
theorem sum_le_app (a b : List Nat) : (a ++ b).sum = a.sum + b.sum := List.sum_append_nat ..
theorem crimp_split {L : List Nat} {k : Nat} (h : k + 2 < L.length) : L = L.take k ++ L.getD k 0 :: L.getD (k+1) 0 :: L.getD (k+2) 0 :: L.drop (k+3) := by
  have g : ∀ i, i < L.length → L.drop i = L.getD i 0 :: L.drop (i+1) := fun i hi => by
    rw [List.drop_eq_getElem_cons hi, List.getD_eq_getElem?_getD, List.getElem?_eq_getElem hi]; rfl
  conv => lhs; rw [← List.take_append_drop k L, g k (by omega), g (k+1) (by omega), g (k+2) (by omega)]
theorem after_mem {L : List Nat} {bs : List Bool} {s : Step} (hs : s ∈ stepList L bs) (x : Nat) (hx : x ∈ (after L bs s).1) :
    x ∈ L ∨ ∃ k, s = .crimp k ∧ k + 2 < L.length ∧ x = L.getD k 0 - L.getD (k+1) 0 + L.getD (k+2) 0 := by
  obtain ⟨h2, hk⟩ := mem_stepList hs
  cases s with
  | crimp k =>
    rcases List.mem_append.mp hx with h | h
    · exact .inl (List.mem_of_mem_take h)
    · rcases List.mem_cons.mp h with h | h
      · exact .inr ⟨k, rfl, (hk k rfl).1, h⟩
      · exact .inl (List.mem_of_mem_drop h)
  | fst => exact .inl (List.mem_of_mem_drop hx)
  | lst => exact .inl (List.dropLast_subset _ hx)
theorem after_sum {L : List Nat} {bs : List Bool} {s : Step} (hs : s ∈ stepList L bs) : (after L bs s).1.sum ≤ L.sum := by
  obtain ⟨h2, hk⟩ := mem_stepList hs
  cases s with
  | crimp k =>
    obtain ⟨k1, k2, k3, _⟩ := hk k rfl
    have e := congrArg List.sum (crimp_split k1)
    show (L.take k ++ _ :: L.drop (k+3)).sum ≤ _
    rw [sum_le_app, List.sum_cons] at e ⊢
    rw [List.sum_cons, List.sum_cons] at e
    rw [e]; omega
  | fst =>
    show (L.drop 1).sum ≤ _
    have := sum_le_app (L.take 1) (L.drop 1)
    rw [List.take_append_drop] at this; omega
  | lst =>
    show L.dropLast.sum ≤ _
    have := sum_le_app L.dropLast (L.drop (L.length - 1))
    rw [List.dropLast_eq_take, List.take_append_drop] at this
    rw [List.dropLast_eq_take]; omega
theorem after_strip {L : List Nat} {bs : List Bool} {s : Step} (h : Strip L) (hb : bs.length + 1 = L.length) (hs : s ∈ stepList L bs) : Strip (after L bs s).1 := by
  obtain ⟨h1, h2, h3⟩ := after_ok hb hs
  refine ⟨h1, by have := h.few; omega, fun x hx => ?_, Nat.le_trans (after_sum hs) h.sum⟩
  rcases after_mem hs x hx with e | ⟨k, rfl, hk, rfl⟩
  · exact h.one x e
  · have := h.one _ (getD_mem hk)
    omega
theorem after_dom {L : List Nat} {bs : List Bool} {s : Step} (h : Dom L) (hb : bs.length + 1 = L.length) (hs : s ∈ stepList L bs) : Dom (after L bs s).1 := by
  obtain ⟨h1, h2, h3⟩ := after_ok hb hs
  have hf := h.few
  have hcl : ∀ k, s = .crimp k → (after L bs s).1.length + 2 = L.length := fun k e => by
    subst e
    have := ((mem_stepList hs).2 k rfl).1
    simp only [after, List.length_append, List.length_cons, List.length_take, List.length_drop]
    omega
  refine ⟨h1, by omega, fun x hx => ?_, fun hl x hx => ?_, fun hl x hx => ?_⟩
  · rcases after_mem hs x hx with e | ⟨k, rfl, hk, rfl⟩
    · exact h.one x e
    · have := h.one _ (getD_mem hk)
      omega
  · rcases after_mem hs x hx with e | ⟨k, rfl, hk, rfl⟩
    · exact h.four (by omega) x e
    · have := hcl k rfl; omega
  · rcases after_mem hs x hx with e | ⟨k, rfl, hk, rfl⟩
    · exact h.seven (by omega) x e
    · have := hcl k rfl
      have f := h.four (by omega)
      have a1 := f _ (getD_mem (show k < L.length by omega))
      have a2 := f _ (getD_mem hk)
      have a3 := h.one _ (getD_mem (show k + 1 < L.length by omega))
      have a4 := ((mem_stepList hs).2 k rfl).2.1
      omega
theorem walk_sem : ∀ (f : Nat) {L : List Nat} {bs : List Bool}, Dom L → bs.length + 1 = L.length → L.length ≤ f → Nat.beq (walk f L bs).2.length 1 = Sem L bs
  | 0, L, bs, hd, hb, hf => by have := hd.pos; omega
  | f + 1, L, bs, hd, hb, hf => by
    cases c : stepList L bs with
    | nil => rw [walk_nil c, sem_stuck hd hb c]
    | cons s r =>
      have hs : s ∈ stepList L bs := by rw [c]; exact List.mem_cons_self
      obtain ⟨h1, h2, h3⟩ := after_ok hb hs
      rw [walk_cons c]
      show Nat.beq (walk f _ _).2.length 1 = _
      rw [walk_sem f (after_dom hd hb hs) h3 (by omega), sem_step hd hb hs]
theorem fold_sem {L : List Nat} {bs : List Bool} (hd : Dom L) (hb : bs.length + 1 = L.length) : fold L bs = Sem L bs := walk_sem _ hd hb (Nat.le_refl _)
/-- where drawn steps may end -/
inductive Drawn : List Nat → List Bool → Nat → Prop
  | stop {L bs} : stepList L bs = [] → Drawn L bs L.length
  | go {L bs s n} : s ∈ stepList L bs → Drawn (after L bs s).1 (after L bs s).2 n → Drawn L bs n
theorem drawn_sem {L : List Nat} {bs : List Bool} {n : Nat} (h : Drawn L bs n) (hd : Dom L) (hb : bs.length + 1 = L.length) : Nat.beq n 1 = Sem L bs := by
  induction h with
  | stop c => rw [sem_stuck hd hb c]
  | go hs _ ih =>
    rw [ih (after_dom hd hb hs) (after_ok hb hs).2.2, sem_step hd hb hs]
/-! ### stamps -/
theorem told_lay : ∀ n ∈ List.range 5, ∀ bs ∈ allB n, told bs n = (layN (List.replicate (n+1) 3) n).filter (fun q => marksN q (n+1) == bs) := by decide +kernel
theorem told_few : ∀ n ∈ List.range 5, ∀ bs ∈ allB n, ∀ m ∈ List.range (n+1), (told bs m).length < 64 := by decide +kernel
theorem stamps {bs : List Bool} (h : bs.length < 5) : srt (told bs bs.length) = folds (List.replicate (bs.length + 1) 3) bs := by
  have e := told_lay bs.length (List.mem_range.mpr h) bs (mem_allB bs)
  have l : (List.replicate (bs.length + 1) 3).length = bs.length + 1 := List.length_replicate
  rw [← layN_eq, show (fun q => marksN q (bs.length + 1) == bs) = fun q => marksOf (bs.length + 1) q == bs from funext fun q => by rw [marksN_eq]] at e
  rw [← marked_folds (by rw [l]; omega) (by rw [l]; omega)]
  unfold marked
  rw [l, Nat.add_sub_cancel, e]
  symm
  refine srt_uniq (n := bs.length + 1) ((srt_perm _).filter _) (fun r hr => lay_rows (by omega) r (List.mem_filter.mp hr).1) (List.Pairwise.sublist List.filter_sublist (srt_pw _))
theorem stamps_few {bs : List Bool} (h : bs.length < 5) : ∀ m, m ≤ bs.length → (told bs m).length < 64 := fun m hm =>
  told_few bs.length (List.mem_range.mpr h) bs (mem_allB bs) m (List.mem_range.mpr (by omega))
end FW.MM
set_option maxRecDepth 100000
set_option maxHeartbeats 4000000
/-! D9: the law's own defs that draw nothing. -/
namespace FW
open PySem PySem.Spec PyProof.Rows L2 Evl
section
variable {P : Program} {w : World} {K : PySem.W.Frag} {mg : Str → Option Value} {base : Heap}
def G_Lstr : List PyData → PyData → Prop := fun ds d => ∃ L : List Nat, ds = [dN L] ∧ L.length ≤ 1000 ∧ d = .list ((List.range L.length).map (stD L))
theorem pt_succ (L : List Nat) (i : Nat) : pt L (i+1) = pt L i + (if i % 2 = 0 then (L.getD i 0 : Int) else 0 - (L.getD i 0 : Int)) := by
  show pt L i + (if i % 2 = 0 then (L.getD i 0 : Int) else -(L.getD i 0 : Int)) = _
  split <;> omega
theorem c_Lstr (D : Df K mg "_law_stretches" s_Lstretches) (T : BT mg) : Cal P w K mg base 1 "_law_stretches" ["_law_sizes"] (spD K G_Lstr) := by
  refine D.cal (fun _ _ _ _ _ _ us hl => match us, hl with | [_], _ => rfl) fun f fd F => ?_
  refine okD F sc_Lstretches (fun ds d ⟨i, h, _⟩ => by rw [h]; rfl) fun cdv A outer s H vs Q E ds d hr hv hG hQ => ?_
  obtain ⟨L, rfl, hz, rfl⟩ := hG
  obtain ⟨v, rfl, h0⟩ := dpa1 hv
  have nd := sc_Lstretches.nd
  refine ss_cons (s_par 1 2 nd rfl st_dt w_int (P2 := fun _ H1 => newL _ H1 []) (fun _ H1 e1 _ => w_lstN wd_nil (by simp)) fun av u H1 H2 e1 ha e2 ⟨l, ws, el, fl, hl1, hl2⟩ => ?_)
  subst el
  cases ha
  have fl0 : H l = none := fresh_back e1 fl
  have e12 := e1.trans e2
  have hL : LstAt K H2 l ((List.range 0).map (stD L)) := ⟨ws, hl1, hl2, rfl⟩
  refine ss_cons (s_forR1 3 (n := L.length) T nd rfl (w_len T (w_v 0 (h0.ex e12)) (dN_len L)) (by omega) fun H3 e3 => ⟨fun i σ' H' => Ex H H' ∧ LstAt K H' l ((List.range i).map (stD L)) ∧ ∃ y3 y4, σ' = [some v, some (.int (pt L i)), some (.ref l), y3, y4],
    ⟨e12.trans e3, hL.ex e3, none, none, rfl⟩, fun i σ' H' hin ⟨ex, hl, y3, y4, hσ⟩ => ?_, fun σ' H' ⟨ex, hl, y3, y4, hσ⟩ => ?_⟩)
  · subst hσ
    have hi : Dq K H' (.int (i : Int)) (.int (i : Int)) := .int _
    have hp : Dq K H' (.int (pt L i)) (.int (pt L i)) := .int _
    have h0' := h0.ex ex
    refine ss_cons (s_set 4 nd (Wd.is (w_add (w_v 1 hp) (w_if (P := fun v H => Dq K H v (.int (if i % 2 = 0 then (L.getD i 0 : Int) else 0 - (L.getD i 0 : Int)))) (wt_eqi (w_mod (w_toInt T (w_v 3 hi)) w_int (by decide)) w_int) (fun h => ?_) fun h => ?_)) (congrArg PyData.int (pt_succ L i).symm)) fun fv H4 e4 hf => ?_)
    · have h' : ((i : Int) % 2) = 0 := of_decide_eq_true h
      rw [if_pos (by omega)]
      exact w_ixT (w_v 0 h0') (w_v 3 hi) (atI_nat (dN_at hin))
    · have h' : ¬ ((i : Int) % 2) = 0 := of_decide_eq_false h
      rw [if_neg (by omega)]
      exact w_sub w_int (w_ixT (w_v 0 h0') (w_v 3 hi) (atI_nat (dN_at hin)))
    · cases hf
      have hp4 : Dq K H4 (.int (pt L i)) (.int (pt L i)) := .int _
      have hq4 : Dq K H4 (.int (pt L (i+1))) (.int (pt L (i+1))) := .int _
      refine ss_cons (s_app (w_is 2) (hl.ex e4) (d := stD L i) (w_tup (wd_cons (w_min2 T rfl (w_v 1 hp4) (w_v 4 hq4)) (wd_cons (w_max2 T rfl (w_v 1 hp4) (w_v 4 hq4)) wd_nil)) (by simp)) rfl (by simp; omega) fun H5 hl5 hx5 => ?_)
      have hq5 : Dq K H5 (.int (pt L (i+1))) (.int (pt L (i+1))) := .int _
      refine ss_cons (s_set 1 nd (w_v 4 hq5) fun gv H6 e6 hg => ?_)
      cases hg
      refine ss_nil ⟨(hx5 H (ex.trans e4) fl0).trans e6, ?_, _, _, rfl⟩
      rw [List.range_succ, List.map_append]
      exact hl5.ex e6
  · subst hσ
    exact ss_cons (s_ret (w_v 2 hl.dq) fun u H3 e3 q => hQ u H3 (ex.trans e3) q)
def ptD (L : List Nat) (k : Nat) : PyData := .int (pt L (k+1))
def G_Lpts : List PyData → PyData → Prop := fun ds d => ∃ L : List Nat, ds = [dN L] ∧ 1 ≤ L.length ∧ L.length ≤ 1000 ∧ d = .list ((List.range (L.length - 1)).map (ptD L))
theorem c_Lpts (D : Df K mg "_law_points" s_Lpoints) (T : BT mg) : Cal P w K mg base 1 "_law_points" ["_law_sizes"] (spD K G_Lpts) := by
  refine D.cal (fun _ _ _ _ _ _ us hl => match us, hl with | [_], _ => rfl) fun f fd F => ?_
  refine okD F sc_Lpoints (fun ds d ⟨i, h, _⟩ => by rw [h]; rfl) fun cdv A outer s H vs Q E ds d hr hv hG hQ => ?_
  obtain ⟨L, rfl, hz1, hz, rfl⟩ := hG
  obtain ⟨v, rfl, h0⟩ := dpa1 hv
  have nd := sc_Lpoints.nd
  refine ss_cons (s_par 1 2 nd rfl st_dt w_int (P2 := fun _ H1 => newL _ H1 []) (fun _ H1 e1 _ => w_lstN wd_nil (by simp)) fun av u H1 H2 e1 ha e2 ⟨l, ws, el, fl, hl1, hl2⟩ => ?_)
  subst el
  cases ha
  have fl0 : H l = none := fresh_back e1 fl
  have e12 := e1.trans e2
  have hL : LstAt K H2 l ((List.range 0).map (ptD L)) := ⟨ws, hl1, hl2, rfl⟩
  refine ss_cons (s_forR1 3 (n := L.length - 1) T nd rfl (Wd.is (w_sub (w_len T (w_v 0 (h0.ex e12)) (dN_len L)) w_int) (congrArg PyData.int (by omega))) (by omega) fun H3 e3 => ⟨fun i σ' H' => Ex H H' ∧ LstAt K H' l ((List.range i).map (ptD L)) ∧ ∃ y3, σ' = [some v, some (.int (pt L i)), some (.ref l), y3],
    ⟨e12.trans e3, hL.ex e3, none, rfl⟩, fun i σ' H' hin ⟨ex, hl, y3, hσ⟩ => ?_, fun σ' H' ⟨ex, hl, y3, hσ⟩ => ?_⟩)
  · subst hσ
    have hi : Dq K H' (.int (i : Int)) (.int (i : Int)) := .int _
    have hp : Dq K H' (.int (pt L i)) (.int (pt L i)) := .int _
    have h0' := h0.ex ex
    refine ss_cons (s_set 1 nd (Wd.is (w_add (w_v 1 hp) (w_if (P := fun v H => Dq K H v (.int (if i % 2 = 0 then (L.getD i 0 : Int) else 0 - (L.getD i 0 : Int)))) (wt_eqi (w_mod (w_toInt T (w_v 3 hi)) w_int (by decide)) w_int) (fun h => ?_) fun h => ?_)) (congrArg PyData.int (pt_succ L i).symm)) fun fv H4 e4 hf => ?_)
    · have h' : ((i : Int) % 2) = 0 := of_decide_eq_true h
      rw [if_pos (by omega)]
      exact w_ixT (w_v 0 h0') (w_v 3 hi) (atI_nat (dN_at (by omega)))
    · have h' : ¬ ((i : Int) % 2) = 0 := of_decide_eq_false h
      rw [if_neg (by omega)]
      exact w_sub w_int (w_ixT (w_v 0 h0') (w_v 3 hi) (atI_nat (dN_at (by omega))))
    · cases hf
      have hq4 : Dq K H4 (.int (pt L (i+1))) (.int (pt L (i+1))) := .int _
      refine ss_cons (s_app (w_is 2) (hl.ex e4) (d := ptD L i) (w_v 1 hq4) rfl (by simp; omega) fun H5 hl5 hx5 => ?_)
      refine ss_nil ⟨hx5 H (ex.trans e4) fl0, ?_, _, rfl⟩
      rw [List.range_succ, List.map_append]
      exact hl5
  · subst hσ
    exact ss_cons (s_ret (w_v 2 hl.dq) fun u H3 e3 q => hQ u H3 (ex.trans e3) q)
theorem ptD_at {L : List Nat} {k m : Nat} (h : k < m) : atI ((List.range m).map (ptD L)) (k : Int) = some (.int (pt L (k+1))) :=
  atI_nat (by rw [List.getElem?_map, List.getElem?_range h]; rfl)
theorem stD_at {L : List Nat} {k m : Nat} (h : k < m) : atI ((List.range m).map (stD L)) (k : Int) = some (stD L k) :=
  atI_nat (by rw [List.getElem?_map, List.getElem?_range h]; rfl)
def G_Llies : List PyData → PyData → Prop := fun ds d => ∃ L p : List Nat, ds = [dN L, dN p] ∧ Pile p ∧ p.length = L.length ∧ 1 ≤ L.length ∧ L.length ≤ 100 ∧ d = .bool (laidB L L.length (spot p))
theorem c_Llies (D : Df K mg "_law_lies" s_Llies) (T : BT mg) (C1 : Cal P w K mg base 1 "_law_stretches" ["_law_sizes"] (spD K G_Lstr)) (C2 : Cal P w K mg base 1 "_law_points" ["_law_sizes"] (spD K G_Lpts)) :
    Cal P w K mg base 2 "_law_lies" ["_law_sizes", "_law_pile"] (spD K G_Llies) := by
  refine D.cal (fun _ _ _ _ _ _ us hl => match us, hl with | [_, _], _ => rfl) fun f fd F => ?_
  refine okD F sc_Llies (fun ds d ⟨L, p, h, _⟩ => by rw [h]; rfl) fun cdv A outer s0 H vs Q E ds d hr hv hG hQ => ?_
  obtain ⟨L, p, rfl, hpile, hpl, hz1, hz2, rfl⟩ := hG
  obtain ⟨v, u, rfl, h0, h1⟩ := dpa2 hv
  have nd := sc_Llies.nd
  refine ss_cons (s_par 2 3 nd rfl st_dt (w_C C1 hr (wd_cons (w_v 0 h0) wd_nil) ⟨L, rfl, by omega, rfl⟩) (P2 := fun _ _ => dt _ _) (fun _ H1 e1 _ => w_C C2 hr (wd_cons (w_v 0 (h0.ex e1)) wd_nil) ⟨L, rfl, hz1, by omega, rfl⟩) fun lv pv H1 H2 e1 hlots e2 hpts => ?_)
  replace hlots := hlots.ex e2
  have e12 := e1.trans e2
  refine ss_cons (s_lc 4 5 nd rfl (as := List.range p.length) (ι := fun i : Nat => .int (i : Int)) (g := fun k => .int (spot p k : Int)) (src_rng T (w_len T (w_v 1 (h1.ex e12)) (dN_len p)) (by omega)) (by rw [List.length_range]; omega) (fun _ _ => rfl)
    (fun k hk v2 H3 e3 hv2 s0 H0 C cl fp => w_idx hpile (w_v 1 (h1.ex (e12.trans e3))) (w_v 5 hv2) (List.mem_range.mp hk)) (fun sv H3 e3 ⟨q, ws, es, fq, hq1, hq2⟩ => ?_) (blkOk_by (N := n_Llies) (sc := defScope s_Llies) (by decide +kernel)) rfl)
  subst es
  have hs : Dq K H3 (.ref q) (spD' L.length (spot p)) := by
    have : Dq K H3 (.ref q) (.list ((List.range p.length).map fun k => .int (spot p k : Int))) := .lst (sq_of hq1) hq2
    rw [hpl] at this
    exact this
  clear hq1 hq2
  replace hlots := hlots.ex e3
  replace hpts := hpts.ex e3
  have e13 := e12.trans e3
  generalize hsp : spot p = s at hs hQ ⊢
  refine ss_cons (s_forR1 5 (n := L.length - 1) T nd rfl (w_len T (w_v 3 hpts) (by show some _ = _; rw [List.length_map, List.length_range])) (by omega) fun H4 e4 => ⟨fun i σ' H' => Ex H3 H' ∧ (∀ k, k < i → ∀ j, j < L.length → ¬ PierceAt L s k j) ∧ (∀ k, k < i → ∀ j, k < j → j + 1 < L.length → j % 2 = k % 2 → ¬ CrossAt L s k j ∧ ¬ CrossAt L s j k) ∧ ∃ y5 y6 y7 y8 y9 y10 y11, σ' = [some v, some u, some lv, some pv, some (.ref q), y5, y6, y7, y8, y9, y10, y11],
    ⟨e4, fun k hk => absurd hk (Nat.not_lt_zero k), fun k hk => absurd hk (Nat.not_lt_zero k), none, none, none, none, none, none, none, rfl⟩, fun i σ' H' hin ⟨ex, hno, hnc, y5, y6, y7, y8, y9, y10, y11, hσ⟩ => ?_, fun σ' H' ⟨ex, hno, hnc, y5, y6, y7, y8, y9, y10, y11, hσ⟩ => ?_⟩)
  · subst hσ
    have hi' : Dq K H' (.int (i : Int)) (.int (i : Int)) := .int _
    have hs' := hs.ex ex
    refine ss_cons (s_unl 6 7 nd rfl (w_sort2 T (w_ixL (w_v 4 hs') (w_v 5 hi') (sp_at (by omega))) (w_ixL (w_v 4 hs') (w_add (w_v 5 hi') w_int) (sp_at (k := i + 1) (by omega)))) fun lov hiv H5 e5 hlo hhi => ?_)
    refine ss_cons (s_forR1 8 (n := L.length) T nd rfl (Wd.is (w_len T (w_v 1 (h1.ex (e13.trans (ex.trans e5)))) (dN_len p)) (congrArg (fun n : Nat => PyData.int (n : Int)) hpl)) (by omega) fun H6 e6 => ⟨fun m σ' H' => Ex H5 H' ∧ (∀ j, j < m → ¬ PierceAt L s i j) ∧ ∃ y8, σ' = [some v, some u, some lv, some pv, some (.ref q), some (.int (i : Int)), some lov, some hiv, y8, y9, y10, y11],
      ⟨e6, fun k hk => absurd hk (Nat.not_lt_zero k), y8, rfl⟩, fun m σ' H7 hm ⟨ex7, hno2, y8, hσ⟩ => ?_, fun σ' H7 ⟨ex7, hno2, y8, hσ⟩ => ?_⟩)
    · subst hσ
      have e57 : Ex H' H7 := e5.trans ex7
      have hs7 := hs'.ex e57
      have hlo7 := hlo.ex ex7
      have hhi7 := hhi.ex ex7
      have hp7 := hpts.ex (ex.trans e57)
      have hl7 := hlots.ex (ex.trans e57)
      have hm7 : Dq K H7 (.int (m : Int)) (.int (m : Int)) := .int _
      have hi7 : Dq K H7 (.int (i : Int)) (.int (i : Int)) := .int _
      refine ss_cons (s_if (wt_and (w_chT op_lt op_lt (w_v 6 hlo7) (w_ixL (w_v 4 hs7) (w_v 8 hm7) (sp_at hm)) (w_v 7 hhi7)) fun _ => w_chT op_lt op_lt (w_ixT (d := .int (lo L m)) (w_ixL (w_v 2 hl7) (w_v 8 hm7) (stD_at hm)) w_int (atI_nat (j := 0) rfl)) (w_ixL (w_v 3 hp7) (w_v 5 hi7) (ptD_at hin)) (w_ixT (d := .int (hi L m)) (w_ixL (w_v 2 hl7) (w_v 8 hm7) (stD_at hm)) w_int (atI_nat (j := 1) rfl))) (fun h H8 e8 => ?_) fun h H8 e8 => ?_)
      · have hP : PierceAt L s i m := by
          simp only [Bool.and_eq_true, decide_eq_true_eq] at h
          obtain ⟨⟨a1, a2⟩, a3, a4⟩ := h
          exact ⟨⟨by omega, by omega⟩, a3, a4⟩
        have : laidB L L.length s = false := laidB_f fun hl => hl.1 ⟨i, m, by omega, hm, hP⟩
        rw [this] at hQ
        exact ss_cons (s_ret w_bl fun z H9 e9 q => hQ z H9 (e13.trans (ex.trans (e57.trans (e8.trans e9)))) q)
      · refine ss_nil (ss_nil ⟨ex7.trans e8, fun j hj hP => ?_, _, rfl⟩)
        by_cases hjt : j < m
        · exact hno2 j hjt hP
        · have : j = m := by omega
          subst this
          obtain ⟨⟨a1, a2⟩, a3, a4⟩ := hP
          have h' := h
          simp only [Bool.and_eq_false_iff, decide_eq_false_iff_not] at h'
          omega
    · subst hσ
      have e57 : Ex H' H7 := e5.trans ex7
      have hs7 := hs'.ex e57
      have hi7 : Dq K H7 (.int (i : Int)) (.int (i : Int)) := .int _
      have hp7 := hpts.ex (ex.trans e57)
      refine ss_cons (s_forS 9 nd rfl (src_rng3 T (lo := i + 2) (hi := L.length - 1) (Wd.is (w_add (w_v 5 hi7) w_int) (congrArg PyData.int (by omega))) (w_len T (w_v 3 hp7) (by show some _ = _; rw [List.length_map, List.length_range])) w_int (by omega) (by omega)) fun H8 e8 => ⟨fun m σ' H' => Ex H8 H' ∧ (∀ t, t < m → ¬ CrossAt L s i (i + 2 + 2 * t) ∧ ¬ CrossAt L s (i + 2 + 2 * t) i) ∧ ∃ y9 y10 y11, σ' = [some v, some u, some lv, some pv, some (.ref q), some (.int (i : Int)), some lov, some hiv, y8, y9, y10, y11],
        ⟨Ex.refl _, fun k hk => absurd hk (Nat.not_lt_zero k), y9, y10, y11, rfl⟩, fun n σ' H' h => h.1, fun m nv t σ' H9 ht hn ⟨ex9, hno9, y9, y10, y11, hσ⟩ => ?_, fun σ' H9 ⟨ex9, hno9, y9, y10, y11, hσ⟩ => ?_⟩)
      · subst hσ
        have hm : m < cnt2 (i + 2) (L.length - 1) := by
          have := (List.getElem?_eq_some_iff.mp ht).1
          rw [List.length_map, List.length_range] at this
          exact this
        have et : t = i + 2 + 2 * m := by
          rw [List.getElem?_map, List.getElem?_range hm] at ht
          exact (Option.some.inj ht).symm
        have ht1 : t + 1 < L.length := by have := cnt2_in hm; omega
        have e59 : Ex H' H9 := e57.trans (e8.trans ex9)
        have hs9 := hs'.ex e59
        have hp9 := hpts.ex (ex.trans e59)
        have hi9 : Dq K H9 (.int (i : Int)) (.int (i : Int)) := .int _
        refine ss_cons (s_unl 10 11 nd rfl (w_sort2 T (w_ixL (w_v 4 hs9) (w_v 9 hn) (sp_at (by omega))) (w_ixL (w_v 4 hs9) (w_add (w_v 9 hn) w_int) (sp_at (k := t + 1) (by omega)))) fun cv dv H10 e10 hc hd => ?_)
        have hlo9 := hlo.ex (ex7.trans (e8.trans (ex9.trans e10)))
        have hhi9 := hhi.ex (ex7.trans (e8.trans (ex9.trans e10)))
        refine ss_cons (s_if (wt_and (wt_eqi (w_ixL (w_v 3 (hp9.ex e10)) (w_v 9 (hn.ex e10)) (ptD_at (by omega))) (w_ixL (w_v 3 (hp9.ex e10)) (w_v 5 (hi9.ex e10)) (ptD_at hin))) fun _ => wt_or (w_ch3T (w_v 6 hlo9) (w_v 10 hc) (w_v 7 hhi9) (w_v 11 hd)) fun _ => w_ch3T (w_v 10 hc) (w_v 6 hlo9) (w_v 11 hd) (w_v 7 hhi9)) (fun h H11 e11 => ?_) fun h H11 e11 => ?_)
        · have hP : CrossAt L s i t ∨ CrossAt L s t i := by
            simp only [Bool.and_eq_true, Bool.or_eq_true, decide_eq_true_eq] at h
            obtain ⟨a0, ⟨a1, a2, a3⟩ | ⟨a1, a2, a3⟩⟩ := h
            · exact .inl ⟨a0.symm, by omega, by omega, by omega⟩
            · exact .inr ⟨a0, by omega, by omega, by omega⟩
          have : laidB L L.length s = false := laidB_f fun hl => by
            rcases hP with hP | hP
            · exact hl.2 ⟨i, t, by omega, ht1, by omega, hP⟩
            · exact hl.2 ⟨t, i, ht1, by omega, by omega, hP⟩
          rw [this] at hQ
          exact ss_cons (s_ret w_bl fun z H12 e12' q => hQ z H12 (e13.trans (ex.trans (e59.trans (e10.trans (e11.trans e12'))))) q)
        · refine ss_nil (ss_nil ⟨ex9.trans (e10.trans e11), fun k hk => ?_, _, _, _, rfl⟩)
          by_cases hkm : k < m
          · exact hno9 k hkm
          · have : k = m := by omega
            subst this
            rw [← et]
            have h' := h
            simp only [Bool.and_eq_false_iff, Bool.or_eq_false_iff, decide_eq_false_iff_not] at h'
            constructor
            · rintro ⟨a0, a1, a2, a3⟩; omega
            · rintro ⟨a0, a1, a2, a3⟩; omega
      · subst hσ
        rw [List.length_map, List.length_range] at hno9
        refine ss_nil ⟨ex.trans (e57.trans (e8.trans ex9)), fun k hk j hj => ?_, fun k hk j hkj hj hpar => ?_, _, _, _, _, _, _, _, rfl⟩
        · by_cases hki : k < i
          · exact hno k hki j hj
          · have : k = i := by omega
            subst this
            exact hno2 j hj
        · by_cases hki : k < i
          · exact hnc k hki j hkj hj hpar
          · have : k = i := by omega
            subst this
            obtain ⟨t, ht, rfl⟩ := cnt2_all (lo := k + 2) (n := L.length - 1) (j := j) (by omega) (by omega) (by omega)
            exact hno9 t ht
  · subst hσ
    have : laidB L L.length s = true := by
      refine laidB_t ⟨?_, ?_⟩
      · rintro ⟨k, j, hk, hj, hP⟩
        exact hno k (by omega) j hj hP
      · rintro ⟨k, j, hk, hj, hpar, hP⟩
        by_cases h1 : k < j
        · exact (hnc k (by omega) j h1 hj hpar).1 hP
        · by_cases h2 : j < k
          · exact (hnc j (by omega) k h2 hk hpar.symm).2 hP
          · have : k = j := by omega
            subst this
            obtain ⟨a0, a1, a2, a3⟩ := hP
            omega
    rw [this] at hQ
    exact ss_cons (s_ret w_bl fun z H9 e9 q => hQ z H9 (e13.trans (ex.trans e9)) q)
end
end FW
set_option maxRecDepth 100000
set_option maxHeartbeats 4000000
/-! D10: the law's marks and piles. -/
namespace FW
open PySem PySem.Spec PyProof.Rows L2 Evl
section
variable {P : Program} {w : World} {K : PySem.W.Frag} {mg : Str → Option Value} {base : Heap}
def G_Lmarks : List PyData → PyData → Prop := fun ds d => ∃ p : List Nat, ds = [dN p] ∧ Pile p ∧ 1 ≤ p.length ∧ p.length ≤ 100 ∧ d = .str (mstr (marksOf p.length p))
theorem c_Lmarks (D : Df K mg "_law_marks" s_Lmarks) (T : BT mg) : Cal P w K mg base 1 "_law_marks" ["_law_pile"] (spD K G_Lmarks) := by
  refine D.cal (fun _ _ _ _ _ _ us hl => match us, hl with | [_], _ => rfl) fun f fd F => ?_
  refine okD F sc_Lmarks (fun ds d ⟨i, h, _⟩ => by rw [h]; rfl) fun cdv A outer s0 H vs Q E ds d hr hv hG hQ => ?_
  obtain ⟨p, rfl, hp, hz1, hz, rfl⟩ := hG
  obtain ⟨v, rfl, h0⟩ := dpa1 hv
  have nd := sc_Lmarks.nd
  refine ss_cons (s_par 1 2 nd rfl st_dt (P1 := dt _ (spD' p.length (spot p))) (newL_dt (w_lc 3 nd rfl (as := List.range p.length) (ι := fun i : Nat => .int (i : Int)) (g := fun k => .int (spot p k : Int)) (src_rng T (w_len T (w_v 0 h0) (dN_len p)) (by omega)) (by rw [List.length_range]; omega) (fun _ _ => rfl)
    (fun k hk v2 H3 e3 hv2 s0 H0 C cl fp => w_idx hp (w_v 0 (h0.ex e3)) (w_v 3 hv2) (List.mem_range.mp hk)) (blkOk_by (N := n_Lmarks) (sc := defScope s_Lmarks) (by decide +kernel)))) (P2 := fun _ _ => dt _ (.str (mstr []))) (fun _ H1 e1 _ => w_str) fun sva fv H1 H2 e1 hs e2 hf => ?_)
  replace hs := hs.ex e2
  have e12 := e1.trans e2
  refine ss_cons (s_forR1 3 (n := p.length - 1) T nd rfl (Wd.is (w_sub (w_len T (w_v 0 (h0.ex e12)) (dN_len p)) w_int) (congrArg PyData.int (by omega))) (by omega) fun H3 e3 => ⟨fun i σ' H' => Ex H2 H' ∧ ∃ f y3 y4, Dq K H' f (.str (mstr ((List.range i).map (markAt p)))) ∧ σ' = [some v, some sva, some f, y3, y4],
    ⟨e3, fv, none, none, hf.ex e3, rfl⟩, fun i σ' H' hin ⟨ex, f, y3, y4, hf, hσ⟩ => ?_, fun σ' H' ⟨ex, f, y3, y4, hf, hσ⟩ => ?_⟩)
  · subst hσ
    have hi : Dq K H' (.int (i : Int)) (.int (i : Int)) := .int _
    have hs' := hs.ex ex
    refine ss_cons (s_set 4 nd (w_lt (w_ixL (w_v 1 hs') (w_add (w_v 3 hi) w_int) (sp_at (k := i + 1) (by omega))) (w_ixL (w_v 1 hs') (w_v 3 hi) (sp_at (by omega)))) fun b H4 e4 hb => ?_)
    refine ss_cons (s_set 2 nd (Wd.is (w_adds (w_v 2 (hf.ex e4)) (w_if (P := fun v H => Dq K H v (.str (sign (markAt p i)))) (wt_eqb (w_v 4 hb) (w_eqi (w_mod (w_toInt T (w_v 3 (hi.ex e4))) w_int (by decide)) w_int)) (fun h => ?_) fun h => ?_) ?_) (congrArg PyData.str (mstr_app _ _))) fun g H5 e5 hg => ?_)
    · rw [mark_eq] at h
      rw [h, ← sv]
      exact w_str
    · rw [mark_eq] at h
      rw [h, ← sm]
      exact w_str
    · unfold sign
      rw [mstr_len, mstr_len, List.length_map, List.length_range]
      show i + 1 ≤ _
      omega
    · refine ss_nil ⟨ex.trans (e4.trans e5), g, _, _, ?_, rfl⟩
      rw [List.range_succ, List.map_append]
      exact hg
  · subst hσ
    exact ss_cons (s_ret (w_v 2 hf) fun u H3 e3 q => hQ u H3 (e12.trans (ex.trans e3)) q)
/-! ### all piles -/
theorem piles_len {n : Nat} (hn : n ≤ 5) : ∀ l, (piles n l).length ≤ 5 ^ l
  | 0 => by show [[]].length ≤ _; simp
  | l + 1 => by
    have ih := piles_len hn l
    have : ∀ ls : List (List Nat), (ls.flatMap fun h => ((List.range n).filter fun k => !h.elem k).map fun k => h ++ [k]).length ≤ ls.length * 5 := by
      intro ls
      induction ls with
      | nil => simp
      | cons h r ih =>
        rw [List.flatMap_cons, List.length_append, List.length_map, List.length_cons]
        have h1 := List.length_filter_le (fun k => !h.elem k) (List.range n)
        rw [List.length_range] at h1
        omega
    have h2 := this (piles n l)
    show ((piles n l).flatMap _).length ≤ _
    rw [Nat.pow_succ]
    omega
def longer (n : Nat) (h : List Nat) : List (List Nat) := ((List.range n).filter fun k => !h.elem k).map fun k => h ++ [k]
theorem any_elem (h : List Nat) (k : Nat) : (toI h).any (fun y => y == (k : Int)) = h.elem k := by
  induction h with
  | nil => rfl
  | cons a r ih =>
    show ((((a : Int)) == (k : Int)) || (toI r).any (fun y => y == (k : Int))) = _
    rw [ih, List.elem_cons]
    by_cases e : a = k
    · subst e; simp
    · rw [show ((a : Int) == (k : Int)) = false from beq_eq_false_iff_ne.mpr (by omega), show (k == a) = false by simpa using fun q => e q.symm]; rfl
def G_Lpiles : List PyData → PyData → Prop := fun ds d => ∃ n : Nat, ds = [.int (n : Int)] ∧ 1 ≤ n ∧ n ≤ 5 ∧ d = .list ((piles n n).map dN)
theorem c_Lpiles (D : Df K mg "_law_piles" s_Lpiles) (T : BT mg) : Cal P w K mg base 1 "_law_piles" ["_law_many"] (spD K G_Lpiles) := by
  refine D.cal (fun _ _ _ _ _ _ us hl => match us, hl with | [_], _ => rfl) fun f fd F => ?_
  refine okD F sc_Lpiles (fun ds d ⟨i, h, _⟩ => by rw [h]; rfl) fun cdv A outer s0 H vs Q E ds d hr hv hG hQ => ?_
  obtain ⟨N, rfl, hz1, hz, rfl⟩ := hG
  obtain ⟨v, rfl, h0⟩ := dpa1 hv
  have nd := sc_Lpiles.nd
  have hb : ∀ l, l ≤ 5 → (piles N l).length ≤ 3125 := fun l hl => Nat.le_trans (piles_len hz l) (Nat.le_trans (Nat.pow_le_pow_right (by decide) hl) (by decide))
  refine ss_cons (s_set 1 nd (newL_dt (w_lstN (wd_cons (w_tup wd_nil (by simp)) wd_nil) (by simp))) fun fv H1 e1 hf => ?_)
  refine ss_cons (s_forR1 2 (n := N) T nd rfl (w_v 0 (h0.ex e1)) (by omega) fun H2 e2 => ⟨fun i σ' H' => Ex H1 H' ∧ ∃ f y2 y3 y4 y5, Dq K H' f (.list ((piles N i).map dN)) ∧ σ' = [some v, some f, y2, y3, y4, y5],
    ⟨e2, fv, none, none, none, none, hf.ex e2, rfl⟩, fun i σ' H' hin ⟨ex, f, y2, y3, y4, y5, hf, hσ⟩ => ?_, fun σ' H' ⟨ex, f, y2, y3, y4, y5, hf, hσ⟩ => ?_⟩)
  · subst hσ
    refine ss_cons (s_set 3 nd (w_lstN wd_nil (by simp)) fun gv H3 e3 ⟨l, ws, el, fl, hl1, hl2⟩ => ?_)
    subst el
    have hL : LstAt K H3 l ((((piles N i).take 0).flatMap (longer N)).map dN) := ⟨ws, hl1, hl2, rfl⟩
    refine ss_cons (s_forS 4 nd rfl (as := piles N i) (ι := dN) (src_list (w_v 1 (hf.ex e3))) fun H4 e4 => ⟨fun m σ' H' => Ex H4 H' ∧ ∃ g y4 y5, LstAt K H' g ((((piles N i).take m).flatMap (longer N)).map dN) ∧ σ' = [some v, some f, some (.int (i : Int)), some (.ref g), y4, y5],
      ⟨Ex.refl _, l, _, _, hL.ex e4, rfl⟩, fun n σ' H' h => h.1, fun m hv' h σ' H5 hh hv5 ⟨ex5, g, y4, y5, hl5, hσ⟩ => ?_, fun σ' H5 ⟨ex5, g, y4, y5, hl5, hσ⟩ => ?_⟩)
    · subst hσ
      have e15 : Ex H H5 := e1.trans (ex.trans (e3.trans (e4.trans ex5)))
      have hm : m < (piles N i).length := (List.getElem?_eq_some_iff.mp hh).1
      have hlong : ∀ h, (longer N h).length ≤ 5 := fun h => by
        unfold longer
        rw [List.length_map]
        have h1 := List.length_filter_le (fun k => !h.elem k) (List.range N)
        rw [List.length_range] at h1
        omega
      have hfl : ∀ ls : List (List Nat), (ls.flatMap (longer N)).length ≤ ls.length * 5 := by
        intro ls
        induction ls with
        | nil => simp
        | cons h r ih =>
          rw [List.flatMap_cons, List.length_append, List.length_cons]
          have := hlong h
          omega
      have hh5 : h.length = i := (MM.mem_piles.mp (List.mem_of_getElem? hh)).1
      refine ss_cons (s_set 3 nd (w_addL (ds := (((piles N i).take m).flatMap (longer N)).map dN) (es := (longer N h).map dN) (W.imp (w_is 3) fun u H6 e6 hu => ⟨g, hu, hl5.ex e6⟩) (W.imp (w_lc1 5 nd rfl (as := List.range N) (ι := fun i : Nat => .int (i : Int)) (g := fun k => dN (h ++ [k])) (f := fun k => !h.elem k) (src_rng T (w_v 0 (h0.ex e15)) (by omega)) (by rw [List.length_range]; omega) (fun _ _ => noL_dN _)
        (fun k hk v2 H6 e6 hv2 s0 H0 C cl fp => WT.is (wt_niI (w_v 5 hv2) (Wd.is (w_v 4 (hv5.ex e6)) (dN_ints h))) (by rw [any_elem]))
        (fun k hk _ v2 H6 e6 hv2 s0 H0 C cl fp => Wd.is (w_addt (w_v 4 (hv5.ex e6)) (w_tup (wd_cons (w_v 5 hv2) wd_nil) (by simp)) (by simp; omega)) (by unfold dN; rw [List.map_append]; rfl))
        (blkOk_by (N := n_Lpiles) (sc := defScope s_Lpiles) (by decide +kernel))) fun u H6 e6 ⟨q, ws, h1, h2, h3, h4⟩ => ⟨q, ws, h1, h2, h3, ?_⟩) ?_ (noLs_rows _)) fun g2 H6 e6 ⟨q, eq, fq, hq⟩ => ?_)
      · unfold longer
        rw [List.map_map]
        exact h4
      · rw [List.length_map, List.length_map]
        have a1 := hfl ((piles N i).take m)
        have a2 := hlong h
        have a3 := hb i (by omega)
        rw [List.length_take] at a1
        omega
      · subst eq
        refine ss_nil ⟨ex5.trans e6, q, _, _, ?_, rfl⟩
        rw [take_fl hh, List.map_append]
        exact hq
    · subst hσ
      have h6 := hl5.dq
      refine ss_cons (s_set 1 nd (w_v 3 h6) fun f2 H6 e6 hf2 => ss_nil ⟨ex.trans (e3.trans (e4.trans (ex5.trans e6))), f2, _, _, _, _, ?_, rfl⟩)
      rw [List.take_length] at hf2
      exact hf2
  · subst hσ
    exact ss_cons (s_ret (w_v 1 hf) fun u H3 e3 q => hQ u H3 (e1.trans (ex.trans e3)) q)
end
end FW
set_option maxRecDepth 100000
set_option maxHeartbeats 4000000
/-! W12: readings where a call writes a list: the raw rules. -/
namespace FW
open PySem PySem.Spec PyProof.Rows L2 Evl
section
variable {X : Cx} {σ : L2.St} {H H' Hb : Hp} {P P1 P2 : VP} {e a b c iter elt : Expr} {pos p p2 px py pz tp spos : Pos} {D : Ends} {A B body : List Stmt} {k : Nat} {ps : List Str} {x y z : Str} {es : List Expr} {Q : VK}
theorem tw_of {t : TE} (h : PE X e t) (q : t σ H Q) : tWp X e σ H Q := fun pins s I => h.run pins s σ H Q I q
theorem tt_of {t : TT} {Q : Bool → Hp → Prop} (h : PT X e t) (q : t σ H Q) : tWt X e σ H Q := fun pins s I => h.run pins s σ H Q I q
theorem ta_of {t : TA} {Q : List V → Hp → Prop} (h : PA X es t) (q : t σ H Q) : tWa X es σ H Q := fun pos pins s I => h.run pos pins s σ H Q I q
theorem tw_W (h : W X e σ H P) (q : ∀ v H2, Ex H H2 → P v H2 → Q v H2) : tWp X e σ H Q := h H (Ex.refl _) Q q
theorem ta_nil {Q : List V → Hp → Prop} (q : Q [] H) : tWa X [] σ H Q := ta_of pa_nil q
theorem ta_cons {Q : List V → Hp → Prop} (q : tWp X e σ H fun v H1 => tWa X es σ H1 fun vs H2 => Q (v :: vs) H2) (hs : starEach (e :: es) X.env = (false, eval e X.env) :: starEach es X.env := by rfl) : tWa X (e :: es) σ H Q :=
  ta_of (pa_cons wp_e wp_a hs) q
theorem tw_C {sp : Sp} (C : Cal X.prog X.w X.K X.mg X.base k x ps sp) (hr : Room k X.A) (ha : tWa X (e :: es) σ H fun vs H1 => sp vs H1 Q E0) (hg : Gl X x := by rfl)
    (hd : (x == ("__debug__" : Str)) = false := by decide) (hs : starEach (e :: es) X.env = (false, eval e X.env) :: starEach es X.env := by rfl) (hpl : (backTo pos (starEach es X.env)).any (·.1) = false := by rfl) : tWp X (.Call (.Name x p) (e :: es) [] pos) σ H Q := by
  obtain ⟨f, fd, F, hm, hk, hb⟩ := C
  refine tw_of (pe_call F hr hg hm hk hb .nil pass0 wp_a hd hs hpl) ?_
  unfold tCall
  simp only [List.append_nil]
  exact ha
theorem s_ret' (h : tWp X e σ H D.rt) : tWs X (.Return (some e) pos) D σ H := s_of (ps_ret wp_e) h
theorem s_set' (i : Nat) (nd : X.N.Nodup) (h : tWp X e σ H fun v H1 => D.nx (σ.set i (some v)) H1) (hi : X.N[i]? = some x := by rfl) (hx : Loc X.env.scope x := by first | exact Or.inl rfl | exact Or.inr rfl)
    (hs : swapsWith e (some (.Name x px)) pos.line X.env = pure false := by rfl) (hf : X.fn x = true ∨ X.env.scope.names.lookup x = some .local := by first | exact .inl rfl | exact .inr rfl) : tWs X (.Assign [.Name x px] e pos) D σ H :=
  s_of (ps_set nd hi hx wp_e hs hf) h
theorem s_if' (h : tWt X c σ H fun r H1 => if r = true then tWss X A D σ H1 else tWss X B D σ H1) : tWs X (.If c A B pos) D σ H := s_of (ps_if wp_t wp_ss wp_ss) h
/-- x, y = e: a pair of data, e read -/
theorem s_unp' (i j : Nat) {kt : Nat} (nd : X.N.Nodup) (hc : X.calm = true) (he : tWp X e σ H fun w H1 => ∃ d1 d2, Dq X.K H1 w (.tuple [d1, d2]) ∧ ∀ v u, Dq X.K H1 v d1 → Dq X.K H1 u d2 → D.nx ((σ.set i (some v)).set j (some u)) H1)
    (hi : X.N[i]? = some x := by rfl) (hj : X.N[j]? = some y := by rfl)
    (hx : Loc X.env.scope x := by first | exact Or.inl rfl | exact Or.inr rfl) (hy : Loc X.env.scope y := by first | exact Or.inl rfl | exact Or.inr rfl)
    (hf : X.fn x = true ∨ X.env.scope.names.lookup x = some .local := by first | exact .inl rfl | exact .inr rfl) (hf2 : X.fn y = true ∨ X.env.scope.names.lookup y = some .local := by first | exact .inl rfl | exact .inr rfl)
    (hs1 : (assignEach [.Name x px, .Name y py] X.env).map (·.2) = assign (.Name x px) X.env :: (assignEach [.Name y py] X.env).map (·.2) := by rfl) (hs2 : (assignEach [.Name y py] X.env).map (·.2) = assign (.Name y py) X.env :: (assignEach [] X.env).map (·.2) := by rfl)
    (hn : (assignEach [.Name x px, .Name y py] X.env).length = 2 := by rfl) (hst : (assignEach [.Name x px, .Name y py] X.env).findIdx? (·.1) = none := by rfl)
    (hs : swapsWithSole [.Tuple [.Name x px, .Name y py] kt tp] e pos.line X.env = pure false := by rfl) (hw : swappedStores [.Tuple [.Name x px, .Name y py] kt tp] e X.env = pure none := by rfl)
    (h1 : (assignEach [.Tuple [.Name x px, .Name y py] kt tp] X.env).map (·.2) = [assign (.Tuple [.Name x px, .Name y py] kt tp) X.env] := by rfl) : tWs X (.Assign [.Tuple [.Name x px, .Name y py] kt tp] e pos) D σ H := by
  refine s_of (ps_asg wp_e (pg_tup hc (pgs_cons (pg_name nd hi hx hf) (pgs_cons (pg_name nd hj hy hf2) pgs_nil hs2) hs1) hn hst) hs hw h1) ?_
  refine fun pins s I => wpAny_mono (he pins s I) (fun v s1 h => ?_) fun _ _ h => h
  obtain ⟨w, H1, I1, r1, d1, d2, q1, q2⟩ := h
  refine ⟨w, H1, I1, r1, ?_⟩
  cases q1 with
  | tup g1 g2 =>
    obtain ⟨v, u, rfl, g3, g4⟩ := dpa2 g2
    exact ⟨_, _, rfl, g1.seq, rfl, v, [u], rfl, u, [], rfl, rfl, q2 v u g3 g4⟩
/-- l[i] = e: all but l stands -/
theorem s_setIm {l : Addr} {ds : List PyData} {d : PyData} {i : Nat} {o ix : Expr} {pos' : Pos} (hl : LstAt X.K H l ds) (he : Wd X e σ H d) (ho : W X o σ H (fun v _ => v = .ref l)) (hi : Wd X ix σ H (.int (i : Int))) (hb : i < ds.length) (n : noL d = true)
    (k : ∀ H2, LstAt X.K H2 l (ds.set i d) → Exm l H H2 → D.nx σ H2)
    (hA : ∀ v, assign (.Subscript o ix pos') X.env v = (do
      let ov ← holding [v] (eval o X.env)
      let iv ← holding [v, ov] (eval ix X.env)
      standAt pos'
      holding [v, ov, iv] (setItem ov iv v)
      release [v, ov, iv] []) := by intro _; rfl)
    (hs : swapsWithSole [.Subscript o ix pos'] e pos.line X.env = pure false := by rfl) (hw : swappedStores [.Subscript o ix pos'] e X.env = pure none := by rfl)
    (h1 : (assignEach [.Subscript o ix pos'] X.env).map (·.2) = [assign (.Subscript o ix pos') X.env] := by rfl) : tWs X (.Assign [.Subscript o ix pos'] e pos) D σ H :=
  s_asg (pg_sub wp_e wp_e set_list hA) he (fun v H1 e1 hv => ho H1 e1 _ fun u H2 e2 hu => hi H2 (e1.trans e2) _ fun w H3 e3 hw => by
    subst hu
    cases hw
    have e13 := e1.trans (e2.trans e3)
    obtain ⟨vs, g1, g2, g3⟩ := hl.ex e13
    have hlen : i < vs.length := by rw [g2.len]; exact hb
    refine ⟨l, vs, (i : Int), i, rfl, rfl, g1, ?_, k _ ⟨_, upd_same, dqa_upd g1 _ _ ?_ (dqa_set g2 (hv.ex (e2.trans e3)) i), ?_⟩ fun a o ha h => by rw [upd_ne ha]; exact e13 a o h⟩
    · unfold ixN
      rw [if_pos (by omega), if_pos (by omega)]
      rfl
    · exact noLs_set g3 n i
    · exact noLs_set g3 n i) hs hw h1
/-- a jar: a list of three numbers -/
def JarI (K : PySem.W.Frag) (H : Hp) (l : Addr) (a b c : Int) : Prop := LstAt K H l [.int a, .int b, .int c]
def Jar (K : PySem.W.Frag) (H : Hp) (l : Addr) : Prop := ∃ a b c, JarI K H l a b c
theorem Jar.ex {K : PySem.W.Frag} {l : Addr} (h : Jar K H l) (e : Ex H H') : Jar K H' l := by
  obtain ⟨a, b, c, h⟩ := h
  exact ⟨a, b, c, LstAt.ex h e⟩
theorem Jar.at {K : PySem.W.Frag} {l : Addr} (h : Jar K H l) : ∃ vs, H l = some (.lst vs) := by
  obtain ⟨a, b, c, vs, h, _⟩ := h
  exact ⟨vs, h⟩
theorem Dq.exm {K : PySem.W.Frag} {l : Addr} {v : V} {d : PyData} (h : Dq K H v d) (e : Exm l H H') (j : Jar K H l) (n : noL d = true) : Dq K H' v d := by
  obtain ⟨vs, hl⟩ := j.at
  exact dq_exm e hl d v n h
theorem LstAt.exj {K : PySem.W.Frag} {l q : Addr} {ds : List PyData} (h : LstAt K H q ds) (e : Exm l H H') (j : Jar K H l) (n : q ≠ l) : LstAt K H' q ds := by
  obtain ⟨vs, hl⟩ := j.at
  exact h.exm e hl n
/-- a list that is new is not the jar -/
theorem jar_ne {K : PySem.W.Frag} {l q : Addr} (j : Jar K H l) (n : H q = none) : q ≠ l := fun e => by
  obtain ⟨vs, h⟩ := j.at
  rw [e, h] at n; cases n
end
end FW
set_option maxRecDepth 100000
set_option maxHeartbeats 4000000
/-! D11: the law's jar, dip, pick. -/
namespace FW
open PySem PySem.Spec PyProof.Rows L2 Evl
section
variable {P : Program} {w : World} {K : PySem.W.Frag} {mg : Str → Option Value} {base : Heap}
theorem mul_l {i j : Int} (h : -(2 ^ 64) < i ∧ i < 2 ^ 64 := by decide) : CMul i j := .inl h
theorem mul_r {i j : Int} (h : -(2 ^ 64) < j ∧ j < 2 ^ 64 := by decide) : CMul i j := .inr h
def spJ (K : PySem.W.Frag) : Sp := fun vs H Q _ => ∃ (ns : List Int) (t : Nat), ns.length ≤ 100 ∧ DqAll K H vs [.list (ns.map .int), .int (t : Int)] ∧ ∀ p H2, Ex H H2 → H p = none → Jar K H2 p → Q (.ref p) H2
theorem c_Ljar (D : Df K mg "_law_jar" s_Ljar) (T : BT mg) : Cal P w K mg base 1 "_law_jar" ["_law_script", "_law_turn"] (spJ K) := by
  refine D.cal (fun _ _ _ _ _ _ us hl => match us, hl with | [_, _], _ => rfl) fun f fd F => ?_
  refine okW F sc_Ljar (fun vs H Q E ⟨ns, t, _, h, _⟩ => h.len) fun cdv A outer s0 H vs Q E hr ⟨ns, t, hz, hv, hQ⟩ => ?_
  obtain ⟨v, u, rfl, h0, h1⟩ := dpa2 hv
  have nd := sc_Ljar.nd
  refine ss_cons (s_set 2 nd (w_add w_int (w_mul w_int (w_v 1 h1) mul_l)) fun sv H1 e1 hs => ?_)
  refine ss_cons (s_forL 3 nd rfl (w_slL (w_v 0 (h0.ex e1)) wo_n (wo_s w_int)) fun H2 e2 => ⟨fun i σ' H' => Ex H2 H' ∧ ∃ (x : Int) (y3 : Option V), σ' = [some v, some u, some (.int x), y3, none], ⟨Ex.refl _, ?_⟩, fun i σ' H' h => h.1, fun i cv d σ' H' hd hc ⟨ex, x, y3, hσ⟩ => ?_, fun σ' H' ⟨ex, x, y3, hσ⟩ => ?_⟩)
  · cases hs
    exact ⟨_, none, rfl⟩
  · subst hσ
    obtain ⟨c, rfl⟩ : ∃ c, d = PyData.int c := by
      have := List.mem_of_getElem? hd
      unfold cutD at this
      obtain ⟨c, _, h⟩ := List.mem_map.mp (List.mem_of_mem_drop (List.mem_of_mem_take this))
      exact ⟨c, h.symm⟩
    have hx : Dq K H' (.int x) (.int x) := .int _
    refine ss_cons (s_set 2 nd (w_mod (w_toInt T (w_add (w_add (w_mul (w_v 2 hx) w_int mul_r) (w_toInt T (w_v 3 hc))) w_int)) w_int (by decide)) fun sv H3 e3 hs => ss_nil ?_)
    cases hs
    exact ⟨ex.trans e3, _, _, rfl⟩
  · subst hσ
    have e12 := e1.trans (e2.trans ex)
    have hx : Dq K H' (.int x) (.int x) := .int _
    refine ss_cons (s_set 4 nd (P := fun v _ => ∃ o : Int, v = .int o) (w_if (wt_lt (w_v 1 (h1.ex e12)) (w_len T (w_v 0 (h0.ex e12)) rfl)) (fun h => ?_) fun _ => ?_) fun ov H3 e3 ⟨o, ho⟩ => ?_)
    · have ht : t < ns.length := by
        have := of_decide_eq_true h
        rw [List.length_map] at this
        omega
      refine W.imp (w_toInt T (w_ixL (w_v 0 (h0.ex e12)) (w_v 1 (h1.ex e12)) (d := .int ns[t]) (atI_nat (by rw [List.getElem?_map, List.getElem?_eq_getElem ht]; rfl)))) fun v H4 _ hv => ?_
      cases hv
      exact ⟨_, rfl⟩
    · refine W.imp (w_add (w_mul w_int (w_v 1 (h1.ex e12)) mul_l) w_int) fun v H4 _ hv => ?_
      cases hv
      exact ⟨_, rfl⟩
    · subst ho
      have ho : Dq K H3 (.int o) (.int o) := .int _
      have hx3 := hx.ex e3
      refine ss_cons (s_ret (w_lstN (ds := [.int (if (decide (o < 0) || decide ((10 : Int) ^ (15 : Int).toNat ≤ o)) = true then (if o < 0 then -o else o) else 0), .int ((x + 50021 * o) % 2147483407), .int 0]) (wd_cons (w_if (wt_or (wt_lt (w_v 4 ho) w_int) fun _ => wt_ge (w_v 4 ho) (w_pow w_int w_int ⟨by decide, by decide, by decide⟩)) (fun h => ?_) fun h => ?_) (wd_cons (w_mod (w_toInt T (w_add (w_v 2 hx3) (w_mul w_int (w_v 4 ho) mul_l))) w_int (by decide)) (wd_cons w_int wd_nil))) (by simp)) fun z H4 e4 ⟨p, ws, ez, fp, h5, h6⟩ => ?_)
      · rw [if_pos h]; exact w_abs T (w_v 4 ho)
      · rw [if_neg (by rw [h]; exact Bool.false_ne_true)]; exact w_int
      · subst ez
        exact hQ p H4 (e12.trans (e3.trans e4)) (fresh_back (e12.trans e3) fp) ⟨_, _, _, ws, h5, h6, rfl⟩
def spDip (K : PySem.W.Frag) : Sp := fun vs H Q _ => ∃ (l : Addr) (m : Nat), vs = [.ref l, .int (m : Int)] ∧ Jar K H l ∧ 1 ≤ m ∧ m ≤ 100 ∧ ∀ (d : Nat) H2, d < m → Exm l H H2 → Jar K H2 l → Q (.int (d : Int)) H2
theorem c_Ldip (D : Df K mg "_law_dip" s_Ldip) (T : BT mg) : Cal P w K mg base 1 "_law_dip" ["_law_jar_here", "_law_many"] (spDip K) := by
  refine D.cal (fun _ _ _ _ _ _ us hl => match us, hl with | [_, _], _ => rfl) fun f fd F => ?_
  refine okW F sc_Ldip (fun vs H Q E ⟨l, m, h, _⟩ => by rw [h]; rfl) fun cdv A outer s0 H vs Q E hr ⟨l, m, hvs, ⟨a, b, c, hl⟩, hm1, hm2, hQ⟩ => ?_
  subst hvs
  have nd := sc_Ldip.nd
  have hl : LstAt K H l [.int a, .int b, .int c] := hl
  refine ss_cons (s_setIm hl (i := 2) (w_add (w_ixL (w_v 0 hl.dq) w_int (atI_nat (j := 2) rfl)) w_int) (w_is 0) (Wd.is w_int rfl) (by simp) rfl fun H1 hl1 x1 => ?_)
  replace hl1 : LstAt K H1 l [.int a, .int b, .int (c + 1)] := hl1
  have hm : Dq K H1 (.int (m : Int)) (.int (m : Int)) := .int _
  refine ss_cons (s_if (wt_gt (w_ixL (w_v 0 hl1.dq) w_int (atI_nat (j := 0) rfl)) w_int) (fun h H2 e2 => ?_) fun h H2 e2 => ss_nil ?_)
  · have hl2 := hl1.ex e2
    refine ss_cons (s_asg (pg_tup rfl (pgs_cons (pg_sub wp_e wp_e set_list) (pgs_cons (pg_name nd (i := 2) rfl (Or.inl rfl)) pgs_nil))) (w_divmod T (w_ixL (w_v 0 hl2.dq) w_int (atI_nat (j := 0) rfl)) (w_v 1 (hm.ex e2)) ⟨by omega, by omega⟩) fun v H3 e3 ⟨q, hv, hq⟩ => ?_)
    subst hv
    have hl3 := hl2.ex e3
    refine ⟨q, _, rfl, st_of hq, rfl, _, _, rfl, ?_⟩
    refine tw_W (w_is 0) fun u H4 e4 hu => tw_W w_int fun i H5 e5 hi => ?_
    subst hu
    cases hi
    obtain ⟨ws, g1, g2, g3⟩ := hl3.ex (e4.trans e5)
    have hlen : ws.length = 3 := by rw [g2.len]; rfl
    refine ⟨l, ws, 0, 0, rfl, rfl, g1, by rw [hlen]; rfl, _, [], rfl, ?_⟩
    refine ⟨rfl, ?_⟩
    have hj : LstAt K (upd H5 l (.lst (ws.set 0 (.int (a / (m : Int)))))) l [.int (a / (m : Int)), .int b, .int (c + 1)] := ⟨_, upd_same, dqa_upd g1 _ _ rfl (dqa_set g2 (.int _) 0), rfl⟩
    have hup : Exm l H5 (upd H5 l (.lst (ws.set 0 (.int (a / (m : Int)))))) := fun a' o ha h => by rw [upd_ne ha]; exact h
    refine ss_cons (s_ret (w_v 2 (d := .int (a % (m : Int))) (.int _)) fun z H6 e6 hz => ?_)
    cases hz
    have h1 : 0 ≤ a % (m : Int) := Int.emod_nonneg _ (by omega)
    have h2 : a % (m : Int) < (m : Int) := Int.emod_lt_of_pos _ (by omega)
    have := hQ (a % (m : Int)).toNat H6 (by omega) (x1.trans ((FW.Ex.exm l (e2.trans (e3.trans (e4.trans e5)))).trans (hup.trans (FW.Ex.exm l e6)))) ⟨_, _, _, hj.ex e6⟩
    rw [Int.toNat_of_nonneg h1] at this
    exact this
  · have hl2 := hl1.ex e2
    refine ss_cons (s_set 3 nd (w_ixL (w_v 0 hl2.dq) w_int (atI_nat (j := 1) rfl)) fun sv H3 e3 hs => ?_)
    cases hs
    have hl3 := hl2.ex e3
    have hb : Dq K H3 (.int b) (.int b) := .int _
    refine ss_cons (s_setIm hl3 (i := 1) (w_mod (w_toInt T (w_add (w_add (w_mul (w_toInt T (w_v 3 hb)) w_int mul_r) (w_mul w_int (w_ixL (w_v 0 hl3.dq) w_int (atI_nat (j := 2) rfl)) mul_l)) w_int)) w_int (by decide)) (w_is 0) (Wd.is w_int rfl) (by simp) rfl fun H4 hl4 x4 => ?_)
    have hm4 : Dq K H4 (.int (m : Int)) (.int (m : Int)) := .int _
    refine ss_cons (s_ret (w_mod (w_toInt T (w_fdiv (w_ixL (w_v 0 hl4.dq) w_int (atI_nat (j := 1) rfl)) w_int ⟨by decide, by decide⟩)) (w_v 1 hm4) (by omega)) fun z H6 e6 hz => ?_)
    generalize hy : (((b * 46021 + 7507 * (c + 1) + 17) % 2147483407) / 1024 : Int) = y at hz
    cases hz
    have h1 : 0 ≤ y % (m : Int) := Int.emod_nonneg _ (by omega)
    have h2 : y % (m : Int) < (m : Int) := Int.emod_lt_of_pos _ (by omega)
    have := hQ (y % (m : Int)).toNat H6 (by omega) (x1.trans ((FW.Ex.exm l (e2.trans e3)).trans (x4.trans (FW.Ex.exm l e6)))) ⟨_, _, _, LstAt.ex hl4 e6⟩
    rw [Int.toNat_of_nonneg h1] at this
    exact this
/-! ### pick -/
def spPickL (K : PySem.W.Frag) : Sp := fun vs H Q _ => ∃ (l q : Addr) (ds : List PyData), vs = [.ref l, .ref q] ∧ Jar K H l ∧ q ≠ l ∧ LstAt K H q ds ∧ 1 ≤ ds.length ∧ ds.length ≤ 100 ∧ ∀ d v H2, d ∈ ds → Dq K H2 v d → Exm l H H2 → Jar K H2 l → Q v H2
theorem mem_at {α : Type} {xs : List α} {i : Nat} (h : i < xs.length) : ∃ x, x ∈ xs ∧ xs[i]? = some x := ⟨xs[i], List.getElem_mem h, List.getElem?_eq_getElem h⟩
theorem c_LpickL (D : Df K mg "_law_pick" s_Lpick) (T : BT mg) (C1 : Cal P w K mg base 1 "_law_dip" ["_law_jar_here", "_law_many"] (spDip K)) : Cal P w K mg base 2 "_law_pick" ["_law_jar_here", "_law_some"] (spPickL K) := by
  refine D.cal (fun _ _ _ _ _ _ us hl => match us, hl with | [_, _], _ => rfl) fun f fd F => ?_
  refine okW F sc_Lpick (fun vs H Q E ⟨l, q, ds, h, _⟩ => by rw [h]; rfl) fun cdv A outer s0 H vs Q E hr ⟨l, q, ds, hvs, hj, hne, hq, hz1, hz2, hQ⟩ => ?_
  subst hvs
  refine ss_cons (s_ret' (tw_of (pe_ix ix_list wp_e wp_e (by exact fun _ _ => rfl)) (tw_W (w_is 1) fun v H1 e1 hv => tw_C C1 hr (ta_cons (tw_W (w_is 0) fun u H2 e2 hu => ta_cons (tw_W (w_len T (w_v 1 (hq.ex (e1.trans e2)).dq) rfl) fun n H3 e3 hn => ta_nil ?_))))))
  subst hv hu
  cases hn
  have e13 := e1.trans (e2.trans e3)
  refine ⟨l, ds.length, rfl, hj.ex e13, hz1, hz2, fun d H4 hd x4 j4 => ?_⟩
  obtain ⟨ws, g1, g2, g3⟩ := (hq.ex e13).exj x4 (hj.ex e13) hne
  obtain ⟨d', hm, hd'⟩ := mem_at hd
  obtain ⟨v, hv1, hv2⟩ := dpa_at g2 (atI_nat hd')
  exact ⟨q, ws, (d : Int), v, rfl, rfl, sq_of g1, hv1, hQ d' v H4 hm hv2 ((FW.Ex.exm l e13).trans x4) j4⟩
def spPickT (K : PySem.W.Frag) : Sp := fun vs H Q _ => ∃ (l : Addr) (tv : V) (ds : List PyData), vs = [.ref l, tv] ∧ Jar K H l ∧ Dq K H tv (.tuple ds) ∧ noLs ds = true ∧ 1 ≤ ds.length ∧ ds.length ≤ 100 ∧ ∀ d v H2, d ∈ ds → Dq K H2 v d → Exm l H H2 → Jar K H2 l → Q v H2
theorem c_LpickT (D : Df K mg "_law_pick" s_Lpick) (T : BT mg) (C1 : Cal P w K mg base 1 "_law_dip" ["_law_jar_here", "_law_many"] (spDip K)) : Cal P w K mg base 2 "_law_pick" ["_law_jar_here", "_law_some"] (spPickT K) := by
  refine D.cal (fun _ _ _ _ _ _ us hl => match us, hl with | [_, _], _ => rfl) fun f fd F => ?_
  refine okW F sc_Lpick (fun vs H Q E ⟨l, q, ds, h, _⟩ => by rw [h]; rfl) fun cdv A outer s0 H vs Q E hr ⟨l, tv, ds, hvs, hj, hq, hnl, hz1, hz2, hQ⟩ => ?_
  subst hvs
  refine ss_cons (s_ret' (tw_of (pe_ix ix_tup wp_e wp_e (by exact fun _ _ => rfl)) (tw_W (w_is 1) fun v H1 e1 hv => tw_C C1 hr (ta_cons (tw_W (w_is 0) fun u H2 e2 hu => ta_cons (tw_W (w_len T (w_v 1 (hq.ex (e1.trans e2))) rfl) fun n H3 e3 hn => ta_nil ?_))))))
  subst hv hu
  cases hn
  have e13 := e1.trans (e2.trans e3)
  refine ⟨l, ds.length, rfl, hj.ex e13, hz1, hz2, fun d H4 hd x4 j4 => ?_⟩
  have h4 := (hq.ex e13).exm x4 (hj.ex e13) hnl
  cases h4 with
  | tup g1 g2 =>
    obtain ⟨d', hm, hd'⟩ := mem_at hd
    obtain ⟨v, hv1, hv2⟩ := dpa_at g2 (atI_nat hd')
    exact ⟨_, _, (d : Int), v, rfl, rfl, g1.seq, hv1, hQ d' v H4 hm hv2 ((FW.Ex.exm l e13).trans x4) j4⟩
def spPickS (K : PySem.W.Frag) : Sp := fun vs H Q _ => ∃ (l : Addr) (z : Str), vs = [.ref l, .str z] ∧ Jar K H l ∧ 1 ≤ z.cps.toList.length ∧ z.cps.toList.length ≤ 100 ∧ ∀ c H2, c ∈ z.cps.toList → Exm l H H2 → Jar K H2 l → Q (.str ⟨#[c]⟩) H2
theorem c_LpickS (D : Df K mg "_law_pick" s_Lpick) (T : BT mg) (C1 : Cal P w K mg base 1 "_law_dip" ["_law_jar_here", "_law_many"] (spDip K)) : Cal P w K mg base 2 "_law_pick" ["_law_jar_here", "_law_some"] (spPickS K) := by
  refine D.cal (fun _ _ _ _ _ _ us hl => match us, hl with | [_, _], _ => rfl) fun f fd F => ?_
  refine okW F sc_Lpick (fun vs H Q E ⟨l, q, h, _⟩ => by rw [h]; rfl) fun cdv A outer s0 H vs Q E hr ⟨l, z, hvs, hj, hz1, hz2, hQ⟩ => ?_
  subst hvs
  have hq : Dq K H (.str z) (.str z) := .str _
  have hzl : z.length = z.cps.toList.length := by show z.cps.size = _; simp
  refine ss_cons (s_ret' (tw_of (pe_ix ix_str wp_e wp_e (by exact fun _ _ => rfl)) (tw_W (w_is 1) fun v H1 e1 hv => tw_C C1 hr (ta_cons (tw_W (w_is 0) fun u H2 e2 hu => ta_cons (tw_W (w_len T (w_v 1 (hq.ex (e1.trans e2))) (if_pos (by omega))) fun n H3 e3 hn => ta_nil ?_))))))
  subst hv hu
  cases hn
  have e13 := e1.trans (e2.trans e3)
  refine ⟨l, _, rfl, hj.ex e13, by omega, by omega, fun d H4 hd x4 j4 => ?_⟩
  obtain ⟨c, hm, hc⟩ := mem_at (xs := z.cps.toList) (i := d) (by omega)
  exact ⟨z, (d : Int), c, rfl, rfl, sz_of (by omega), atI_nat hc, hQ c H4 hm ((FW.Ex.exm l e13).trans x4) j4⟩
end
end FW
set_option maxRecDepth 100000
set_option maxHeartbeats 4000000
/-! D12: the law's drawn end. -/
namespace FW
open PySem PySem.Spec PyProof.Rows L2 Evl
section
variable {P : Program} {w : World} {K : PySem.W.Frag} {mg : Str → Option Value} {base : Heap}
def spDr (K : PySem.W.Frag) : Sp := fun vs H Q _ => ∃ (l : Addr) (v u : V) (L : List Nat) (bs : List Bool), vs = [.ref l, v, u] ∧ Jar K H l ∧ Dq K H v (dN L) ∧ Dq K H u (.str (mstr bs)) ∧ Strip L ∧ bs.length + 1 = L.length ∧
  ∀ (n : Nat) H2, MM.Drawn L bs n → Exm l H H2 → Jar K H2 l → Q (.int (n : Int)) H2
theorem pu_steps (l : List Step) : Pu 3 (.tuple (l.map stepD)) := .tup fun d hd => by
  obtain ⟨s, _, rfl⟩ := List.mem_map.mp hd
  exact (pu_step s).up (by decide)
theorem steps_nil {l : List Step} : (l.isEmpty = true) ↔ PyData.tuple (l.map stepD) = .tuple [] := by
  rw [List.isEmpty_iff, PyData.tuple.injEq, List.map_eq_nil_iff]
theorem c_Ldrawn (D : Df K mg "_law_drawn_end" s_Ldrawn_end) (T : BT mg) (C1 : Cal P w K mg base 5 "steps_now" ["lengths", "marks"] (spD K G_steps_now)) (C2 : Cal P w K mg base 5 "after_step" ["lengths", "marks", "step"] (spD K G_after_step))
    (C3 : Cal P w K mg base 2 "_law_pick" ["_law_jar_here", "_law_some"] (spPickT K)) : Cal P w K mg base 6 "_law_drawn_end" ["_law_jar_here", "_law_sizes", "_law_text"] (spDr K) := by
  refine D.cal (fun _ _ _ _ _ _ us hl => match us, hl with | [_, _, _], _ => rfl) fun f fd F => ?_
  refine okW F sc_Ldrawn_end (fun vs H Q E ⟨l, v, u, L, bs, h, _⟩ => by rw [h]; rfl) fun cdv A outer s0 H vs Q E hr ⟨l, v, u, L, bs, hvs, hj, h0, h1, hS, hb, hQ⟩ => ?_
  subst hvs
  have nd := sc_Ldrawn_end.nd
  have h9 : Dq K H (.int 9) (.int 9) := .int _
  refine ss_cons (s_forR1 3 (n := 9) T nd rfl (Wd.is w_int rfl) (by decide) fun H1 e1 => ⟨fun i σ' H' => Exm l H H' ∧ Jar K H' l ∧ ∃ (v' u' : V) (y3 y4 : Option V) (L' : List Nat) (bs' : List Bool), Dq K H' v' (dN L') ∧ Dq K H' u' (.str (mstr bs')) ∧ Strip L' ∧ bs'.length + 1 = L'.length ∧ L'.length + i ≤ L.length ∧ (∀ n, MM.Drawn L' bs' n → MM.Drawn L bs n) ∧ σ' = [some (.ref l), some v', some u', y3, y4],
    ⟨FW.Ex.exm l e1, hj.ex e1, v, u, none, none, L, bs, h0.ex e1, h1.ex e1, hS, hb, Nat.le_refl _, fun _ h => h, rfl⟩, fun i σ' H' hin ⟨xm, j, v', u', y3, y4, L', bs', g0, g1, gS, gb, gl, gd, hσ⟩ => ?_, fun σ' H' ⟨xm, j, v', u', y3, y4, L', bs', g0, g1, gS, gb, gl, gd, hσ⟩ => ?_⟩)
  · subst hσ
    refine ss_cons (s_set 4 nd (w_C C1 hr (wd_cons (w_v 1 g0) (wd_cons (w_v 2 g1) wd_nil)) ⟨L', bs', rfl, gS, gb, rfl⟩) fun sv H2 e2 hs => ?_)
    refine ss_cons (s_if (r := (stepList L' bs').isEmpty) (wt_eqP hr (w_v 4 hs) (w_tup wd_nil (by simp)) (pu_steps _) pu_nilT steps_nil) (fun h H3 e3 => ?_) fun h H3 e3 => ss_nil ?_)
    · have e23 := e2.trans e3
      refine ss_cons (s_ret (w_len T (w_v 1 (g0.ex e23)) (dN_len L')) fun z H4 e4 hz => ?_)
      cases hz
      have e24 := e23.trans e4
      exact hQ L'.length H4 (gd _ (.stop (List.isEmpty_iff.mp h))) (xm.trans (FW.Ex.exm l e24)) (j.ex e24)
    · have e23 := e2.trans e3
      have hne : stepList L' bs' ≠ [] := fun e => by rw [e] at h; cases h
      refine ss_cons (s_unp' 1 2 nd rfl (tw_C C2 hr (ta_cons (tw_W (w_v 1 (g0.ex e23)) fun a H4 e4 ha => ta_cons (tw_W (w_v 2 (g1.ex (e23.trans e4))) fun b H5 e5 hb' => ta_cons (tw_C C3 (hr.mono (by decide)) (ta_cons (tw_W (w_is 0) fun c H6 e6 hc => ta_cons (tw_W (w_v 4 (hs.ex (e3.trans (e4.trans (e5.trans e6))))) fun d H7 e7 hd => ta_nil ?_)))))))))
      subst hc
      have e37 := e4.trans (e5.trans (e6.trans e7))
      have e27 := e23.trans e37
      have hlen := stepList_len L' bs'
      have hpos : 1 ≤ (stepList L' bs').length := by
        cases hq : stepList L' bs' with
        | nil => exact absurd hq hne
        | cons a r => simp
      have := gS.few
      refine ⟨l, d, (stepList L' bs').map stepD, rfl, j.ex e27, hd, noLs_steps _, by rw [List.length_map]; exact hpos, by rw [List.length_map]; omega, fun sd sv' H8 hsd hsv x8 j8 => ta_nil ?_⟩
      obtain ⟨s, hsm, rfl⟩ := List.mem_map.mp hsd
      have j7 := j.ex e27
      refine ⟨[dN L', .str (mstr bs'), stepD s], _, .cons ((ha.ex (e5.trans (e6.trans e7))).exm x8 j7 (noL_dN _)) (.cons ((hb'.ex (e6.trans e7)).exm x8 j7 rfl) (.cons hsv .nil)), ⟨L', bs', s, rfl, gS, gb, hsm, rfl⟩, fun w2 H9 e9 hw => ⟨_, _, hw, fun nv nu hnv hnu => ss_nil ?_⟩⟩
      obtain ⟨o1, o2, o3⟩ := after_ok gb hsm
      exact ⟨xm.trans ((FW.Ex.exm l e27).trans (x8.trans (FW.Ex.exm l e9))), j8.ex e9, nv, nu, _, _, _, _, hnv, hnu, MM.after_strip gS gb hsm, o3, by omega, fun n h => gd n (.go hsm h), rfl⟩
  · have := gS.pos
    have := hS.few
    omega
end
end FW
set_option maxRecDepth 100000
set_option maxHeartbeats 4000000
/-! D13: the law's look at one strip with its marks. -/
namespace FW
open PySem PySem.Spec PyProof.Rows L2 Evl
theorem pile_of {n : Nat} {p : List Nat} (h : MM.IsPile n p) : Pile p := by
  unfold Pile; rw [h.len]; exact h
theorem noL_steps' (s : Step) : noL (stepD s) = true := noL_step s
section
variable {P : Program} {w : World} {K : PySem.W.Frag} {mg : Str → Option Value} {base : Heap}
def spSR (K : PySem.W.Frag) : Sp := fun vs H Q _ => ∃ (l q : Addr) (v u : V) (L : List Nat) (bs : List Bool), vs = [.ref l, v, u, .ref q] ∧ Jar K H l ∧ q ≠ l ∧ Dq K H v (dN L) ∧ Dq K H u (.str (mstr bs)) ∧ LstAt K H q ((every L).map dN) ∧ Strip L ∧ MM.Dom L ∧ bs.length + 1 = L.length ∧
  ∀ H2, Exm l H H2 → Jar K H2 l → Q (.bl true) H2
theorem folds_ne {L : List Nat} {bs : List Bool} (hd : MM.Dom L) : MM.Sem L bs = true ↔ PyData.list ((folds L bs).map dN) ≠ .list [] := by
  have := hd.few
  rw [MM.folds_sem hd.pos (by omega), Bool.not_eq_true', ← Bool.not_eq_true, List.isEmpty_iff, ne_eq, PyData.list.injEq, List.map_eq_nil_iff]
theorem c_Lstrip (D : Df K mg "_law_strip_right" s_Lstrip_right) (T : BT mg) (C1 : Cal P w K mg base 1 "_law_marks" ["_law_pile"] (spD K G_Lmarks)) (C2 : Cal P w K mg base 7 "layerings" ["lengths", "marks"] (spD K G_layerings))
    (C3 : Cal P w K mg base 5 "is_foldable" ["lengths", "marks"] (spD K G_is_foldable)) (C4 : Cal P w K mg base 6 "_law_drawn_end" ["_law_jar_here", "_law_sizes", "_law_text"] (spDr K))
    (C5 : Cal P w K mg base 5 "steps_now" ["lengths", "marks"] (spD K G_steps_now)) (C6 : Cal P w K mg base 5 "after_step" ["lengths", "marks", "step"] (spD K G_after_step)) (C7 : Cal P w K mg base 5 "steps" ["lengths", "marks"] (spD K G_steps)) :
    Cal P w K mg base 8 "_law_strip_right" ["_law_jar_here", "_law_sizes", "_law_text", "_law_every"] (spSR K) := by
  refine D.cal (fun _ _ _ _ _ _ us hl => match us, hl with | [_, _, _, _], _ => rfl) fun f fd F => ?_
  refine okW F sc_Lstrip_right (fun vs H Q E ⟨l, q, v, u, L, bs, h, _⟩ => by rw [h]; rfl) fun cdv A outer s0 H vs Q E hr ⟨l, q, v, u, L, bs, hvs, hj, hne, h0, h1, hq, hS, hD, hb, hQ⟩ => ?_
  subst hvs
  have nd := sc_Lstrip_right.nd
  have hfew := hD.few
  have hpos := hD.pos
  have hF : Few L := hD.few64
  have hEl : (every L).length < 64 := by rw [MM.every_len hpos (by omega)]; exact hF _ (by omega)
  refine ss_cons (s_lc1 4 10 nd rfl (as := every L) (ι := dN) (g := dN) (f := fun p => marksOf L.length p == bs) (src_list (w_v 3 hq.dq)) (by omega) (fun _ _ => noL_dN _)
    (fun p hp v2 H3 e3 hv2 s0 H0 C cl fp => WT.is (wt_eqs (w_C C1 (hr.mono (by decide)) (wd_cons (w_v 10 hv2) wd_nil) ⟨p, rfl, pile_of (MM.mem_every.mp hp).1, by rw [(MM.mem_every.mp hp).1.len]; omega, by rw [(MM.mem_every.mp hp).1.len]; omega, rfl⟩) (w_v 2 (h1.ex e3))) (by rw [mstr_eqb, (MM.mem_every.mp hp).1.len]))
    (fun p hp _ v2 H3 e3 hv2 s0 H0 C cl fp => w_v 10 hv2) (fun fv H1 e1 ⟨pf, ws, ef, ff, hf1, hf2⟩ => ?_) (blkOk_by (N := n_Lstrip_right) (sc := defScope s_Lstrip_right) (by decide +kernel)) rfl)
  subst ef
  have hf : LstAt K H1 pf ((folds L bs).map dN) := ⟨ws, hf1, hf2, noLs_rows _⟩
  have hpf : pf ≠ l := jar_ne hj ff
  clear hf1 hf2
  have hj1 := hj.ex e1
  have hE := folds_ne (bs := bs) hD
  generalize hEe : MM.Sem L bs = EE at hE
  have hfold : fold L bs = EE := by rw [MM.fold_sem hD hb, hEe]
  refine ss_cons (s_ifF (WT.is (wt_or (r := false) (s := false) (wt_neP hr (w_C C2 hr (wd_cons (w_v 1 (h0.ex e1)) (wd_cons (w_v 2 (h1.ex e1)) wd_nil)) ⟨L, bs, rfl, hS, hb, hF, rfl⟩) (w_tupL T (w_v 4 hf.dq)) ((pu_rows _).up (by decide)) ((pu_rows _).up (by decide)) ?_)
    (fun _ => WT.is (wt_neb (w_C C3 (hr.mono (by decide)) (wd_cons (w_v 1 (h0.ex e1)) (wd_cons (w_v 2 (h1.ex e1)) wd_nil)) ⟨L, bs, rfl, hS, hb, rfl⟩) (w_neP (r := EE) hr (w_v 4 hf.dq) (w_lst wd_nil (by simp)) ((pu_rowsL _).up (by decide)) pu_nilL hE)) (by rw [hfold]; simp))) rfl) fun H2 e2 => ss_nil ?_)
  · rw [MM.marked_folds hpos (by omega)]
    exact ⟨(fun h => nomatch h), fun h => absurd rfl h⟩
  have e12 := e1.trans e2
  have hj2 := hj.ex e12
  have hf2 := hf.ex e2
  refine ss_cons (s_if' (tt_of (pt_cmpR op_ne wp_e wp_e (nomark _)) (tw_of (pe_cmpR op_eq wp_e wp_e (nomark _)) (tw_C C4 (hr.mono (by decide)) (ta_cons (tw_W (w_is 0) fun a H3 e3 ha => ta_cons (tw_W (w_v 1 (h0.ex (e12.trans e3))) fun b H4 e4 hbv => ta_cons (tw_W (w_v 2 (h1.ex (e12.trans (e3.trans e4)))) fun c H5 e5 hc => ta_nil ?_))))))))
  subst ha
  have e25 := e3.trans (e4.trans e5)
  refine ⟨l, b, c, L, bs, rfl, hj2.ex e25, hbv.ex e5, hc, hS, hb, fun n H6 hdr x6 j6 => ?_⟩
  have hn : Nat.beq n 1 = EE := by rw [MM.drawn_sem hdr hD hb, hEe]
  have h06 := (h0.ex (e12.trans e25)).exm x6 (hj2.ex e25) (noL_dN _)
  have h16 := (h1.ex (e12.trans e25)).exm x6 (hj2.ex e25) rfl
  have hf6 := (hf2.ex e25).exj x6 (hj2.ex e25) hpf
  have xm6 : Exm l H H6 := (FW.Ex.exm l (e12.trans e25)).trans x6
  refine tw_W w_int fun y H7 e7 hy => ?_
  cases hy
  refine ⟨rfl, tw_W (w_neP (r := EE) hr (w_v 4 (hf6.ex e7).dq) (w_lst wd_nil (by simp)) ((pu_rowsL _).up (by decide)) pu_nilL hE) fun z H8 e8 hz => ?_⟩
  cases hz
  refine ⟨rfl, _, rfl, ?_⟩
  have hbl : (!decide (V.bl (decide (V.int (n : Int) = V.int 1)) = V.bl EE)) = false := by
    have : decide (V.int (n : Int) = V.int 1) = EE := by
      rw [← hn, Bool.eq_iff_iff, decide_eq_true_iff, Nat.beq_eq]
      simp
      omega
    rw [this]; simp
  rw [hbl]
  refine iteF (ss_nil ?_)
  have e68 := e7.trans e8
  replace h06 := h06.ex e68
  replace h16 := h16.ex e68
  replace hf6 := hf6.ex e68
  replace xm6 := xm6.trans (FW.Ex.exm l e68)
  have j8 := j6.ex e68
  clear e7 e8 e68 j6 x6 e25 e3 e4 e5
  refine ss_cons (s_forS 5 nd rfl (as := stepList L bs) (ι := stepD) (src_tup (w_C C5 (hr.mono (by decide)) (wd_cons (w_v 1 h06) (wd_cons (w_v 2 h16) wd_nil)) ⟨L, bs, rfl, hS, hb, rfl⟩)) fun H9 e9 => ⟨fun i σ' H' => Ex H9 H' ∧ ∃ y5 y6 y7, σ' = [some (.ref l), some v, some u, some (.ref q), some (.ref pf), y5, y6, y7, none, none, none],
    ⟨Ex.refl _, none, none, none, rfl⟩, fun i σ' H' h => h.1, fun i sv s σ' H' hs hsv ⟨ex, y5, y6, y7, hσ⟩ => ?_, fun σ' H' ⟨ex, y5, y6, y7, hσ⟩ => ?_⟩)
  · subst hσ
    have hsm : s ∈ stepList L bs := List.mem_of_getElem? hs
    have e9' := e9.trans ex
    refine ss_cons (s_unp 6 7 nd rfl (w_C C6 (hr.mono (by decide)) (wd_cons (w_v 1 (h06.ex e9')) (wd_cons (w_v 2 (h16.ex e9')) (wd_cons (w_v 5 hsv) wd_nil))) ⟨L, bs, s, rfl, hS, hb, hsm, rfl⟩) fun av bv H10 e10 ha hb' => ?_)
    obtain ⟨o1, o2, o3⟩ := after_ok hb hsm
    have hfa : fold (after L bs s).1 (after L bs s).2 = EE := by rw [MM.fold_sem (MM.after_dom hD hb hsm) o3, MM.sem_step hD hb hsm, hEe]
    exact ss_cons (s_ifF (WT.is (wt_neb (w_C C3 (hr.mono (by decide)) (wd_cons (w_v 6 ha) (wd_cons (w_v 7 hb') wd_nil)) ⟨_, _, rfl, MM.after_strip hS hb hsm, o3, rfl⟩) (w_neP (r := EE) hr (w_v 4 (hf6.ex (e9'.trans e10)).dq) (w_lst wd_nil (by simp)) ((pu_rowsL _).up (by decide)) pu_nilL hE)) (by rw [hfa]; simp)) fun H11 e11 => ss_nil (ss_nil ⟨ex.trans (e10.trans e11), _, _, _, rfl⟩))
  · subst hσ
    have e9' := e9.trans ex
    refine ss_cons (s_par 8 9 nd rfl st_dt (w_v 1 (h06.ex e9')) (P2 := fun _ _ => dt _ _) (fun _ H1 e1 _ => w_v 2 (h16.ex (e9'.trans e1))) fun lv wv H10 H11 e10 hlv e11 hwv => ?_)
    replace hlv := hlv.ex e11
    have e9b := e9'.trans (e10.trans e11)
    have hW := MM.walk_sem L.length hD hb (Nat.le_refl _)
    refine ss_cons (s_forS 5 nd rfl (as := (walk L.length L bs).1) (ι := stepD) (src_tup (w_C C7 (hr.mono (by decide)) (wd_cons (w_v 1 (h06.ex e9b)) (wd_cons (w_v 2 (h16.ex e9b)) wd_nil)) ⟨L, bs, rfl, hS, hb, rfl⟩)) fun H12 e12' => ⟨fun i σ' H' => Ex H12 H' ∧ ∃ (a c : V) (y5 : Option V) (L' : List Nat) (bs' : List Bool) (fu : Nat), Dq K H' a (dN L') ∧ Dq K H' c (.str (mstr bs')) ∧ Strip L' ∧ MM.Dom L' ∧ bs'.length + 1 = L'.length ∧ L'.length ≤ fu ∧ (walk fu L' bs').1 = (walk L.length L bs).1.drop i ∧ MM.Sem L' bs' = EE ∧ σ' = [some (.ref l), some v, some u, some (.ref q), some (.ref pf), y5, y6, y7, some a, some c, none],
      ⟨Ex.refl _, lv, wv, y5, L, bs, L.length, hlv.ex e12', hwv.ex e12', hS, hD, hb, Nat.le_refl _, rfl, hEe, rfl⟩, fun i σ' H' h => h.1, fun i sv s σ' H' hs hsv ⟨ex2, a, c, y5, L', bs', fu, ga, gc, gS, gD, gb, gf, gw, gE, hσ⟩ => ?_, fun σ' H' ⟨ex2, a, c, y5, L', bs', fu, ga, gc, gS, gD, gb, gf, gw, gE, hσ⟩ => ?_⟩)
    · subst hσ
      have hgp := gD.pos
      obtain ⟨fu', rfl⟩ : ∃ k, fu = k + 1 := ⟨fu - 1, by omega⟩
      have hdrop : (walk L.length L bs).1.drop i = s :: (walk L.length L bs).1.drop (i + 1) := by
        have hi := (List.getElem?_eq_some_iff.mp hs).1
        rw [List.drop_eq_getElem_cons hi]
        congr 1
        exact (List.getElem?_eq_some_iff.mp hs).2
      rw [hdrop] at gw
      obtain ⟨hsm, hwk⟩ : s ∈ stepList L' bs' ∧ (walk fu' (after L' bs' s).1 (after L' bs' s).2).1 = (walk L.length L bs).1.drop (i + 1) := by
        cases c : stepList L' bs' with
        | nil => rw [walk_nil c] at gw; cases gw
        | cons s' r =>
          rw [walk_cons c] at gw
          obtain ⟨rfl, h⟩ := List.cons.inj gw
          exact ⟨List.mem_cons_self, h⟩
      refine ss_cons (s_ifF (wt_niP (r := false) hr (w_v 5 hsv) (w_C C5 (hr.mono (by decide)) (wd_cons (w_v 8 ga) (wd_cons (w_v 9 gc) wd_nil)) ⟨L', bs', rfl, gS, gb, rfl⟩) ((pu_step s).up (by decide)) (fun e he => ?_) ⟨fun _ => List.mem_map.mpr ⟨s, hsm, rfl⟩, fun _ => rfl⟩) fun H13 e13 => ss_nil ?_)
      · obtain ⟨s', _, rfl⟩ := List.mem_map.mp he
        exact (pu_step s').up (by decide)
      · refine ss_cons (s_unp 8 9 nd rfl (w_C C6 (hr.mono (by decide)) (wd_cons (w_v 8 (ga.ex e13)) (wd_cons (w_v 9 (gc.ex e13)) (wd_cons (w_v 5 (hsv.ex e13)) wd_nil))) ⟨L', bs', s, rfl, gS, gb, hsm, rfl⟩) fun av bv H14 e14 ha hb' => ss_nil ?_)
        obtain ⟨o1, o2, o3⟩ := after_ok gb hsm
        exact ⟨ex2.trans (e13.trans e14), av, bv, _, _, _, fu', ha, hb', MM.after_strip gS gb hsm, MM.after_dom gD gb hsm, o3, by omega, hwk, by rw [MM.sem_step gD gb hsm, gE], rfl⟩
    · subst hσ
      rw [List.drop_length] at gw
      have hgp := gD.pos
      obtain ⟨fu', rfl⟩ : ∃ k, fu = k + 1 := ⟨fu - 1, by omega⟩
      have hst : stepList L' bs' = [] := by
        cases c : stepList L' bs' with
        | nil => rfl
        | cons s' r => rw [walk_cons c] at gw; cases gw
      have hlen : decide ((L'.length : Int) = 1) = EE := by
        rw [← gE, MM.sem_stuck gD gb hst, Bool.eq_iff_iff, decide_eq_true_iff, Nat.beq_eq]
        omega
      have eF := e9b.trans (e12'.trans ex2)
      refine ss_cons (s_ret (Wd.is (w_and (r := true) (s := true) (w_eqP hr (w_C C5 (hr.mono (by decide)) (wd_cons (w_v 8 ga) (wd_cons (w_v 9 gc) wd_nil)) ⟨L', bs', rfl, gS, gb, rfl⟩) (w_tup wd_nil (by simp)) (pu_steps _) pu_nilT (by rw [hst]; exact ⟨fun _ => rfl, fun _ => rfl⟩)) fun _ => Wd.is (w_eqb (w_eqi (w_len T (w_v 8 ga) (dN_len L')) w_int) (w_neP (r := EE) hr (w_v 4 (hf6.ex eF).dq) (w_lst wd_nil (by simp)) ((pu_rowsL _).up (by decide)) pu_nilL hE)) (by rw [hlen]; simp)) rfl) fun z H20 e20 hz => ?_)
      cases hz
      exact hQ H20 (xm6.trans (FW.Ex.exm l (eF.trans e20))) (j8.ex (eF.trans e20))
end
end FW
set_option maxRecDepth 100000
set_option maxHeartbeats 4000000
/-! W13: a comprehension over a range whose element writes the jar. -/
namespace FW
open PySem PySem.Spec PyProof.Rows L2 Evl
section
variable {X : Cx} {σ : L2.St} {H H' Hb : Hp} {P P1 P2 : VP} {e a b c iter elt : Expr} {pos p p2 px py pz tp spos : Pos} {D : Ends} {A B body : List Stmt} {k : Nat} {ps : List Str} {x y z : Str} {es : List Expr} {Q : VK}
theorem tw_lcJ {n : Nat} {scope : Scope} (j : Nat) (T : BT X.mg) (nd : X.N.Nodup) (hc : X.calm = true) (ha : Wd X a σ H (.int (n : Int))) (hz : n ≤ 1000) {l : Addr} (hj : Jar X.K H l) (Cd : PyData → Prop) (hC : ∀ d, Cd d → noL d = true)
    (he : ∀ (i : Nat) H1, i < n → Exm l H H1 → Jar X.K H1 l → ∀ Q : VK, (∀ v d H2, Cd d → Dq X.K H2 v d → Exm l H1 H2 → Jar X.K H2 l → Q v H2) → ∀ (s : Shared) (H0 : Hp) (C : Addr) (cl : List (Str × Addr)) (fp : List Addr), tWp (X.blk s H0 scope (compEnvC scope cl C X.env) fp) elt ((wipe σ [j]).set j (some (.int (i : Int)))) H1 Q)
    (q : ∀ p ds H2, Exm l H H2 → Jar X.K H2 l → H p = none → LstAt X.K H2 p ds → ds.length = n → (∀ d ∈ ds, Cd d) → Q (.ref p) H2)
    (ok : BlkOk X.N X.env.scope scope [(x, j)]) (hw : ∀ v, wipe ((wipe σ [j]).set j (some v)) [j] = wipe σ [j] := by intro _; rfl) (hjx : X.N[j]? = some x := by rfl)
    (hx : ∀ s H0 C cl fp, Loc (X.blk s H0 scope (compEnvC scope cl C X.env) fp).env.scope x := by intro _ _ _ _ _; first | exact Or.inl rfl | exact Or.inr rfl)
    (hf : ∀ s H0 C cl fp, (X.blk s H0 scope (compEnvC scope cl C X.env) fp).fn x = true ∨ (X.blk s H0 scope (compEnvC scope cl C X.env) fp).env.scope.names.lookup x = some .local := by intro _ _ _ _ _; first | exact .inr rfl | exact .inl rfl)
    (hs : ∀ x, foldedSetIterable (.Call (.Name "range" p) [a] [] p2) X.env x = pure x := by intro _; rfl) (hg : Gl X "range" := by rfl) (hse : starEach [a] X.env = [(false, eval a X.env)] := by rfl) :
    tWp X (.ListComp elt [⟨.Name x px, .Call (.Name "range" p) [a] [] p2, [], 0⟩] scope pos) σ H Q := by
  refine tw_of (pe_lc (own := [(x, j)]) (g := gName j) (tt := tYes) (te := tBe X scope elt) hc nd (pi_range1 hg T.range (pa_cons wp_e pa_nil hse) hse) ok (fun s H0 C cl fp => pg_name nd hjx (hx s H0 C cl fp) (hf s H0 C cl fp)) (fun s H0 C cl fp => pts_nil) (fun s H0 C cl fp => ⟨fun pins s1 σ1 H1 Q I h => h s H0 C cl fp pins s1 I⟩) hs) ?_
  refine ha H (Ex.refl _) _ fun v H2 e2 hv => ?_
  cases hv
  refine ⟨(n : Int), rfl, by omega, by omega, fun Dl hD => ?_⟩
  have w := walk_range (lo := 0) (n := n)
  have hj2 := hj.ex e2
  have hne : Dl ≠ l := jar_ne hj2 hD
  refine lc_it w (fun i H' => Exm l H2 H' ∧ Jar X.K H' l ∧ ∃ ds, ds.length = i ∧ LstAt X.K H' Dl ds ∧ ∀ d ∈ ds, Cd d) ⟨FW.Ex.exm l (Ex.new hD), hj2.ex (Ex.new hD), [], rfl, ⟨[], upd_same, .nil, rfl⟩, fun d h => nomatch h⟩ (fun i H' _ p => trivial) (fun i v H' H3 hi p y => ?_) (fun H' p => ?_)
  · obtain ⟨rfl, rfl⟩ := y
    obtain ⟨xm, j3, ds, hl, hL, hds⟩ := p
    show gName j (V.int (0 + (i : Int))) _ _ _
    rw [Int.zero_add]
    refine ⟨hw _, ?_⟩
    simp only [tYes, ↓reduceIte]
    refine (he i H3 hi ((FW.Ex.exm l e2).trans xm) j3 _ fun v d H4 hd hv x4 j4 => ?_)
    obtain ⟨ws, l1, l2, l3⟩ := hL.exj x4 j3 hne
    refine ⟨ws, l1, ?_, ?_, ?_, ds ++ [d], by rw [List.length_append, hl]; rfl, LstAt.add l1 l2 l3 hv (hC d hd), fun e he => ?_⟩
    · rw [l2.len, hl]; exact sz_lt (by omega)
    · intro b o hb h
      have hbd : b ≠ Dl := fun e => by rw [e, hD] at h; cases h
      rw [upd_ne hbd]
      exact x4 b o hb (xm b o hb h)
    · obtain ⟨a1, a2, a3, us, g1, g2, g3⟩ := j4
      exact ⟨a1, a2, a3, us, by rw [upd_ne (Ne.symm hne)]; exact g1, dqa_upd l1 _ _ rfl g2, g3⟩
    · rcases List.mem_append.mp he with h | h
      · exact hds e h
      · rw [List.mem_singleton.mp h]; exact hd
  · obtain ⟨xm, j3, ds, hl, hL, hds⟩ := p
    exact q Dl ds H' ((FW.Ex.exm l e2).trans xm) j3 (fresh_back e2 hD) hL hl hds
/-- tuple(l), l read -/
theorem tw_tup (T : BT X.mg) (ha : tWp X a σ H fun v H1 => ∃ q ds, v = .ref q ∧ LstAt X.K H1 q ds ∧ ∀ u H2, Ex H1 H2 → Dq X.K H2 u (.tuple ds) → Q u H2) (hg : Gl X "tuple" := by rfl)
    (he : starEach [a] X.env = (false, eval a X.env) :: starEach [] X.env := by rfl) (hpl : (backTo pos (starEach [] X.env)).any (·.1) = false := by rfl) : tWp X (.Call (.Name "tuple" p) [a] [] pos) σ H Q := by
  refine tw_of (pe_callTy call_tuple_ofF hg T.tuple boot_tuple' wp_a (by decide) (by decide) he hpl) (ta_cons ?_ he)
  refine fun pins s I => wpAny_mono (ha pins s I) (fun v s1 h => ?_) fun _ _ h => h
  obtain ⟨w, H1, I1, r1, q, ds, hw, ⟨ws, g1, g2, g3⟩, k⟩ := h
  subst hw
  refine ⟨_, H1, I1, r1, ta_nil ⟨q, ws, rfl, sq_of g1, fun l o hl ho => k _ _ (Ex.new hl) (.tup (.of ho) (g2.ex (Ex.new hl)))⟩⟩
/-- ''.join(l), l read -/
theorem tw_join {x : Str} {apos : Pos} (ha : Wd X a σ H (.str x)) (hb : ∀ H1, Ex H H1 → tWp X b σ H1 fun v H2 => ∃ q ys, v = .ref q ∧ LstAt X.K H2 q (ys.map .str) ∧ (ys.map (·.length)).sum + ys.length * x.length ≤ 16777216 ∧ Q (.str (Txt.join x ys)) H2)
    (hs : starEach [b] X.env = [(false, eval b X.env)] := by rfl) (hbase : attributeBase a "join" X.env (eval a X.env) = eval a X.env := by rfl) (hline : (apos.endLine == pos.line) = true := by rfl) :
    tWp X (.Call (.Attribute a "join" apos) [b] [] pos) σ H Q := by
  refine tw_of (pe_join wp_e wp_e hs hbase hline) (tw_W ha fun v H1 e1 hv => ?_)
  cases hv
  refine ⟨⟨_, rfl⟩, fun pins s I => wpAny_mono (hb H1 e1 pins s I) (fun v s1 h => ?_) fun _ _ h => h⟩
  obtain ⟨w, H2, I2, r2, q, ys, hw, ⟨ws, g1, g2, g3⟩, hz, k⟩ := h
  subst hw
  rw [dpa_strs g2] at g1
  exact ⟨_, H2, I2, r2, x, _, ys, rfl, rfl, .inl (sq_of g1), hz, k⟩
end
end FW
set_option maxRecDepth 100000
set_option maxHeartbeats 4000000
/-! D14: the law's look at one drawn strip. -/
namespace FW
open PySem PySem.Spec PyProof.Rows L2 Evl
theorem pu_st (L : List Nat) (n : Nat) : Pu 2 (.tuple ((List.range n).map (stD L))) := .tup fun d hd => by
  obtain ⟨j, _, rfl⟩ := List.mem_map.mp hd
  refine .tup fun e he => ?_
  rcases List.mem_cons.mp he with rfl | he
  · exact .int _ _
  · rw [List.mem_singleton.mp he]; exact .int _ _
theorem ex_maxI : ∀ {l : List Int}, l ≠ [] → ∃ M, M ∈ l ∧ ∀ y ∈ l, y ≤ M
  | [], h => absurd rfl h
  | [a], _ => ⟨a, by simp, by simp⟩
  | a :: b :: r, _ => by
    obtain ⟨M, hM, h⟩ := ex_maxI (l := b :: r) (by simp)
    by_cases c : a ≤ M
    · refine ⟨M, List.mem_cons_of_mem _ hM, fun y hy => ?_⟩
      rcases List.mem_cons.mp hy with rfl | hy
      · exact c
      · exact h y hy
    · refine ⟨a, List.mem_cons_self, fun y hy => ?_⟩
      rcases List.mem_cons.mp hy with rfl | hy
      · omega
      · have := h y hy; omega
theorem ex_minI : ∀ {l : List Int}, l ≠ [] → ∃ M, M ∈ l ∧ ∀ y ∈ l, M ≤ y
  | [], h => absurd rfl h
  | [a], _ => ⟨a, by simp, by simp⟩
  | a :: b :: r, _ => by
    obtain ⟨M, hM, h⟩ := ex_minI (l := b :: r) (by simp)
    by_cases c : M ≤ a
    · refine ⟨M, List.mem_cons_of_mem _ hM, fun y hy => ?_⟩
      rcases List.mem_cons.mp hy with rfl | hy
      · exact c
      · exact h y hy
    · refine ⟨a, List.mem_cons_self, fun y hy => ?_⟩
      rcases List.mem_cons.mp hy with rfl | hy
      · omega
      · have := h y hy; omega
theorem mem_pts {L : List Nat} {y : Int} : y ∈ ptsL L ↔ ∃ k, k ≤ L.length ∧ pt L k = y := by
  unfold ptsL
  rw [List.mem_map]
  constructor
  · rintro ⟨k, hk, h⟩
    exact ⟨k, by have := List.mem_range.mp hk; omega, h⟩
  · rintro ⟨k, hk, h⟩
    exact ⟨k, List.mem_range.mpr (by omega), h⟩
theorem span_of {L : List Nat} (h1 : 1 ≤ L.length) : ∃ M m : Int, (M ∈ ptsL L ∧ ∀ y ∈ ptsL L, y ≤ M) ∧ (m ∈ ptsL L ∧ ∀ y ∈ ptsL L, m ≤ y) ∧ (M ∈ (List.range L.length).map (hi L) ∧ ∀ y ∈ (List.range L.length).map (hi L), y ≤ M) ∧ (m ∈ (List.range L.length).map (lo L) ∧ ∀ y ∈ (List.range L.length).map (lo L), m ≤ y) := by
  have hne : ptsL L ≠ [] := fun e => by
    have : pt L 0 ∈ ptsL L := mem_pts.mpr ⟨0, Nat.zero_le _, rfl⟩
    rw [e] at this; cases this
  obtain ⟨M, hM, bM⟩ := ex_maxI hne
  obtain ⟨m, hm, bm⟩ := ex_minI hne
  have hp : ∀ k, k ≤ L.length → pt L k ≤ M ∧ m ≤ pt L k := fun k hk => ⟨bM _ (mem_pts.mpr ⟨k, hk, rfl⟩), bm _ (mem_pts.mpr ⟨k, hk, rfl⟩)⟩
  refine ⟨M, m, ⟨hM, bM⟩, ⟨hm, bm⟩, ⟨?_, fun y hy => ?_⟩, ⟨?_, fun y hy => ?_⟩⟩
  · obtain ⟨k, hk, rfl⟩ := mem_pts.mp hM
    by_cases c : k < L.length
    · refine List.mem_map.mpr ⟨k, List.mem_range.mpr c, ?_⟩
      have := (hp (k + 1) (by omega)).1
      unfold hi; omega
    · obtain ⟨j, rfl⟩ : ∃ j, k = j + 1 := ⟨k - 1, by omega⟩
      refine List.mem_map.mpr ⟨j, List.mem_range.mpr (by omega), ?_⟩
      have := (hp j (by omega)).1
      unfold hi; omega
  · obtain ⟨j, hj, rfl⟩ := List.mem_map.mp hy
    have hj := List.mem_range.mp hj
    have a1 := (hp j (by omega)).1
    have a2 := (hp (j + 1) (by omega)).1
    unfold hi; omega
  · obtain ⟨k, hk, rfl⟩ := mem_pts.mp hm
    by_cases c : k < L.length
    · refine List.mem_map.mpr ⟨k, List.mem_range.mpr c, ?_⟩
      have := (hp (k + 1) (by omega)).2
      unfold lo; omega
    · obtain ⟨j, rfl⟩ : ∃ j, k = j + 1 := ⟨k - 1, by omega⟩
      refine List.mem_map.mpr ⟨j, List.mem_range.mpr (by omega), ?_⟩
      have := (hp j (by omega)).2
      unfold lo; omega
  · obtain ⟨j, hj, rfl⟩ := List.mem_map.mp hy
    have hj := List.mem_range.mp hj
    have a1 := (hp j (by omega)).2
    have a2 := (hp (j + 1) (by omega)).2
    unfold lo; omega
theorem sizes_of : ∀ {ds : List PyData}, (∀ d ∈ ds, ∃ k : Nat, k < 4 ∧ d = .int (1 + (k : Int))) → ∃ L : List Nat, ds = L.map (fun n : Nat => PyData.int (n : Int)) ∧ ∀ x ∈ L, 1 ≤ x ∧ x ≤ 4
  | [], _ => ⟨[], rfl, fun x h => nomatch h⟩
  | d :: r, h => by
    obtain ⟨L, rfl, hL⟩ := sizes_of fun d hd => h d (List.mem_cons_of_mem _ hd)
    obtain ⟨k, hk, rfl⟩ := h d List.mem_cons_self
    refine ⟨(1 + k) :: L, by rw [List.map_cons]; congr 1, fun x hx => ?_⟩
    rcases List.mem_cons.mp hx with rfl | hx
    · omega
    · exact hL x hx
theorem signs_of : ∀ {ds : List PyData}, (∀ d ∈ ds, ∃ b : Bool, d = .str (sign b)) → ∃ bs : List Bool, ds = (bs.map sign).map PyData.str
  | [], _ => ⟨[], rfl⟩
  | d :: r, h => by
    obtain ⟨bs, rfl⟩ := signs_of fun d hd => h d (List.mem_cons_of_mem _ hd)
    obtain ⟨b, rfl⟩ := h d List.mem_cons_self
    exact ⟨b :: bs, rfl⟩
theorem sum_four : ∀ {L : List Nat}, (∀ x ∈ L, x ≤ 4) → L.sum ≤ 4 * L.length
  | [], _ => by simp
  | a :: r, h => by
    have h1 := sum_four fun x hx => h x (List.mem_cons_of_mem _ hx)
    have h2 := h a List.mem_cons_self
    rw [List.sum_cons, List.length_cons]
    omega
theorem mv_list : (Str.ofString "mv").cps.toList = [109, 118] := by decide +kernel
theorem mv_in {c : Nat} (h : c ∈ (Str.ofString "mv").cps.toList) : ∃ b, PyData.str ⟨#[c]⟩ = .str (sign b) := by
  rw [mv_list] at h
  rcases List.mem_cons.mp h with rfl | h
  · exact ⟨false, rfl⟩
  · rw [List.mem_singleton.mp h]; exact ⟨true, rfl⟩
theorem mv_len : 1 ≤ (Str.ofString "mv").cps.toList.length ∧ (Str.ofString "mv").cps.toList.length ≤ 100 := by
  rw [mv_list]; decide
theorem rep_three : ∀ n : Nat, (List.replicate n [PyData.int 3]).flatten = (List.replicate n 3).map (fun n : Nat => PyData.int (n : Int))
  | 0 => rfl
  | n + 1 => by
    rw [List.replicate_succ, List.replicate_succ, List.flatten_cons, List.map_cons, rep_three n]; rfl
theorem strip_three {n : Nat} (h1 : 1 ≤ n) (h : n ≤ 5) : Strip (List.replicate n 3) := by
  refine ⟨by rw [List.length_replicate]; exact h1, by rw [List.length_replicate]; omega, fun x hx => ?_, ?_⟩
  · rw [(List.mem_replicate.mp hx).2]; decide
  · have := sum_four (L := List.replicate n 3) fun x hx => by rw [(List.mem_replicate.mp hx).2]; decide
    rw [List.length_replicate] at this
    omega
theorem dom_three {n : Nat} (h1 : 1 ≤ n) (h : n ≤ 5) : MM.Dom (List.replicate n 3) := by
  refine ⟨by rw [List.length_replicate]; exact h1, by rw [List.length_replicate]; omega, fun x hx => ?_, fun _ x hx => ?_, fun _ x hx => ?_⟩
  all_goals rw [(List.mem_replicate.mp hx).2]; decide
section
variable {P : Program} {w : World} {K : PySem.W.Frag} {mg : Str → Option Value} {base : Heap}
def spR (K : PySem.W.Frag) : Sp := fun vs H Q _ => ∃ l : Addr, vs = [.ref l] ∧ Jar K H l ∧ ∀ H2, Exm l H H2 → Q (.bl true) H2
theorem c_Lright (D : Df K mg "_law_right" s_Lright) (T : BT mg) (C1 : Cal P w K mg base 1 "_law_dip" ["_law_jar_here", "_law_many"] (spDip K)) (C2 : Cal P w K mg base 2 "_law_pick" ["_law_jar_here", "_law_some"] (spPickL K))
    (C3 : Cal P w K mg base 2 "_law_pick" ["_law_jar_here", "_law_some"] (spPickS K)) (C4 : Cal P w K mg base 1 "_law_piles" ["_law_many"] (spD K G_Lpiles)) (C5 : Cal P w K mg base 2 "_law_lies" ["_law_sizes", "_law_pile"] (spD K G_Llies))
    (C6 : Cal P w K mg base 6 "count_layerings" ["lengths"] (spD K G_count)) (C7 : Cal P w K mg base 6 "is_layering" ["lengths", "layers"] (spD K G_is_layering)) (C8 : Cal P w K mg base 4 "stretches" ["lengths"] (spD K G_stretches))
    (C9 : Cal P w K mg base 1 "_law_stretches" ["_law_sizes"] (spD K G_Lstr)) (C10 : Cal P w K mg base 4 "span" ["lengths"] (spD K G_span)) (C11 : Cal P w K mg base 8 "_law_strip_right" ["_law_jar_here", "_law_sizes", "_law_text", "_law_every"] (spSR K))
    (C12 : Cal P w K mg base 7 "layerings" ["lengths", "marks"] (spD K G_layerings)) (C13 : Cal P w K mg base 6 "foldings_with" ["marks"] (spD K G_foldings_with)) : Cal P w K mg base 9 "_law_right" ["_law_jar_here"] (spR K) := by
  refine D.cal (fun _ _ _ _ _ _ us hl => match us, hl with | [_], _ => rfl) fun f fd F => ?_
  refine okW F sc_Lright (fun vs H Q E ⟨l, h, _⟩ => by rw [h]; rfl) fun cdv A outer s0 H vs Q E hr ⟨l, hvs, hj, hQ⟩ => ?_
  subst hvs
  have nd := sc_Lright.nd
  refine ss_cons (s_set' 1 nd (tw_C C2 (hr.mono (by decide)) (ta_cons (tw_W (w_is 0) fun a H1 e1 ha => ta_cons (tw_W (w_lstN (ds := [.int 1, .int 2, .int 3, .int 3, .int 4, .int 4, .int 5]) (wd_cons w_int (wd_cons w_int (wd_cons w_int (wd_cons w_int (wd_cons w_int (wd_cons w_int (wd_cons w_int wd_nil))))))) (by simp)) fun v H2 e2 hv => ta_nil ?_)))))
  obtain ⟨q0, ws0, rfl, fq0, g1, g2⟩ := hv
  subst ha
  have e12 := e1.trans e2
  refine ⟨l, q0, _, rfl, hj.ex e12, jar_ne (hj.ex e1) fq0, ⟨ws0, g1, g2, rfl⟩, by simp, by simp, fun d v H3 hd hv x3 j3 => ?_⟩
  obtain ⟨n, hn1, hn5, rfl⟩ : ∃ n : Nat, 1 ≤ n ∧ n ≤ 5 ∧ d = PyData.int (n : Int) := by
    simp only [List.mem_cons, List.not_mem_nil, or_false] at hd
    rcases hd with rfl | rfl | rfl | rfl | rfl | rfl | rfl
    · exact ⟨1, by decide, by decide, rfl⟩
    · exact ⟨2, by decide, by decide, rfl⟩
    · exact ⟨3, by decide, by decide, rfl⟩
    · exact ⟨3, by decide, by decide, rfl⟩
    · exact ⟨4, by decide, by decide, rfl⟩
    · exact ⟨4, by decide, by decide, rfl⟩
    · exact ⟨5, by decide, by decide, rfl⟩
  cases hv
  have xm3 : Exm l H H3 := (FW.Ex.exm l e12).trans x3
  clear g1 g2 fq0 e12 e1 e2 x3 hd
  have hn3 : Dq K H3 (.int (n : Int)) (.int (n : Int)) := .int _
  refine ss_cons (s_set' 2 nd (tw_tup T (tw_lcJ (n := n) 7 T nd rfl (w_v 1 hn3) (by omega) j3 (fun d => ∃ k : Nat, k < 4 ∧ d = .int (1 + (k : Int))) (fun d ⟨k, _, h⟩ => by rw [h]; rfl)
    (fun i H4 hi x4 j4 Q kk s H0 C cl fp => tw_of (pe_op op_add wp_e wp_e) (tw_W w_int fun a H5 e5 ha => tw_C C1 (hr.mono (by decide)) (ta_cons (tw_W (w_is 0) fun b H6 e6 hb => ta_cons (tw_W w_int fun c H7 e7 hc => ta_nil ?_)))))
    (fun p ds H4 x4 j4 fp hL hlen hds => ⟨p, ds, rfl, hL, fun u H5 e5 hu => ?_⟩) (blkOk_by (N := n_Lright) (sc := defScope s_Lright) (by decide +kernel)))))
  · subst hb
    cases ha
    cases hc
    have e57 := e5.trans (e6.trans e7)
    exact ⟨l, 4, rfl, j4.ex e57, by decide, by decide, fun d H8 hd x8 j8 => ⟨1, (d : Int), rfl, rfl, kk _ _ H8 ⟨d, hd, rfl⟩ (.int _) ((FW.Ex.exm l e57).trans x8) j8⟩⟩
  obtain ⟨L, rfl, hL4⟩ := sizes_of hds
  rw [List.length_map] at hlen
  subst hlen
  have xm5 : Exm l H H5 := xm3.trans (x4.trans (FW.Ex.exm l e5))
  have j5 := j4.ex e5
  replace hu : Dq K H5 u (dN L) := hu
  clear hL hds fp e5 x4 j4 xm3 j3 hj
  have hS : Strip L := ⟨hn1, by omega, fun x hx => (hL4 x hx).1, by have := sum_four fun x hx => (hL4 x hx).2; omega⟩
  have hD : MM.Dom L := ⟨hn1, hn5, fun x hx => (hL4 x hx).1, fun _ x hx => (hL4 x hx).2, fun _ x hx => by have := (hL4 x hx).2; omega⟩
  have hF : Few L := hD.few64
  have hi5 : ∀ {H' : Hp}, Dq K H' (.int (L.length : Int)) (.int (L.length : Int)) := .int _
  have hpl : (piles L.length L.length).length ≤ 3125 := Nat.le_trans (piles_len hn5 _) (Nat.le_trans (Nat.pow_le_pow_right (by decide) hn5) (by decide))
  refine ss_cons (s_lc1 3 8 nd rfl (as := piles L.length L.length) (ι := dN) (g := dN) (f := fun p => laidB L L.length (spot p)) (src_list (w_C C4 (hr.mono (by decide)) (wd_cons (w_v 1 hi5) wd_nil) ⟨L.length, rfl, hn1, hn5, rfl⟩)) (by omega) (fun _ _ => noL_dN _)
    (fun p hp v2 H6 e6 hv2 s0 H0 C cl fp => wt_v (w_C C5 (hr.mono (by decide)) (wd_cons (w_v 2 (hu.ex e6)) (wd_cons (w_v 8 hv2) wd_nil)) ⟨L, p, rfl, pile_of (MM.isPile_iff.mpr (MM.mem_piles.mp hp)), (MM.mem_piles.mp hp).1, hn1, by omega, rfl⟩))
    (fun p hp _ v2 H6 e6 hv2 s0 H0 C cl fp => w_v 8 hv2) (fun ev H6 e6 ⟨q, ws, ee, fq, g1, g2⟩ => ?_) (blkOk_by (N := n_Lright) (sc := defScope s_Lright) (by decide +kernel)) rfl)
  subst ee
  have hev : LstAt K H6 q ((every L).map dN) := ⟨ws, g1, g2, noLs_rows _⟩
  have hql : q ≠ l := jar_ne j5 fq
  clear g1 g2
  have h6 := hu.ex e6
  have hmem : ∀ {p}, p ∈ (every L).take 9 → MM.IsPile L.length p ∧ Laid L L.length (spot p) := fun hp => MM.mem_every.mp (List.mem_of_mem_take hp)
  refine ss_cons (s_ifF (WT.is (wt_or (r := false) (s := false) (WT.is (wt_nei (w_C C6 (hr.mono (by decide)) (wd_cons (w_v 2 h6) wd_nil) ⟨L, rfl, hS, hF, rfl⟩) (w_len T (w_v 3 hev.dq) rfl)) ?_)
    (fun _ => wt_neP hr (newL_dt (w_lc1 8 nd rfl (as := (every L).take 9) (ι := dN) (g := dN) (f := fun _ => false) (src_list (Wd.is (w_slL (w_v 3 hev.dq) wo_n (wo_s w_int)) (congrArg PyData.list ((cutD_take _ 9).trans List.map_take.symm)))) (by rw [List.length_take]; omega) (fun _ _ => noL_dN _)
        (fun p hp v2 H7 e7 hv2 s0 H0 C cl fp => WT.is (wt_not (wt_v (w_C C7 (hr.mono (by decide)) (wd_cons (w_v 2 (h6.ex e7)) (wd_cons (w_v 8 hv2) wd_nil)) ⟨L, p, rfl, hS, pile_of (hmem hp).1, (hmem hp).1.len, rfl⟩))) (by rw [laidB_t (hmem hp).2]; rfl))
        (fun _ _ h => nomatch h) (blkOk_by (N := n_Lright) (sc := defScope s_Lright) (by decide +kernel)))) (w_lst wd_nil (by simp)) ((pu_rowsL _).up (by decide)) pu_nilL ?_)) rfl) fun H7 e7 => ss_nil ?_)
  · rw [List.length_map, MM.every_len hn1 (by omega)]; simp
  · have e0 : List.filter (fun _ => false) ((every L).take 9) = [] := List.filter_eq_nil_iff.mpr fun _ _ h => by cases h
    rw [e0]
    exact ⟨(fun h => nomatch h), fun h => absurd rfl h⟩
  have h7 := h6.ex e7
  refine ss_cons (s_ifF (wt_neP (r := false) hr (w_C C8 (hr.mono (by decide)) (wd_cons (w_v 2 h7) wd_nil) ⟨L, rfl, hS, rfl⟩) (w_tupL T (w_C C9 (hr.mono (by decide)) (wd_cons (w_v 2 h7) wd_nil) ⟨L, rfl, by omega, rfl⟩)) ((pu_st L _).up (by decide)) ((pu_st L _).up (by decide)) ⟨(fun h => nomatch h), fun h => absurd rfl h⟩) fun H8 e8 => ss_nil ?_)
  have h8 := h7.ex e8
  obtain ⟨M, m, pM, pm, qM, qm⟩ := span_of hn1
  refine ss_cons (s_set 4 nd (w_sub (w_maxL T rfl (ns := (List.range L.length).map (hi L)) (Wd.is (newL_dt (w_lc 9 nd rfl (as := List.range L.length) (ι := stD L) (g := fun j => .int (hi L j)) (src_tup (w_C C8 (hr.mono (by decide)) (wd_cons (w_v 2 h8) wd_nil) ⟨L, rfl, hS, rfl⟩)) (by rw [List.length_range]; omega) (fun _ _ => rfl)
      (fun j _ v2 H9 e9 hv2 s0 H0 C cl fp => w_ixT (w_v 9 hv2) w_int (atI_nat (j := 1) rfl)) (blkOk_by (N := n_Lright) (sc := defScope s_Lright) (by decide +kernel)))) (by rw [List.map_map]; rfl)) qM.1 qM.2)
    (w_minL T rfl (ns := (List.range L.length).map (lo L)) (Wd.is (newL_dt (w_lc 9 nd rfl (as := List.range L.length) (ι := stD L) (g := fun j => .int (lo L j)) (src_tup (w_C C8 (hr.mono (by decide)) (wd_cons (w_v 2 h8) wd_nil) ⟨L, rfl, hS, rfl⟩)) (by rw [List.length_range]; omega) (fun _ _ => rfl)
      (fun j _ v2 H9 e9 hv2 s0 H0 C cl fp => w_ixT (w_v 9 hv2) w_int (atI_nat (j := 0) rfl)) (blkOk_by (N := n_Lright) (sc := defScope s_Lright) (by decide +kernel)))) (by rw [List.map_map]; rfl)) qm.1 qm.2)) fun wv H9 e9 hw => ?_)
  refine ss_cons (s_ifF (WT.is (wt_nei (w_C C10 (hr.mono (by decide)) (wd_cons (w_v 2 (h8.ex e9)) wd_nil) ⟨L, M, m, rfl, hS, pM, pm, rfl⟩) (w_v 4 hw)) (by simp)) fun H10 e10 => ss_nil ?_)
  have e610 := e7.trans (e8.trans (e9.trans e10))
  have hev10 := hev.ex e610
  have h10 := h6.ex e610
  have j10 := j5.ex (e6.trans e610)
  have xm10 : Exm l H H10 := xm5.trans (FW.Ex.exm l (e6.trans e610))
  clear e610 e7 e8 e9 e10 h8 h7 h6 hev hu j5 xm5 e6 hmem qM qm pM pm hw
  refine ss_cons (s_forR1 5 (n := 2) T nd rfl (Wd.is w_int rfl) (by decide) fun H11 e11 => ⟨fun i σ' H' => Exm l H10 H' ∧ Jar K H' l ∧ ∃ y5 y6, σ' = [some (.ref l), some (.int (L.length : Int)), some u, some (.ref q), some wv, y5, y6, none, none, none],
    ⟨FW.Ex.exm l e11, j10.ex e11, none, none, rfl⟩, fun i σ' H' hin ⟨xm, j, y5, y6, hσ⟩ => ?_, fun σ' H' ⟨xm, j, y5, y6, hσ⟩ => ?_⟩)
  · subst hσ
    have hu' := h10.exm xm j10 (noL_dN _)
    have hev' := hev10.exj xm j10 hql
    refine ss_cons (s_set' 6 nd (tw_join w_str (fun H12 e12 => tw_lcJ (n := L.length - 1) 7 T nd rfl (Wd.is (w_sub (w_v 1 hi5) w_int) (congrArg PyData.int (by omega))) (by omega) (j.ex e12) (fun d => ∃ b : Bool, d = .str (sign b)) (fun d ⟨b, h⟩ => by rw [h]; rfl)
      (fun i H13 hi x13 j13 Q kk s H0 C cl fp => tw_C C3 (hr.mono (by decide)) (ta_cons (tw_W (w_is 0) fun a H14 e14 ha => ta_cons (tw_W w_str fun b H15 e15 hb => ta_nil ?_))))
      (fun p ds H13 x13 j13 fp hL hlen hds => ?_) (blkOk_by (N := n_Lright) (sc := defScope s_Lright) (by decide +kernel)))))
    · subst ha
      cases hb
      exact ⟨l, _, rfl, j13.ex (e14.trans e15), mv_len.1, mv_len.2, fun c H16 hc x16 j16 => kk _ _ H16 (mv_in hc) (.str _) ((FW.Ex.exm l (e14.trans e15)).trans x16) j16⟩
    · obtain ⟨bs, rfl⟩ := signs_of hds
      rw [List.length_map, List.length_map] at hlen
      refine ⟨p, _, rfl, hL, join_small bs (by omega), ?_⟩
      rw [join_signs bs]
      have hb : bs.length + 1 = L.length := by omega
      have xq : Exm l H' H13 := (FW.Ex.exm l e12).trans x13
      have hu3 := hu'.exm xq j (noL_dN _)
      have hev3 := hev'.exj xq j hql
      have ht : ∀ {H' : Hp}, Dq K H' (.str (mstr bs)) (.str (mstr bs)) := .str _
      refine ss_cons (s_if' (tt_of (pt_not (pt_val wp_e (by intro _; rfl))) (tw_C C11 hr (ta_cons (tw_W (w_is 0) fun a1 H14 e14 h1 => ta_cons (tw_W (w_v 2 (hu3.ex e14)) fun a2 H15 e15 h2 => ta_cons (tw_W (w_v 6 ht) fun a3 H16 e16 h3 => ta_cons (tw_W (w_is 3) fun a4 H17 e17 h4 => ta_nil ?_))))))))
      subst h1 h4
      have e47 := e14.trans (e15.trans (e16.trans e17))
      exact ⟨l, q, a2, a3, L, bs, rfl, j13.ex e47, hql, h2.ex (e16.trans e17), h3.ex e17, hev3.ex e47, hS, hD, hb, fun H18 x18 j18 => ⟨true, rfl, iteF (ss_nil (ss_nil ⟨xm.trans (xq.trans ((FW.Ex.exm l e47).trans x18)), j18, _, _, rfl⟩))⟩⟩
  · subst hσ
    refine ss_cons (s_set' 6 nd (tw_join w_str (fun H12 e12 => tw_lcJ (n := L.length - 1) 7 T nd rfl (Wd.is (w_sub (w_v 1 hi5) w_int) (congrArg PyData.int (by omega))) (by omega) (j.ex e12) (fun d => ∃ b : Bool, d = .str (sign b)) (fun d ⟨b, h⟩ => by rw [h]; rfl)
      (fun i H13 hi x13 j13 Q kk s H0 C cl fp => tw_C C3 (hr.mono (by decide)) (ta_cons (tw_W (w_is 0) fun a H14 e14 ha => ta_cons (tw_W w_str fun b H15 e15 hb => ta_nil ?_))))
      (fun p ds H13 x13 j13 fp hL hlen hds => ?_) (blkOk_by (N := n_Lright) (sc := defScope s_Lright) (by decide +kernel)))))
    · subst ha
      cases hb
      exact ⟨l, _, rfl, j13.ex (e14.trans e15), mv_len.1, mv_len.2, fun c H16 hc x16 j16 => kk _ _ H16 (mv_in hc) (.str _) ((FW.Ex.exm l (e14.trans e15)).trans x16) j16⟩
    · obtain ⟨bs, rfl⟩ := signs_of hds
      rw [List.length_map, List.length_map] at hlen
      refine ⟨p, _, rfl, hL, join_small bs (by omega), ?_⟩
      rw [join_signs bs]
      have hb : bs.length + 1 = L.length := by omega
      have xq : Exm l H H13 := xm10.trans (xm.trans ((FW.Ex.exm l e12).trans x13))
      have ht : ∀ {H' : Hp}, Dq K H' (.str (mstr bs)) (.str (mstr bs)) := .str _
      refine ss_cons (s_ret (w_eqP (r := true) hr (w_C C12 (hr.mono (by decide)) (wd_cons (Wd.is (w_repT (n := L.length) (w_tup (wd_cons w_int wd_nil) (by simp)) (w_v 1 hi5) (by simp) (by simp) hn1 (by omega)) (congrArg PyData.tuple (rep_three L.length))) (wd_cons (w_v 6 ht) wd_nil)) ⟨List.replicate L.length 3, bs, rfl, strip_three hn1 hn5, by rw [List.length_replicate]; exact hb, (dom_three hn1 hn5).few64, rfl⟩)
        (w_C C13 (hr.mono (by decide)) (wd_cons (w_v 6 ht) wd_nil) ⟨bs, rfl, by omega, MM.stamps_few (by omega), rfl⟩) ((pu_rows _).up (by decide)) ((pu_rows _).up (by decide)) ⟨fun _ => ?_, fun _ => rfl⟩) fun z H20 e20 hz => ?_)
      · rw [MM.marked_folds (by rw [List.length_replicate]; exact hn1) (by rw [List.length_replicate]; omega), MM.stamps (by omega), hb]
      · cases hz
        exact hQ H20 (xq.trans (FW.Ex.exm l e20))
end
end FW
set_option maxRecDepth 100000
set_option maxHeartbeats 4000000
/-! D15: the law. -/
namespace FW
open PySem PySem.Spec PyProof.Rows L2 Evl
section
variable {P : Program} {w : World} {K : PySem.W.Frag} {mg : Str → Option Value} {base : Heap}
def spLaw (K : PySem.W.Frag) : Sp := fun vs H Q _ => ∃ (a : Addr) (ns : List Int), vs = [.ref a] ∧ SqL K H a (ns.map V.int) ∧ ns.length ≤ 63 ∧ ∀ H2, Ex H H2 → Q (.bl true) H2
theorem ok_law {f : Addr} {fd : FuncData} (F : FnP K "law" s_law f fd) (T : BT mg) (C1 : Cal P w K mg base 9 "_law_right" ["_law_jar_here"] (spR K)) (C2 : Cal P w K mg base 1 "_law_jar" ["_law_script", "_law_turn"] (spJ K)) : FnOk P w K mg base CX0 10 f fd ["_law_script"] (spLaw K) := by
  refine okW F sc_law (fun vs H Q E ⟨l, ns, h, _⟩ => by rw [h]; rfl) fun cdv A outer s0 H vs Q E hr ⟨a, ns, hvs, hsq, hz, hQ⟩ => ?_
  subst hvs
  have nd := sc_law.nd
  have h0 : Dq K H (.ref a) (.list (ns.map .int)) := .lst hsq (ints_dpa ns)
  refine ss_cons (s_ret (w_all T rfl (bs := [true, true]) (Wd.is (newL_dt (w_lc 1 nd rfl (as := List.range 2) (ι := fun i : Nat => .int (i : Int)) (g := fun _ => .bool true) (src_rng T (Wd.is (w_max2 T rfl w_int (w_min2 T rfl (w_len T (w_v 0 h0) rfl) w_int)) (congrArg PyData.int (by omega))) (by decide)) (by decide) (fun _ _ => rfl)
    (fun t ht v2 H3 e3 hv2 s0 H0 C cl fp => fun H1 e1 Q k => tw_C C1 hr (ta_cons (tw_C C2 (hr.mono (by decide)) (ta_cons (tw_W (w_v 0 (h0.ex (e3.trans e1))) fun b H4 e4 hb => ta_cons (tw_W (w_v 1 (hv2.ex (e1.trans e4))) fun c H5 e5 hc => ta_nil ?_))))))
    (blkOk_by (N := n_law) (sc := defScope s_law) (by decide +kernel)))) rfl)) fun z H2 e2 hz' => ?_)
  · exact ⟨ns, t, by omega, .cons (hb.ex e5) (.cons hc .nil), fun p H6 e6 hp j => ta_nil ⟨p, rfl, j, fun H7 x7 => k (.bl true) H7 ((e4.trans e5).trans (x7.ex e6 hp)) (.bl _)⟩⟩
  · cases hz'
    exact hQ H2 e2
end
end FW
set_option maxRecDepth 100000
set_option maxHeartbeats 4000000
/-! D16: all defs put together (printed by gen_comp.py). -/
namespace FW
open PySem PySem.Spec PyProof.Rows L2 Evl
structure Ds (K : PySem.W.Frag) (mg : Str → Option Value) : Prop where
  f_law : Df K mg "law" s_law
  f_Ldip : Df K mg "_law_dip" s_Ldip
  f_Lpick : Df K mg "_law_pick" s_Lpick
  f_Lpiles : Df K mg "_law_piles" s_Lpiles
  f_Lstretches : Df K mg "_law_stretches" s_Lstretches
  f_Lpoints : Df K mg "_law_points" s_Lpoints
  f_Llies : Df K mg "_law_lies" s_Llies
  f_is_integer : Df K mg "is_integer" s_is_integer
  f_is_between : Df K mg "is_between" s_is_between
  f_check_lengths : Df K mg "check_lengths" s_check_lengths
  f_spots_of : Df K mg "spots_of" s_spots_of
  f_points_of : Df K mg "points_of" s_points_of
  f_stretch_list : Df K mg "stretch_list" s_stretch_list
  f_is_pierced : Df K mg "is_pierced" s_is_pierced
  f_are_crossed : Df K mg "are_crossed" s_are_crossed
  f_is_laid : Df K mg "is_laid" s_is_laid
  f_layering_list : Df K mg "layering_list" s_layering_list
  f_count_layerings : Df K mg "count_layerings" s_count_layerings
  f_is_sized : Df K mg "is_sized" s_is_sized
  f_wrong_piece : Df K mg "wrong_piece" s_wrong_piece
  f_is_pile : Df K mg "is_pile" s_is_pile
  f_check_layers : Df K mg "check_layers" s_check_layers
  f_is_layering : Df K mg "is_layering" s_is_layering
  f_stretches : Df K mg "stretches" s_stretches
  f_span : Df K mg "span" s_span
  f_Lmarks : Df K mg "_law_marks" s_Lmarks
  f_are_signs : Df K mg "are_signs" s_are_signs
  f_check_strip : Df K mg "check_strip" s_check_strip
  f_mark_in : Df K mg "mark_in" s_mark_in
  f_marks_by : Df K mg "marks_by" s_marks_by
  f_marked_list : Df K mg "marked_list" s_marked_list
  f_layerings : Df K mg "layerings" s_layerings
  f_step_list : Df K mg "step_list" s_step_list
  f_stepped : Df K mg "stepped" s_stepped
  f_steps_of : Df K mg "steps_of" s_steps_of
  f_does_fold : Df K mg "does_fold" s_does_fold
  f_is_foldable : Df K mg "is_foldable" s_is_foldable
  f_steps_now : Df K mg "steps_now" s_steps_now
  f_is_step : Df K mg "is_step" s_is_step
  f_after_step : Df K mg "after_step" s_after_step
  f_Ldrawn_end : Df K mg "_law_drawn_end" s_Ldrawn_end
  f_steps : Df K mg "steps" s_steps
  f_Lstrip_right : Df K mg "_law_strip_right" s_Lstrip_right
  f_are_marks : Df K mg "are_marks" s_are_marks
  f_check_marks : Df K mg "check_marks" s_check_marks
  f_with_piece : Df K mg "with_piece" s_with_piece
  f_ends_of : Df K mg "ends_of" s_ends_of
  f_do_meet : Df K mg "do_meet" s_do_meet
  f_does_last_fit : Df K mg "does_last_fit" s_does_last_fit
  f_foldings_told : Df K mg "foldings_told" s_foldings_told
  f_folding_list : Df K mg "folding_list" s_folding_list
  f_foldings_with : Df K mg "foldings_with" s_foldings_with
  f_Lright : Df K mg "_law_right" s_Lright
  f_Ljar : Df K mg "_law_jar" s_Ljar
theorem law_all {P : Program} {w : World} {K : PySem.W.Frag} {mg : Str → Option Value} {base : Heap} (S : Ds K mg) (T : BT mg) (M : CT mg) : Cal P w K mg base 9 "_law_right" ["_law_jar_here"] (spR K) ∧ Cal P w K mg base 1 "_law_jar" ["_law_script", "_law_turn"] (spJ K) := by
  have k_Ldip := c_Ldip (P := P) (w := w) (base := base) S.f_Ldip T
  have k_LpickL := c_LpickL (P := P) (w := w) (base := base) S.f_Lpick T k_Ldip
  have k_LpickS := c_LpickS (P := P) (w := w) (base := base) S.f_Lpick T k_Ldip
  have k_Lpiles := c_Lpiles (P := P) (w := w) (base := base) S.f_Lpiles T
  have k_Lstr := c_Lstr (P := P) (w := w) (base := base) S.f_Lstretches T
  have k_Lpts := c_Lpts (P := P) (w := w) (base := base) S.f_Lpoints T
  have k_Llies := c_Llies (P := P) (w := w) (base := base) S.f_Llies T k_Lstr k_Lpts
  have k_is_integer := c_is_integer (P := P) (w := w) (base := base) S.f_is_integer T
  have k_is_between := c_is_between (P := P) (w := w) (base := base) S.f_is_between T k_is_integer
  have k_check_lengths := c_check_lengths (P := P) (w := w) (base := base) S.f_check_lengths T M k_is_between
  have k_spots_of := c_spots_of (P := P) (w := w) (base := base) S.f_spots_of T
  have k_points_of := c_points_of (P := P) (w := w) (base := base) S.f_points_of T
  have k_stretch_list := c_stretch_list (P := P) (w := w) (base := base) S.f_stretch_list T k_points_of
  have k_is_pierced := c_is_pierced (P := P) (w := w) (base := base) S.f_is_pierced T k_points_of k_stretch_list
  have k_are_crossed := c_are_crossed (P := P) (w := w) (base := base) S.f_are_crossed T k_points_of
  have k_is_laid := c_is_laid (P := P) (w := w) (base := base) S.f_is_laid k_spots_of k_is_pierced k_are_crossed
  have k_layering_list := c_layering_list (P := P) (w := w) (base := base) S.f_layering_list T k_is_laid
  have k_count_layerings := c_count_layerings (P := P) (w := w) (base := base) S.f_count_layerings T k_check_lengths k_layering_list
  have k_is_sized := c_is_sized (P := P) (w := w) (base := base) S.f_is_sized T M
  have k_wrong_piece := c_wrong_piece (P := P) (w := w) (base := base) S.f_wrong_piece T k_is_between
  have k_is_pile := c_is_pile (P := P) (w := w) (base := base) S.f_is_pile T k_is_sized k_wrong_piece
  have k_check_layers := c_check_layers (P := P) (w := w) (base := base) S.f_check_layers k_is_pile
  have k_is_layering := c_is_layering (P := P) (w := w) (base := base) S.f_is_layering T k_check_lengths k_check_layers k_is_laid
  have k_stretches := c_stretches (P := P) (w := w) (base := base) S.f_stretches T k_check_lengths k_stretch_list
  have k_span := c_span (P := P) (w := w) (base := base) S.f_span T k_check_lengths k_points_of
  have k_Lmarks := c_Lmarks (P := P) (w := w) (base := base) S.f_Lmarks T
  have k_are_signs := c_are_signs (P := P) (w := w) (base := base) S.f_are_signs T
  have k_check_strip := c_check_strip (P := P) (w := w) (base := base) S.f_check_strip T k_check_lengths k_are_signs
  have k_mark_in := c_mark_in (P := P) (w := w) (base := base) S.f_mark_in
  have k_marks_by := c_marks_by (P := P) (w := w) (base := base) S.f_marks_by T k_mark_in
  have k_marked_list := c_marked_list (P := P) (w := w) (base := base) S.f_marked_list k_layering_list k_marks_by
  have k_layerings := c_layerings (P := P) (w := w) (base := base) S.f_layerings T k_check_strip k_marked_list
  have k_step_list := c_step_list (P := P) (w := w) (base := base) S.f_step_list T
  have k_stepped := c_stepped (P := P) (w := w) (base := base) S.f_stepped
  have k_steps_of := c_steps_of (P := P) (w := w) (base := base) S.f_steps_of k_step_list k_stepped
  have k_does_fold := c_does_fold (P := P) (w := w) (base := base) S.f_does_fold T k_steps_of
  have k_is_foldable := c_is_foldable (P := P) (w := w) (base := base) S.f_is_foldable k_check_strip k_does_fold
  have k_steps_now := c_steps_now (P := P) (w := w) (base := base) S.f_steps_now T k_check_strip k_step_list
  have k_is_step := c_is_step (P := P) (w := w) (base := base) S.f_is_step T M k_is_between k_step_list
  have k_after_step := c_after_step (P := P) (w := w) (base := base) S.f_after_step k_check_strip k_is_step k_stepped
  have k_LpickT := c_LpickT (P := P) (w := w) (base := base) S.f_Lpick T k_Ldip
  have k_Ldrawn := c_Ldrawn (P := P) (w := w) (base := base) S.f_Ldrawn_end T k_steps_now k_after_step k_LpickT
  have k_steps := c_steps (P := P) (w := w) (base := base) S.f_steps T k_check_strip k_steps_of
  have k_Lstrip := c_Lstrip (P := P) (w := w) (base := base) S.f_Lstrip_right T k_Lmarks k_layerings k_is_foldable k_Ldrawn k_steps_now k_after_step k_steps
  have k_are_marks := c_are_marks (P := P) (w := w) (base := base) S.f_are_marks T M
  have k_check_marks := c_check_marks (P := P) (w := w) (base := base) S.f_check_marks k_are_marks
  have k_with_piece := c_with_piece (P := P) (w := w) (base := base) S.f_with_piece T
  have k_ends_of := c_ends_of (P := P) (w := w) (base := base) S.f_ends_of T
  have k_do_meet := c_do_meet (P := P) (w := w) (base := base) S.f_do_meet T k_ends_of
  have k_does_last_fit := c_does_last_fit (P := P) (w := w) (base := base) S.f_does_last_fit T k_do_meet
  have k_foldings_told := c_foldings_told (P := P) (w := w) (base := base) S.f_foldings_told T k_with_piece k_does_last_fit k_mark_in
  have k_folding_list := c_folding_list (P := P) (w := w) (base := base) S.f_folding_list k_foldings_told
  have k_foldings_with := c_foldings_with (P := P) (w := w) (base := base) S.f_foldings_with T k_check_marks k_folding_list
  have k_Lright := c_Lright (P := P) (w := w) (base := base) S.f_Lright T k_Ldip k_LpickL k_LpickS k_Lpiles k_Llies k_count_layerings k_is_layering k_stretches k_Lstr k_span k_Lstrip k_layerings k_foldings_with
  have k_Ljar := c_Ljar (P := P) (w := w) (base := base) S.f_Ljar T
  exact ⟨k_Lright, k_Ljar⟩
end FW
set_option maxRecDepth 100000
set_option maxHeartbeats 0
/-! D17: the head's data, the facts by names (printed by gen_d17.py). -/
namespace FW
open PySem PySem.Spec PyProof.Rows L2 Evl
def d_is_integer : He.DefD := ⟨("is_integer", none), "is_integer", "is_integer", defArgs s_is_integer, defBody s_is_integer, defScope s_is_integer, [], []⟩
def d_is_between : He.DefD := ⟨("is_between", none), "is_between", "is_between", defArgs s_is_between, defBody s_is_between, defScope s_is_between, [], []⟩
def d_are_signs : He.DefD := ⟨("are_signs", none), "are_signs", "are_signs", defArgs s_are_signs, defBody s_are_signs, defScope s_are_signs, [], []⟩
def d_is_sized : He.DefD := ⟨("is_sized", none), "is_sized", "is_sized", defArgs s_is_sized, defBody s_is_sized, defScope s_is_sized, [], []⟩
def d_wrong_piece : He.DefD := ⟨("wrong_piece", none), "wrong_piece", "wrong_piece", defArgs s_wrong_piece, defBody s_wrong_piece, defScope s_wrong_piece, [], []⟩
def d_is_pile : He.DefD := ⟨("is_pile", none), "is_pile", "is_pile", defArgs s_is_pile, defBody s_is_pile, defScope s_is_pile, [], []⟩
def d_check_layers : He.DefD := ⟨("check_layers", none), "check_layers", "check_layers", defArgs s_check_layers, defBody s_check_layers, defScope s_check_layers, [], []⟩
def d_are_marks : He.DefD := ⟨("are_marks", none), "are_marks", "are_marks", defArgs s_are_marks, defBody s_are_marks, defScope s_are_marks, [], []⟩
def d_check_marks : He.DefD := ⟨("check_marks", none), "check_marks", "check_marks", defArgs s_check_marks, defBody s_check_marks, defScope s_check_marks, [], []⟩
def d_ends_of : He.DefD := ⟨("ends_of", none), "ends_of", "ends_of", defArgs s_ends_of, defBody s_ends_of, defScope s_ends_of, [], []⟩
def d_do_meet : He.DefD := ⟨("do_meet", none), "do_meet", "do_meet", defArgs s_do_meet, defBody s_do_meet, defScope s_do_meet, [], []⟩
def d_mark_in : He.DefD := ⟨("mark_in", none), "mark_in", "mark_in", defArgs s_mark_in, defBody s_mark_in, defScope s_mark_in, [], []⟩
def d_marks_by : He.DefD := ⟨("marks_by", none), "marks_by", "marks_by", defArgs s_marks_by, defBody s_marks_by, defScope s_marks_by, [], []⟩
def d_with_piece : He.DefD := ⟨("with_piece", none), "with_piece", "with_piece", defArgs s_with_piece, defBody s_with_piece, defScope s_with_piece, [], []⟩
def d_does_last_fit : He.DefD := ⟨("does_last_fit", none), "does_last_fit", "does_last_fit", defArgs s_does_last_fit, defBody s_does_last_fit, defScope s_does_last_fit, [], []⟩
def d_foldings_told : He.DefD := ⟨("foldings_told", none), "foldings_told", "foldings_told", defArgs s_foldings_told, defBody s_foldings_told, defScope s_foldings_told, [], []⟩
def d_folding_list : He.DefD := ⟨("folding_list", none), "folding_list", "folding_list", defArgs s_folding_list, defBody s_folding_list, defScope s_folding_list, [], []⟩
def d_foldings_with : He.DefD := ⟨("foldings_with", none), "foldings_with", "foldings_with", defArgs s_foldings_with, defBody s_foldings_with, defScope s_foldings_with, [], []⟩
def d_check_lengths : He.DefD := ⟨("check_lengths", none), "check_lengths", "check_lengths", defArgs s_check_lengths, defBody s_check_lengths, defScope s_check_lengths, [], []⟩
def d_check_strip : He.DefD := ⟨("check_strip", none), "check_strip", "check_strip", defArgs s_check_strip, defBody s_check_strip, defScope s_check_strip, [], []⟩
def d_points_of : He.DefD := ⟨("points_of", none), "points_of", "points_of", defArgs s_points_of, defBody s_points_of, defScope s_points_of, [], []⟩
def d_stretch_list : He.DefD := ⟨("stretch_list", none), "stretch_list", "stretch_list", defArgs s_stretch_list, defBody s_stretch_list, defScope s_stretch_list, [], []⟩
def d_is_pierced : He.DefD := ⟨("is_pierced", none), "is_pierced", "is_pierced", defArgs s_is_pierced, defBody s_is_pierced, defScope s_is_pierced, [], []⟩
def d_are_crossed : He.DefD := ⟨("are_crossed", none), "are_crossed", "are_crossed", defArgs s_are_crossed, defBody s_are_crossed, defScope s_are_crossed, [], []⟩
def d_spots_of : He.DefD := ⟨("spots_of", none), "spots_of", "spots_of", defArgs s_spots_of, defBody s_spots_of, defScope s_spots_of, [], []⟩
def d_is_laid : He.DefD := ⟨("is_laid", none), "is_laid", "is_laid", defArgs s_is_laid, defBody s_is_laid, defScope s_is_laid, [], []⟩
def d_layering_list : He.DefD := ⟨("layering_list", none), "layering_list", "layering_list", defArgs s_layering_list, defBody s_layering_list, defScope s_layering_list, [], []⟩
def d_marked_list : He.DefD := ⟨("marked_list", none), "marked_list", "marked_list", defArgs s_marked_list, defBody s_marked_list, defScope s_marked_list, [], []⟩
def d_stretches : He.DefD := ⟨("stretches", none), "stretches", "stretches", defArgs s_stretches, defBody s_stretches, defScope s_stretches, [], []⟩
def d_span : He.DefD := ⟨("span", none), "span", "span", defArgs s_span, defBody s_span, defScope s_span, [], []⟩
def d_is_layering : He.DefD := ⟨("is_layering", none), "is_layering", "is_layering", defArgs s_is_layering, defBody s_is_layering, defScope s_is_layering, [], []⟩
def d_layerings : He.DefD := ⟨("layerings", none), "layerings", "layerings", defArgs s_layerings, defBody s_layerings, defScope s_layerings, [], []⟩
def d_count_layerings : He.DefD := ⟨("count_layerings", none), "count_layerings", "count_layerings", defArgs s_count_layerings, defBody s_count_layerings, defScope s_count_layerings, [], []⟩
def d_step_list : He.DefD := ⟨("step_list", none), "step_list", "step_list", defArgs s_step_list, defBody s_step_list, defScope s_step_list, [], []⟩
def d_stepped : He.DefD := ⟨("stepped", none), "stepped", "stepped", defArgs s_stepped, defBody s_stepped, defScope s_stepped, [], []⟩
def d_steps_of : He.DefD := ⟨("steps_of", none), "steps_of", "steps_of", defArgs s_steps_of, defBody s_steps_of, defScope s_steps_of, [], []⟩
def d_does_fold : He.DefD := ⟨("does_fold", none), "does_fold", "does_fold", defArgs s_does_fold, defBody s_does_fold, defScope s_does_fold, [], []⟩
def d_is_foldable : He.DefD := ⟨("is_foldable", none), "is_foldable", "is_foldable", defArgs s_is_foldable, defBody s_is_foldable, defScope s_is_foldable, [], []⟩
def d_steps : He.DefD := ⟨("steps", none), "steps", "steps", defArgs s_steps, defBody s_steps, defScope s_steps, [], []⟩
def d_is_step : He.DefD := ⟨("is_step", none), "is_step", "is_step", defArgs s_is_step, defBody s_is_step, defScope s_is_step, [], []⟩
def d_after_step : He.DefD := ⟨("after_step", none), "after_step", "after_step", defArgs s_after_step, defBody s_after_step, defScope s_after_step, [], []⟩
def d_steps_now : He.DefD := ⟨("steps_now", none), "steps_now", "steps_now", defArgs s_steps_now, defBody s_steps_now, defScope s_steps_now, [], []⟩
def d_Ljar : He.DefD := ⟨("_law_jar", none), "_law_jar", "_law_jar", defArgs s_Ljar, defBody s_Ljar, defScope s_Ljar, [], []⟩
def d_Ldip : He.DefD := ⟨("_law_dip", none), "_law_dip", "_law_dip", defArgs s_Ldip, defBody s_Ldip, defScope s_Ldip, [], []⟩
def d_Lpick : He.DefD := ⟨("_law_pick", none), "_law_pick", "_law_pick", defArgs s_Lpick, defBody s_Lpick, defScope s_Lpick, [], []⟩
def d_Lstretches : He.DefD := ⟨("_law_stretches", none), "_law_stretches", "_law_stretches", defArgs s_Lstretches, defBody s_Lstretches, defScope s_Lstretches, [], []⟩
def d_Lpoints : He.DefD := ⟨("_law_points", none), "_law_points", "_law_points", defArgs s_Lpoints, defBody s_Lpoints, defScope s_Lpoints, [], []⟩
def d_Llies : He.DefD := ⟨("_law_lies", none), "_law_lies", "_law_lies", defArgs s_Llies, defBody s_Llies, defScope s_Llies, [], []⟩
def d_Lmarks : He.DefD := ⟨("_law_marks", none), "_law_marks", "_law_marks", defArgs s_Lmarks, defBody s_Lmarks, defScope s_Lmarks, [], []⟩
def d_Lpiles : He.DefD := ⟨("_law_piles", none), "_law_piles", "_law_piles", defArgs s_Lpiles, defBody s_Lpiles, defScope s_Lpiles, [], []⟩
def d_Ldrawn_end : He.DefD := ⟨("_law_drawn_end", none), "_law_drawn_end", "_law_drawn_end", defArgs s_Ldrawn_end, defBody s_Ldrawn_end, defScope s_Ldrawn_end, [], []⟩
def d_Lstrip_right : He.DefD := ⟨("_law_strip_right", none), "_law_strip_right", "_law_strip_right", defArgs s_Lstrip_right, defBody s_Lstrip_right, defScope s_Lstrip_right, [], []⟩
def d_Lright : He.DefD := ⟨("_law_right", none), "_law_right", "_law_right", defArgs s_Lright, defBody s_Lright, defScope s_Lright, [], []⟩
def d_law : He.DefD := ⟨("law", none), "law", "law", defArgs s_law, defBody s_law, defScope s_law, [], []⟩
def fn1 : List He.DefD := [d_is_integer, d_is_between, d_are_signs, d_is_sized, d_wrong_piece, d_is_pile, d_check_layers, d_are_marks, d_check_marks, d_ends_of, d_do_meet, d_mark_in, d_marks_by, d_with_piece, d_does_last_fit, d_foldings_told, d_folding_list, d_foldings_with, d_check_lengths, d_check_strip, d_points_of, d_stretch_list, d_is_pierced, d_are_crossed, d_spots_of, d_is_laid, d_layering_list]
def fn2 : List He.DefD := [d_marked_list, d_stretches, d_span, d_is_layering, d_layerings, d_count_layerings, d_step_list, d_stepped, d_steps_of, d_does_fold, d_is_foldable, d_steps, d_is_step, d_after_step, d_steps_now, d_Ljar, d_Ldip, d_Lpick, d_Lstretches, d_Lpoints, d_Llies, d_Lmarks, d_Lpiles, d_Ldrawn_end, d_Lstrip_right, d_Lright, d_law]
def fn : List He.DefD := fn1 ++ fn2
def fa0 : List He.Fa := [.free "isinstance", .free "int", .free "bool", .free "str", .free "tuple", .free "len", .free "all", .free "any", .free "min", .free "max", .free "range", .free "enumerate", .free "zip", .free "sorted", .free "abs", .free "divmod", .int "MOST_PIECES" 8, .int "MOST_LENGTH" 1000, .int "MOST_MARKS" 7]
def fa1 : List He.Fa := [.glo "is_integer", .glo "is_between", .glo "are_signs", .glo "is_sized", .glo "wrong_piece", .glo "is_pile", .glo "check_layers", .glo "are_marks", .glo "check_marks", .glo "ends_of", .glo "do_meet", .glo "mark_in", .glo "marks_by", .glo "with_piece", .glo "does_last_fit", .glo "foldings_told", .glo "folding_list", .glo "foldings_with", .glo "check_lengths", .glo "check_strip", .glo "points_of", .glo "stretch_list", .glo "is_pierced", .glo "are_crossed", .glo "spots_of", .glo "is_laid", .glo "layering_list"]
def fa2 : List He.Fa := [.glo "marked_list", .glo "stretches", .glo "span", .glo "is_layering", .glo "layerings", .glo "count_layerings", .glo "step_list", .glo "stepped", .glo "steps_of", .glo "does_fold", .glo "is_foldable", .glo "steps", .glo "is_step", .glo "after_step", .glo "steps_now", .glo "_law_jar", .glo "_law_dip", .glo "_law_pick", .glo "_law_stretches", .glo "_law_points", .glo "_law_lies", .glo "_law_marks", .glo "_law_piles", .glo "_law_drawn_end", .glo "_law_strip_right", .glo "_law_right", .glo "law"]
def fa : List He.Fa := fa0 ++ (fa1 ++ fa2)
def nm1 : List PySem.Str := ["ShapeError", "InvalidLayers", "InvalidMarks", "InvalidLengths", "QuestionError", "Refused", "MOST_PIECES", "MOST_LENGTH", "is_integer", "is_between", "are_signs", "MOST_MARKS", "is_sized", "wrong_piece", "is_pile", "check_layers", "are_marks", "check_marks", "ends_of", "do_meet", "mark_in", "marks_by", "with_piece", "does_last_fit", "foldings_told", "folding_list", "foldings_with", "check_lengths", "check_strip", "points_of", "stretch_list", "is_pierced"]
def nm2 : List PySem.Str := ["are_crossed", "spots_of", "is_laid", "layering_list", "marked_list", "stretches", "span", "is_layering", "layerings", "count_layerings", "step_list", "stepped", "steps_of", "does_fold", "is_foldable", "steps", "is_step", "after_step", "steps_now", "_law_jar", "_law_dip", "_law_pick", "_law_stretches", "_law_points", "_law_lies", "_law_marks", "_law_piles", "_law_drawn_end", "_law_strip_right", "_law_right"]
def names : List PySem.Str := nm1 ++ nm2

section
variable {K : PySem.W.Frag} {h : Heap} {mg : Str → Option Value}
theorem bt_of (X : K.In h) (G : h.Ns mainGlobals mg) (c : He.SaysD fa fn K) : BT mg := ⟨He.free_ok X G (c.fact 0 (f := .free "isinstance") rfl), He.free_ok X G (c.fact 1 (f := .free "int") rfl), He.free_ok X G (c.fact 2 (f := .free "bool") rfl), He.free_ok X G (c.fact 3 (f := .free "str") rfl), He.free_ok X G (c.fact 4 (f := .free "tuple") rfl), He.free_ok X G (c.fact 5 (f := .free "len") rfl), He.free_ok X G (c.fact 6 (f := .free "all") rfl), He.free_ok X G (c.fact 7 (f := .free "any") rfl), He.free_ok X G (c.fact 8 (f := .free "min") rfl), He.free_ok X G (c.fact 9 (f := .free "max") rfl), He.free_ok X G (c.fact 10 (f := .free "range") rfl), He.free_ok X G (c.fact 11 (f := .free "enumerate") rfl), He.free_ok X G (c.fact 12 (f := .free "zip") rfl), He.free_ok X G (c.fact 13 (f := .free "sorted") rfl), He.free_ok X G (c.fact 14 (f := .free "abs") rfl), He.free_ok X G (c.fact 15 (f := .free "divmod") rfl)⟩
theorem ct_of (X : K.In h) (G : h.Ns mainGlobals mg) (c : He.SaysD fa fn K) : CT mg := ⟨He.int_ok X G (c.fact 16 (f := .int "MOST_PIECES" 8) rfl), He.int_ok X G (c.fact 17 (f := .int "MOST_LENGTH" 1000) rfl), He.int_ok X G (c.fact 18 (f := .int "MOST_MARKS" 7) rfl)⟩
theorem df_law (X : K.In h) (G : h.Ns mainGlobals mg) (c : He.SaysD fa fn K) : Df K mg "law" s_law := by
  obtain ⟨fd, F⟩ := c.def_ 53 (d := d_law) rfl
  exact ⟨_, fd, F, He.glo_ok X G (c.fact 72 (f := .glo "law") rfl)⟩
theorem df_Ldip (X : K.In h) (G : h.Ns mainGlobals mg) (c : He.SaysD fa fn K) : Df K mg "_law_dip" s_Ldip := by
  obtain ⟨fd, F⟩ := c.def_ 43 (d := d_Ldip) rfl
  exact ⟨_, fd, F, He.glo_ok X G (c.fact 62 (f := .glo "_law_dip") rfl)⟩
theorem df_Lpick (X : K.In h) (G : h.Ns mainGlobals mg) (c : He.SaysD fa fn K) : Df K mg "_law_pick" s_Lpick := by
  obtain ⟨fd, F⟩ := c.def_ 44 (d := d_Lpick) rfl
  exact ⟨_, fd, F, He.glo_ok X G (c.fact 63 (f := .glo "_law_pick") rfl)⟩
theorem df_Lpiles (X : K.In h) (G : h.Ns mainGlobals mg) (c : He.SaysD fa fn K) : Df K mg "_law_piles" s_Lpiles := by
  obtain ⟨fd, F⟩ := c.def_ 49 (d := d_Lpiles) rfl
  exact ⟨_, fd, F, He.glo_ok X G (c.fact 68 (f := .glo "_law_piles") rfl)⟩
theorem df_Lstretches (X : K.In h) (G : h.Ns mainGlobals mg) (c : He.SaysD fa fn K) : Df K mg "_law_stretches" s_Lstretches := by
  obtain ⟨fd, F⟩ := c.def_ 45 (d := d_Lstretches) rfl
  exact ⟨_, fd, F, He.glo_ok X G (c.fact 64 (f := .glo "_law_stretches") rfl)⟩
theorem df_Lpoints (X : K.In h) (G : h.Ns mainGlobals mg) (c : He.SaysD fa fn K) : Df K mg "_law_points" s_Lpoints := by
  obtain ⟨fd, F⟩ := c.def_ 46 (d := d_Lpoints) rfl
  exact ⟨_, fd, F, He.glo_ok X G (c.fact 65 (f := .glo "_law_points") rfl)⟩
theorem df_Llies (X : K.In h) (G : h.Ns mainGlobals mg) (c : He.SaysD fa fn K) : Df K mg "_law_lies" s_Llies := by
  obtain ⟨fd, F⟩ := c.def_ 47 (d := d_Llies) rfl
  exact ⟨_, fd, F, He.glo_ok X G (c.fact 66 (f := .glo "_law_lies") rfl)⟩
theorem df_is_integer (X : K.In h) (G : h.Ns mainGlobals mg) (c : He.SaysD fa fn K) : Df K mg "is_integer" s_is_integer := by
  obtain ⟨fd, F⟩ := c.def_ 0 (d := d_is_integer) rfl
  exact ⟨_, fd, F, He.glo_ok X G (c.fact 19 (f := .glo "is_integer") rfl)⟩
theorem df_is_between (X : K.In h) (G : h.Ns mainGlobals mg) (c : He.SaysD fa fn K) : Df K mg "is_between" s_is_between := by
  obtain ⟨fd, F⟩ := c.def_ 1 (d := d_is_between) rfl
  exact ⟨_, fd, F, He.glo_ok X G (c.fact 20 (f := .glo "is_between") rfl)⟩
theorem df_check_lengths (X : K.In h) (G : h.Ns mainGlobals mg) (c : He.SaysD fa fn K) : Df K mg "check_lengths" s_check_lengths := by
  obtain ⟨fd, F⟩ := c.def_ 18 (d := d_check_lengths) rfl
  exact ⟨_, fd, F, He.glo_ok X G (c.fact 37 (f := .glo "check_lengths") rfl)⟩
theorem df_spots_of (X : K.In h) (G : h.Ns mainGlobals mg) (c : He.SaysD fa fn K) : Df K mg "spots_of" s_spots_of := by
  obtain ⟨fd, F⟩ := c.def_ 24 (d := d_spots_of) rfl
  exact ⟨_, fd, F, He.glo_ok X G (c.fact 43 (f := .glo "spots_of") rfl)⟩
theorem df_points_of (X : K.In h) (G : h.Ns mainGlobals mg) (c : He.SaysD fa fn K) : Df K mg "points_of" s_points_of := by
  obtain ⟨fd, F⟩ := c.def_ 20 (d := d_points_of) rfl
  exact ⟨_, fd, F, He.glo_ok X G (c.fact 39 (f := .glo "points_of") rfl)⟩
theorem df_stretch_list (X : K.In h) (G : h.Ns mainGlobals mg) (c : He.SaysD fa fn K) : Df K mg "stretch_list" s_stretch_list := by
  obtain ⟨fd, F⟩ := c.def_ 21 (d := d_stretch_list) rfl
  exact ⟨_, fd, F, He.glo_ok X G (c.fact 40 (f := .glo "stretch_list") rfl)⟩
theorem df_is_pierced (X : K.In h) (G : h.Ns mainGlobals mg) (c : He.SaysD fa fn K) : Df K mg "is_pierced" s_is_pierced := by
  obtain ⟨fd, F⟩ := c.def_ 22 (d := d_is_pierced) rfl
  exact ⟨_, fd, F, He.glo_ok X G (c.fact 41 (f := .glo "is_pierced") rfl)⟩
theorem df_are_crossed (X : K.In h) (G : h.Ns mainGlobals mg) (c : He.SaysD fa fn K) : Df K mg "are_crossed" s_are_crossed := by
  obtain ⟨fd, F⟩ := c.def_ 23 (d := d_are_crossed) rfl
  exact ⟨_, fd, F, He.glo_ok X G (c.fact 42 (f := .glo "are_crossed") rfl)⟩
theorem df_is_laid (X : K.In h) (G : h.Ns mainGlobals mg) (c : He.SaysD fa fn K) : Df K mg "is_laid" s_is_laid := by
  obtain ⟨fd, F⟩ := c.def_ 25 (d := d_is_laid) rfl
  exact ⟨_, fd, F, He.glo_ok X G (c.fact 44 (f := .glo "is_laid") rfl)⟩
theorem df_layering_list (X : K.In h) (G : h.Ns mainGlobals mg) (c : He.SaysD fa fn K) : Df K mg "layering_list" s_layering_list := by
  obtain ⟨fd, F⟩ := c.def_ 26 (d := d_layering_list) rfl
  exact ⟨_, fd, F, He.glo_ok X G (c.fact 45 (f := .glo "layering_list") rfl)⟩
theorem df_count_layerings (X : K.In h) (G : h.Ns mainGlobals mg) (c : He.SaysD fa fn K) : Df K mg "count_layerings" s_count_layerings := by
  obtain ⟨fd, F⟩ := c.def_ 32 (d := d_count_layerings) rfl
  exact ⟨_, fd, F, He.glo_ok X G (c.fact 51 (f := .glo "count_layerings") rfl)⟩
theorem df_is_sized (X : K.In h) (G : h.Ns mainGlobals mg) (c : He.SaysD fa fn K) : Df K mg "is_sized" s_is_sized := by
  obtain ⟨fd, F⟩ := c.def_ 3 (d := d_is_sized) rfl
  exact ⟨_, fd, F, He.glo_ok X G (c.fact 22 (f := .glo "is_sized") rfl)⟩
theorem df_wrong_piece (X : K.In h) (G : h.Ns mainGlobals mg) (c : He.SaysD fa fn K) : Df K mg "wrong_piece" s_wrong_piece := by
  obtain ⟨fd, F⟩ := c.def_ 4 (d := d_wrong_piece) rfl
  exact ⟨_, fd, F, He.glo_ok X G (c.fact 23 (f := .glo "wrong_piece") rfl)⟩
theorem df_is_pile (X : K.In h) (G : h.Ns mainGlobals mg) (c : He.SaysD fa fn K) : Df K mg "is_pile" s_is_pile := by
  obtain ⟨fd, F⟩ := c.def_ 5 (d := d_is_pile) rfl
  exact ⟨_, fd, F, He.glo_ok X G (c.fact 24 (f := .glo "is_pile") rfl)⟩
theorem df_check_layers (X : K.In h) (G : h.Ns mainGlobals mg) (c : He.SaysD fa fn K) : Df K mg "check_layers" s_check_layers := by
  obtain ⟨fd, F⟩ := c.def_ 6 (d := d_check_layers) rfl
  exact ⟨_, fd, F, He.glo_ok X G (c.fact 25 (f := .glo "check_layers") rfl)⟩
theorem df_is_layering (X : K.In h) (G : h.Ns mainGlobals mg) (c : He.SaysD fa fn K) : Df K mg "is_layering" s_is_layering := by
  obtain ⟨fd, F⟩ := c.def_ 30 (d := d_is_layering) rfl
  exact ⟨_, fd, F, He.glo_ok X G (c.fact 49 (f := .glo "is_layering") rfl)⟩
theorem df_stretches (X : K.In h) (G : h.Ns mainGlobals mg) (c : He.SaysD fa fn K) : Df K mg "stretches" s_stretches := by
  obtain ⟨fd, F⟩ := c.def_ 28 (d := d_stretches) rfl
  exact ⟨_, fd, F, He.glo_ok X G (c.fact 47 (f := .glo "stretches") rfl)⟩
theorem df_span (X : K.In h) (G : h.Ns mainGlobals mg) (c : He.SaysD fa fn K) : Df K mg "span" s_span := by
  obtain ⟨fd, F⟩ := c.def_ 29 (d := d_span) rfl
  exact ⟨_, fd, F, He.glo_ok X G (c.fact 48 (f := .glo "span") rfl)⟩
theorem df_Lmarks (X : K.In h) (G : h.Ns mainGlobals mg) (c : He.SaysD fa fn K) : Df K mg "_law_marks" s_Lmarks := by
  obtain ⟨fd, F⟩ := c.def_ 48 (d := d_Lmarks) rfl
  exact ⟨_, fd, F, He.glo_ok X G (c.fact 67 (f := .glo "_law_marks") rfl)⟩
theorem df_are_signs (X : K.In h) (G : h.Ns mainGlobals mg) (c : He.SaysD fa fn K) : Df K mg "are_signs" s_are_signs := by
  obtain ⟨fd, F⟩ := c.def_ 2 (d := d_are_signs) rfl
  exact ⟨_, fd, F, He.glo_ok X G (c.fact 21 (f := .glo "are_signs") rfl)⟩
theorem df_check_strip (X : K.In h) (G : h.Ns mainGlobals mg) (c : He.SaysD fa fn K) : Df K mg "check_strip" s_check_strip := by
  obtain ⟨fd, F⟩ := c.def_ 19 (d := d_check_strip) rfl
  exact ⟨_, fd, F, He.glo_ok X G (c.fact 38 (f := .glo "check_strip") rfl)⟩
theorem df_mark_in (X : K.In h) (G : h.Ns mainGlobals mg) (c : He.SaysD fa fn K) : Df K mg "mark_in" s_mark_in := by
  obtain ⟨fd, F⟩ := c.def_ 11 (d := d_mark_in) rfl
  exact ⟨_, fd, F, He.glo_ok X G (c.fact 30 (f := .glo "mark_in") rfl)⟩
theorem df_marks_by (X : K.In h) (G : h.Ns mainGlobals mg) (c : He.SaysD fa fn K) : Df K mg "marks_by" s_marks_by := by
  obtain ⟨fd, F⟩ := c.def_ 12 (d := d_marks_by) rfl
  exact ⟨_, fd, F, He.glo_ok X G (c.fact 31 (f := .glo "marks_by") rfl)⟩
theorem df_marked_list (X : K.In h) (G : h.Ns mainGlobals mg) (c : He.SaysD fa fn K) : Df K mg "marked_list" s_marked_list := by
  obtain ⟨fd, F⟩ := c.def_ 27 (d := d_marked_list) rfl
  exact ⟨_, fd, F, He.glo_ok X G (c.fact 46 (f := .glo "marked_list") rfl)⟩
theorem df_layerings (X : K.In h) (G : h.Ns mainGlobals mg) (c : He.SaysD fa fn K) : Df K mg "layerings" s_layerings := by
  obtain ⟨fd, F⟩ := c.def_ 31 (d := d_layerings) rfl
  exact ⟨_, fd, F, He.glo_ok X G (c.fact 50 (f := .glo "layerings") rfl)⟩
theorem df_step_list (X : K.In h) (G : h.Ns mainGlobals mg) (c : He.SaysD fa fn K) : Df K mg "step_list" s_step_list := by
  obtain ⟨fd, F⟩ := c.def_ 33 (d := d_step_list) rfl
  exact ⟨_, fd, F, He.glo_ok X G (c.fact 52 (f := .glo "step_list") rfl)⟩
theorem df_stepped (X : K.In h) (G : h.Ns mainGlobals mg) (c : He.SaysD fa fn K) : Df K mg "stepped" s_stepped := by
  obtain ⟨fd, F⟩ := c.def_ 34 (d := d_stepped) rfl
  exact ⟨_, fd, F, He.glo_ok X G (c.fact 53 (f := .glo "stepped") rfl)⟩
theorem df_steps_of (X : K.In h) (G : h.Ns mainGlobals mg) (c : He.SaysD fa fn K) : Df K mg "steps_of" s_steps_of := by
  obtain ⟨fd, F⟩ := c.def_ 35 (d := d_steps_of) rfl
  exact ⟨_, fd, F, He.glo_ok X G (c.fact 54 (f := .glo "steps_of") rfl)⟩
theorem df_does_fold (X : K.In h) (G : h.Ns mainGlobals mg) (c : He.SaysD fa fn K) : Df K mg "does_fold" s_does_fold := by
  obtain ⟨fd, F⟩ := c.def_ 36 (d := d_does_fold) rfl
  exact ⟨_, fd, F, He.glo_ok X G (c.fact 55 (f := .glo "does_fold") rfl)⟩
theorem df_is_foldable (X : K.In h) (G : h.Ns mainGlobals mg) (c : He.SaysD fa fn K) : Df K mg "is_foldable" s_is_foldable := by
  obtain ⟨fd, F⟩ := c.def_ 37 (d := d_is_foldable) rfl
  exact ⟨_, fd, F, He.glo_ok X G (c.fact 56 (f := .glo "is_foldable") rfl)⟩
theorem df_steps_now (X : K.In h) (G : h.Ns mainGlobals mg) (c : He.SaysD fa fn K) : Df K mg "steps_now" s_steps_now := by
  obtain ⟨fd, F⟩ := c.def_ 41 (d := d_steps_now) rfl
  exact ⟨_, fd, F, He.glo_ok X G (c.fact 60 (f := .glo "steps_now") rfl)⟩
theorem df_is_step (X : K.In h) (G : h.Ns mainGlobals mg) (c : He.SaysD fa fn K) : Df K mg "is_step" s_is_step := by
  obtain ⟨fd, F⟩ := c.def_ 39 (d := d_is_step) rfl
  exact ⟨_, fd, F, He.glo_ok X G (c.fact 58 (f := .glo "is_step") rfl)⟩
theorem df_after_step (X : K.In h) (G : h.Ns mainGlobals mg) (c : He.SaysD fa fn K) : Df K mg "after_step" s_after_step := by
  obtain ⟨fd, F⟩ := c.def_ 40 (d := d_after_step) rfl
  exact ⟨_, fd, F, He.glo_ok X G (c.fact 59 (f := .glo "after_step") rfl)⟩
theorem df_Ldrawn_end (X : K.In h) (G : h.Ns mainGlobals mg) (c : He.SaysD fa fn K) : Df K mg "_law_drawn_end" s_Ldrawn_end := by
  obtain ⟨fd, F⟩ := c.def_ 50 (d := d_Ldrawn_end) rfl
  exact ⟨_, fd, F, He.glo_ok X G (c.fact 69 (f := .glo "_law_drawn_end") rfl)⟩
theorem df_steps (X : K.In h) (G : h.Ns mainGlobals mg) (c : He.SaysD fa fn K) : Df K mg "steps" s_steps := by
  obtain ⟨fd, F⟩ := c.def_ 38 (d := d_steps) rfl
  exact ⟨_, fd, F, He.glo_ok X G (c.fact 57 (f := .glo "steps") rfl)⟩
theorem df_Lstrip_right (X : K.In h) (G : h.Ns mainGlobals mg) (c : He.SaysD fa fn K) : Df K mg "_law_strip_right" s_Lstrip_right := by
  obtain ⟨fd, F⟩ := c.def_ 51 (d := d_Lstrip_right) rfl
  exact ⟨_, fd, F, He.glo_ok X G (c.fact 70 (f := .glo "_law_strip_right") rfl)⟩
theorem df_are_marks (X : K.In h) (G : h.Ns mainGlobals mg) (c : He.SaysD fa fn K) : Df K mg "are_marks" s_are_marks := by
  obtain ⟨fd, F⟩ := c.def_ 7 (d := d_are_marks) rfl
  exact ⟨_, fd, F, He.glo_ok X G (c.fact 26 (f := .glo "are_marks") rfl)⟩
theorem df_check_marks (X : K.In h) (G : h.Ns mainGlobals mg) (c : He.SaysD fa fn K) : Df K mg "check_marks" s_check_marks := by
  obtain ⟨fd, F⟩ := c.def_ 8 (d := d_check_marks) rfl
  exact ⟨_, fd, F, He.glo_ok X G (c.fact 27 (f := .glo "check_marks") rfl)⟩
theorem df_with_piece (X : K.In h) (G : h.Ns mainGlobals mg) (c : He.SaysD fa fn K) : Df K mg "with_piece" s_with_piece := by
  obtain ⟨fd, F⟩ := c.def_ 13 (d := d_with_piece) rfl
  exact ⟨_, fd, F, He.glo_ok X G (c.fact 32 (f := .glo "with_piece") rfl)⟩
theorem df_ends_of (X : K.In h) (G : h.Ns mainGlobals mg) (c : He.SaysD fa fn K) : Df K mg "ends_of" s_ends_of := by
  obtain ⟨fd, F⟩ := c.def_ 9 (d := d_ends_of) rfl
  exact ⟨_, fd, F, He.glo_ok X G (c.fact 28 (f := .glo "ends_of") rfl)⟩
theorem df_do_meet (X : K.In h) (G : h.Ns mainGlobals mg) (c : He.SaysD fa fn K) : Df K mg "do_meet" s_do_meet := by
  obtain ⟨fd, F⟩ := c.def_ 10 (d := d_do_meet) rfl
  exact ⟨_, fd, F, He.glo_ok X G (c.fact 29 (f := .glo "do_meet") rfl)⟩
theorem df_does_last_fit (X : K.In h) (G : h.Ns mainGlobals mg) (c : He.SaysD fa fn K) : Df K mg "does_last_fit" s_does_last_fit := by
  obtain ⟨fd, F⟩ := c.def_ 14 (d := d_does_last_fit) rfl
  exact ⟨_, fd, F, He.glo_ok X G (c.fact 33 (f := .glo "does_last_fit") rfl)⟩
theorem df_foldings_told (X : K.In h) (G : h.Ns mainGlobals mg) (c : He.SaysD fa fn K) : Df K mg "foldings_told" s_foldings_told := by
  obtain ⟨fd, F⟩ := c.def_ 15 (d := d_foldings_told) rfl
  exact ⟨_, fd, F, He.glo_ok X G (c.fact 34 (f := .glo "foldings_told") rfl)⟩
theorem df_folding_list (X : K.In h) (G : h.Ns mainGlobals mg) (c : He.SaysD fa fn K) : Df K mg "folding_list" s_folding_list := by
  obtain ⟨fd, F⟩ := c.def_ 16 (d := d_folding_list) rfl
  exact ⟨_, fd, F, He.glo_ok X G (c.fact 35 (f := .glo "folding_list") rfl)⟩
theorem df_foldings_with (X : K.In h) (G : h.Ns mainGlobals mg) (c : He.SaysD fa fn K) : Df K mg "foldings_with" s_foldings_with := by
  obtain ⟨fd, F⟩ := c.def_ 17 (d := d_foldings_with) rfl
  exact ⟨_, fd, F, He.glo_ok X G (c.fact 36 (f := .glo "foldings_with") rfl)⟩
theorem df_Lright (X : K.In h) (G : h.Ns mainGlobals mg) (c : He.SaysD fa fn K) : Df K mg "_law_right" s_Lright := by
  obtain ⟨fd, F⟩ := c.def_ 52 (d := d_Lright) rfl
  exact ⟨_, fd, F, He.glo_ok X G (c.fact 71 (f := .glo "_law_right") rfl)⟩
theorem df_Ljar (X : K.In h) (G : h.Ns mainGlobals mg) (c : He.SaysD fa fn K) : Df K mg "_law_jar" s_Ljar := by
  obtain ⟨fd, F⟩ := c.def_ 42 (d := d_Ljar) rfl
  exact ⟨_, fd, F, He.glo_ok X G (c.fact 61 (f := .glo "_law_jar") rfl)⟩
theorem ds_of (X : K.In h) (G : h.Ns mainGlobals mg) (c : He.SaysD fa fn K) : Ds K mg := ⟨df_law X G c, df_Ldip X G c, df_Lpick X G c, df_Lpiles X G c, df_Lstretches X G c, df_Lpoints X G c, df_Llies X G c, df_is_integer X G c, df_is_between X G c, df_check_lengths X G c, df_spots_of X G c, df_points_of X G c, df_stretch_list X G c, df_is_pierced X G c, df_are_crossed X G c, df_is_laid X G c, df_layering_list X G c, df_count_layerings X G c, df_is_sized X G c, df_wrong_piece X G c, df_is_pile X G c, df_check_layers X G c, df_is_layering X G c, df_stretches X G c, df_span X G c, df_Lmarks X G c, df_are_signs X G c, df_check_strip X G c, df_mark_in X G c, df_marks_by X G c, df_marked_list X G c, df_layerings X G c, df_step_list X G c, df_stepped X G c, df_steps_of X G c, df_does_fold X G c, df_is_foldable X G c, df_steps_now X G c, df_is_step X G c, df_after_step X G c, df_Ldrawn_end X G c, df_steps X G c, df_Lstrip_right X G c, df_are_marks X G c, df_check_marks X G c, df_with_piece X G c, df_ends_of X G c, df_do_meet X G c, df_does_last_fit X G c, df_foldings_told X G c, df_folding_list X G c, df_foldings_with X G c, df_Lright X G c, df_Ljar X G c⟩
theorem facts {P : Program} {w : World} {f : Addr} (X : K.In h) (G : h.Ns mainGlobals mg) (hfa : mg ("law" : Str) = some (.ref f)) (c : He.SaysD fa fn K) :
    ∃ fd : FuncData, (∀ (s : Shared) (v : Value), BindsTo s fd ⟨[v], []⟩ [("_law_script", v)]) ∧ ∀ base : Heap, K.In base → base.Ns mainGlobals mg → FnOk P w K mg base CX0 10 f fd ["_law_script"] (spLaw K) := by
  have S := ds_of X G c
  have T := bt_of X G c
  have M := ct_of X G c
  obtain ⟨f', fd, F, hm⟩ := S.f_law
  cases hfa.symm.trans hm
  have b := FunD.bindsA (ps := ["_law_script"]) F fun _ _ _ _ _ _ us hl => match us, hl with | [_], _ => rfl
  exact ⟨fd, fun s v => b s [v] rfl, fun base _ _ => ok_law F T (law_all S T M).1 (law_all S T M).2⟩
end
/-! ### the run -/
abbrev Rw : PySem.W.OpenRow := PySem.W.OpenLaw.row PySem.Challenge.rw_foldworld_k96_whole_strips_by_layerings
abbrev hk : PySem.W.Hook := He.hookD 3 fa fn
def ob (s : PySem.W.SharedT) : He.AlD := He.obsDG 3 fa fn (HandSHeadRun.getT s)
theorem ob_eq (s : PySem.W.SharedT) : ob s = hk.obs s.abs := He.obsDG_eq (HandSHeadRun.getT_eq s)
theorem run (w : World) : HandSHeadRun.RunEq Rw (PySem.W.view Rw.prog [67]) hk ob 4000 names w := by
  intro os
  kernel_rfl
end FW
open PySem PySem.W PySem.Calls PyProof.Rows
theorem PySem.Challenge.cw_foldworld_k96_whole_strips_by_layerings_holds : PySem.Challenge.rw_foldworld_k96_whole_strips_by_layerings.Holds := by
  w_on; o_law
  refine HandSHeadRun.head_any (r := OpenLaw.row PySem.Challenge.rw_foldworld_k96_whole_strips_by_layerings) (q := view (OpenLaw.row PySem.Challenge.rw_foldworld_k96_whole_strips_by_layerings).prog [67]) (H := FW.hk) (ob := FW.ob) (M := 4000) (loose := FW.names) (d := HandSHeadRun.topDef (OpenLaw.row PySem.Challenge.rw_foldworld_k96_whole_strips_by_layerings).prog 67) (kwd := []) FW.ob_eq
    (by kernel_rfl) (fun s => by kernel_rfl) FW.run (by kernel_rfl) (by kernel_rfl) (by kernel_rfl) (by rfl) (by first | assumption | decide +kernel) (by decide +kernel) ⟨rfl, rfl, rfl, rfl, rfl, by decide +kernel⟩ ?hw ?hc
  case hw => w_witness2
  case hc =>
    refine L2.walk_ofE (l := PySem.Challenge.rw_foldworld_k96_whole_strips_by_layerings) (n := 63) (k := 10) (x := "_law_script") (CX := L2.CX0) rfl (by decide) (by kernel_rfl) ⟨rfl, by decide, by decide⟩ ?F (fun _ _ _ _ z => z)
    intro w mg fa h Y G hmg0
    obtain ⟨K, KX, c⟩ := Y
    have hmg : mg ("law" : PySem.Str) = some (.ref fa) := by
      have e : (HandSHeadRun.topDef (OpenLaw.row PySem.Challenge.rw_foldworld_k96_whole_strips_by_layerings).prog 67).name = ("law" : PySem.Str) := by kernel_rfl
      rw [← e]
      exact hmg0
    obtain ⟨fd, hb, hF⟩ := FW.facts (P := (PySem.Challenge.rw_foldworld_k96_whole_strips_by_layerings).prog) (w := w) KX G hmg c
    exact ⟨K, fd, FW.spLaw K, KX, hb, fun H a ns hl _ hS => ⟨a, ns, rfl, hS, hl, fun _ _ => rfl⟩, hF⟩
