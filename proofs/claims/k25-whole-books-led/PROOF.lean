import PyProof.Rows.All
import Wide.All
import OpenK.AllK
import Wide.FinOn
import PyProof.EqAt
import PyProof.EqKinds
import PyProof.TupleCall
import PyProof.ReprRoads
import PyProof.SeqIndex
import KE.Datum
import KE.DatumIndex
import KE.KLam
import KE.KExcSuper
import KE.KStateDown
import HandS.ForMost
import HandS.ForExc
import HandS.Star
import HandS.IsInst
import HandS.Deep
import HandS.Wide
import HandS.TupAny
import HandS.TupSets
import HandS.SortOrd
import HandS.SortRule
import HandS.SortInts
import HandS.DictComp
import HandS.DictTup
import HandS.TupLen
import HandS.TupLe
import HandS.Zip
import HandS.Conv
import HandS.Codes
import HandS.Property
import HandS.Defaults
import HandS.TryMany
import HandS.ExcField
import HandS.ExcInit
import HandS.Lambda
import HandS.EndTab
import HandS.HeadWalk
import HandS.HeadHook4
import HandS.Head2
import HandS.Evl
import HandS.Steps
import PySem.Challenge.RW_fewindexes_k25_whole_books_led
import HandS.Walk
import KE.KDictPairs
import PyProof.TupleOfSeq
import Lean
import HandS.Head0
import HandS.Head1
set_option Elab.async false
section
-- Pre

end

section
-- XRepr
set_option Elab.async false
set_option linter.all false
set_option maxRecDepth 100000
set_option maxHeartbeats 4000000
/-! Data of any depth: repr, in and index of a tuple; defs that run where no repr is under way. -/
namespace K25
open PySem PySem.Spec PyProof.Rows L2
section
variable {X : Cx}
/-- repr(x), x data: its text; nothing that stands is turned -/
def rRepr (K : PySem.W.Frag) : List V → Hp → VK → Prop := fun xs H Q => ∃ x d, xs = [x] ∧ (∃ a, x = .ref a) ∧ Dp K H x d ∧ d.showable = true ∧ d.hasDict = false ∧ d.depth ≤ 60 ∧ d.shown.length ≤ sizeLine ∧ Q (.str d.shown) H
theorem call_repr (hg : X.A.guards = some []) (hu : X.A.units + 64 < cLine) : CallR X (.builtin "repr") (rRepr X.K) := by
  intro pins s σ H xs us Q I r h
  obtain ⟨x, d, rfl, ⟨a, rfl⟩, hd, hs, hn, hdp, hz, q⟩ := h
  obtain ⟨u, rfl, ru⟩ := vals1 r
  obtain ⟨as, hr⟩ := Dp.reads I d _ u hd ru
  obtain rfl : u = Value.ref a := ru
  refine repr_of_reads' hr hs (fun e => by rw [hn] at e; cases e) hg (by omega) (fun _ _ e => e) (fun h' t tk k => ?_) hz
  exact ⟨.str d.shown, H, I.kept k, ⟨_, rfl⟩, q⟩
/-- x in t, t a tuple of data -/
def rInT (K : PySem.W.Frag) : R2 := fun x y H Q => ∃ d ds, Dp K H x d ∧ Dp K H y (.tuple ds) ∧ SeqAt.shaped d = true ∧ SeqAt.shaped (.tuple ds) = true ∧ Q (.bl (ds.any fun z => PyData.eqv z d)) H
def rNotInT (K : PySem.W.Frag) : R2 := fun x y H Q => ∃ d ds, Dp K H x d ∧ Dp K H y (.tuple ds) ∧ SeqAt.shaped d = true ∧ SeqAt.shaped (.tuple ds) = true ∧ Q (.bl (!ds.any fun z => PyData.eqv z d)) H
theorem op_inT (hu : X.A.units + 65 < cLine) : OpR X (compareOp .In) (rInT X.K) := by
  intro pins s σ H x y v u Q I rx ry h
  obtain ⟨d, ds, hd, he, sd, se, q⟩ := h
  obtain ⟨as, r1⟩ := Dp.reads I d x v hd rx
  obtain ⟨bs, r2⟩ := Dp.reads I (.tuple ds) y u he ry
  exact SeqAt.in_tuple_reads r2 r1 (SeqAt.canLay_of_shaped se) (SeqAt.canLay_of_shaped sd) (room_in_shaped sd hu) ⟨.bl _, H, I, rfl, q⟩
theorem op_notInT (hu : X.A.units + 65 < cLine) : OpR X (compareOp .NotIn) (rNotInT X.K) := by
  intro pins s σ H x y v u Q I rx ry h
  obtain ⟨d, ds, hd, he, sd, se, q⟩ := h
  obtain ⟨as, r1⟩ := Dp.reads I d x v hd rx
  obtain ⟨bs, r2⟩ := Dp.reads I (.tuple ds) y u he ry
  exact SeqAt.notIn_tuple_reads r2 r1 (SeqAt.canLay_of_shaped se) (SeqAt.canLay_of_shaped sd) (room_in_shaped sd hu) ⟨.bl _, H, I, rfl, q⟩
end
end K25
end

section
-- XSort
set_option Elab.async false
set_option linter.all false
set_option maxRecDepth 100000
set_option maxHeartbeats 4000000
/-! sorted of a list of tuples of ints of any lengths (the empty one too). -/
namespace K25
open PySem PySem.Spec PyProof.Rows L2 SrtO
section
variable {prog : Program} {w : World} {A : Around} {E : Value → Shared → Prop} {s : Shared}
/-- ints side by side, item by item: as lexLt says -/
theorem katlex_ints {Q : Bool → Shared → Prop} : ∀ {xs ys : List Value} {ns ms : List Int} {fin : Bool} (i : Nat), IntsAre xs ns → IntsAre ys ms →
    ((∀ k, ns.take k = ms.take k → k ≤ ns.length → k ≤ ms.length → ns.length ≤ k ∨ ms.length ≤ k → fin = HT.lexLt ns ms)) → Q (HT.lexLt ns ms) s →
    PySem.W.KatLex prog w A true fin Q (xs.zip ys) i s
  | [], ys, ns, ms, fin, i, hx, hy, hf, hq => by
    cases hx
    have e := hf 0 rfl (Nat.zero_le _) (Nat.zero_le _) (.inl (Nat.le_refl _))
    rw [← e] at hq
    exact PySem.W.kat_nil hq
  | _ :: _, [], ns, ms, fin, i, hx, hy, hf, hq => by
    cases hy
    have e := hf 0 rfl (Nat.zero_le _) (Nat.zero_le _) (.inr (Nat.le_refl _))
    rw [← e] at hq
    exact PySem.W.kat_nil hq
  | x :: xs, y :: ys, ns, ms, fin, i, hx, hy, hf, hq => by
    cases hx with
    | cons a t hx' =>
      rename_i ns'
      cases hy with
      | cons b u hy' =>
        rename_i ms'
        rw [List.zip_cons_cons]
        refine PySem.W.kat_cons (SeqAt.EqAt.int_int a t b u prog w _ _ ?_)
        refine PySem.W.kat_go (fun e1 => ?_) (fun e1 => ?_)
        · have ex : a = b := by simpa using e1
          subst ex
          have e2 : HT.lexLt (a :: ns') (a :: ms') = HT.lexLt ns' ms' := by rw [HT.lexLt_cons, if_pos rfl]
          rw [e2] at hq
          refine PySem.W.kat_yes (katlex_ints (i + 1) hx' hy' (fun k h1 h2 h3 h4 => ?_) hq)
          rw [← e2]
          refine hf (k + 1) (by rw [List.take_succ_cons, List.take_succ_cons, h1]) (by rw [List.length_cons]; omega) (by rw [List.length_cons]; omega) ?_
          rw [List.length_cons, List.length_cons]
          omega
        · have ex : ¬ a = b := by simpa using e1
          have e2 : HT.lexLt (a :: ns') (b :: ms') = decide (a < b) := by rw [HT.lexLt_cons, if_neg ex]
          rw [e2] at hq
          refine PySem.W.kat_no ?_
          cases i with
          | zero => exact oneLt_int hq
          | succ j => exact PySem.W.kat_one _ _ (PyProof.Rows.lt_int hq)
theorem fin_lex : ∀ (ns ms : List Int) (k : Nat), ns.take k = ms.take k → k ≤ ns.length → k ≤ ms.length → ns.length ≤ k ∨ ms.length ≤ k → decide (ns.length < ms.length) = HT.lexLt ns ms
  | [], [], k, _, _, _, _ => rfl
  | [], _ :: _, k, _, _, _, _ => by rw [HT.lexLt_nil_cons]; exact decide_eq_true (by simp)
  | _ :: _, [], k, _, _, _, _ => by rw [HT.lexLt_cons_nil]; exact decide_eq_false (by simp)
  | a :: ns, b :: ms, 0, _, _, _, h => by simp at h
  | a :: ns, b :: ms, k + 1, h, h1, h2, h3 => by
    rw [List.take_succ_cons, List.take_succ_cons] at h
    obtain ⟨e, h'⟩ := List.cons.inj h
    subst e
    rw [HT.lexLt_cons, if_pos rfl, ← fin_lex ns ms k h' (by simpa using h1) (by simpa using h2) (by simpa using h3)]
    simp
theorem tups_lt {x y : Value} {ns ms : List Int} {Q : Bool → Shared → Prop} (hx : TS.TupInts s.heap x ns) (hy : TS.TupInts s.heap y ms) (hq : Q (HT.lexLt ns ms) s) : wpAny (model prog w) A (keyLt' (tuples' true) x y) Q E s := by
  obtain ⟨a, xs, rfl, ⟨o, ho, hc, n, hd⟩, hi⟩ := hx
  obtain ⟨b, ys, rfl, ⟨o2, ho2, hc2, n2, hd2⟩, hj⟩ := hy
  refine PySem.W.kat_lt ho hd ho2 hd2 ?_
  have e1 : xs.size = ns.length := by rw [← hi.length]; simp
  have e2 : ys.size = ms.length := by rw [← hj.length]; simp
  rw [e1, e2]
  exact katlex_ints 0 hi hj (fun k h1 h2 h3 h4 => fin_lex ns ms k h1 h2 h3 h4) hq
theorem gen_lt {x y : Value} {ns ms : List Int} {Q : Bool → Shared → Prop} (hx : TS.TupInts s.heap x ns) (hy : TS.TupInts s.heap y ms) (hu : A.units < cLine) (hq : Q (HT.lexLt ns ms) s) : wpAny (model prog w) A (keyLt' general' x y) Q E s := by
  obtain ⟨a, xs, rfl, hl, hi⟩ := hx
  obtain ⟨b, ys, rfl, hb, hj⟩ := hy
  show wpAny (model prog w) A (oneLt' false (.ref a) (.ref b)) Q E s
  exact PySem.W.kat_one _ _ (HT.lt_tupInts hl hb hi hj hu hq)
theorem one_lt {x y : Value} {ns ms : List Int} {Q : Bool → Shared → Prop} (hx : TS.TupInts s.heap x ns) (hy : TS.TupInts s.heap y ms) (hu : A.units < cLine) (hq : Q (HT.lexLt ns ms) s) : wpAny (model prog w) A (keyLt' oneType' x y) Q E s := by
  obtain ⟨a, xs, rfl, hl, hi⟩ := hx
  obtain ⟨b, ys, rfl, hb, hj⟩ := hy
  rw [keyLt'_oneType, oneLt'_eq]
  simp only [if_true]
  obtain ⟨⟨cls, dd, data, sl⟩, ho, hc, n, hd⟩ := id hl
  obtain ⟨⟨cls2, dd2, data2, sl2⟩, ho2, hc2, n2, hd2⟩ := id hb
  simp only at hc hd hc2 hd2
  subst hc hd hc2 hd2
  refine wpAny_bind (m := cRoomFor _ _) (wpAny_cRoomFor hu ?_)
  refine wpAny_bind (wpAny_callSpecialIfBound?_slot (T := "tuple") ⟨_, ho, rfl⟩ PySem.F.slot_tuple_lt (call_meets PySem.F.slot_tuple_lt ⟨_, ho, rfl⟩ PySem.F.entry_tuple_lt (PySem.F.args_tuple_lt_2 _ _) (HT.tuple_lt_ints a b xs ys n n2 dd dd2 sl sl2 ns ms hi hj) ⟨ho, ho2, ?_⟩))
  exact wpAny_truthy_bool hq
/-- the first items of tuples -/
inductive Fst : List (List Int) → List (Option Value) → Prop
  | nil : Fst [] []
  | emp {kss fs} : Fst kss fs → Fst ([] :: kss) (none :: fs)
  | hd {n ns t kss fs} : Fst kss fs → Fst ((n :: ns) :: kss) (some (.int n t) :: fs)
abbrev Tups (h : Heap) : List Value → List (List Int) → Prop := Paired fun v ns => TS.TupInts h v ns
theorem mapM_fst {M : Model} : ∀ {vs : List Value} {kss : List (List Int)} {Q : List (Option Value) → Shared → Prop}, Tups s.heap vs kss → (∀ fs, Fst kss fs → Q fs s) → wpAny M A (vs.mapM firstOfTuple') Q E s
  | [], _, Q, .nil, h => by
    rw [List.mapM_nil]
    exact wpAny_pure (h _ .nil)
  | v :: vs, ns :: kss, Q, .cons hv r, h => by
    obtain ⟨a, xs, rfl, ⟨o, ho, hc, n, hd⟩, hi⟩ := hv
    rw [List.mapM_cons]
    refine wpAny_bind ?_
    rw [PySem.W.kas_first_eq]
    refine wpAny_bind (PySem.W.Looks.here (show PySem.W.Looks M s.heap (typeOf (.ref a)) o.cls from (PySem.W.Looks.ld ho).andThen .now) ?_)
    rw [hc, if_neg (by first | decide | simp)]
    refine wpAny_bind (listItems_at ho hd (wpAny_pure ?_))
    refine wpAny_bind (mapM_fst (Q := fun bs s' => wpAny M A (pure (xs[0]? :: bs)) Q E s') r fun fs hf => wpAny_pure (h _ ?_))
    obtain ⟨l⟩ := xs
    cases hi with
    | nil => exact .emp hf
    | cons k t hi' => exact .hd hf
theorem Fst.some_all : ∀ {kss : List (List Int)} {fs : List (Option Value)}, Fst kss fs → (fs.toArray.all fun x => x.isSome) = true → ∃ vs : List Value, fs = vs.map some ∧ ∀ v ∈ vs, ∃ n t, v = Value.int n t
  | _, _, .nil, _ => ⟨[], rfl, fun v h => by cases h⟩
  | _, _, .emp r, h => by simp at h
  | _, _, .hd (n := n) (t := t) r, h => by
    obtain ⟨vs, e, hv⟩ := Fst.some_all r (by simpa using h)
    refine ⟨.int n t :: vs, by rw [e]; rfl, fun v hm => ?_⟩
    rcases List.mem_cons.mp hm with e' | hm
    · exact ⟨n, t, e'⟩
    · exact hv v hm
theorem kind_tups {vs : List Value} {kss : List (List Int)} (h : Tups s.heap vs kss) (h2 : 2 ≤ vs.length) : ∃ κ, (κ = tuples' true ∨ κ = general' ∨ κ = oneType') ∧
    ∀ (Q : SortKind → Shared → Prop) (E : Value → Shared → Prop), Q κ s → wpAny (model prog w) A (keyKind' vs.toArray) Q E s := by
  have typ : ∀ v ∈ vs, PySem.W.Looks (model prog w) s.heap (typeOf v) (.type "tuple") := fun v hv => by
    have key : ∀ {l : List Value} {k : List (List Int)}, Tups s.heap l k → v ∈ l → ∃ ns, TS.TupInts s.heap v ns := by
      intro l k r
      induction r with
      | nil => intro m; cases m
      | cons a b ih =>
        intro m
        rcases List.mem_cons.mp m with e | m
        · rw [e]; exact ⟨_, a⟩
        · exact ih m
    obtain ⟨ns, a, xs, rfl, ⟨o, ho, hc, _⟩, _⟩ := key h hv
    rw [← hc]
    exact (PySem.W.Looks.ld ho).andThen .now
  -- the first items are the same at every turn: they hang on the heap alone
  have ex : ∃ fs, Fst kss fs ∧ ∀ {M : Model} {A : Around} {E : Value → Shared → Prop} {Q : List (Option Value) → Shared → Prop}, Q fs s → wpAny M A (vs.mapM firstOfTuple') Q E s := by
    clear h2 typ
    induction h with
    | nil => exact ⟨[], .nil, fun hq => by rw [List.mapM_nil]; exact wpAny_pure hq⟩
    | @cons v ns vs kss hv r ih =>
      obtain ⟨fs, hf, hr⟩ := ih
      obtain ⟨a, xs, rfl, ⟨o, ho, hc, n, hd⟩, hi⟩ := hv
      refine ⟨xs[0]? :: fs, ?_, fun {M A E Q} hq => ?_⟩
      · obtain ⟨l⟩ := xs
        cases hi with
        | nil => exact .emp hf
        | cons k t hi' => exact .hd hf
      · rw [List.mapM_cons]
        refine wpAny_bind ?_
        rw [PySem.W.kas_first_eq]
        refine wpAny_bind (PySem.W.Looks.here (show PySem.W.Looks M s.heap (typeOf (.ref a)) o.cls from (PySem.W.Looks.ld ho).andThen .now) ?_)
        rw [hc, if_neg (by first | decide | simp)]
        refine wpAny_bind (listItems_at ho hd (wpAny_pure ?_))
        exact wpAny_bind (hr (Q := fun bs s' => wpAny M A (pure (xs[0]? :: bs)) Q E s') (wpAny_pure hq))
  obtain ⟨fs, hf, hr⟩ := ex
  have hlen : fs.length = vs.length := by
    have a := h.length
    have b : kss.length = fs.length := by
      clear hr a h
      induction hf with
      | nil => rfl
      | emp _ ih => simp [ih]
      | hd _ ih => simp [ih]
    omega
  by_cases hall : (fs.toArray.all fun x => x.isSome) = true
  · refine ⟨tuples' true, .inl rfl, fun Q E hq => ?_⟩
    obtain ⟨us, e, hi⟩ := hf.some_all hall
    rw [kat_kind_eq, List.mapM_toArray, map_eq_pure_bind]
    refine wpAny_bind (wpAny_bind (hr (wpAny_pure ?_)))
    rw [if_pos hall]
    refine wpAny_bind (wpAny_rule ?_)
    subst e
    have hfm : ((us.map some).toArray.filterMap id) = us.toArray := by simp
    rw [hfm, oneTypeOnly'_eq, List.mapM_toArray, map_eq_pure_bind]
    refine wpAny_bind (wpAny_bind (wpAny_bind (PySem.W.kas_mapM (r := Value.type "int") _ (fun v hv Q' hq => by
      obtain ⟨n, t, rfl⟩ := hi v hv
      exact PySem.W.Looks.here (PySem.W.Looks.now) hq) (wpAny_pure ?_))))
    have hall2 : ((List.map (fun _ => Value.type "int") us).toArray.all fun x => x == Value.type "int") = true := by
      simp only [List.all_toArray, List.all_map, List.all_eq_true]
      intro _ _
      rfl
    obtain ⟨u, ur, rfl⟩ : ∃ u ur, us = u :: ur := by
      cases us with
      | nil => simp at hlen; omega
      | cons u ur => exact ⟨u, ur, rfl⟩
    have h0 : (List.map (fun _ => Value.type "int") (u :: ur)).toArray[0]? = some (Value.type "int") := by simp
    rw [h0]
    simp only [hall2, if_true]
    exact wpAny_pure (wpAny_pure hq)
  · by_cases h1 : ((fs.toArray[0]?).bind id).isSome = true
    · refine ⟨general', .inr (.inl rfl), fun Q E hq => ?_⟩
      rw [kat_kind_eq, List.mapM_toArray, map_eq_pure_bind]
      refine wpAny_bind (wpAny_bind (hr (wpAny_pure ?_)))
      rw [if_neg hall, if_pos h1]
      exact wpAny_pure hq
    · refine ⟨oneType', .inr (.inr rfl), fun Q E hq => ?_⟩
      rw [kat_kind_eq, List.mapM_toArray, map_eq_pure_bind]
      refine wpAny_bind (wpAny_bind (hr (wpAny_pure ?_)))
      rw [if_neg hall, if_neg h1, oneTypeOnly'_eq, List.mapM_toArray, map_eq_pure_bind]
      refine wpAny_bind (wpAny_bind (wpAny_bind (PySem.W.kas_mapM (r := Value.type "tuple") _ (fun v hv Q' hq => (typ v hv).here hq) (wpAny_pure ?_))))
      have hall2 : ((List.map (fun _ => Value.type "tuple") vs).toArray.all fun x => x == Value.type "tuple") = true := by
        simp only [List.all_toArray, List.all_map, List.all_eq_true]
        intro _ _
        rfl
      obtain ⟨u, ur, rfl⟩ : ∃ u ur, vs = u :: ur := by
        cases vs with
        | nil => simp at h2
        | cons u ur => exact ⟨u, ur, rfl⟩
      have h0 : (List.map (fun _ => Value.type "tuple") (u :: ur)).toArray[0]? = some (Value.type "tuple") := by simp
      rw [h0]
      simp only [hall2, if_true]
      exact wpAny_pure (wpAny_pure hq)
end
/-! ### the order -/
theorem lex_asym : ∀ (x y : List Int), HT.lexLt x y = true → HT.lexLt y x = false
  | [], [], h => by cases h
  | [], _ :: _, _ => rfl
  | _ :: _, [], h => by cases h
  | a :: x, b :: y, h => by
    rw [HT.lexLt_cons] at h ⊢
    by_cases e : a = b
    · subst e
      rw [if_pos rfl] at h ⊢
      exact lex_asym x y h
    · rw [if_neg e] at h
      rw [if_neg (fun z => e z.symm)]
      have h := of_decide_eq_true h
      exact decide_eq_false (by omega)
theorem lex_anti : ∀ (x y : List Int), HT.lexLt x y = false → HT.lexLt y x = false → x = y
  | [], [], _, _ => rfl
  | [], _ :: _, h, _ => by cases h
  | _ :: _, [], _, h => by cases h
  | a :: x, b :: y, h, h' => by
    rw [HT.lexLt_cons] at h h'
    by_cases e : a = b
    · subst e
      rw [if_pos rfl] at h h'
      rw [lex_anti x y h h']
    · rw [if_neg e] at h
      rw [if_neg (fun z => e z.symm)] at h'
      have h := of_decide_eq_false h
      have h' := of_decide_eq_false h'
      omega
/-- x is not above y -/
def lexLe (x y : List Int) : Bool := !HT.lexLt y x
theorem lex_tr : ∀ (x y z : List Int), HT.lexLt y x = false → HT.lexLt z y = false → HT.lexLt z x = false
  | [], _, [], _, _ => rfl
  | [], _, _ :: _, _, _ => rfl
  | _ :: _, [], _, h, _ => by cases h
  | a :: x, b :: y, [], _, h => by cases h
  | a :: x, b :: y, c :: z, h1, h2 => by
    rw [HT.lexLt_cons] at h1 h2 ⊢
    by_cases e1 : b = a
    · subst e1
      rw [if_pos rfl] at h1
      by_cases e2 : c = b
      · subst e2
        rw [if_pos rfl] at h2 ⊢
        exact lex_tr x y z h1 h2
      · rw [if_neg e2] at h2 ⊢
        exact h2
    · rw [if_neg e1] at h1
      have h1 := of_decide_eq_false h1
      by_cases e2 : c = b
      · subst e2
        rw [if_neg e1]
        exact decide_eq_false h1
      · rw [if_neg e2] at h2
        have h2 := of_decide_eq_false h2
        rw [if_neg (by omega)]
        exact decide_eq_false (by omega)
theorem swo_lex2 (k : Value → List Int) : Swo fun v u => HT.lexLt (k v) (k u) := ⟨fun x y => lex_asym _ _, fun x y z => lex_tr _ _ _⟩
/-- the sorted list -/
def srt (l : List (List Int)) : List (List Int) := l.mergeSort lexLe
theorem srt_perm (l : List (List Int)) : (srt l).Perm l := List.mergeSort_perm l lexLe
theorem srt_pw (l : List (List Int)) : (srt l).Pairwise fun a b => lexLe a b = true :=
  List.pairwise_mergeSort (fun a b c h1 h2 => by
    have h1 : HT.lexLt b a = false := by simpa [lexLe] using h1
    have h2 : HT.lexLt c b = false := by simpa [lexLe] using h2
    have h3 := lex_tr a b c h1 h2
    simp [lexLe, h3]) (fun a b => by
    cases e : HT.lexLt b a with
    | false => simp [lexLe, e]
    | true => simp [lexLe, lex_asym _ _ e]) l
theorem srt_uniq {l m : List (List Int)} (hp : m.Perm l) (hs : m.Pairwise fun a b => HT.lexLt b a = false) : m = srt l := by
  refine List.Perm.eq_of_pairwise (le := fun a b => HT.lexLt b a = false) (fun a b _ _ h1 h2 => (lex_anti b a h1 h2).symm) hs ?_ (hp.trans (srt_perm l).symm)
  exact (srt_pw l).imp fun {a b} h => by simpa [lexLe] using h
/-! ### the rule -/
abbrev TupsI (K : PySem.W.Frag) (H : Hp) : List V → List (List Int) → Prop := Paired fun x ns => TupI K H x ns
def rSortL (K : PySem.W.Frag) : List V → Hp → VK → Prop := fun vs H Q => ∃ (a : Addr) (xs : List V) (kss : List (List Int)), vs = [V.ref a] ∧ SqL K H a xs ∧ TupsI K H xs kss ∧
  ∀ (ys : List V) (p : Addr), TupsI K H ys (srt kss) → H p = none → Q (.ref p) (upd H p (.lst ys))
section
variable {X : Cx}
theorem tups_raw {pins : List (Addr × Obj)} {σ : L2.St} {H : Hp} {s : Shared} (I : L2.Inv X pins σ H s) : ∀ {xs : List V} {us : List Value} {kss : List (List Int)}, Vals xs us → TupsI X.K H xs kss → Tups s.heap us kss
  | _, _, _, .nil, .nil => .nil
  | _, _, _, .cons rv r, .cons h hs => by
    obtain ⟨t, rfl, ht⟩ := h
    cases rv
    exact .cons (tupI_raw I ht) (tups_raw I r hs)
theorem tups_refs {K : PySem.W.Frag} {H : Hp} : ∀ {xs : List V} {kss : List (List Int)}, TupsI K H xs kss → ∀ x ∈ xs, ∃ a, x = V.ref a
  | _, _, .nil, _, h => by cases h
  | _, _, .cons h hs, x, hm => by
    rcases List.mem_cons.mp hm with e | hm
    · obtain ⟨t, e', _⟩ := h
      exact ⟨t, by rw [e, e']⟩
    · exact tups_refs hs x hm
theorem paired_mem {α β : Type} {F : α → β → Prop} : ∀ {l : List α} {m : List β}, Paired F l m → ∀ x ∈ l, ∃ y ∈ m, F x y
  | _, _, .nil, _, h => by cases h
  | _, _, .cons h hs, x, hm => by
    rcases List.mem_cons.mp hm with e | hm
    · rw [e]; exact ⟨_, List.mem_cons_self, h⟩
    · obtain ⟨y, hy, hf⟩ := paired_mem hs x hm
      exact ⟨y, List.mem_cons_of_mem _ hy, hf⟩
theorem paired_map {α β : Type} {F : α → β → Prop} (g : α → β) : ∀ {l : List α}, (∀ x ∈ l, F x (g x)) → Paired F l (l.map g)
  | [], _ => .nil
  | x :: l, h => .cons (h x List.mem_cons_self) (paired_map g fun y hy => h y (List.mem_cons_of_mem _ hy))
theorem map_of_paired {α β : Type} {F : α → β → Prop} {g : α → β} (hg : ∀ x y, F x y → g x = y) : ∀ {l : List α} {m : List β}, Paired F l m → l.map g = m
  | _, _, .nil => rfl
  | _, _, .cons h hs => by rw [List.map_cons, hg _ _ h, map_of_paired hg hs]
theorem cr_sortL (hu : X.A.units + 4 < cLine) : CallR X (.builtin "sorted") (rSortL X.K) := by
  intro pins s σ H vs us Q I r h
  obtain ⟨a, xs, kss, rfl, hs, hx, q⟩ := h
  obtain ⟨its, rv, hl, hz⟩ := I.list hs
  rw [Vals.ref1 r]
  obtain ⟨e1, e2⟩ := bkV_refs rv (tups_refs hx)
  have ht := tups_raw I rv hx
  have hk : its.map (TS.intsOf s.heap) = kss := map_of_paired (fun v ns (x : TS.TupInts s.heap v ns) => x.ints) ht
  have keepT : ∀ {h' : Heap}, (∀ b o, s.heap.get? b = some o → o.cls = .type "tuple" → h'.get? b = some o) → Tups h' its kss := fun {h'} k => Paired.mapP ht fun v ns x => x.keeps k
  have hsame : ∀ {h' : Heap}, Tups h' its kss → ∀ v ∈ its, TS.TupInts h' v (TS.intsOf s.heap v) := fun {h'} t v hv => by
    have key : ∀ {l : List Value} {m : List (List Int)}, Tups h' l m → Tups s.heap l m → v ∈ l → TS.TupInts h' v (TS.intsOf s.heap v) := by
      intro l m r1
      induction r1 with
      | nil => intro _ hm; cases hm
      | cons x xs ih =>
        intro r2 hm
        cases r2 with
        | cons y ys =>
          rcases List.mem_cons.mp hm with e | hm
          · rw [e, y.ints]; exact x
          · exact ih ys hm
    exact key t ht hv
  refine sorted_ord (swo_lex2 (TS.intsOf s.heap)) hl.isList (by rw [← rv.length]; exact hz) (fun h2 h₁ l hl1 kk => ?_) fun out h1 h2 => ?_
  · intro h' keep
    have kt : ∀ b o, s.heap.get? b = some o → o.cls = .type "tuple" → h'.get? b = some o := fun b o e _ => keep b o (kk b o e).1 (kk b o e).2
    have hT := keepT kt
    obtain ⟨κ, hκ, hrun⟩ := kind_tups (prog := X.prog) (w := X.w) (A := X.A.in1.in1) (s := { s with heap := h' }) hT h2
    refine ⟨κ, hrun, fun p q hp hq => ?_⟩
    have a1 := hsame hT _ hp
    have a2 := hsame hT _ hq
    have hu2 : X.A.in1.in1.units < cLine := by
      show X.A.units + 1 + 1 < cLine
      omega
    rcases hκ with rfl | rfl | rfl
    · exact tups_lt (s := { s with heap := h' }) a1 a2 ⟨rfl, rfl⟩
    · exact gen_lt (s := { s with heap := h' }) a1 a2 hu2 ⟨rfl, rfl⟩
    · exact one_lt (s := { s with heap := h' }) a1 a2 hu2 ⟨rfl, rfl⟩
  · obtain ⟨ep, he'⟩ := PyProof.Rows.sortedAll_at s.heap its out.toArray
    have h3 : ∀ u ∈ out, ∃ a, u = Value.ref a := fun u hu => e2 u (h2.perm.mem_iff.mp hu)
    have hp : (out.map bkV).Perm xs := by
      rw [e1]
      exact h2.perm.map bkV
    have hlen : (out.map bkV).length ≤ sizeLine := by
      rw [hp.length_eq]
      exact hz
    refine ⟨.ref _, upd H (s.heap.objs.size + 1) (.lst (out.map bkV)), I.laid (t' := s.toks) (fun _ _ => PyProof.Rows.sortedAll_old) (Nat.le_succ _) ⟨hlen, out, ep, bkV_vals h3, he'⟩, rfl, q _ _ ?_ (I.hok.fresh (Nat.le_succ _))⟩
    have eo : out.map (TS.intsOf s.heap) = srt kss := by
      refine srt_uniq ?_ ?_
      · rw [← hk]
        exact h2.perm.map _
      · rw [List.pairwise_map]
        exact h1
    rw [← eo]
    -- item by item
    have key : ∀ {l : List Value}, (∀ v ∈ l, v ∈ its) → TupsI X.K H (l.map bkV) (l.map (TS.intsOf s.heap)) := by
      intro l
      induction l with
      | nil => intro _; exact .nil
      | cons v l ih =>
        intro hm
        refine .cons ?_ (ih fun y hy => hm y (List.mem_cons_of_mem _ hy))
        have hv := hm v List.mem_cons_self
        obtain ⟨t, rfl⟩ := e2 v hv
        have hx2 : V.ref t ∈ xs := by
          rw [e1]
          exact List.mem_map.mpr ⟨_, hv, rfl⟩
        obtain ⟨ns, _, t', e, hT⟩ := paired_mem hx _ hx2
        cases e
        rw [(tupI_raw I hT).ints]
        exact ⟨t, rfl, hT⟩
    exact key fun v hv => h2.perm.mem_iff.mp hv
end
end K25
end

section
-- XTry
set_option Elab.async false
set_option linter.all false
set_option maxRecDepth 100000
set_option maxHeartbeats 4000000
/-! try with several clauses «except C as n», each its own suite: a clause is asked behind the ones ahead of it. -/
namespace K25
open PySem PySem.Spec PyProof.Rows L2
/-- a clause: its class, the slot of its name, its suite's reading -/
structure Cl where
  c : Value
  i : Nat
  ts : Addr → Value → Option Addr → TS
/-- what the clauses wish of an exception -/
def wAll (K : PySem.W.Frag) (Wout : WX) (D : Ends) : List Cl → WX
  | [] => Wout
  | q :: r => fun cls d σ H => ∃ b, PySem.W.exmOne K cls q.c = some b ∧
      (b = true → ∀ a, H a = none → q.ts a cls d { nx := fun σ' H' => D.nx (σ'.set q.i none) H', rt := D.rt, bk := fun σ' H' => D.bk (σ'.set q.i none) H', ct := fun σ' H' => D.ct (σ'.set q.i none) H' } (σ.set q.i (some (.ref a))) H) ∧
      (b = false → wAll K Wout D r cls d σ H)
inductive Clauses (X : Cx) : List ExceptHandler → List Cl → Prop
  | nil : Clauses X [] []
  | cons {x n : Str} {q : Cl} {b0 : Stmt} {suite : List Stmt} {np pos : Pos} {hds : List ExceptHandler} {l : List Cl} (hi : X.N[q.i]? = some n) (hl : X.env.kindOf n = some .local) (hc : Names X x q.c)
      (hsu : ∀ (a : Addr) (oe : Obj) (cls : Value) (d : Option Addr) (pn : List (Addr × Obj)), Zc cls d oe → (∃ vs, oe.data = .fields vs) → PSs (X.suite a ((a, oe) :: pn)) (b0 :: suite) (q.ts a cls d))
      (r : Clauses X hds l) : Clauses X (.ExceptHandler (some (.Name x np)) (some n) (b0 :: suite) pos :: hds) (q :: l)
section
variable {X : Cx} {body : List Stmt} {h0 : ExceptHandler} {hds : List ExceptHandler} {l : List Cl} {pos : Pos} {tb : WX → TS} {Wout : WX}
/-- an exception that has landed in this frame goes by the clauses -/
theorem by_clauses {pins : List (Addr × Obj)} {σ' : L2.St} {H' : Hp} {D : Ends} {B h3 : Heap} {sI s' : Shared} {a : Addr} {cls : Value} {d : Option Addr} (hs : X.stack = X.env :: X.outer) (hf : X.env.frame = some X.env.locals) (hN : X.N.Nodup) (tk : Takes X Wout)
    (J : L2.Inv X pins σ' H' sI) (nb : ∀ b o, sI.heap.get? b = some o → b ∉ frs X.stack → B.get? b = some o) (up : sI.heap.UpToSlots h3) (fl3 : HandSPX.FlyingZ B (X.env :: X.outer) a (Zc cls d) h3) (na : H' a = none) (os : s'.os = sI.os) (ag : AllBare s'.gens) :
    ∀ {hds : List ExceptHandler} {l : List Cl}, Clauses X hds l → wAll X.K Wout D l cls d σ' H' → wpAny (model X.prog X.w) X.A (handleBy (.ref a) X.env hds) (SP X pins D) X.xe { s' with heap := h3 } := by
  have ok := J.ok
  have J3 : L2.Inv X pins σ' H' { s' with heap := h3 } := J.landed nb fl3.1 up os ag
  obtain ⟨oe3, vs3, he3, hz3, hd3⟩ := fl3.there
  have nfr : a ∉ frs (X.env :: X.outer) := fun hm => by
    obtain ⟨_, o', e', hnf⟩ := fl3.2.2.1.mem hm
    rw [he3] at e'
    cases e'
    exact hnf _ hd3
  have nL : a ≠ X.env.locals := fun z => nfr (List.mem_filterMap.mpr ⟨X.env, List.mem_cons_self, by rw [hf, z]⟩)
  have nF : a ∉ X.fs := fun hm => by
    obtain ⟨e, he, q⟩ := List.mem_filterMap.mp hm
    exact nfr (List.mem_filterMap.mpr ⟨e, List.mem_cons_of_mem _ he, q⟩)
  have S3 := J3.suite he3 hd3 na nL nF
  have LT : PySem.W.Looks (model X.prog X.w) h3 (typeOf (.ref a)) cls := fun A Q E s k q => wpAny_typeOf_ref (k _ _ he3) (by rw [hz3.1]; exact q)
  intro hds l hk
  induction hk with
  | nil =>
    intro w
    refine wpAny_handleBy_nil ?_
    obtain ⟨_, _, _, oe, vs, T, oT, ts', he, hz, hd, h1, hr⟩ := id fl3
    unfold PySem.passOn
    refine wpAny_bind (wpAny_field he hd h1 ?_)
    rw [if_neg (show ¬ ((Value.ref T == Value.none) = true) from by simp)]
    have fin : wpAny (model X.prog X.w) X.A (setFlight (.ref a) X.env.frame) (fun _ s4 => wpAny (model X.prog X.w) X.A (throw (.ref a) : Sem Flow) (SP X pins D) X.xe s4) X.xe { s' with heap := h3 } := by
      rw [hf]
      exact HandSPX.setFlight_upZ fl3 fun h4 hh4 up4 => wpAny_throw (tk _ _ ⟨a, B, sI, pins, σ', H', cls, d, rfl, J, nb, up.trans up4, .inr (.inr (by rw [hs]; exact hh4)), na, os, ag, w⟩)
    first
      | exact wpAny_bind (wpAny_pure (wpAny_bind fin))
      | exact wpAny_bind fin
  | @cons x n q b0 suite np ps hds2 l2 hi hl hc hsu r ih =>
    intro w
    obtain ⟨b, hb1, hyes, hno⟩ := w
    refine wpAny_handleBy_cons (codeAny_handlers_test ?_) (by intro z; cases z)
    have LM := PySem.W.exm_one (M := model X.prog X.w) J3.kIn LT hb1
    have test : ∀ {Q : Value → Shared → Prop} {E : Value → Shared → Prop}, Q q.c { s' with heap := h3 } → wpAny (model X.prog X.w) (X.A.mark (some (.ref a))) (eval (.Name x np) X.env) Q E { s' with heap := h3 } := fun {Q E} z => by
      obtain ⟨hg, hdbg, hm | ⟨hm, hv, hnn⟩⟩ := hc
      · exact ld_glob (X := X.suite a ((a, oe3) :: (X.pn ++ pins))) S3 hg hm z hdbg
      · exact ld_blt (X := X.suite a ((a, oe3) :: (X.pn ++ pins))) S3 hg hm hv z hnn hdbg
    refine test (LM.here ?_)
    cases b with
    | false =>
      show wpAny _ X.A (handleBy (.ref a) X.env hds2) _ _ _
      exact ih (hno rfl)
    | true =>
      refine codeAny_handlers_suite_as ?_
      refine HandSPX.lands_againZ fl3 fun h4 fl4 up4 => ?_
      have J4 : L2.Inv X pins σ' H' { s' with heap := h4 } := J.landed nb fl4.1 (up.trans up4) os ag
      obtain ⟨oe4, vs4, he4, hz4, hd4⟩ := fl4.there
      have S4 := J4.suite he4 hd4 na nL nF
      refine store_ok (X := X.suite a ((a, oe4) :: (X.pn ++ pins))) (v := .ref a) S4 hN hi (.inl hl) rfl (fun s5 S5 => ?_) (.inr hl)
      refine wpAny_mono ((hsu a oe4 cls d (X.pn ++ pins) hz4 ⟨_, hd4⟩).run [] s5 _ H' _ S5 (hyes rfl a na)) (fun f s6 hsp => ?_) (fun _ _ z => False.elim z)
      have gone : ∀ {σ6 : L2.St} {H6 : Hp} {Q : Shared → Prop}, L2.Inv (X.suite a ((a, oe4) :: (X.pn ++ pins))) [] σ6 H6 s6 → (∀ s7, L2.Inv X pins (σ6.set q.i none) H6 s7 → Q s7) →
          wpAny (model X.prog X.w) X.A (do bindName X.env n .none; unbindBehindTheSuite X.env n ps) (fun _ s7 => Q s7) X.xe s6 := fun {σ6 H6 Q} S6 hq => gone_ok (S6.unsuite ok) hN hi hl hq
      cases f with
      | next =>
        obtain ⟨σ6, H6, S6, q6⟩ := hsp
        exact gone S6 fun s7 J7 => ⟨_, _, J7, q6⟩
      | brk =>
        obtain ⟨σ6, H6, S6, q6⟩ := hsp
        exact gone S6 fun s7 J7 => ⟨_, _, J7, q6⟩
      | cont =>
        obtain ⟨σ6, H6, S6, q6⟩ := hsp
        exact gone S6 fun s7 J7 => ⟨_, _, J7, q6⟩
      | ret u =>
        obtain ⟨v6, σ6, H6, S6, r6, q6⟩ := hsp
        exact gone S6 fun s7 J7 => ⟨_, _, _, J7, r6, q6⟩
theorem ps_try_all (hs : X.stack = X.env :: X.outer) (hf : X.env.frame = some X.env.locals) (hN : X.N.Nodup) (tk : Takes X Wout)
    (hb : ∀ (W : WX) (pn : List (Addr × Obj)) (xe : Value → Shared → Prop), Takes (X.tr pn xe) W → PassesOwn (model X.prog X.w) X.A X.env xe → PSs (X.tr pn xe) body (tb W))
    (hh : Clauses X (h0 :: hds) l) : PS X (.Try body (h0 :: hds) [] [] pos) (fun D σ H => tb (wAll X.K Wout D l) D σ H) := by
  refine ⟨fun pins s σ H D I h => ?_⟩
  have ok := I.ok
  have hfr : X.A.frames = some (X.env :: X.outer) := by rw [ok.frames, hs]
  refine wpAny_Try_except ?_
  refine wpAny_mono ((hb (wAll X.K Wout D l) (X.pn ++ pins) (fun e s1 => wpAny (model X.prog X.w) X.A (noteFrame e X.env) (fun _ s2 => wpAny (model X.prog X.w) X.A (setFlight e none) (fun _ s3 =>
    wpAny (model X.prog X.w) X.A (handleBy e X.env (h0 :: hds)) (SP X pins D) X.xe s3) X.xe s2) X.xe s1) (fun u s' xx => ?_) PassesOwn.looking).run [] s σ H D (I.toTry _) h) (fun f s1 hsp => ?_) (fun e s1 he => he)
  · obtain ⟨a, B, sI, pins', σ', H', cls, d, rfl, J', nb, up, sky, na, os, ag, w⟩ := xx
    have sky' : Sky B (X.env :: X.outer) a (Zc cls d) X.env.locals s'.heap := by rw [← hs]; exact sky
    show wpAny (model X.prog X.w) X.A (noteFrame (.ref a) X.env) _ _ _
    exact Sky.land Zc.steady hfr hf sky' fun h3 fl3 up3 => by_clauses hs hf hN tk (J'.ofTry ok) nb (up.trans up3) fl3 na os ag hh w
  · cases f with
    | next =>
      obtain ⟨σ', H', J', q⟩ := hsp
      exact wpAny_execs_nil ⟨σ', H', J'.ofTry ok, q⟩
    | brk =>
      obtain ⟨σ', H', J', q⟩ := hsp
      exact ⟨σ', H', J'.ofTry ok, q⟩
    | cont =>
      obtain ⟨σ', H', J', q⟩ := hsp
      exact ⟨σ', H', J'.ofTry ok, q⟩
    | ret u =>
      obtain ⟨v, σ', H', J', r, q⟩ := hsp
      exact ⟨v, σ', H', J'.ofTry ok, r, q⟩
end
end K25
end

section
-- XKey
set_option Elab.async false
set_option linter.all false
set_option maxRecDepth 100000
set_option maxHeartbeats 4000000
/-! KeyError as the base of an own exception. -/
namespace K25
open PySem
abbrev keMro : List Value := [.type "KeyError", .type "LookupError", .type "Exception", .type "BaseException", .type "object"]
theorem store_KeyError : StoreFacts "KeyError" keMro "object.__setattr__" "object" where
  mro := by kernel_rfl
  slot := .of (owner := "object") (n := "__setattr__") (by rw [typeLookup_type, builtinLookup_eq_fast]; kernel_rfl) (by decide +kernel) (by decide +kernel) (by decide +kernel)
    (by first | exact .inl (by decide +kernel) | exact .inr (by decide +kernel)) (by rw [isSubtype_type]; kernel_rfl)
  entry := PySem.F.store_object.entry
  kind := by decide +kernel
  split := by decide +kernel
  hasOwner := by decide +kernel
  args := fun a b c => by unfold argsOk; kernel_rfl
  passes := fun self => by kernel_rfl
theorem kxs_KeyError : PySem.W.KxsFacts "KeyError" "KeyError.__init__" := ⟨by show builtinType _ = _; rw [builtinType_eq_fast]; kernel_rfl, by first | kernel_rfl | rfl⟩
end K25
end

section
-- XExc
set_option Elab.async false
set_option linter.all false
set_option maxRecDepth 100000
set_option maxHeartbeats 4000000
/-! Own exceptions whose __init__ says super().__init__('..') and stores one field: made, by call. -/
namespace K25
open PySem PySem.W PySem.Calls PyProof.Rows PySem.HandSPX
/-- what the built-in base gives: B the base, N the built-in whose __new__ makes it -/
structure EF (B N newId initId : String) (bm : List Value) : Prop where
  ends : newId.endsWith ".__new__" = true
  owner : newId.dropRight 8 = N
  entry : entryFor table newId = some Builtin.«BaseException.__new__»
  newSplit : splitId newId = some (N, "__new__")
  newKind : builtinKind newId = some .builtinFn
  newRow : Manifest.signature? newId = some ⟨.any, N, N, .cls, [⟨"args", .varPos, false⟩, ⟨"kwargs", .varKw, false⟩]⟩
  canon : Manifest.canonical newId = Manifest.canonical "BaseException.__new__"
  quiet : newId.startsWith "lifetime." = false
  noStarN : (N != "*") = true
  hasN : bm.contains (.type N) = true
  noAttr : bm.contains (.type "AttributeError") = false
  noName : bm.contains (.type "NameError") = false
  initEntry : entryFor table initId = some Builtin.«BaseException.__init__»
  initKind : builtinKind initId = some .slot
  initRow : Manifest.signature? initId = some ⟨.positional, "*", B, .self, [⟨"args", .varPos, false⟩]⟩
  noStar : (B != "*") = true
  initPlain : plainId initId = true
  store : StoreFacts B bm "object.__setattr__" "object"
  kx : KxsFacts B initId
theorem EF.of {B newId initId : String} {bm : List Value} (F : ExcBaseFacts B newId initId bm) (S : StoreFacts B bm "object.__setattr__" "object") (k : KxsFacts B initId) : EF B B newId initId bm where
  ends := F.ends
  owner := F.owner
  entry := F.entry
  newSplit := F.newSplit
  newKind := F.newKind
  newRow := F.newRow
  canon := F.canon
  quiet := F.quiet
  noStarN := F.noStar
  hasN := F.hasB
  noAttr := F.noAttr
  noName := F.noName
  initEntry := F.initEntry
  initKind := F.initKind
  initRow := F.initRow
  noStar := F.noStar
  initPlain := F.init.plain
  store := S
  kx := k
theorem ef_VE : EF "ValueError" "ValueError" "ValueError.__new__" "ValueError.__init__" [.type "ValueError", .type "Exception", .type "BaseException", .type "object"] := .of F.excBase_ValueError F.store_ValueError kxs_ValueError
theorem ef_RE : EF "RuntimeError" "RuntimeError" "RuntimeError.__new__" "RuntimeError.__init__" [.type "RuntimeError", .type "Exception", .type "BaseException", .type "object"] := .of F.excBase_RuntimeError F.store_RuntimeError kxs_RuntimeError
theorem ef_KE : EF "KeyError" "LookupError" "LookupError.__new__" "KeyError.__init__" keMro where
  ends := F.excBase_LookupError.ends
  owner := F.excBase_LookupError.owner
  entry := F.excBase_LookupError.entry
  newSplit := F.excBase_LookupError.newSplit
  newKind := F.excBase_LookupError.newKind
  newRow := F.excBase_LookupError.newRow
  canon := F.excBase_LookupError.canon
  quiet := F.excBase_LookupError.quiet
  noStarN := F.excBase_LookupError.noStar
  hasN := by decide +kernel
  noAttr := by decide +kernel
  noName := by decide +kernel
  initEntry := entryFor_alias (id' := "BaseException.__init__") (by rw [fastTable_eq_tree]; kernel_rfl) (by first | rfl | decide +kernel) (by decide +kernel) (by rw [fastTable_eq_tree]; kernel_rfl)
  initKind := by kernel_rfl
  initRow := by kernel_rfl
  noStar := by decide +kernel
  initPlain := by decide +kernel
  store := store_KeyError
  kx := kxs_KeyError
end K25
end

section
-- XMk
set_option Elab.async false
set_option linter.all false
set_option maxRecDepth 100000
set_option maxHeartbeats 4000000
/-! Own exceptions made: BaseException.__new__ by an aliased base, an __init__ with super().__init__('..') and one stored field. -/
namespace K25
open PySem PySem.W PySem.Calls PyProof.Rows PySem.HandSPX
section
variable {M : Model} {A : Around} {E : Value → Shared → Prop} {h : Heap} {g : Array GenState} {d : Drawn} {t : Nat} {os : OsState}
variable {nm q : Str} {C N : Addr} {bs bm bmB : List Value} {hdct : Bool} {sn : List Str} {sub : List Value} {ab : Bool} {col : Option Bool} {dd : Option Addr} {k0 k1 k2 k3 k5 : Option Value} {B Nn newId initId : String}
theorem check_new_e (F : EF B Nn newId initId bmB) (hT : ∀ X : String, bm.contains (.type X) = bmB.contains (.type X)) {rest : List Value} {Q : Unit → Shared → Prop}
    (hC : h.get? C = some (excClassObj nm q C N bs bm hdct sn sub ab col dd k0 k1 k2 k3 k5 newId)) (hq : Q () ⟨h, g, d, t, os⟩) : wpAny M A (checkBuiltinCall newId ⟨.ref C :: rest, []⟩) Q E ⟨h, g, d, t, os⟩ := by
  have hcont : (Value.ref C :: bm).contains (.type Nn) = true := by rw [List.contains_cons, hT, F.hasN, Bool.or_true]
  have hstar := F.noStarN
  simp only [checkBuiltinCall, F.newKind, F.newSplit, F.newRow]
  repeat (first | refine wpAny_loadPart_at hC ?_ | (refine wpAny_isSubtype_exc hC ?_; rw [hcont]) | refine wpAny_staticBase_exc hC ?_ | refine wpAny_madeBy_exc hC ?_ | simp only [bne_self_eq_false, Bool.false_eq_true, if_false] | wp_step)
  exact hq
theorem check_bound_e (F : EF B Nn newId initId bmB) {e : Addr} {oe : Obj} {rest : List Value} {Q : Unit → Shared → Prop}
    (hC : h.get? C = some (excClassObj nm q C N bs bm hdct sn sub ab col dd k0 k1 k2 k3 k5 newId)) (he : h.get? e = some oe) (hcls : oe.cls = .ref C) (hq : Q () ⟨h, g, d, t, os⟩) :
    wpAny M A (checkBoundCall initId ⟨.ref e :: rest, []⟩) Q E ⟨h, g, d, t, os⟩ := by
  have hshort := F.noStar
  simp only [checkBoundCall, F.initKind, F.initRow]
  repeat (first | (with_reducible refine wpAny_loadPart_at he ?_; rw [hcls]) | with_reducible refine wpAny_loadPart_at hC ?_ | wp_step)
  refine wpAny_onRaise ?_
  rw [show ∀ (a b : String) (n : Nat), Bind.check ⟨.positional, "*", B, .self, [⟨"args", .varPos, false⟩]⟩ a b n (List.map (fun x => x.fst) ({ pos := Value.ref e :: rest } : Args).kw) = pure () from
    fun a b n => check_star_args _ _ _ _ _ _]
  exact wpAny_pure hq
end
section
variable {prog : Program} {w : World} {A : Around} {E : Value → Shared → Prop} {R : Result → Shared → Prop} {h : Heap} {g : Array GenState} {d : Drawn} {t : Nat} {os : OsState}
variable {nm q : Str} {C N : Addr} {bs bm bmB : List Value} {hdct : Bool} {sn : List Str} {sub : List Value} {ab : Bool} {col : Option Bool} {dd : Option Addr} {k0 k1 k2 k3 k5 : Option Value} {B Nn newId initId : String}
theorem new_e (F : EF B Nn newId initId bmB) (hT : ∀ X : String, bm.contains (.type X) = bmB.contains (.type X)) {rest : List Value}
    (hC : h.get? C = some (excClassObj nm q C N bs bm hdct sn sub ab col dd k0 k1 k2 k3 k5 newId))
    (hq : R (.ok (.ret (.ref (h.objs.size + 1)))) ⟨(h.push { cls := .type "tuple", data := .seq rest.toArray }).push
      { cls := .ref C, data := .fields #[.ref h.objs.size, .none, .none, .none, .bool false, .none] }, g, d, t, os⟩) (hrest : rest.length ≤ sizeLine) :
    codeAny (model prog w) A (.builtin newId ⟨.ref C :: rest, []⟩) R ⟨h, g, d, t, os⟩ := by
  have hends := F.ends
  have hcB : (Value.ref C :: bm).contains (.type Nn) = true := by rw [List.contains_cons, hT, F.hasN, Bool.or_true]
  have hcA : (Value.ref C :: bm).contains (.type "AttributeError") = false := by rw [List.contains_cons, hT, F.noAttr]; rfl
  have hcN : (Value.ref C :: bm).contains (.type "NameError") = false := by rw [List.contains_cons, hT, F.noName]; rfl
  refine codeAny_builtinAt F.entry ?_
  unfold Builtin.«BaseException.__new__»
  refine PySem.wpAt_bind ?_
  show PySem.wpAt _ _ _ (stack >>= _) _ _ _
  refine PySem.wpAt_bind (PySem.wpAt_stack fun p below => PySem.wpAt_of_wpAny ?_)
  wp_walk
  refine PySem.wpAt_of_wpAny ?_
  rw [F.owner]
  repeat (first | with_reducible refine wpAny_madeHere_exc F.canon hC ?_ | with_reducible refine wpAny_loadPart_at hC ?_ | (with_reducible refine wpAny_isSubtype_exc hC ?_; first | rw [hcB] | rw [hcA] | rw [hcN]) | wp_step)
  show R _ _
  rw [Heap.size_push]
  exact hq
theorem type_call_e (F : EF B Nn newId initId bmB) (hT : ∀ X : String, bm.contains (.type X) = bmB.contains (.type X)) {rest : List Value} {fI : Addr} {Q : Fin → Shared → Prop}
    (hC : h.get? C = some (excClassObj nm q C N bs bm hdct sn sub ab col dd k0 k1 k2 k3 k5 newId))
    (hi : W.Looks (model prog w) h (typeLookup (.ref C) "__init__") (some (.ref fI))) (hb : ∀ self, W.Looks (model prog w) h (bindSpecial (.ref fI) self) (.ref fI, [self])) (hrest : rest.length ≤ sizeLine)
    (hq : codeAny (model prog w) A (.call (.ref fI) ⟨.ref (h.objs.size + 1) :: rest, []⟩)
      (fun r s' => match r with | .ok (.ret v) => v = .none ∧ Q (.done (.ret (.ref (h.objs.size + 1)))) s' | .ok _ => False | .error e => E e s')
      ⟨(h.push (W.kdv_tup rest)).push (excO C h.objs.size), g, d, t, os⟩) :
    wpAny (model prog w) A (Builtin.«type.__call__» ⟨.ref C :: rest, []⟩) Q E ⟨h, g, d, t, os⟩ := by
  repeat (first | with_reducible refine wpAny_loadPart_at hC ?_ | with_reducible refine wpAny_madeBy_exc hC ?_ | wp_step)
  refine codeAny_call_builtin_code (Code.quiet_builtin _ F.quiet) (check_new_e F hT hC ?_)
  refine new_e F hT hC ?_ hrest
  show wpAny _ _ _ _ _ _
  have k : ∀ b o, h.get? b = some o → ((h.push (W.kdv_tup rest)).push (excO C h.objs.size)).get? b = some o := fun b o e => Heap.get?_push_of_some _ (Heap.get?_push_of_some _ e)
  have hC₁ := k _ _ hC
  have hget : ((h.push (W.kdv_tup rest)).push (excO C h.objs.size)).get? (h.objs.size + 1) = some (excO C h.objs.size) := by heap_get
  have hcC : (Value.ref C :: bm).contains (.ref C) = true := by simp
  have i1 := hi.keeps k
  have b1 := (hb (.ref (h.objs.size + 1))).keeps k
  unfold isInstance
  repeat (first | with_reducible refine wpAny_loadPart_at hget ?_ | (with_reducible refine wpAny_isSubtype_exc hC₁ ?_; rw [hcC]) | wp_step)
  show wpAny _ _ (typeLookup (.ref C) _) _ _ _
  refine i1.at ?_
  refine wpAny_holding (wpAny_bind (b1.at ?_))
  refine wpAny_bind (wpAny_call (codeAny_mono hq fun r s' z => ?_))
  rcases r with e | (v | _ | _ | _) <;> first | exact z | exact z.elim | skip
  obtain ⟨rfl, z⟩ := z
  first
    | exact wpAny_pure (wpAny_pure z)
    | (wp_walk; exact z)
theorem call_e (F : EF B Nn newId initId bmB) (hT : ∀ X : String, bm.contains (.type X) = bmB.contains (.type X)) {rest : List Value} {fI : Addr}
    (hC : h.get? C = some (excClassObj nm q C N bs bm hdct sn sub ab col dd k0 k1 k2 k3 k5 newId))
    (hi : W.Looks (model prog w) h (typeLookup (.ref C) "__init__") (some (.ref fI))) (hb : ∀ self, W.Looks (model prog w) h (bindSpecial (.ref fI) self) (.ref fI, [self])) (hrest : rest.length ≤ sizeLine)
    (hq : codeAny (model prog w) (A.under (.builtin "type.__call__" ⟨.ref C :: rest, []⟩)) (.call (.ref fI) ⟨.ref (h.objs.size + 1) :: rest, []⟩) (W.InitBack (h.objs.size + 1) R)
      ⟨(h.push (W.kdv_tup rest)).push (excO C h.objs.size), g, d, t, os⟩) :
    codeAny (model prog w) A (.call (.ref C) ⟨rest, []⟩) R ⟨h, g, d, t, os⟩ := by
  have f1 := tc_lookup
  have f2 := tc_bind (.ref C)
  have hTy : (⟨h, g, d, t, os⟩ : Shared).TypeIs (.ref C) "type" := ⟨_, hC, rfl⟩
  refine codeAny_of_tree ?_
  show wpAny _ _ (callAny (.ref C) _) _ _ _
  repeat (any_goals (first | assumption | with_reducible refine wpAny_loadPart_at hC ?_ | wp_step))
  refine ⟨rfl, ?_⟩
  refine codeAny_call_builtin_at (Code.quiet_builtin _ (by decide +kernel)) entry_typeCall (wpAny_check_type_call_sub hC (type_call_e F hT hC hi hb hrest ?_))
  refine codeAny_mono hq fun r s' z => ?_
  rcases r with e | (v | _ | _ | _) <;> exact z
theorem call_mw_e (F : EF B Nn newId initId bmB) {u e t0 : Addr} {rest : List Value} {Q : Value → Shared → Prop}
    (hC : h.get? C = some (excClassObj nm q C N bs bm hdct sn sub ab col dd k0 k1 k2 k3 k5 newId)) (he : h.get? e = some (excO C t0)) (hu : h.get? u = some (kxs_mw initId e)) (hrest : rest.length ≤ sizeLine)
    (hq : ∀ h' t1, (∀ b o, b ≠ e → h.get? b = some o → h'.get? b = some o) → h'.get? e = some (excO C t1) → h'.objs.size = h.objs.size + 1 → Q .none ⟨h', g, d, t, os⟩) :
    wpAny (model prog w) A (call (.ref u) rest) Q E ⟨h, g, d, t, os⟩ := by
  refine wpAny_call (codeAny_of_tree ?_)
  show wpAny _ A.in1 (callAny (.ref u) ⟨rest, []⟩) _ _ _
  simp only [callAny]
  refine wpAny_bind (wpAny_load hu ?_)
  simp only [kxs_mw, show (Value.type "method-wrapper" == Value.type "method" || Value.type "method-wrapper" == Value.type "builtin_function_or_method" || Value.type "method-wrapper" == Value.type "method-wrapper") = true by decide, if_true]
  refine W.KFB.if_so (by decide) ?_
  refine wpAny_bind (check_bound_e F hC he rfl ?_)
  refine wpAny_bind (wpAny_pure (wpAny_pure ?_))
  refine ⟨plainId_quiet F.initPlain _, codeAny_builtin F.initEntry ?_⟩
  rw [Around.under_plainId F.initPlain _]
  wp_walk
  refine hq _ h.objs.size (fun b o hb ho => ?_) ?_ ?_
  · rw [Heap.get?_update_other _ _ (Ne.symm hb)]
    exact Heap.get?_push_of_some _ ho
  · rw [Heap.get?_update_self _ (Heap.get?_push_of_some _ he) rfl]
    rfl
  · first | simp [Heap.update, Heap.size_push] | (rw [Heap.size_update, Heap.size_push])
end
/-! self.name = v on an exception without a dict -/
section
open Builtin Builtin.ObjectAttr
variable {prog : Program} {w : World} {A : Around} {E : Value → Shared → Prop} {R : Result → Shared → Prop} {hp : Heap} {g : Array GenState} {d : Drawn} {t : Nat} {os : OsState} {B Nn newId initId : String} {bmB : List Value}
theorem refuse_refs (F : EF B Nn newId initId bmB) (self : Value) : ∀ rs : List Addr, refuseLoop self "__setattr__" (rs.map Value.ref ++ bmB) = pure ()
  | [] => F.store.passes self
  | a :: rs => by
    show refuseLoop self "__setattr__" (Value.ref a :: (rs.map Value.ref ++ bmB)) = pure ()
    rw [refuseLoop_ref]
    exact refuse_refs F self rs
theorem contains_refs (X : String) (l : List Value) : ∀ rs : List Addr, (rs.map Value.ref ++ l).contains (.type X) = l.contains (.type X)
  | [] => rfl
  | a :: rs => by
    show (Value.ref a :: (rs.map Value.ref ++ l)).contains (.type X) = _
    rw [List.contains_cons, contains_refs X l rs]
    rfl
theorem osa_e (F : EF B Nn newId initId bmB) {K : W.Frag} {name : Str} {tk : Tok} {v : Value} {x C : Addr} {fv : Array Value} {cd : ClassData} {rs : List Addr}
    (X : K.In hp) (hx : hp.get? x = some { cls := .ref C, data := .fields fv }) (hcd : W.clsIn K C = some cd) (hm : cd.mro = .ref C :: (rs.map Value.ref ++ bmB)) (hh : cd.hasDict = true) (ha : W.findIn K (.ref C) name = some none)
    (hq : ∀ h' tk' dx, (∀ b o, b ≠ x → hp.get? b = some o → h'.get? b = some o) → hp.objs.size ≤ dx → dx ≠ x → h'.get? x = some { cls := .ref C, dict := some dx, data := .fields fv } →
      h'.Ns1 dx (fun y => if y = name then some v else none) → R (.ok (.ret .none)) ⟨h', g, d, tk', os⟩) :
    codeAny (model prog w) A (.call (.builtin "object.__setattr__") ⟨[.ref x, .str name tk, v], []⟩) R ⟨hp, g, d, t, os⟩ := by
  have I : W.InstAt hp x { cls := .ref C, data := .fields fv } C none := ⟨hx, rfl, rfl, trivial⟩
  have hxs : x ≠ hp.objs.size := Nat.ne_of_lt (Heap.lt_size hx)
  have SF := F.store
  have hob : cd.mro.contains (.type "object") = true := by
    rw [hm, List.contains_cons, contains_refs, F.store.hasOwner, Bool.or_true]
  have hne : cd.mro.isEmpty = false := by rw [hm]; rfl
  have sub : W.Looks (model prog w) hp (isInstance (.ref x) (.type "object")) true := I.type.andThen (W.looks_mroIn X (by unfold W.mroIn; rw [hcd, Option.bind_some, if_neg (by rw [hne]; decide), hob]))
  refine codeAny_call_builtin SF.slot.plain SF.entry (@W.check_slot (model prog w) _ _ ⟨hp, g, d, t, os⟩ "object.__setattr__" "object" "__setattr__" (.ref x) [.str name tk, v] [] _ SF.kind SF.split sub (SF.args (.ref x) (.str name tk) v) ?_)
  have hmr : W.Looks (model prog w) hp (mroOf (.ref C)) cd.mro := (W.looks_clsIn X hcd).andThen .now
  have L3 : W.Looks (model prog w) hp (storeTaker? none) none := .now
  have hpass : refuseLoop (.ref x) "__setattr__" cd.mro = pure () := by
    rw [hm]
    exact refuse_refs F _ (C :: rs)
  rw [W.osa_eq, refuse_eq]
  refine wpAny_bind (wpAny_bind (I.type.at (wpAny_bind (hmr.at ?_))))
  rw [hpass]
  refine wpAny_pure (wpAny_bind (I.type.at (wpAny_bind ((W.looks_findIn X ha).at (wpAny_bind (L3.at ?_))))))
  show wpAny _ _ (storeInOwnDict (.ref x) (.ref C) (.str name tk) name v false) _ _ _
  have hcls : W.Looks (model prog w) hp (classData C) cd := W.looks_clsIn X hcd
  obtain ⟨nm, bs, mro, ns, qn, hd, sn, sb, ab, col, del⟩ := cd
  dsimp only at hh
  subst hh
  unfold storeInOwnDict ownDictForStores
  repeat (first | with_reducible refine HandSPX.store_in_new ?_ ?_ | with_reducible refine wpAny_loadPart_at hx ?_ | with_reducible refine hcls.at ?_ | wp_step)
  · exact ⟨_, #[], _, (Heap.get?_update_ne _ _ _ _ hxs.symm).trans (Heap.get?_push_at rfl rfl), rfl, fun e he => absurd he (by simp), fun _ => rfl⟩
  · intro h' tk' hn' hs
    have hx₁ : (hp.push { cls := .type "dict", data := .dict #[] }).get? x = some { cls := .ref C, data := .fields fv } := Heap.get?_push_of_some _ hx
    refine hq h' tk' hp.objs.size (fun b o hb ho => ?_) (Nat.le_refl _) hxs.symm ?_ hn'
    · exact (hs.2 b (Nat.ne_of_lt (Heap.lt_size ho))).trans ((Heap.get?_update_ne _ _ _ _ hb).trans (Heap.get?_push_of_some _ ho))
    · exact (hs.2 x hxs).trans (Heap.get?_update_self _ hx₁ rfl)
end
end K25
end

section
-- XInit
set_option Elab.async false
set_option linter.all false
set_option maxRecDepth 100000
set_option maxHeartbeats 4000000
/-! An own exception's __init__(self, f): super().__init__('..'); self.f = f. -/
namespace K25
open PySem PySem.W PySem.Calls PyProof.Rows PySem.HandSPX
def iA (fld : Str) (p1 p2 : Pos) : Arguments := { posonlyargs := [], args := [{ arg := "self", annotation := none, pos := p1 }, { arg := fld, annotation := none, pos := p2 }], vararg := none, kwonlyargs := [], kw_defaults := [], kwarg := none, defaults := [] }
def iB (fld txt : Str) (k : Nat) (q1 q2 q3 q4 q5 q6 q7 q8 q9 q10 : Pos) : List Stmt :=
  [.Expr (.Call (.Attribute (.Call (.Name "super" q1) [] [] q2) "__init__" q3) [.Constant (.str txt) k q4] [] q5) q6, .Assign [.Attribute (.Name "self" q7) fld q8] (.Name fld q9) q10]
def iS (fld : Str) : Scope := { kind := .function, names := [(PySem.Str.ofString "self", .local), (fld, .local), (PySem.Str.ofString "__class__", .free), (PySem.Str.ofString "super", .globalImplicit)], isGenerator := false, isCoroutine := false, more := [] }
/-- the call's form, its attribute and its argument on one line -/
def SupHe (txt : Str) (k : Nat) (q1 q2 q3 q4 q5 : Pos) : Prop := ∃ pl : Sem Bool, ∀ env : Env, eval (.Call (.Attribute (.Call (.Name "super" q1) [] [] q2) "__init__" q3) [.Constant (.str txt) k q4] [] q5) env = (do
      let ov ← attributeBase (.Call (.Name "super" q1) [] [] q2) "__init__" env (eval (.Call (.Name "super" q1) [] [] q2) env)
      standAt q3.atName
      let (f, first) ← holding [ov] (getMethod ov "__init__" pl)
      callWith q5 f first (backTo q5 (starEach [.Constant (.str txt) k q4] env)) [])
example : SupHe "x" 0 ⟨10, 8, 10, 13⟩ ⟨10, 8, 10, 15⟩ ⟨10, 8, 10, 24⟩ ⟨10, 25, 10, 54⟩ ⟨10, 8, 10, 55⟩ := ⟨_, fun _ => rfl⟩
/-- what the written part says of an own exception's class at C, its __init__ at fI -/
structure OwnE (P : Program) (K : Frag) (mg : Str → Option Value) (C fI : Addr) (fld : Str) (B Nn newId initId : String) (bmB : List Value) : Prop where
  ef : EF B Nn newId initId bmB
  cls : ∃ nm q N bs rs sn sub ab col dd k0 k1 k2 k3 k5, K.lookup C = some (excClassObj nm q C N bs (List.map Value.ref rs ++ bmB) true sn sub ab col dd k0 k1 k2 k3 k5 newId)
  sa : findIn K (.ref C) "__setattr__" = some (some (.builtin "object.__setattr__"))
  noN : findIn K (.ref C) fld = some none
  iC : findIn K (.ref C) "__init__" = some (some (.ref fI))
  tC : typeIn K (.ref fI) = some (.type "function")
  kC : keepIn K (.ref C) = true
  exC : subIn K (.ref C) (.type "BaseException") = some true
  tyC : typeIn K (.ref C) = some (.type "type")
  sB : subIn K (.ref C) (.type B) = some true
  sup : ks_superIn K C C "__init__" = some (some (.builtin initId))
  tp : nsIn K cStatics "thirdparty.any" = some none
  noSup : mg "super" = none
  noTop : (P.main.scope.names.lookup ("super" : Str)).isSome = false
  fn : ∃ (oc : Value) (od : Option Addr) (kV doc pm : Value) (an : Option Addr) (ct : Value) (osl : Array (Option Value)) (qual : Str) (cc cda : Addr) (txt : Str) (k : Nat) (p1 p2 q1 q2 q3 q4 q5 q6 q7 q8 q9 q10 : Pos),
    K.lookup fI = some ⟨oc, od, .func (fnX "__init__" qual (iA fld p1 p2) (iB fld txt k q1 q2 q3 q4 q5 q6 q7 q8 q9 q10) (iS fld) [("__class__", cc)] .none kV doc pm an (.ref cda) ct), osl⟩ ∧ codeIn K (.ref cda) qual = true ∧
    (∃ (ccl : Value) (cdd : Option Addr) (vs : Array Value) (ccs : Array (Option Value)) (file : Str) (tf : Tok), K.lookup cda = some ⟨ccl, cdd, .fields vs, ccs⟩ ∧ vs[2]? = some (.str file tf) ∧ ((P.main.file : Str) == file) = true) ∧
    (∃ (cl : Value) (cld : Option Addr) (csl : Array (Option Value)), K.lookup cc = some ⟨cl, cld, .cell (some (.ref C)), csl⟩) ∧ SupHe txt k q1 q2 q3 q4 q5
structure InitEnd (h h' : Heap) (x C dx t1 : Addr) (fld : Str) (v : Value) : Prop where
  keep : ∀ b o, b ≠ x → h.get? b = some o → h'.get? b = some o
  obj : h'.get? x = some { cls := .ref C, dict := some dx, data := .fields #[.ref t1, .none, .none, .none, .bool false, .none] }
  dbig : h.objs.size ≤ dx
  dne : dx ≠ x
  ns : h'.Ns1 dx (fun y => if y = fld then some v else none)
section
variable {prog : Program} {w : World} {A : Around} {E : Value → Shared → Prop} {R : Result → Shared → Prop} {s : Shared} {K : Frag} {mg mb : Str → Option Value} {C fI : Addr} {fld : Str} {B Nn newId initId : String} {bmB : List Value}
theorem ldX {env : Env} {m : Str → Option Value} {x : Str} {pos : Pos} {v : Value} {Q : Value → Shared → Prop} {M : Model} (hn : s.heap.Ns env.locals m) (hv : m x = some v) (h : Q v s)
    (hk : env.scope.kind = .function := by rfl) (hl : env.kindOf x = some .local := by rfl) (hd : (x == ("__debug__" : Str)) = false := by decide) : wpAny M A (eval (.Name x pos) env) Q E s := wpAny_Name (wpAny_loadName_local hk hl hn hv h) hd
theorem init_e (T : OwnE prog K mg C fI fld B Nn newId initId bmB) (hfld : fld = "given" ∨ fld = "many") {x t0 : Addr} {v : Value} (X : K.In s.heap) (G : s.heap.Ns mainGlobals mg) (Bt : s.heap.Ns builtinsNs mb) (hbt : mb "super" = some (.type "super")) (hlim : s.heap.NoLimit) (hx : s.heap.get? x = some (excO C t0)) (hnx : K.lookup x = none) (hroom : A.depth < recursionLimit)
    (hq : ∀ h' tk dx t1, InitEnd s.heap h' x C dx t1 fld v → R (.ok (.ret .none)) { s with heap := h', toks := tk }) :
    codeAny (model prog w) A (.call (.ref fI) ⟨[.ref x, v], []⟩) R s := by
  obtain ⟨oc, od, kV, doc, pm, an, ct, osl, qual, cc, cda, txt, k, p1, p2, q1, q2, q3, q4, q5, q6, q7, q8, q9, q10, ho, hcd, ⟨ccl, cdd, vs, ccs, file, tf, hco, hvs, hfile⟩, ⟨cl, cld, csl, hcell⟩, pl, hhe⟩ := T.fn
  obtain ⟨nm, q, N, bs, rs, sn, sub, ab, col, dd, k0, k1, k2, k3, k5, hC⟩ := T.cls
  have hcl : clsIn K C = some { name := nm, bases := bs, mro := .ref C :: (rs.map Value.ref ++ bmB), ns := N, qualname := q, hasDict := true, slotNames := sn, subclasses := sub, abstract := ab, collection := col, hasDel := false } := by unfold clsIn; rw [hC] <;> rfl
  refine ks_codeAny_call_defAt (binds := [("self", .ref x), (fld, v)]) hroom (X _ _ ho) rfl hlim (codeRec_of X hcd) rfl ?_ ?_ ?_ (fun h₀ hns hk => ?_) rfl rfl rfl
  · rcases hfld with rfl | rfl <;> exact BindsTo.of_eq (by first | rfl | with_unfolding_all rfl)
  · show ∀ y ∈ (iS fld).names, y.2 ≠ .cell
    rcases hfld with rfl | rfl <;> decide
  · rcases hfld with rfl | rfl <;> (intro y hy; simp only [List.mem_cons, List.not_mem_nil, or_false] at hy; rcases hy with rfl | rfl <;> rfl)
  have X₁ : K.In h₀ := X.keeps hk
  have hx₁ := hk _ _ hx
  have hxL : s.heap.objs.size ≠ x := Nat.ne_of_gt (Heap.lt_size hx)
  have kn : (callEnv (fnX "__init__" qual (iA fld p1 p2) (iB fld txt k q1 q2 q3 q4 q5 q6 q7 q8 q9 q10) (iS fld) [("__class__", cc)] .none kV doc pm an (.ref cda) ct) s.heap.objs.size fI).kindOf "super" = some .globalImplicit ∧
      (callEnv (fnX "__init__" qual (iA fld p1 p2) (iB fld txt k q1 q2 q3 q4 q5 q6 q7 q8 q9 q10) (iS fld) [("__class__", cc)] .none kV doc pm an (.ref cda) ct) s.heap.objs.size fI).kindOf "__class__" = some .free ∧
      (callEnv (fnX "__init__" qual (iA fld p1 p2) (iB fld txt k q1 q2 q3 q4 q5 q6 q7 q8 q9 q10) (iS fld) [("__class__", cc)] .none kV doc pm an (.ref cda) ct) s.heap.objs.size fI).kindOf "self" = some .local ∧
      (callEnv (fnX "__init__" qual (iA fld p1 p2) (iB fld txt k q1 q2 q3 q4 q5 q6 q7 q8 q9 q10) (iS fld) [("__class__", cc)] .none kV doc pm an (.ref cda) ct) s.heap.objs.size fI).kindOf fld = some .local ∧
      (fun y : Str => ([("self", Value.ref x), (fld, v)] : List (Str × Value)).reverse.lookup y) "self" = some (.ref x) ∧ (fun y : Str => ([("self", Value.ref x), (fld, v)] : List (Str × Value)).reverse.lookup y) fld = some v ∧ (fld == ("__debug__" : Str)) = false ∧ (fld == ("__classdict__" : Str)) = false := by
    rcases hfld with rfl | rfl <;> exact ⟨rfl, rfl, rfl, rfl, rfl, rfl, rfl, rfl⟩
  obtain ⟨kS, kCl, kSelf, kF, mS, mF, nD, nCd⟩ := kn
  -- super().__init__('..')
  show PySem.wpAt _ _ _ (execs (_ :: _) _) _ _ _
  refine ks_wpAt_execs_cons (ks_wpAt_Expr_any (ks_wpAt_MethodCall ?_ (hhe _)))
  refine ks_wpAt_super_base kS kCl rfl rfl (X₁ _ _ ho) rfl rfl rfl (X₁ _ _ hco) rfl hvs hfile T.noTop ?_
  refine ks_loadName_global rfl kS (loadGlobal_builtin (G.keeps hk) T.noSup (Bt.keeps hk) hbt ⟨rfl, ?_⟩)
  refine wpAny_loadName_free rfl kCl rfl ⟨_, X₁ _ _ hcell, rfl⟩ ?_
  refine wpAny_loadName_local rfl kSelf hns mS ?_
  refine ks_wpAny_isType_cls (X₁ _ _ hC) rfl ⟨rfl, ?_⟩
  have hmr : mroIn K C (.ref C) = some true := by
    unfold mroIn
    rw [hcl, Option.bind_some]
    simp
  refine ks_wpAny_call_super (X₁ _ _ hC) rfl hx₁ rfl (fun c e => by cases e) (looks_mroIn X₁ hmr) (fun h₂ e₂ k₂ => ?_)
  have X₂ : K.In h₂ := X₁.keeps k₂
  have sup : alongIn K "__init__" (((Value.ref C :: (List.map Value.ref rs ++ bmB)).dropWhile (· != .ref C)).drop 1) = some (some (.builtin initId)) := by
    have z := T.sup
    unfold ks_superIn at z
    rw [hcl] at z
    exact z
  have I₂ : InstAt h₂ x (excO C t0) C none := ⟨k₂ _ _ hx₁, rfl, rfl, trivial⟩
  refine kxs_getMethod T.ef.kx e₂ (looks_opaque X₂ T.tp) (l₀ := .ref C :: (List.map Value.ref rs ++ bmB)) ?_ rfl X₂ sup (I₂.type.andThen (looks_subIn X₂ T.sB)) (ks_ne X₂ I₂ hcl) rfl ?_
  · exact fun A Q E s k q => wpAny_bind ((looks_clsIn X₂ hcl) A _ E s k (wpAny_pure q))
  have k₃ : ∀ b o, h₂.get? b = some o → (h₂.push (kxs_mw initId x)).get? b = some o := fun b o e => Heap.get?_push_of_some _ e
  have hu : (h₂.push (kxs_mw initId x)).get? h₂.objs.size = some (kxs_mw initId x) := Heap.get?_push_at rfl rfl
  refine kxs_callWith (i := initId) (x := x) rfl (evalArgs_plain ?_)
  refine Calls.spliced_cons (Calls.Constant_str (k := k) (pos := q4) (Calls.spliced_nil ⟨hu, ?_⟩))
  have hx₃ : (h₂.push (kxs_mw initId x)).get? x = some (excO C t0) := k₃ _ _ (k₂ _ _ hx₁)
  have X₃ : K.In (h₂.push (kxs_mw initId x)) := X₂.keeps k₃
  refine call_mw_e T.ef (X₃ _ _ hC) hx₃ hu (by show 1 ≤ sizeLine; decide) (fun h₄ t1 k₄ hx₄ sz => ?_)
  -- self.f = f
  have old : ∀ b o, b ≠ x → s.heap.get? b = some o → h₄.get? b = some o := fun b o hb e => k₄ b o hb (k₃ _ _ (k₂ _ _ (hk b o e)))
  have old₀ : ∀ b o, b ≠ x → h₀.get? b = some o → h₄.get? b = some o := fun b o hb e => k₄ b o hb (k₃ _ _ (k₂ _ _ e))
  have X₄ : K.In h₄ := fun a o e => old a o (fun z => by rw [z, hnx] at e; cases e) (X a o e)
  obtain ⟨oL, esL, epL, hL, rL⟩ := hns
  have hns₄ : h₄.Ns s.heap.objs.size _ := ⟨oL, esL, epL, old₀ _ _ hxL hL, rL⟩
  refine ks_wpAt_execs_cons (PySem.wpAt_of_wpAny (plainObj_wpAny_Assign_Attribute ?_))
  refine ldX hns₄ mF (ldX hns₄ mS ?_ rfl kSelf) rfl kF nD
  refine set_plain X₄ (ox := excO C t1) (od := none) ⟨hx₄, rfl, rfl, trivial⟩ T.sa ?_
  refine osa_e T.ef X₄ hx₄ hcl rfl rfl T.noN (fun h₅ tk₅ dx k₅ dn dne hx₅ hn₅ => ?_)
  refine PySem.wpAt_of_wpAny ?_
  show wpAny _ _ (execs _ _) _ _ _
  have z : s.heap.objs.size < h₄.objs.size := Heap.lt_size (old₀ _ _ hxL hL)
  exact wpAny_execs_nil (hq h₅ tk₅ dx t1 ⟨fun b o hb e => k₅ b o hb (old b o hb e), hx₅, Nat.le_of_lt (Nat.lt_of_lt_of_le z dn), dne, hn₅⟩)
end
end K25
end

section
-- XRaise
set_option Elab.async false
set_option linter.all false
set_option maxRecDepth 100000
set_option maxHeartbeats 4000000
/-! An own exception made by a call and raised. -/
namespace K25
open PySem PySem.W PySem.Calls PyProof.Rows PySem.HandSPX
structure OwnMade (h h' : Heap) (e C d : Addr) (fld : Str) (v : Value) : Prop where
  keep : ∀ b o, h.get? b = some o → h'.get? b = some o
  new : h.objs.size ≤ e
  obj : ∃ oe vs, h'.get? e = some oe ∧ oe.cls = .ref C ∧ oe.dict = some d ∧ oe.data = .fields vs ∧ vs[1]? = some .none
  dbig : h.objs.size ≤ d
  dne : d ≠ e
  ns : h'.Ns1 d (fun y => if y = fld then some v else none)
section
variable {prog : Program} {w : World} {A : Around} {E : Value → Shared → Prop} {R : Result → Shared → Prop} {s : Shared} {K : Frag} {mg mb : Str → Option Value} {C fI : Addr} {fld : Str} {B Nn newId initId : String} {bmB : List Value}
theorem made_e (T : OwnE prog K mg C fI fld B Nn newId initId bmB) (hfld : fld = "given" ∨ fld = "many") {v : Value} (X : K.In s.heap) (G : s.heap.Ns mainGlobals mg) (Bt : s.heap.Ns builtinsNs mb) (hbt : mb "super" = some (.type "super")) (hlim : s.heap.NoLimit) (hroom : A.depth + 1 < recursionLimit)
    (hq : ∀ h' tk e d, OwnMade s.heap h' e C d fld v → R (.ok (.ret (.ref e))) { s with heap := h', toks := tk }) :
    codeAny (model prog w) A (.call (.ref C) ⟨[v], []⟩) R s := by
  obtain ⟨nm, q, N, bs, rs, sn, sub, ab, col, dd, k0, k1, k2, k3, k5, hC⟩ := T.cls
  obtain ⟨hp, g, dr, tk, os⟩ := s
  have k : ∀ b o, hp.get? b = some o → ((hp.push (kdv_tup [v])).push (excO C hp.objs.size)).get? b = some o := fun b o e => Heap.get?_push_of_some _ (Heap.get?_push_of_some _ e)
  have hget : ((hp.push (kdv_tup [v])).push (excO C hp.objs.size)).get? (hp.objs.size + 1) = some (excO C hp.objs.size) := by heap_get
  have hnx : K.lookup (hp.objs.size + 1) = none := by
    cases e : K.lookup (hp.objs.size + 1) with
    | none => rfl
    | some o =>
      have z : hp.get? (hp.objs.size + 1) = some o := X _ _ e
      exact absurd (Nat.lt_of_succ_lt (Heap.lt_size z)) (Nat.lt_irrefl _)
  refine call_e T.ef (fun X => contains_refs X bmB rs) (X _ _ hC) (looks_findIn X T.iC) (fun self => bind_fn X self T.tC) (by show 1 ≤ sizeLine; decide) ?_
  refine init_e (s := ⟨(hp.push (kdv_tup [v])).push (excO C hp.objs.size), g, dr, tk, os⟩) T hfld (X.keeps k) (G.keeps k) (Bt.keeps k) hbt (hlim.keeps k) hget hnx ?_ fun h' tk' dx t1 ⟨k', hx, dn, dne, hns⟩ => ?_
  · show A.depth + 1 < recursionLimit
    exact hroom
  · have old : ∀ b o, hp.get? b = some o → h'.get? b = some o := fun b o e => k' b o (Nat.ne_of_lt (Nat.lt_succ_of_lt (Heap.lt_size e))) (k b o e)
    have z : hp.objs.size + 1 + 1 ≤ dx := by
      first
        | (simpa only [Heap.size_push] using dn)
        | exact dn
        | (have q := dn; rw [Heap.size_push, Heap.size_push] at q; exact q)
    exact ⟨rfl, hq h' tk' (hp.objs.size + 1) dx ⟨old, Nat.le_succ _, ⟨_, _, hx, rfl, rfl, rfl, rfl⟩, Nat.le_trans (Nat.le_trans (Nat.le_succ _) (Nat.le_succ _)) z, dne, hns⟩⟩
end
end K25
namespace K25
open PySem PySem.Spec PyProof.Rows L2
theorem relO_one {v : V} {v' : Value} (fld : Str) (r : RelV v v') (f : Str) : RelO (List.lookup f [(fld, v)]) (if f = fld then some v' else none) := by
  by_cases hw : f = fld
  · subst hw
    rw [if_pos rfl]
    have q : List.lookup f [(f, v)] = some v := by simp [List.lookup]
    rw [q]
    exact r
  · rw [if_neg hw]
    have qw : (f == fld) = false := by simpa using hw
    have q2 : List.lookup f [(fld, v)] = none := by simp [List.lookup, qw]
    rw [q2]
    trivial
section
variable {X : Cx} {C fI : Addr} {fld : Str} {B Nn newId initId : String} {bmB : List Value}
/-- X(e) -/
def tMkE (C : Addr) (fld : Str) (ta : TA) : L2.St → Hp → XK → Prop := fun σ H Q => ta σ H fun vs H1 => ∃ v, vs = [v] ∧ ∀ d, H1 d = none → Q (.ref C) (some d) (upd H1 d (.xd [(fld, v)]))
theorem pmk_e {a : Expr} {ta : TA} {x : Str} {p pos : Pos} {k : Nat} (T : OwnE X.prog X.K X.mg C fI fld B Nn newId initId bmB) (hfld : fld = "given" ∨ fld = "many") (hr : Room k X.A) (hm : X.mg x = some (.ref C)) (ha : PA X [a] ta) (hg : Gl X x := by rfl) (hdb : (x == ("__debug__" : Str)) = false := by decide)
    (he : starEach (a :: []) X.env = (false, eval a X.env) :: starEach [] X.env := by rfl) (hpl : (backTo pos (starEach [] X.env)).any (·.1) = false := by rfl) :
    PMk X (.Call (.Name x p) [a] [] pos) (tMkE C fld ta) := by
  intro pins s σ H Q I h
  refine wpAny_Call_Name_kw (ld_glob I hg hm ?_ hdb)
  refine PySem.W.callWith_K (h₀ := X.base) I.ok.mod.kin T.kC (thn (ha.run pos pins s σ H _ I h) fun us s1 hh => ?_) he hpl
  obtain ⟨vs, H1, I1, r1, v, ev, q1⟩ := hh
  subst ev
  refine ⟨I1.kIn, ?_⟩
  cases r1 with
  | cons rv rn =>
    rename_i v' us'
    cases rn
    show wpAny _ _ (call (.ref C) [v']) _ _ _
    have hlim := I1.nolimit
    obtain ⟨mb, b1, b2⟩ := I1.mod.blt
    have hbt : mb "super" = some (.type "super") := (b2 _ (by decide)).trans (by decide +kernel)
    have G1 := I1.mod.glob.keeps I1.bk
    have B1 := b1.keeps I1.bk
    obtain ⟨hp, g, dr, tk, os⟩ := s1
    refine wpAny_call (made_e T hfld I1.kIn G1 B1 hbt hlim (by have := hr.dp; omega) fun h' tk' e d M => ?_)
    show MkP X pins σ Q (.ref e) ⟨h', g, dr, tk', os⟩
    obtain ⟨oe, fv, hoe, hc, hd, hdat, h1⟩ := M.obj
    have hns := M.ns
    obtain ⟨G', g1, g2⟩ := restrict h' fun b => decide (b ≠ e)
    have gk : ∀ b, b ≠ e → G'.get? b = h'.get? b := fun b hb => g1 b (decide_eq_true hb)
    have ge : G'.get? e = none := g2 e (by simp)
    have old : ∀ b o, hp.get? b = some o → G'.get? b = some o := fun b o q => (gk b (Nat.ne_of_lt (Nat.lt_of_lt_of_le (Heap.lt_size q) M.new))).trans (M.keep b o q)
    have ob : ObjOk X.prog X.w (upd H1 d (.xd [(fld, v)])) G' d (.xd [(fld, v)]) :=
      ⟨_, hns.at (fun o q => (gk d M.dne).trans q), fun f => relO_one fld rv f⟩
    have J : Inv X pins σ (upd H1 d (.xd [(fld, v)])) ⟨G', g, dr, tk', os⟩ := I1.laid (t' := tk') old M.dbig ob
    refine ⟨e, oe, fv, ⟨G', g, dr, tk', os⟩, _, .ref C, some d, rfl, J, fun b o q => ?_, ge, hoe, ⟨hc, hd⟩, hdat, h1, ?_, rfl, I1.bare, raises_own T.exC T.tyC, q1 d (I1.hok.fresh M.dbig)⟩
    · by_cases hb : b = e
      · have q' : G'.get? b = some o := q
        rw [hb, ge] at q'; cases q'
      · exact (gk b hb).symm.trans q
    · rw [upd_ne (Ne.symm M.dne)]
      exact I1.hok.fresh M.new
/-- raise X(e) -/
def tRaiseE (C : Addr) (fld : Str) (W : WX) (ta : TA) : TS := fun _ σ H => tMkE C fld ta σ H fun cls d H' => W cls d σ H'
theorem ps_raiseE {a : Expr} {ta : TA} {x : Str} {W : WX} {p pos pos2 : Pos} {k : Nat} (hc : X.calm = true) (T : OwnE X.prog X.K X.mg C fI fld B Nn newId initId bmB) (hfld : fld = "given" ∨ fld = "many") (hr : Room k X.A) (tk : Takes X W) (hm : X.mg x = some (.ref C)) (ha : PA X [a] ta) (hg : Gl X x := by rfl) (hdb : (x == ("__debug__" : Str)) = false := by decide)
    (he : starEach (a :: []) X.env = (false, eval a X.env) :: starEach [] X.env := by rfl) (hpl : (backTo pos (starEach [] X.env)).any (·.1) = false := by rfl) :
    PS X (.Raise (some (.Call (.Name x p) [a] [] pos)) none pos2) (tRaiseE C fld W ta) := ps_raise hc tk (pmk_e T hfld hr hm ha hg hdb he hpl)
end
end K25
end

section
-- XDat
set_option Elab.async false
set_option linter.all false
set_option maxRecDepth 100000
set_option maxHeartbeats 4000000
set_option autoImplicit false
/-! Data of tuples: what stands while tuples stand; the law's own kinds of data. -/
namespace K25
open PySem PySem.Spec PyProof.Rows L2
/-- tuples and locked things stand -/
def KT (H H' : Hp) : Prop := (∀ a xs, H a = some (.tup xs) → H' a = some (.tup xs)) ∧ (∀ a o u, H a = some (.frz o u) → H' a = some (.frz o u))
theorem KT.refl (H : Hp) : KT H H := ⟨fun _ _ h => h, fun _ _ _ h => h⟩
theorem KT.trans {H H1 H2 : Hp} (a : KT H H1) (b : KT H1 H2) : KT H H2 := ⟨fun c x h => b.1 c x (a.1 c x h), fun c o u h => b.2 c o u (a.2 c o u h)⟩
theorem KT.same {H H' : Hp} (e : Same H H') : KT H H' := ⟨fun _ _ h => e _ _ h, fun _ _ _ h => e _ _ h⟩
theorem KT.new {H : Hp} {p : Addr} {o : HO} (h : H p = none) : KT H (upd H p o) := ⟨fun a _ e => by rw [upd_ne (ne_of_none e h)]; exact e, fun a _ _ e => by rw [upd_ne (ne_of_none e h)]; exact e⟩
/-- a thing that is no tuple and not locked is changed -/
def Soft (o : HO) : Prop := (∀ xs, o ≠ .tup xs) ∧ ∀ b u, o ≠ .frz b u
theorem KT.upd {H : Hp} {p : Addr} {o u : HO} (h : H p = some u) (s : Soft u) : KT H (upd H p o) := ⟨fun a xs e => by rw [upd_ne (fun z => s.1 xs (by rw [z, h] at e; exact Option.some.inj e))]; exact e, fun a b v e => by rw [upd_ne (fun z => s.2 b v (by rw [z, h] at e; exact Option.some.inj e))]; exact e⟩
theorem Soft.lst {xs : List V} : Soft (.lst xs) := ⟨fun _ z => (by cases z), fun _ _ z => (by cases z)⟩
theorem Soft.dK {xs : List (Key × V)} : Soft (.dK xs) := ⟨fun _ z => (by cases z), fun _ _ z => (by cases z)⟩
theorem Soft.ins {C dx : Addr} {fs : List (Str × V)} : Soft (.ins C dx fs) := ⟨fun _ z => (by cases z), fun _ _ z => (by cases z)⟩
/-- all but the things at S stands -/
def Bt (S : List Addr) (H H' : Hp) : Prop := ∀ b o, H b = some o → b ∉ S → H' b = some o
theorem Bt.refl (S : List Addr) (H : Hp) : Bt S H H := fun _ _ h _ => h
theorem Bt.trans {S : List Addr} {H H1 H2 : Hp} (a : Bt S H H1) (b : Bt S H1 H2) : Bt S H H2 := fun c o h n => b c o (a c o h n) n
theorem Bt.of {S : List Addr} {H H' : Hp} (e : Same H H') : Bt S H H' := fun b o h _ => e b o h
theorem Bt.mono {S S' : List Addr} {H H' : Hp} (e : Bt S H H') (h : ∀ x ∈ S, x ∈ S') : Bt S' H H' := fun b o q n => e b o q fun z => n (h _ z)
theorem Bt.upd {S : List Addr} {H : Hp} {p : Addr} {o : HO} (h : p ∈ S) : Bt S H (upd H p o) := fun b u e n => by rw [upd_ne (fun z : b = p => n (by rw [z]; exact h))]; exact e
theorem same_new {H : Hp} {p : Addr} {o : HO} (h : H p = none) : Same H (upd H p o) := fun b u e => by rw [upd_ne (ne_of_none e h)]; exact e
/-! ### tuples only -/
mutual
def tonly : PyData → Bool
  | .none | .bool _ | .int _ | .str _ => true
  | .tuple xs => tonlyAll xs
  | .list _ | .dict _ => false
def tonlyAll : List PyData → Bool
  | [] => true
  | x :: xs => tonly x && tonlyAll xs
end
theorem SqT.kt {K : PySem.W.Frag} {H H' : Hp} {a : Addr} {xs : List V} (k : KT H H') (h : SqT K H a xs) : SqT K H' a xs := by
  rcases h with (h | ⟨o, h⟩) | h
  · exact .inl (.inl (k.1 _ _ h))
  · exact .inl (.inr ⟨o, k.2 _ _ _ h⟩)
  · exact .inr h
mutual
theorem dp_kt {K : PySem.W.Frag} {H H' : Hp} (k : KT H H') : ∀ (d : PyData) (v : V), tonly d = true → Dp K H v d → Dp K H' v d
  | .none, _, _, h => by cases h; exact .non
  | .bool b, _, _, h => by cases h; exact .bl b
  | .int i, _, _, h => by cases h; exact .int i
  | .str x, _, _, h => by cases h; exact .str x
  | .tuple ds, _, t, h => by
    cases h with
    | tup hs ha => exact .tup (SqT.kt k hs) (dpAll_kt k ds _ (by simpa only [tonly] using t) ha)
  | .list _, _, t, _ => by simp [tonly] at t
  | .dict _, _, t, _ => by simp [tonly] at t
theorem dpAll_kt {K : PySem.W.Frag} {H H' : Hp} (k : KT H H') : ∀ (ds : List PyData) (vs : List V), tonlyAll ds = true → DpAll K H vs ds → DpAll K H' vs ds
  | [], _, _, h => by cases h; exact .nil
  | d :: ds, _, t, h => by
    have t2 : tonly d = true ∧ tonlyAll ds = true := by simpa only [tonlyAll, Bool.and_eq_true] using t
    cases h with
    | cons h1 h2 => exact .cons (dp_kt k d _ t2.1 h1) (dpAll_kt k ds _ t2.2 h2)
end
section
variable {K : PySem.W.Frag} {H : Hp} {v : V} {vs : List V} {ds : List PyData}
theorem dp_tup (h : Dp K H v (.tuple ds)) : ∃ a xs, v = .ref a ∧ SqT K H a xs ∧ DpAll K H xs ds := by
  cases h with
  | tup hs ha => exact ⟨_, _, rfl, hs, ha⟩
theorem dp_int {n : Int} (h : Dp K H v (.int n)) : v = .int n := by cases h; rfl
theorem dp_str {n : Str} (h : Dp K H v (.str n)) : v = .str n := by cases h; rfl
theorem dpAll_len : ∀ {vs : List V} {ds : List PyData}, DpAll K H vs ds → vs.length = ds.length
  | _, _, .nil => rfl
  | _, _, .cons _ t => by rw [List.length_cons, List.length_cons, dpAll_len t]
theorem dpAll_app : ∀ {vs : List V} {ds : List PyData} {ws : List V} {es : List PyData}, DpAll K H vs ds → DpAll K H ws es → DpAll K H (vs ++ ws) (ds ++ es)
  | _, _, _, _, .nil, h => h
  | _, _, _, _, .cons h t, g => .cons h (dpAll_app t g)
theorem dpAll_get : ∀ {vs : List V} {ds : List PyData}, DpAll K H vs ds → ∀ {i : Nat} {v : V}, vs[i]? = some v → ∃ d, ds[i]? = some d ∧ Dp K H v d
  | _, _, .nil, i, v, h => by simp at h
  | _, _, .cons h t, 0, v, e => ⟨_, rfl, by rw [← Option.some.inj e]; exact h⟩
  | _, _, .cons h t, i + 1, v, e => dpAll_get t (i := i) (by simpa using e)
theorem dpAll_get' : ∀ {vs : List V} {ds : List PyData}, DpAll K H vs ds → ∀ {i : Nat} {d : PyData}, ds[i]? = some d → ∃ v, vs[i]? = some v ∧ Dp K H v d
  | _, _, .nil, i, v, h => by simp at h
  | _, _, .cons h t, 0, v, e => ⟨_, rfl, by rw [← Option.some.inj e]; exact h⟩
  | _, _, .cons h t, i + 1, v, e => dpAll_get' t (i := i) (by simpa using e)
theorem dpAll_take : ∀ {vs : List V} {ds : List PyData}, DpAll K H vs ds → ∀ n : Nat, DpAll K H (vs.take n) (ds.take n)
  | _, _, _, 0 => .nil
  | _, _, .nil, n + 1 => .nil
  | _, _, .cons h t, n + 1 => .cons h (dpAll_take t n)
theorem dpAll_drop : ∀ {vs : List V} {ds : List PyData}, DpAll K H vs ds → ∀ n : Nat, DpAll K H (vs.drop n) (ds.drop n)
  | _, _, h, 0 => h
  | _, _, .nil, n + 1 => .nil
  | _, _, .cons h t, n + 1 => dpAll_drop t n
theorem dpAll_ints : ∀ ks : List Int, DpAll K H (ks.map V.int) (ks.map PyData.int)
  | [] => .nil
  | k :: ks => .cons (.int k) (dpAll_ints ks)
theorem dpAll_ints' : ∀ {vs : List V} {ks : List Int}, DpAll K H vs (ks.map PyData.int) → vs = ks.map V.int
  | _, [], h => by cases h; rfl
  | _, k :: ks, h => by
    cases h with
    | cons h1 h2 =>
      cases h1
      rw [dpAll_ints' h2]
      rfl
end
/-! ### the kinds -/
def dL (ks : List Int) : PyData := .tuple (ks.map .int)
def dS (p : Int × Str) : PyData := .tuple [.int p.1, .str p.2]
def dX (ix : List (Int × Str)) : PyData := .tuple (ix.map dS)
def dR (l : List (List Int)) : PyData := .tuple (l.map dL)
def dQ (l : List (List (Int × Str))) : PyData := .tuple (l.map dX)
structure Snap where
  rows : List (List Int)
  stock : List (List (Int × Str))
  lots : List (List Int)
def dN (s : Snap) : PyData := .tuple [dR s.rows, dQ s.stock, dR s.lots]
theorem tonly_all {α : Type} {f : α → PyData} (h : ∀ x, tonly (f x) = true) : ∀ l : List α, tonlyAll (l.map f) = true
  | [] => rfl
  | x :: l => by rw [List.map_cons, tonlyAll, h, tonly_all h l]; rfl
theorem tonly_dL (ks : List Int) : tonly (dL ks) = true := by
  unfold dL; rw [tonly]; exact tonly_all (fun _ => by rw [tonly]) ks
theorem tonly_dS (p : Int × Str) : tonly (dS p) = true := by
  unfold dS; simp [tonly, tonlyAll]
theorem tonly_dX (l : List (Int × Str)) : tonly (dX l) = true := by
  unfold dX; rw [tonly]; exact tonly_all tonly_dS l
theorem tonly_dR (l : List (List Int)) : tonly (dR l) = true := by
  unfold dR; rw [tonly]; exact tonly_all tonly_dL l
theorem tonly_dQ (l : List (List (Int × Str))) : tonly (dQ l) = true := by
  unfold dQ; rw [tonly]; exact tonly_all tonly_dX l
theorem tonly_dN (s : Snap) : tonly (dN s) = true := by
  unfold dN; simp [tonly, tonlyAll, tonly_dR, tonly_dQ]
/-! equality -/
open PySem.W in
theorem eqv_dL (a b : List Int) : PyData.eqv (dL a) (dL b) = decide (a = b) := by
  have e := Datum.eqv (Tup.mk a) (Tup.mk b)
  have e2 : decide (Tup.mk a = Tup.mk b) = decide (a = b) := decide_eq_decide.mpr ⟨fun h => by cases h; rfl, fun h => by rw [h]⟩
  rw [← e2]
  exact e
abbrev TX : Type := PySem.W.Tup (Int × Str)
theorem dX_toD (a : List (Int × Str)) : PySem.W.Datum.toD (PySem.W.Tup.mk a) = dX a := rfl
theorem dL_toD (a : List Int) : PySem.W.Datum.toD (PySem.W.Tup.mk a) = dL a := rfl
theorem dR_toD (a : List (List Int)) : PySem.W.Datum.toD (PySem.W.Tup.mk (a.map PySem.W.Tup.mk)) = dR a := by
  show PyData.tuple _ = PyData.tuple _
  rw [List.map_map]
  rfl
theorem map_tup_inj {α : Type} : ∀ {a b : List (List α)}, a.map PySem.W.Tup.mk = b.map PySem.W.Tup.mk → a = b
  | [], [], _ => rfl
  | [], _ :: _, h => by cases h
  | _ :: _, [], h => by cases h
  | x :: a, y :: b, h => by
    rw [List.map_cons, List.map_cons] at h
    injection h with h1 h2
    injection h1 with h3
    rw [h3, map_tup_inj h2]
theorem eqv_dX (a b : List (Int × Str)) : PyData.eqv (dX a) (dX b) = decide (a = b) := by
  have e := PySem.W.Datum.eqv (PySem.W.Tup.mk a) (PySem.W.Tup.mk b)
  have e2 : decide (PySem.W.Tup.mk a = PySem.W.Tup.mk b) = decide (a = b) := decide_eq_decide.mpr ⟨fun h => by cases h; rfl, fun h => by rw [h]⟩
  rw [← e2]
  exact e
theorem eqv_dR (a b : List (List Int)) : PyData.eqv (dR a) (dR b) = decide (a = b) := by
  have e := PySem.W.Datum.eqv (PySem.W.Tup.mk (a.map PySem.W.Tup.mk)) (PySem.W.Tup.mk (b.map PySem.W.Tup.mk))
  rw [dR_toD, dR_toD] at e
  rw [e]
  exact decide_eq_decide.mpr ⟨fun h => by injection h with h1; exact map_tup_inj h1, fun h => by rw [h]⟩
theorem any_dL (l : List (List Int)) (x : List Int) : ((l.map dL).any fun z => PyData.eqv z (dL x)) = decide (x ∈ l) := by
  rw [List.any_map, Bool.eq_iff_iff, List.any_eq_true, decide_eq_true_eq]
  constructor
  · rintro ⟨y, hy, e⟩
    have e' : PyData.eqv (dL y) (dL x) = true := e
    rw [eqv_dL, decide_eq_true_eq] at e'
    exact e' ▸ hy
  · intro hx
    refine ⟨x, hx, ?_⟩
    show PyData.eqv (dL x) (dL x) = true
    rw [eqv_dL, decide_eq_true_eq]
/-! ### shaped, shown -/
mutual
/-- small ints, the texts of the law -/
def nice : PyData → Bool
  | .none | .bool _ => true
  | .int i => decide (i.natAbs < 1000)
  | .str x => decide (x ∈ (["up", "down", "row", "key", "number", "index", "broken", "missing", "left"] : List Str))
  | .list xs | .tuple xs => niceAll xs
  | .dict _ => false
def niceAll : List PyData → Bool
  | [] => true
  | x :: xs => nice x && niceAll xs
end
mutual
def wgt : PyData → Nat
  | .list xs | .tuple xs => wgtAll xs + 4
  | _ => 16
def wgtAll : List PyData → Nat
  | [] => 0
  | x :: xs => wgt x + 2 + wgtAll xs
end
end K25
end

section
-- XShow
set_option Elab.async false
set_option linter.all false
set_option maxRecDepth 100000
set_option maxHeartbeats 4000000
set_option autoImplicit false
/-! The text of nice data is short. -/
namespace K25
open PySem PySem.Spec PyProof.Rows L2
theorem int_small : ∀ n, n < 1000 → (PyData.shown (.int (n : Nat))).length ≤ 16 ∧ (PyData.shown (.int (-(n : Nat)))).length ≤ 16 ∧ n.log2 < 1920 := by decide +kernel
theorem shown_int {i : Int} (h : i.natAbs < 1000) : (PyData.shown (.int i)).length ≤ 16 ∧ i.natAbs.log2 < 1920 := by
  obtain ⟨h1, h2, h3⟩ := int_small _ h
  refine ⟨?_, h3⟩
  rcases Int.natAbs_eq i with e | e
  · rw [e]; exact h1
  · rw [e]; exact h2
theorem str_small : ∀ x ∈ (["up", "down", "row", "key", "number", "index", "broken", "missing", "left"] : List Str), (PyData.shown (.str x)).length ≤ 16 ∧ SeqAt.shaped (.str x) = true := by decide +kernel
theorem listText_len (ts : List Str) : (listText ts).length ≤ piled ts + 2 := by
  cases ts with
  | nil => decide
  | cons t r =>
    have h := textFrom_length_pos r 1 (("[" : Str) ++ (if (0 : Nat) > 0 then ", " else "" : String) ++ t) (Nat.succ_pos 0)
    have e : ((("[" : Str) ++ (if (0 : Nat) > 0 then ", " else "" : String) ++ t)).length = 1 + t.length := by
      rw [strLen_append, strLen_append]; rfl
    have hX : (listText (t :: r)).length = (textFrom 0 "[" (t :: r)).length + 1 := by
      show (textFrom 0 "[" (t :: r) ++ "]").length = _
      rw [strLen_append]; rfl
    have hY : (textFrom 0 "[" (t :: r)).length = (textFrom 1 (("[" : Str) ++ (if (0 : Nat) > 0 then ", " else "" : String) ++ t) r).length := rfl
    rw [hX, hY, h, e, piled_cons]; omega
theorem tupleText_len (ts : List Str) : (tupleText ts).length ≤ piled ts + 3 := by
  unfold tupleText
  rw [strLen_append, strLen_append]
  have e1 : ((("(" : String) : Str)).length = 1 := rfl
  have e3 : (((if ts.length == 1 then ",)" else ")" : String) : Str)).length ≤ 2 := by split <;> decide
  rw [e1]
  by_cases h : ts = []
  · subst h
    have e4 : (Str.join ", " ([] : List Str)).length = 0 := rfl
    rw [e4]
    omega
  · have := join_length_add ts h
    omega
mutual
theorem shown_len : ∀ d : PyData, nice d = true → d.shown.length ≤ wgt d
  | .none, _ => by show (("None" : Str)).length ≤ 16; decide
  | .bool b, _ => by cases b <;> (first | decide | (show (("True" : Str)).length ≤ 16; decide) | (show (("False" : Str)).length ≤ 16; decide))
  | .int i, h => (shown_int (by simpa only [nice, decide_eq_true_eq] using h)).1
  | .str x, h => (str_small x (by simpa only [nice, decide_eq_true_eq] using h)).1
  | .list xs, h => by
    have := listText_len (PyData.shownAll xs)
    have := shown_piled xs (by simpa only [nice] using h)
    show (listText (PyData.shownAll xs)).length ≤ wgtAll xs + 4
    omega
  | .tuple xs, h => by
    have := tupleText_len (PyData.shownAll xs)
    have := shown_piled xs (by simpa only [nice] using h)
    show (tupleText (PyData.shownAll xs)).length ≤ wgtAll xs + 4
    omega
  | .dict _, h => by simp [nice] at h
theorem shown_piled : ∀ ds : List PyData, niceAll ds = true → piled (PyData.shownAll ds) ≤ wgtAll ds
  | [], _ => Nat.le_refl _
  | d :: ds, h => by
    have h2 : nice d = true ∧ niceAll ds = true := by simpa only [niceAll, Bool.and_eq_true] using h
    have := shown_len d h2.1
    have := shown_piled ds h2.2
    show piled (d.shown :: PyData.shownAll ds) ≤ wgt d + 2 + wgtAll ds
    rw [piled_cons]
    omega
end
mutual
theorem nice_shows : ∀ d : PyData, nice d = true → d.showable = true ∧ d.hasDict = false ∧ d.canLay0 = true
  | .none, _ => ⟨rfl, rfl, rfl⟩
  | .bool b, _ => ⟨rfl, rfl, rfl⟩
  | .int i, h => ⟨decide_eq_true (shown_int (by simpa only [nice, decide_eq_true_eq] using h)).2, rfl, rfl⟩
  | .str x, h => ⟨rfl, rfl, SeqAt.canLay_of_shaped (str_small x (by simpa only [nice, decide_eq_true_eq] using h)).2⟩
  | .list xs, h => nice_showsAll xs (by simpa only [nice] using h)
  | .tuple xs, h => nice_showsAll xs (by simpa only [nice] using h)
  | .dict _, h => by simp [nice] at h
theorem nice_showsAll : ∀ ds : List PyData, niceAll ds = true → PyData.showableAll ds = true ∧ PyData.hasDictAll ds = false ∧ PyData.canLayAll0 ds = true
  | [], _ => ⟨rfl, rfl, rfl⟩
  | d :: ds, h => by
    have h2 : nice d = true ∧ niceAll ds = true := by simpa only [niceAll, Bool.and_eq_true] using h
    obtain ⟨a1, a2, a3⟩ := nice_shows d h2.1
    obtain ⟨b1, b2, b3⟩ := nice_showsAll ds h2.2
    refine ⟨?_, ?_, ?_⟩
    · show (d.showable && PyData.showableAll ds) = true
      rw [a1, b1]; rfl
    · show (d.hasDict || PyData.hasDictAll ds) = false
      rw [a2, b2]; rfl
    · show (d.canLay0 && PyData.canLayAll0 ds) = true
      rw [a3, b3]; rfl
end
theorem shaped_of {d : PyData} (h : nice d = true) (hd : d.depth ≤ 64) : SeqAt.shaped d = true := by
  unfold SeqAt.shaped
  rw [(nice_shows d h).2.2, decide_eq_true hd]
  rfl
theorem nice_map {α : Type} {f : α → PyData} : ∀ {l : List α}, (∀ x ∈ l, nice (f x) = true) → niceAll (l.map f) = true
  | [], _ => rfl
  | x :: l, h => by
    rw [List.map_cons, niceAll, h x List.mem_cons_self, nice_map fun y hy => h y (List.mem_cons_of_mem _ hy)]
    rfl
theorem wgt_map {α : Type} {f : α → PyData} {B n : Nat} : ∀ {l : List α}, l.length ≤ n → (∀ x ∈ l, wgt (f x) ≤ B) → wgtAll (l.map f) ≤ n * (B + 2)
  | [], _, _ => Nat.zero_le _
  | x :: l, hn, h => by
    cases n with
    | zero => simp at hn
    | succ n =>
      rw [List.map_cons, wgtAll, Nat.succ_mul]
      have := h x List.mem_cons_self
      have := wgt_map (n := n) (by simpa using hn) fun y hy => h y (List.mem_cons_of_mem _ hy)
      omega
theorem depth_map {α : Type} {f : α → PyData} {B : Nat} : ∀ {l : List α}, (∀ x ∈ l, (f x).depth ≤ B) → PyData.depthAll (l.map f) ≤ B
  | [], _ => Nat.zero_le _
  | x :: l, h => by
    rw [List.map_cons, PyData.depthAll]
    exact Nat.max_le.mpr ⟨h x List.mem_cons_self, depth_map fun y hy => h y (List.mem_cons_of_mem _ hy)⟩
end K25
end

section
-- XBase
set_option Elab.async false
set_option linter.all false
set_option maxRecDepth 100000
set_option maxHeartbeats 4000000
set_option autoImplicit false
/-! The program's text, its defs, how they are called. -/
namespace K25
open PySem PySem.Spec PyProof.Rows L2
abbrev PR : Program := PySem.Challenge.pw_fewindexes_k25_whole_books_led
def top (i : Nat) : Stmt := PR.main.body.getD i (.Pass ⟨0, 0, 0, 0⟩)
def inCls : Stmt → List Stmt
  | .ClassDef (body := b) .. => b
  | _ => []
def mth (c j : Nat) : Stmt := (inCls (top c)).getD j (.Pass ⟨0, 0, 0, 0⟩)
abbrev Nx0 : CXT := fun _ _ _ _ _ _ => False
theorem pass0' {X : Cx} {E : XK} : Passes Nx0 X E := fun _ _ _ _ _ _ _ h => h.elim
/-- a def of the top without defaults -/
def Dfn (K : PySem.W.Frag) (mg : Str → Option Value) (st : Stmt) (x : Str) : Prop := ∃ f fd, FunD K x x (defArgs st) (defBody st) (defScope st) [] [] f fd ∧ mg x = some (.ref f)
/-- a def that may be called, by its promise -/
def Cal (P : Program) (w : World) (K : PySem.W.Frag) (mg : Str → Option Value) (base : Heap) (CX : CXT) (k : Nat) (x : Str) (ps : List Str) (sp : Sp) : Prop :=
  ∃ f fd, FnOk P w K mg base CX k f fd ps sp ∧ mg x = some (.ref f) ∧ PySem.W.keepIn K (.ref f) = true ∧ L2.Binds K fd ps []
section
variable {P : Program} {w : World} {K : PySem.W.Frag} {mg : Str → Option Value} {base : Heap} {st : Stmt} {x : Str} {N ps : List Str} {k : Nat} {sp : Sp}
abbrev BindOk (st : Stmt) (x qual : Str) (ps : List Str) : Prop := ∀ (kV doc pm : Value) (an : Option Addr) (cdv ct : Value) (us : List Value), us.length = ps.length → bindArgs (PySem.W.fnOf x qual (defArgs st) (defBody st) (defScope st) .none kV doc pm an cdv ct) ⟨us, []⟩ = pure (ps.zip us)
theorem Dfn.cal0 (D : Dfn K mg st x) (S : FnScope N ps (defScope st)) (hb : BindOk st x x ps) (len : ∀ vs H Q E, sp vs H Q E → vs.length = ps.length)
    (hbody : ∀ (f : Addr) (cdv : Value) (A : Around) (outer : List Env) (s : Shared) (H : Hp) (vs : List V) (Q : VK) (E : XK), Room k (A.deeper (envOfC x (defScope st) s.heap.objs.size f cdv)) → sp vs H Q E →
      ∃ t, PSs (cxOf Nx0 P w K mg base N x (defScope st) f cdv A outer s H E).nox (defBody st) t ∧ t { nx := fun _ H' => Q .non H', rt := Q } (L2.start N vs) H) : Cal P w K mg base Nx0 (k + 1) x ps sp := by
  obtain ⟨f, fd, F, m⟩ := D
  refine ⟨f, fd, F.ok S len fun cdv A outer s H vs Q E hr hs => ?_, m, F.kp, F.bindsN hb⟩
  obtain ⟨t, h, q⟩ := hbody f cdv A outer s H vs Q E hr hs
  exact ⟨t, h.nox, q⟩
theorem Dfn.calX (D : Dfn K mg st x) (S : FnScope N ps (defScope st)) (hb : BindOk st x x ps) (len : ∀ vs H Q E, sp vs H Q E → vs.length = ps.length)
    (hbody : ∀ (f : Addr) (cdv : Value) (A : Around) (outer : List Env) (s : Shared) (H : Hp) (vs : List V) (Q : VK) (E : XK), Room k (A.deeper (envOfC x (defScope st) s.heap.objs.size f cdv)) → sp vs H Q E →
      ∃ t, PSs (cxOf (L2.CX P w) P w K mg base N x (defScope st) f cdv A outer s H E) (defBody st) t ∧ t { nx := fun _ H' => Q .non H', rt := Q } (L2.start N vs) H) : Cal P w K mg base (L2.CX P w) (k + 1) x ps sp := by
  obtain ⟨f, fd, F, m⟩ := D
  exact ⟨f, fd, F.ok S len fun cdv A outer s H vs Q E hr hs => hbody f cdv A outer s H vs Q E hr hs, m, F.kp, F.bindsN hb⟩
end
section
variable {X : Cx} {CX : CXT} {k : Nat} {x : Str} {ps : List Str} {sp : Sp} {E : XK} {e : Expr} {es : List Expr} {t : TA} {p pos : Pos}
/-- a call of a def by its name: [args], then its promise -/
theorem pe_cal (F : Cal X.prog X.w X.K X.mg X.base CX k x ps sp) (hr : Room k X.A) (hx : Passes CX X E) (ha : PA X (e :: es) t) (hg : Gl X x := by rfl) (hdb : (x == ("__debug__" : Str)) = false := by decide)
    (he : starEach (e :: es) X.env = (false, eval e X.env) :: starEach es X.env := by rfl) (hpl : (backTo pos (starEach es X.env)).any (·.1) = false := by rfl) :
    PE X (.Call (.Name x p) (e :: es) [] pos) (tCall sp [] E t) := by
  obtain ⟨f, fd, F, m, kp, b⟩ := F
  exact pe_call F hr hg m kp b .nil hx ha hdb he hpl
theorem pe_cal0 (F : Cal X.prog X.w X.K X.mg X.base CX k x ps sp) (hr : Room k X.A) (hx : Passes CX X E) (hg : Gl X x := by rfl) (hdb : (x == ("__debug__" : Str)) = false := by decide) :
    PE X (.Call (.Name x p) [] [] pos) (tCall sp [] E tNil) := by
  obtain ⟨f, fd, F, m, kp, b⟩ := F
  exact pe_call0 F hr hg m kp b .nil hx hdb
/-- the same, of a def that lets nothing out -/
theorem pe_cn (F : Cal X.prog X.w X.K X.mg X.base Nx0 k x ps sp) (hr : Room k X.A) (ha : PA X (e :: es) t) (hg : Gl X x := by rfl) (hdb : (x == ("__debug__" : Str)) = false := by decide)
    (he : starEach (e :: es) X.env = (false, eval e X.env) :: starEach es X.env := by rfl) (hpl : (backTo pos (starEach es X.env)).any (·.1) = false := by rfl) :
    PE X (.Call (.Name x p) (e :: es) [] pos) (tCall sp [] L2.E0 t) := pe_cal F hr pass0' ha hg hdb he hpl
theorem pe_cn0 (F : Cal X.prog X.w X.K X.mg X.base Nx0 k x ps sp) (hr : Room k X.A) (hg : Gl X x := by rfl) (hdb : (x == ("__debug__" : Str)) = false := by decide) :
    PE X (.Call (.Name x p) [] [] pos) (tCall sp [] L2.E0 tNil) := pe_cal0 F hr pass0' hg hdb
end
/-- an expression's reading by way of what is known of its value -/
theorem via {T : TE} {σ : L2.St} {H : Hp} {G : VK} (Pv : V → Hp → Prop) (h : ∀ Qc : VK, (∀ v H1, Pv v H1 → Qc v H1) → T σ H Qc) (k : ∀ v H1, Pv v H1 → G v H1) : T σ H G := h G k
theorem yesK {σ : L2.St} {H : Hp} {A B : Hp → Prop} (h : A H) : tYes σ H (fun b H3 => if b = true then A H3 else B H3) := by
  show if true = true then A H else B H
  rw [if_pos rfl]; exact h
theorem itT {c : Bool} {A B : Prop} (hc : c = true) (h : A) : if c = true then A else B := by rw [if_pos hc]; exact h
theorem itF {c : Bool} {A B : Prop} (hc : c = false) (h : B) : if c = true then A else B := by rw [hc, if_neg Bool.false_ne_true]; exact h
theorem same_out {H H' : Hp} {D : Addr} {o : HO} (e : Same H H') (h : H D = none) : Same H (upd H' D o) := fun b u q => by rw [upd_ne (ne_of_none q h)]; exact e _ _ q
theorem same_none {H H' : Hp} {D : Addr} (e : Same H H') (h : H' D = none) : H D = none := by
  cases q : H D with
  | none => rfl
  | some o => rw [e _ _ q] at h; cases h
theorem lt_line {n : Nat} (h : n < 100000) : n < sizeLine := Nat.lt_of_lt_of_le h (by decide)
theorem le_line {n : Nat} (h : n ≤ 100000) : n ≤ sizeLine := Nat.le_trans h (by decide)
theorem sql_same {K : PySem.W.Frag} {H H' : Hp} {a : Addr} {xs : List V} (h : SqL K H a xs) (e : Same H H') : SqL K H' a xs := by
  rcases h with (h | ⟨o, h⟩) | h
  · exact .inl (.inl (e _ _ h))
  · exact .inl (.inr ⟨o, e _ _ h⟩)
  · exact .inr h
/-- names that the module does not take from the built-ins -/
structure Fre (mg : Str → Option Value) : Prop where
  isinstance : mg "isinstance" = none
  int : mg "int" = none
  bool : mg "bool" = none
  all : mg "all" = none
  zip : mg "zip" = none
  tuple : mg "tuple" = none
  len : mg "len" = none
  str : mg "str" = none
  sorted : mg "sorted" = none
  range : mg "range" = none
  list : mg "list" = none
  min : mg "min" = none
  dict : mg "dict" = none
  repr : mg "repr" = none
end K25
end

section
-- BDraw
set_option Elab.async false
set_option linter.all false
set_option maxRecDepth 100000
set_option maxHeartbeats 4000000
set_option autoImplicit false
/-! Draws. -/
namespace K25
open PySem PySem.Spec PyProof.Rows L2
section
variable {P : Program} {w : World} {K : PySem.W.Frag} {mg : Str → Option Value} {base : Heap}
/-! _law_mixed -/
theorem sc52 : FnScope ["_law_cell", "_law_k"] ["_law_cell", "_law_k"] (defScope (top 52)) := ⟨rfl, rfl, rfl, by decide +kernel, rfl, by decide +kernel, by decide +kernel⟩
def spMix : Sp := fun vs H Q _ => ∃ c k : Int, vs = [.int c, .int k] ∧ 0 ≤ k ∧ k ≤ 5000 ∧ ∀ r, 0 ≤ r → r < 2147483629 → Q (.int r) H
theorem cal_mix (D : Dfn K mg (top 52) "_law_mixed") (Z : Fre mg) : Cal P w K mg base Nx0 1 "_law_mixed" ["_law_cell", "_law_k"] spMix := by
  refine D.cal0 sc52 (fun _ _ _ _ _ _ us hl => match us, hl with | [_, _], _ => rfl) (fun vs H Q E ⟨_, _, h, _⟩ => by rw [h]; rfl) fun f cdv A outer s H vs Q E hr h => ?_
  obtain ⟨c, k, rfl, k0, k1, q⟩ := h
  refine ⟨_, pss_cons (ps_set (i := 0) sc52.nd rfl (.inl rfl) (pe_op op_mod (pe_callTy call_int1 (by rfl) Z.int (by decide +kernel) (pa_cons (pv 0) pa_nil)) pe_int))
    (pss_one (ps_ret (pe_op op_mod (pe_op op_mul (pe_op op_mod (pe_op op_add (pe_op op_add (pe_op op_mul (pv 0) (pe_op op_add pe_int (pe_op op_mul (pe_op op_mul pe_int (pv 1)) (pv 1)))) (pe_op op_mul pe_int (pv 1))) pe_int) pe_int) pe_int) pe_int))), ?_⟩
  refine ⟨_, rfl, .inl ⟨_, rfl, ?_⟩⟩
  refine ⟨_, _, rfl, rfl, (by show (0 : Int) < 2147483647; decide), ?_⟩
  have hm := Int.emod_lt_of_pos c (show (0 : Int) < 2147483647 by decide)
  have hn := Int.emod_nonneg c (show (2147483647 : Int) ≠ 0 by decide)
  refine ⟨_, rfl, _, rfl, _, _, rfl, rfl, .inl ⟨by decide, by decide⟩, _, rfl, _, _, rfl, rfl, .inr ⟨by omega, by omega⟩, _, _, rfl, rfl, _, _, rfl, rfl, .inl ⟨by omega, by omega⟩, ?_⟩
  refine ⟨_, rfl, _, _, rfl, rfl, .inl ⟨by decide, by decide⟩, _, _, rfl, rfl, _, _, rfl, rfl, _, _, rfl, rfl, (by show (0 : Int) < 2147483647; decide), ?_⟩
  refine ⟨_, _, rfl, rfl, .inr ⟨by decide, by decide⟩, _, _, rfl, rfl, (by show (0 : Int) < 2147483629; decide), ?_⟩
  exact q _ (Int.emod_nonneg _ (by decide)) (Int.emod_lt_of_pos _ (by decide))
/-! the state -/
def stO (cl ll : Addr) (at_ : Int) : HO := .dK [(.inr "cells", .ref cl), (.inr "lefts", .ref ll), (.inr "at", .int at_), (.inr "room", .int 0)]
structure StOk (H : Hp) (st cl ll : Addr) (n : Nat) : Prop where
  ex : ∃ (cells lefts : List Int) (at_ : Int), H st = some (stO cl ll at_) ∧ H cl = some (.lst (cells.map V.int)) ∧ H ll = some (.lst (lefts.map V.int)) ∧ cl ≠ ll ∧ lefts.length = cells.length ∧ 0 < cells.length ∧ cells.length ≤ 100 ∧ 0 ≤ at_ ∧ at_ ≤ (n : Int)
theorem StOk.soft {H : Hp} {st cl ll : Addr} {n : Nat} (h : StOk H st cl ll n) : (∃ u, H st = some u ∧ Soft u) ∧ (∃ u, H cl = some u ∧ Soft u) ∧ (∃ u, H ll = some u ∧ Soft u) := by
  obtain ⟨cells, lefts, at_, h1, h2, h3, h4, _⟩ := h.ex
  exact ⟨⟨_, h1, Soft.dK⟩, ⟨_, h2, Soft.lst⟩, ⟨_, h3, Soft.lst⟩⟩
theorem StOk.mono {H : Hp} {st cl ll : Addr} {n m : Nat} (h : StOk H st cl ll n) (l : n ≤ m) : StOk H st cl ll m := by
  obtain ⟨cells, lefts, at_, h1, h2, h3, h4, h5, h6, h7, h8, h9⟩ := h.ex
  exact ⟨cells, lefts, at_, h1, h2, h3, h4, h5, h6, h7, h8, by omega⟩
theorem StOk.at3 {H H' : Hp} {st cl ll : Addr} {n : Nat} (h : StOk H st cl ll n) (e1 : H' st = H st) (e2 : H' cl = H cl) (e3 : H' ll = H ll) : StOk H' st cl ll n := by
  obtain ⟨cells, lefts, at_, h1, h2, h3, r⟩ := h.ex
  exact ⟨cells, lefts, at_, e1.trans h1, e2.trans h2, e3.trans h3, r⟩
theorem StOk.same {H H' : Hp} {st cl ll : Addr} {n : Nat} (h : StOk H st cl ll n) (e : Same H H') : StOk H' st cl ll n := by
  obtain ⟨cells, lefts, at_, h1, h2, h3, r⟩ := h.ex
  exact ⟨cells, lefts, at_, e _ _ h1, e _ _ h2, e _ _ h3, r⟩
theorem StOk.upd {H : Hp} {st cl ll p : Addr} {o : HO} {n : Nat} (h : StOk H st cl ll n) (n1 : p ≠ st) (n2 : p ≠ cl) (n3 : p ≠ ll) : StOk (L2.upd H p o) st cl ll n :=
  h.at3 (upd_ne n1.symm) (upd_ne n2.symm) (upd_ne n3.symm)
/-- what a draw leaves -/
structure Aft (st cl ll : Addr) (n : Nat) (H H' : Hp) : Prop where
  ok : StOk H' st cl ll n
  bt : Bt [st, ll] H H'
  kt : KT H H'
theorem Aft.refl {H : Hp} {st cl ll : Addr} {n : Nat} (h : StOk H st cl ll n) : Aft st cl ll n H H := ⟨h, Bt.refl _ _, KT.refl _⟩
theorem Aft.trans {H H1 H2 : Hp} {st cl ll : Addr} {n m : Nat} (a : Aft st cl ll n H H1) (b : Aft st cl ll m H1 H2) : Aft st cl ll m H H2 := ⟨b.ok, a.bt.trans b.bt, a.kt.trans b.kt⟩
theorem Aft.mono {H H1 : Hp} {st cl ll : Addr} {n m : Nat} (a : Aft st cl ll n H H1) (l : n ≤ m) : Aft st cl ll m H H1 := ⟨a.ok.mono l, a.bt, a.kt⟩
theorem Aft.same {H H1 H2 : Hp} {st cl ll : Addr} {n : Nat} (a : Aft st cl ll n H H1) (e : Same H1 H2) : Aft st cl ll n H H2 := ⟨a.ok.same e, a.bt.trans (.of e), a.kt.trans (.same e)⟩
theorem Aft.new {H H1 : Hp} {st cl ll p : Addr} {o : HO} {n : Nat} (a : Aft st cl ll n H H1) (h : H1 p = none) : Aft st cl ll n H (L2.upd H1 p o) := a.same (same_new h)
/-- a thing that is new since H is changed -/
theorem Aft.out {H H1 : Hp} {st cl ll p : Addr} {o u : HO} {n m : Nat} (a : Aft st cl ll n H H1) (h0 : StOk H st cl ll m) (h : H p = none) (hp : H1 p = some u) (s : Soft u) : Aft st cl ll n H (L2.upd H1 p o) := by
  obtain ⟨⟨_, e1, _⟩, ⟨_, e2, _⟩, ⟨_, e3, _⟩⟩ := h0.soft
  exact ⟨a.ok.upd (ne_of_none e1 h).symm (ne_of_none e2 h).symm (ne_of_none e3 h).symm, fun b o' q nb => by rw [upd_ne (ne_of_none q h)]; exact a.bt b o' q nb, a.kt.trans (KT.upd hp s)⟩
/-- what is no draw's stays -/
theorem Aft.keep {H H1 : Hp} {st cl ll p : Addr} {u : HO} {n : Nat} (a : Aft st cl ll n H H1) (h : H p = some u) (n1 : p ≠ st) (n2 : p ≠ ll) : H1 p = some u := a.bt _ _ h (by simp [n1, n2])
theorem map_at {α β : Type} {f : α → β} {l : List α} {i : Nat} {x : β} (h : (l.map f)[i]? = some x) : ∃ y, l[i]? = some y ∧ x = f y := by
  rw [List.getElem?_map] at h
  cases e : l[i]? with
  | none => rw [e] at h; cases h
  | some y => rw [e] at h; exact ⟨y, rfl, (Option.some.inj h).symm⟩
/-! _law_begin -/
theorem sc53 : FnScope ["_law_script", "_law_cells", "_law_cell"] ["_law_script"] (defScope (top 53)) := ⟨rfl, rfl, rfl, by decide +kernel, rfl, by decide +kernel, by decide +kernel⟩
def spBegin (K : PySem.W.Frag) : Sp := fun vs H Q _ => ∃ (a : Addr) (ns : List Int), vs = [.ref a] ∧ SqL K H a (ns.map V.int) ∧ ns.length ≤ 63 ∧ ∀ H' st cl ll, StOk H' st cl ll 0 → Same H H' → H st = none → H ll = none → Q (.ref st) H'
theorem dints (ns : List Int) : SeqAt.shaped (.list (ns.map .int)) = true := by
  have h : ∀ l : List Int, PyData.canLayAll0 (l.map .int) = true := fun l => by
    induction l with
    | nil => rfl
    | cons a l ih => rw [List.map_cons, PyData.canLayAll0, ih]; rfl
  have h2 : PyData.depthAll (ns.map .int) ≤ 0 := depth_map fun _ _ => Nat.le_refl _
  unfold SeqAt.shaped
  rw [PyData.canLay0, h, PyData.depth, decide_eq_true (by omega)]
  rfl
theorem eqv_nil (ns : List Int) : PyData.eqv (.list (ns.map .int)) (.list []) = decide (ns = []) := by
  cases ns <;> simp [PyData.eqv, PyData.eqvAll]
theorem cal_begin (D : Dfn K mg (top 53) "_law_begin") (Z : Fre mg) : Cal P w K mg base Nx0 1 "_law_begin" ["_law_script"] (spBegin K) := by
  refine D.cal0 sc53 (fun _ _ _ _ _ _ us hl => match us, hl with | [_], _ => rfl) (fun vs H Q E ⟨_, _, h, _⟩ => by rw [h]; rfl) fun f cdv A outer s H vs Q E hr h => ?_
  obtain ⟨a, ns, rfl, hS, hl', q⟩ := h
  have hu := hr.units
  refine ⟨_, pss_cons (ps_set (i := 1) sc53.nd rfl (.inl rfl) (pe_ifExp (pt_cmpR (op_neD hu) (pv 0) (pe_lst pa_nil) (nomark _)) (pe_callTy call_list_of (by rfl) Z.list (by decide +kernel) (pa_cons (pv 0) pa_nil)) (pe_lst (pa_cons pe_int pa_nil))))
    (pss_one (ps_ret (pe_disp (pps_cons pe_str (pv 1) (pps_cons pe_str (pe_lc (own := [("_law_cell", 2)]) (g := gName 2) (tt := tYes) rfl sc53.nd (pi_list (pv 1)) (blkOk_by (N := ["_law_script", "_law_cells", "_law_cell"]) (sc := defScope (top 53)) (by decide +kernel)) (fun _ _ _ _ _ => pg_name (i := 2) sc53.nd rfl (Or.inl rfl)) (fun _ _ _ _ _ => pts_nil)
        (fun _ _ _ _ _ => pe_ifExp (pt_cmpR op_ge (pv 2) (pe_op op_pow pe_int pe_int) (nomark _)) (pv 2) pe_int)) (pps_cons pe_str pe_int (pps_cons pe_str pe_int pps_nil)))) (by rfl) (by rfl) (fun z => by cases z) (by decide)))), ?_⟩
  change tIf _ _ _ _ _ _
  refine via (fun v H1 => ∃ (cl : Addr) (cells : List Int), v = .ref cl ∧ H1 cl = some (.lst (cells.map V.int)) ∧ Same H H1 ∧ 0 < cells.length ∧ cells.length ≤ 63) (fun Qc hq => ?_) ?_
  · refine ⟨_, rfl, by decide, fun p hp => ?_⟩
    have sm := same_new (o := .lst []) hp
    refine ⟨_, .list [], .lst (sql_same hS sm) (dpAll_ints ns), .lst (SqL.of upd_same) .nil, dints ns, dints [], _, rfl, ?_⟩
    rw [eqv_nil]
    by_cases c : ns = []
    · refine itF (by simp [c]) ?_
      exact ⟨by decide, fun l hl => hq _ _ ⟨l, [0], rfl, upd_same, sm.trans (same_new hl), by decide, by decide⟩⟩
    · refine itT (by simp [c]) ?_
      refine ⟨_, rfl, _, _, rfl, .inl (sql_same hS sm), fun l hl => hq _ _ ⟨l, ns, rfl, upd_same, sm.trans (same_new hl), ?_, hl'⟩⟩
      exact List.length_pos_iff.mpr c
  · rintro v H1 ⟨cl, cells, rfl, hcl, sm, l0, l1⟩
    intro p hp
    have s2 := same_new (o := .dK []) hp
    have hcl2 := s2 _ _ hcl
    refine ⟨_, rfl, _, rfl, cl, rfl, ⟨_, SqL.of hcl2⟩, fun D hD => ?_⟩
    refine lc_list (K := K) (a := cl) (xs := cells.map V.int) (fun i H' => Same (upd H1 p (.dK [])) H' ∧ ∃ ls : List Int, ls.length = i ∧ H' D = some (.lst (ls.map V.int))) ⟨same_new hD, [], rfl, upd_same⟩ (fun i H' _ h => SqL.of (h.1 _ _ hcl2)) ?_ ?_
    · rintro i x H' hx ⟨s3, ls, e, hD'⟩
      obtain ⟨n, hn, rfl⟩ := map_at hx
      have li : i < cells.length := (List.getElem?_eq_some_iff.mp hn).1
      have step : ∀ m : Int, ∃ acc, H' D = some (.lst acc) ∧ acc.length < sizeLine ∧ Same (upd H1 p (.dK [])) (upd H' D (.lst (acc ++ [V.int m]))) ∧ ∃ ls : List Int, ls.length = i + 1 ∧ upd H' D (.lst (acc ++ [V.int m])) D = some (.lst (ls.map V.int)) := fun m =>
        ⟨_, hD', lt_line (by rw [List.length_map]; omega), same_out s3 hD, ls ++ [m], by rw [List.length_append, e]; rfl, by rw [upd_same, List.map_append]; rfl⟩
      refine ⟨rfl, yesK ?_⟩
      refine ⟨_, rfl, _, _, rfl, rfl, ⟨by decide, by decide, by decide⟩, _, _, rfl, rfl, _, rfl, ?_⟩
      by_cases c : (10 : Int) ^ (18 : Int).toNat ≤ n
      · refine itT (decide_eq_true c) ⟨_, rfl, step n⟩
      · refine itF (decide_eq_false c) (step 0)
    · rintro H' ⟨s3, ls, e, hD'⟩
      rw [List.length_map] at e
      have hp' := s3 _ _ upd_same
      refine ⟨hp', [(.inr "cells", .ref cl), (.inr "lefts", .ref D), (.inr "at", .int 0), (.inr "room", .int 0)], rfl, (by show 4 ≤ 15; decide), ?_⟩
      have np : D ≠ p := fun z => by rw [z, upd_same] at hD; cases hD
      have nc : cl ≠ p := ne_of_none hcl hp
      have nD : cl ≠ D := fun z => by rw [z] at hcl2; rw [hcl2] at hD; cases hD
      have s4 : Same H1 (upd H' p (stO cl D 0)) := same_out (s2.trans s3) hp
      refine q _ p cl D ⟨cells, ls, 0, upd_same, s4 _ _ hcl, ?_, nD, e, l0, by omega, by decide, by decide⟩ (sm.trans s4) (same_none sm hp) (same_none (sm.trans s2) hD)
      rw [upd_ne np]
      exact hD'
/-! _law_draw -/
theorem sc54 : FnScope ["_law_state", "_law_many", "_law_at", "_law_place", "_law_left", "_law_number"] ["_law_state", "_law_many"] (defScope (top 54)) := ⟨rfl, rfl, rfl, by decide +kernel, rfl, by decide +kernel, by decide +kernel⟩
def spDraw : Sp := fun vs H Q _ => ∃ (st cl ll : Addr) (n : Nat) (many : Int), vs = [.ref st, .int many] ∧ StOk H st cl ll n ∧ n ≤ 4000 ∧ 0 < many ∧ many < 1000000 ∧ ∀ H' r, 0 ≤ r → r < many → Aft st cl ll (n + 1) H H' → Q (.int r) H'
theorem st_at {H : Hp} {st cl ll : Addr} {a : Int} (h : H st = some (stO cl ll a)) : DGet H st (.str "at") (some (.int a)) := DGet.k (k := .inr "at") h
theorem st_cells {H : Hp} {st cl ll : Addr} {a : Int} (h : H st = some (stO cl ll a)) : DGet H st (.str "cells") (some (.ref cl)) := DGet.k (k := .inr "cells") h
theorem st_lefts {H : Hp} {st cl ll : Addr} {a : Int} (h : H st = some (stO cl ll a)) : DGet H st (.str "lefts") (some (.ref ll)) := DGet.k (k := .inr "lefts") h
theorem st_put {H : Hp} {st cl ll : Addr} {a b : Int} (h : H st = some (stO cl ll a)) : DPut H st (.str "at") (.int b) (upd H st (stO cl ll b)) := DPut.k (k := .inr "at") (v := .int b) h (lt_line (by show 4 < 100000; decide))
theorem cal_draw (D : Dfn K mg (top 54) "_law_draw") (Z : Fre mg) (CM : Cal P w K mg base Nx0 1 "_law_mixed" ["_law_cell", "_law_k"] spMix) : Cal P w K mg base Nx0 2 "_law_draw" ["_law_state", "_law_many"] spDraw := by
  refine D.cal0 sc54 (fun _ _ _ _ _ _ us hl => match us, hl with | [_, _], _ => rfl) (fun vs H Q E ⟨_, _, _, _, _, h, _⟩ => by rw [h]; rfl) fun f cdv A outer s H vs Q E hr h => ?_
  obtain ⟨st, cl, ll, n, many, rfl, hst, hn, m0, m1, q⟩ := h
  have hu := hu_of hr
  have nd := sc54.nd
  refine ⟨_, pss_cons (ps_set (i := 2) nd rfl (.inl rfl) (pe_dget hu (pv 0) pe_str (fun _ _ => rfl)))
    (pss_cons (ps_dput hu (pv 0) pe_str (pe_op op_add (pv 2) pe_int) rfl)
    (pss_cons (ps_set (i := 3) nd rfl (.inl rfl) (pe_op op_mod (pe_callTy call_int1 (by rfl) Z.int (by decide +kernel) (pa_cons (pv 2) pa_nil)) (pe_callB call_len_seq (by rfl) Z.len PySem.boot_len (pa_cons (pe_dget hu (pv 0) pe_str (fun _ _ => rfl)) pa_nil))))
    (pss_cons (ps_set (i := 4) nd rfl (.inl rfl) (pe_ix ix_list (pe_dget hu (pv 0) pe_str (fun _ _ => rfl)) (pv 3) (fun _ _ => rfl)))
    (pss_cons (ps_if (pt_cmpR op_gt (pv 4) pe_int (nomark _))
        (pss_cons (ps_asg (pe_op op_fdiv (pv 4) (pv 1)) (pg_sub (pe_dget hu (pv 0) pe_str (fun _ _ => rfl)) (pv 3) set_list))
        (pss_one (ps_ret (pe_op op_mod (pe_callTy call_int1 (by rfl) Z.int (by decide +kernel) (pa_cons (pv 4) pa_nil)) (pv 1))))) pss_nil)
    (pss_cons (ps_set (i := 5) nd rfl (.inl rfl) (pe_cn CM hr (pa_cons (pe_cn CM hr (pa_cons (pe_ix ix_list (pe_dget hu (pv 0) pe_str (fun _ _ => rfl)) (pv 3) (fun _ _ => rfl)) (pa_cons (pv 2) pa_nil))) (pa_cons (pe_op op_add pe_int (pv 2)) pa_nil))))
    (pss_one (ps_ret (pe_op op_mod (pe_op op_fdiv (pe_callTy call_int1 (by rfl) Z.int (by decide +kernel) (pa_cons (pe_op op_add (pe_op op_mul (pv 5) pe_int) (pe_cn CM hr (pa_cons (pv 5) (pa_cons (pe_op op_add pe_int (pv 2)) pa_nil)))) pa_nil)) pe_int) (pv 1))))))))), ?_⟩
  obtain ⟨cells, lefts, at_, h1, h2, h3, h4, h5, h6, h7, h8, h9⟩ := hst.ex
  have n1 : cl ≠ st := ne_of h2 h1 (by intro z; cases z)
  have n2 : ll ≠ st := ne_of h3 h1 (by intro z; cases z)
  refine ⟨_, rfl, _, _, rfl, st_at h1, ?_⟩
  refine ⟨_, rfl, _, _, rfl, rfl, _, rfl, _, _, rfl, st_put h1, ?_⟩
  have g1 : upd H st (stO cl ll (at_ + 1)) st = some (stO cl ll (at_ + 1)) := upd_same
  have g2 : upd H st (stO cl ll (at_ + 1)) cl = some (.lst (cells.map V.int)) := by rw [upd_ne n1]; exact h2
  have g3 : upd H st (stO cl ll (at_ + 1)) ll = some (.lst (lefts.map V.int)) := by rw [upd_ne n2]; exact h3
  have kt1 : KT H (upd H st (stO cl ll (at_ + 1))) := KT.upd h1 Soft.dK
  have bt1 : Bt [st, ll] H (upd H st (stO cl ll (at_ + 1))) := Bt.upd List.mem_cons_self
  have so1 : StOk (upd H st (stO cl ll (at_ + 1))) st cl ll (n + 1) := ⟨cells, lefts, at_ + 1, g1, g2, g3, h4, h5, h6, h7, by omega, by omega⟩
  refine ⟨_, rfl, .inl ⟨_, rfl, _, rfl, _, _, rfl, st_cells g1, _, _, rfl, .inl (SqL.of g2), _, _, rfl, rfl, (by rw [List.length_map]; omega), ?_⟩⟩
  obtain ⟨pl, hpl, plt⟩ : ∃ pl : Nat, at_ % ((cells.map V.int).length : Int) = (pl : Int) ∧ pl < cells.length := by
    have pl0 : 0 ≤ at_ % ((cells.map V.int).length : Int) := Int.emod_nonneg _ (by rw [List.length_map]; omega)
    have pl1 : at_ % ((cells.map V.int).length : Int) < ((cells.map V.int).length : Int) := Int.emod_lt_of_pos _ (by rw [List.length_map]; omega)
    rw [List.length_map] at pl0 pl1 ⊢
    exact ⟨(at_ % (cells.length : Int)).toNat, by omega, by omega⟩
  have ixc : ∀ {l : List Int}, l.length = cells.length → ∃ z, l[pl]? = some z ∧ atI (l.map V.int) (at_ % ((cells.map V.int).length : Int)) = some (.int z) ∧ ixN (l.map V.int).length (at_ % ((cells.map V.int).length : Int)) = some pl := fun {l} e => by
    rw [hpl]
    have hz : l[pl]? = some l[pl] := List.getElem?_eq_getElem (by omega)
    refine ⟨_, hz, atI_nat (by rw [List.getElem?_map, hz]; rfl), ?_⟩
    unfold ixN
    rw [List.length_map, if_pos (by omega), if_pos (by omega), Int.toNat_natCast]
  obtain ⟨left, e1, e2, e3⟩ := ixc h5
  obtain ⟨cell, c1, c2, _⟩ := ixc (l := cells) rfl
  refine ⟨_, rfl, _, _, rfl, st_lefts g1, _, rfl, ll, _, _, _, rfl, rfl, SqL.of g3, e2, ?_⟩
  refine ⟨_, rfl, _, _, rfl, rfl, _, rfl, ?_⟩
  by_cases c : 0 < left
  · refine itT (decide_eq_true c) ?_
    refine ⟨_, rfl, _, rfl, _, _, rfl, rfl, ⟨m0, by omega⟩, ?_⟩
    refine ⟨_, rfl, _, _, rfl, st_lefts g1, _, rfl, ll, _, _, pl, rfl, rfl, g3, e3, ?_⟩
    refine ⟨_, rfl, .inl ⟨_, rfl, _, rfl, _, _, rfl, rfl, m0, ?_⟩⟩
    refine q _ _ (Int.emod_nonneg _ (by omega)) (Int.emod_lt_of_pos _ m0) ⟨?_, bt1.trans (Bt.upd (List.mem_cons_of_mem _ List.mem_cons_self)), kt1.trans (KT.upd g3 Soft.lst)⟩
    refine ⟨cells, lefts.set pl (left / many), at_ + 1, by rw [upd_ne n2.symm]; exact g1, by rw [upd_ne h4]; exact g2, by rw [upd_same, List.map_set], h4, by rw [List.length_set]; exact h5, h6, h7, by omega, by omega⟩
  · refine itF (decide_eq_false c) ?_
    refine ⟨_, rfl, _, _, rfl, st_cells g1, _, rfl, cl, _, _, _, rfl, rfl, SqL.of g2, c2, _, rfl, ?_⟩
    refine ⟨_, _, rfl, h8, by omega, fun r r0 r1 => ?_⟩
    refine ⟨_, rfl, _, _, rfl, rfl, ?_⟩
    refine ⟨_, _, rfl, by omega, by omega, fun r' r0' r1' => ?_⟩
    refine ⟨_, rfl, _, _, rfl, rfl, .inl ⟨by omega, by omega⟩, ?_⟩
    refine ⟨_, rfl, _, rfl, _, _, rfl, rfl, ?_⟩
    refine ⟨_, _, rfl, by omega, by omega, fun r2 r20 r21 => ?_⟩
    refine ⟨_, _, rfl, rfl, .inl ⟨_, rfl, _, _, rfl, rfl, ⟨by decide, by decide⟩, _, rfl, _, _, rfl, rfl, m0, ?_⟩⟩
    exact q _ _ (Int.emod_nonneg _ (by omega)) (Int.emod_lt_of_pos _ m0) ⟨so1, bt1, kt1⟩
end
end K25
end

section
-- BSteps
set_option Elab.async false
set_option linter.all false
set_option maxRecDepth 100000
set_option maxHeartbeats 4000000
set_option autoImplicit false
/-! What is drawn: a thing of a tuple, steps, an index, a lot, a row. -/
namespace K25
open PySem PySem.Spec PyProof.Rows L2
section
variable {P : Program} {w : World} {K : PySem.W.Frag} {mg : Str → Option Value} {base : Heap}
/-! _law_of -/
theorem sc55 : FnScope ["_law_state", "_law_some"] ["_law_state", "_law_some"] (defScope (top 55)) := ⟨rfl, rfl, rfl, by decide +kernel, rfl, by decide +kernel, by decide +kernel⟩
def spOf (K : PySem.W.Frag) : Sp := fun vs H Q _ => ∃ (st cl ll : Addr) (n : Nat) (v : V) (ds : List PyData), vs = [.ref st, v] ∧ StOk H st cl ll n ∧ n ≤ 4000 ∧ Dp K H v (.tuple ds) ∧ tonlyAll ds = true ∧ 0 < ds.length ∧ ds.length < 1000 ∧
  ∀ H' x d, d ∈ ds → Dp K H' x d → Aft st cl ll (n + 1) H H' → Q x H'
theorem atI_of {α : Type} {l : List α} {r : Int} (h0 : 0 ≤ r) (h1 : r < l.length) : ∃ j x, r = (j : Nat) ∧ l[j]? = some x ∧ atI l r = some x ∧ x ∈ l := by
  obtain ⟨j, rfl⟩ : ∃ j : Nat, r = j := ⟨r.toNat, by omega⟩
  have hj : j < l.length := by omega
  exact ⟨j, l[j], rfl, List.getElem?_eq_getElem hj, atI_nat (List.getElem?_eq_getElem hj), List.getElem_mem hj⟩
theorem cal_of (D : Dfn K mg (top 55) "_law_of") (Z : Fre mg) (CD : Cal P w K mg base Nx0 2 "_law_draw" ["_law_state", "_law_many"] spDraw) : Cal P w K mg base Nx0 3 "_law_of" ["_law_state", "_law_some"] (spOf K) := by
  refine D.cal0 sc55 (fun _ _ _ _ _ _ us hl => match us, hl with | [_, _], _ => rfl) (fun vs H Q E ⟨_, _, _, _, _, _, h, _⟩ => by rw [h]; rfl) fun f cdv A outer s H vs Q E hr h => ?_
  obtain ⟨st, cl, ll, n, v, ds, rfl, hst, hn, hd, to, l0, l1, q⟩ := h
  refine ⟨_, pss_one (ps_ret (pe_ix ix_tup (pv 1) (pe_cn CD hr (pa_cons (pv 0) (pa_cons (pe_callB call_len_seq (by rfl) Z.len PySem.boot_len (pa_cons (pv 1) pa_nil)) pa_nil))) (fun _ _ => rfl))), ?_⟩
  obtain ⟨a, xs, rfl, hs, ha⟩ := dp_tup hd
  have hlen := dpAll_len ha
  refine ⟨_, rfl, _, rfl, _, rfl, _, _, rfl, .inr hs, ?_⟩
  refine ⟨st, cl, ll, n, _, rfl, hst, hn, by omega, by omega, fun H' r r0 r1 af => ?_⟩
  obtain ⟨j, x, e, hx, hat, _⟩ := atI_of (l := xs) r0 r1
  obtain ⟨d, hd1, hd2⟩ := dpAll_get (dpAll_kt af.kt ds xs to ha) hx
  exact ⟨_, _, _, _, rfl, rfl, SqT.kt af.kt hs, hat, q H' x d (List.mem_of_getElem? hd1) hd2 af⟩
theorem ne_of_none_ {H : Hp} {a b : Addr} (h : ∃ u, H a = some u ∧ Soft u) (h' : H b = none) : b ≠ a := by
  obtain ⟨u, e, _⟩ := h
  exact (ne_of_none e h').symm
theorem erase_perm {α : Type} : ∀ (l : List α) (i : Nat) (h : i < l.length), (l[i] :: l.eraseIdx i).Perm l
  | x :: l, 0, _ => List.Perm.refl _
  | x :: l, i + 1, h => by
    have h2 : i < l.length := by simpa using h
    have ih := erase_perm l i h2
    show (l[i] :: x :: l.eraseIdx i).Perm (x :: l)
    exact (List.Perm.swap _ _ _).trans (List.Perm.cons _ ih)
theorem eraseIdx_map_ {α β : Type} (f : α → β) : ∀ (l : List α) (i : Nat), (l.map f).eraseIdx i = (l.eraseIdx i).map f
  | [], _ => rfl
  | x :: l, 0 => rfl
  | x :: l, i + 1 => by
    show f x :: (l.map f).eraseIdx i = f x :: (l.eraseIdx i).map f
    rw [eraseIdx_map_ f l i]
/-! _law_steps -/
theorem sc56 : FnScope ["_law_state", "_law_columns", "_law_most", "_law_left", "_law_got", "_law_k", "_law_column"] ["_law_state", "_law_columns", "_law_most"] (defScope (top 56)) := ⟨rfl, rfl, rfl, by decide +kernel, rfl, by decide +kernel, by decide +kernel⟩
/-- steps over the columns ks -/
structure StepsOf (ks : List Int) (ix : List (Int × Str)) : Prop where
  perm : ∃ rest, (ix.map (·.1) ++ rest).Perm ks
  ways : ∀ p ∈ ix, p.2 = "up" ∨ p.2 = "down"
def spSteps (K : PySem.W.Frag) : Sp := fun vs H Q _ => ∃ (st cl ll a : Addr) (n : Nat) (ks : List Int) (most : Int), vs = [.ref st, .ref a, .int most] ∧ StOk H st cl ll n ∧ n ≤ 3900 ∧ H a = some (.lst (ks.map V.int)) ∧ ks.length ≤ 8 ∧ 0 ≤ most ∧ most < 1000 ∧
  ∀ H' x ix, StepsOf ks ix → Dp K H' x (dX ix) → Aft st cl ll (n + 17) H H' → Q x H'
theorem cal_steps (D : Dfn K mg (top 56) "_law_steps") (Z : Fre mg) (CD : Cal P w K mg base Nx0 2 "_law_draw" ["_law_state", "_law_many"] spDraw) : Cal P w K mg base Nx0 3 "_law_steps" ["_law_state", "_law_columns", "_law_most"] (spSteps K) := by
  refine D.cal0 sc56 (fun _ _ _ _ _ _ us hl => match us, hl with | [_, _, _], _ => rfl) (fun vs H Q E ⟨_, _, _, _, _, _, _, h, _⟩ => by rw [h]; rfl) fun f cdv A outer s H vs Q E hr h => ?_
  obtain ⟨st, cl, ll, a, n, ks, most, rfl, hst, hn, ha, l0, m0, m1, q⟩ := h
  have nd := sc56.nd
  refine ⟨_, pss_cons (ps_par (i := 3) (j := 4) rfl nd rfl rfl (by decide) rfl rfl (pa_cons (pe_callTy call_list_of (by rfl) Z.list (by decide +kernel) (pa_cons (pv 1) pa_nil)) (pa_cons (pe_lst pa_nil) pa_nil)) (by rfl))
    (pss_cons (ps_for PassesOwn.never rfl (pi_range1 (by rfl) Z.range (pa_cons (pe_cn CD hr (pa_cons (pv 0) (pa_cons (pe_op op_add pe_int (pe_callB (call_min2 rfl) (by rfl) Z.min (by decide +kernel) (pa_cons (pv 2) (pa_cons (pe_callB call_len_seq (by rfl) Z.len PySem.boot_len (pa_cons (pv 3) pa_nil)) pa_nil)))) pa_nil))) pa_nil)) (pg_name (i := 5) nd rfl (.inl rfl))
      (pss_cons (ps_set (i := 6) nd rfl (.inl rfl) (pe_bm PySem.F.plainAttrs_list PySem.F.slot_list_pop PySem.F.type_list_pop mt_popAt (pv 3) (pa_cons (pe_cn CD hr (pa_cons (pv 0) (pa_cons (pe_callB call_len_seq (by rfl) Z.len PySem.boot_len (pa_cons (pv 3) pa_nil)) pa_nil))) pa_nil)))
      (pss_one (ps_expr (pe_bm PySem.F.plainAttrs_list PySem.F.slot_list_append PySem.F.type_list_append mt_append (pv 4) (pa_cons (pe_tup (pa_cons (pv 6) (pa_cons (pe_ix ix_list (pe_lst (pa_cons pe_str (pa_cons pe_str pa_nil))) (pe_cn CD hr (pa_cons (pv 0) (pa_cons pe_int pa_nil))) (fun _ _ => rfl)) pa_nil))) pa_nil))))))
    (pss_one (ps_ret (pe_callTy call_tuple_of (by rfl) Z.tuple (by decide +kernel) (pa_cons (pv 4) pa_nil))))), ?_⟩
  refine ⟨_, rfl, _, _, rfl, .inl (SqL.of ha), fun lf hlf => ?_⟩
  refine ⟨by decide, fun gt hgt => ?_⟩
  refine ⟨_, _, rfl, ?_⟩
  have s1 : Same H (upd (upd H lf (.lst (ks.map V.int))) gt (.lst [])) := (same_new hlf).trans (same_new hgt)
  have hlf1 : upd (upd H lf (.lst (ks.map V.int))) gt (.lst []) lf = some (.lst (ks.map V.int)) := same_new hgt _ _ upd_same
  have nlg : lf ≠ gt := fun z => by rw [← z, upd_same] at hgt; cases hgt
  have hgt0 : H gt = none := same_none (same_new hlf) hgt
  have a1 : Aft st cl ll n H (upd (upd H lf (.lst (ks.map V.int))) gt (.lst [])) := (Aft.refl hst).same s1
  refine ⟨_, rfl, _, rfl, _, rfl, _, _, rfl, .inl (SqL.of hlf1), _, _, rfl, _, _, rfl, rfl, ?_⟩
  refine ⟨st, cl, ll, n, _, rfl, a1.ok, by omega, ?_, ?_, fun H1 r r0 r1 af => ?_⟩
  · rw [List.length_map]; split <;> omega
  · rw [List.length_map]; split <;> omega
  have hr1 : r.toNat ≤ ks.length := by
    rw [List.length_map] at r1
    split at r1 <;> omega
  have a2 := a1.trans af
  have b1 : H1 lf = some (.lst (ks.map V.int)) := af.keep hlf1 (ne_of_none_ hst.soft.1 hlf) (ne_of_none_ hst.soft.2.2 hlf)
  have b2 : H1 gt = some (.lst []) := af.keep upd_same (ne_of_none_ hst.soft.1 hgt0) (ne_of_none_ hst.soft.2.2 hgt0)
  refine ⟨r, rfl, by omega, by omega, for_range (lo := 0) (n := r.toNat) (fun i σ H' => ∃ (kv cv : Option V) (ls : List Int) (gs : List (Int × Str)) (ys : List V), σ = [some (.ref st), some (.ref a), some (.int most), some (.ref lf), some (.ref gt), kv, cv] ∧
    H' lf = some (.lst (ls.map V.int)) ∧ H' gt = some (.lst ys) ∧ DpAll K H' ys (gs.map dS) ∧ (gs.map (·.1) ++ ls).Perm ks ∧ gs.length = i ∧ (∀ p ∈ gs, p.2 = "up" ∨ p.2 = "down") ∧ Aft st cl ll (n + 1 + 2 * i) H H')
    ⟨none, none, ks, [], [], rfl, b1, b2, .nil, List.Perm.refl _, rfl, fun _ h => (by cases h), a2⟩ ?_ ?_⟩
  · rintro i σ H' hi ⟨kv, cv, ls, gs, ys, rfl, c1, c2, c3, c4, c5, c6, c7⟩
    have hlen : gs.length + ls.length = ks.length := by
      have := c4.length_eq
      rw [List.length_append, List.length_map] at this
      exact this
    refine ⟨_, rfl, .inl ⟨rfl, _, SqL.of c1⟩, _, rfl, _, rfl, _, _, rfl, .inl (SqL.of c1), ?_⟩
    refine ⟨st, cl, ll, n + 1 + 2 * i, _, rfl, c7.ok, by omega, by rw [List.length_map]; omega, by rw [List.length_map]; omega, fun H2 z z0 z1 af2 => ?_⟩
    have a3 := c7.trans af2
    have d1 : H2 lf = some (.lst (ls.map V.int)) := af2.keep c1 (ne_of_none_ hst.soft.1 hlf) (ne_of_none_ hst.soft.2.2 hlf)
    have d2 : H2 gt = some (.lst ys) := af2.keep c2 (ne_of_none_ hst.soft.1 hgt0) (ne_of_none_ hst.soft.2.2 hgt0)
    have d3 : DpAll K H2 ys (gs.map dS) := dpAll_kt af2.kt _ _ (tonly_all tonly_dS gs) c3
    rw [List.length_map] at z1
    obtain ⟨j, rfl⟩ : ∃ j : Nat, z = j := ⟨z.toNat, by omega⟩
    have hj : j < ls.length := by omega
    have hx : (ls.map V.int)[j]? = some (V.int ls[j]) := by rw [List.getElem?_map, List.getElem?_eq_getElem hj]; rfl
    refine ⟨lf, _, _, j, _, rfl, rfl, d1, by omega, by omega, ?_, hx, ?_⟩
    · rw [List.length_map]
      exact (ixN_seq (by unfold ixN; rw [if_pos (by omega), if_pos (by omega), Int.toNat_natCast])).1
    have e1 : upd H2 lf (.lst ((ls.map V.int).eraseIdx j)) gt = some (.lst ys) := by rw [upd_ne nlg.symm]; exact d2
    have a4 := a3.out (o := .lst ((ls.map V.int).eraseIdx j)) hst hlf d1 Soft.lst
    have k4 : KT H2 (upd H2 lf (.lst ((ls.map V.int).eraseIdx j))) := KT.upd d1 Soft.lst
    refine ⟨_, rfl, .inl ⟨rfl, _, SqL.of e1⟩, _, rfl, by show 2 ≤ sizeLine; decide, fun tw htw => ?_⟩
    refine ⟨_, rfl, st, cl, ll, n + 1 + 2 * i + 1, 2, rfl, (a4.new htw).ok, by omega, by decide, by decide, fun H3 z z0 z1 af3 => ?_⟩
    have a5 := (a4.new htw).trans af3
    have htw0 : H2 tw = none := by
      cases q : H2 tw with
      | none => rfl
      | some o =>
        by_cases h : tw = lf
        · rw [h, upd_same] at htw; cases htw
        · rw [upd_ne h, q] at htw; cases htw
    have ntl : tw ≠ st ∧ tw ≠ ll := by
      obtain ⟨⟨_, u1, _⟩, _, ⟨_, u3, _⟩⟩ := a3.ok.soft
      exact ⟨(ne_of_none u1 htw0).symm, (ne_of_none u3 htw0).symm⟩
    have f1 : H3 tw = some (.lst [.str "up", .str "down"]) := af3.keep upd_same ntl.1 ntl.2
    obtain ⟨jz, way, ez, hw1, hw2, hw3⟩ := atI_of (l := [V.str "up", V.str "down"]) z0 (by exact z1)
    refine ⟨tw, _, _, way, rfl, rfl, SqL.of f1, hw2, by show 2 ≤ sizeLine; decide, fun tp htp => ?_⟩
    obtain ⟨wy, rfl, hwy⟩ : ∃ wy : Str, way = .str wy ∧ (wy = "up" ∨ wy = "down") := by
      rcases List.mem_cons.mp hw3 with h | h
      · exact ⟨_, h, .inl rfl⟩
      · rcases List.mem_cons.mp h with h | h
        · exact ⟨_, h, .inr rfl⟩
        · cases h
    have g1 : H3 gt = some (.lst ys) := af3.keep (same_new htw _ _ e1) (ne_of_none_ hst.soft.1 hgt0) (ne_of_none_ hst.soft.2.2 hgt0)
    have g2 : H3 lf = some (.lst ((ls.map V.int).eraseIdx j)) := af3.keep (same_new htw _ _ upd_same) (ne_of_none_ hst.soft.1 hlf) (ne_of_none_ hst.soft.2.2 hlf)
    have kk : KT H2 H3 := k4.trans ((KT.new htw).trans af3.kt)
    have g1' := same_new (o := .tup [V.int ls[j], V.str wy]) htp _ _ g1
    have g2' := same_new (o := .tup [V.int ls[j], V.str wy]) htp _ _ g2
    have hys : ys.length = gs.length := by rw [dpAll_len d3, List.length_map]
    refine ⟨gt, ys, _, rfl, rfl, g1', lt_line (by omega), ?_⟩
    have a6 := (a5.new (o := .tup [V.int ls[j], V.str wy]) htp)
    have a7 := a6.out (o := .lst (ys ++ [V.ref tp])) hst hgt0 g1' Soft.lst
    have k7 : KT H2 (upd (upd H3 tp (.tup [V.int ls[j], V.str wy])) gt (.lst (ys ++ [V.ref tp]))) := (kk.trans (KT.new htp)).trans (KT.upd g1' Soft.lst)
    have ntg : tp ≠ gt := fun h => by rw [← h, htp] at g1; cases g1
    refine ⟨_, _, ls.eraseIdx j, gs ++ [(ls[j], wy)], ys ++ [V.ref tp], rfl, ?_, upd_same, ?_, ?_, ?_, ?_, ?_⟩
    · rw [upd_ne nlg, g2', eraseIdx_map_]
    · rw [List.map_append]
      refine dpAll_app (dpAll_kt k7 _ _ (tonly_all tonly_dS gs) d3) (.cons (.tup (SqT.of (by rw [upd_ne ntg, upd_same])) (.cons (.int _) (.cons (.str _) .nil))) .nil)
    · rw [List.map_append, List.append_assoc]
      refine (List.Perm.append_left _ ?_).trans c4
      exact erase_perm ls j hj
    · rw [List.length_append, c5]; rfl
    · intro p hp
      rcases List.mem_append.mp hp with h | h
      · exact c6 p h
      · rcases List.mem_cons.mp h with h | h
        · rw [h]; exact hwy
        · cases h
    · exact a7
  · rintro σ H' ⟨kv, cv, ls, gs, ys, rfl, c1, c2, c3, c4, c5, c6, c7⟩
    refine ⟨_, rfl, _, _, rfl, .inl ⟨SqL.of c2, fun l hl => ?_⟩⟩
    exact q _ _ gs ⟨⟨ls, c4⟩, c6⟩ (.tup (SqT.of upd_same) (dpAll_kt (KT.new hl) _ _ (tonly_all tonly_dS gs) c3)) ((c7.new hl).mono (by omega))
/-! _law_index -/
theorem sc57 : FnScope ["_law_state", "_law_columns", "_law_got"] ["_law_state", "_law_columns"] (defScope (top 57)) := ⟨rfl, rfl, rfl, by decide +kernel, rfl, by decide +kernel, by decide +kernel⟩
/-- an index over c columns -/
structure IndexOk (c : Int) (ix : List (Int × Str)) : Prop where
  ne : ix ≠ []
  len : ix.length ≤ 3
  nd : (ix.map (·.1)).Nodup
  cols : ∀ p ∈ ix, 0 ≤ p.1 ∧ p.1 < c
  ways : ∀ p ∈ ix, p.2 = "up" ∨ p.2 = "down"
def upto (n : Nat) : List Int := (List.range n).map fun (i : Nat) => (0 + (i : Int) : Int)
theorem upto_nd (n : Nat) : (upto n).Nodup := List.Pairwise.map _ (fun a b h e => h (by omega)) List.nodup_range
theorem upto_mem {n : Nat} {z : Int} (h : z ∈ upto n) : 0 ≤ z ∧ z < n := by
  obtain ⟨i, hi, rfl⟩ := List.mem_map.mp h
  have := List.mem_range.mp hi
  omega
theorem upto_len (n : Nat) : (upto n).length = n := by unfold upto; rw [List.length_map, List.length_range]
theorem rgV_upto (c : Int) : rgV 0 c = (upto c.toNat).map V.int := by
  unfold rgV upto
  rw [List.map_map, Int.sub_zero]
  rfl
def spIndex (K : PySem.W.Frag) : Sp := fun vs H Q _ => ∃ (st cl ll : Addr) (n : Nat) (c : Int), vs = [.ref st, .int c] ∧ StOk H st cl ll n ∧ n ≤ 3800 ∧ 1 ≤ c ∧ c ≤ 3 ∧ ∀ H' x ix, IndexOk c ix → Dp K H' x (dX ix) → Aft st cl ll (n + 18) H H' → Q x H'
theorem eqv_dX_nil (ix : List (Int × Str)) : PyData.eqv (dX ix) (.tuple []) = decide (ix = []) := eqv_dX ix []
theorem strs_ok {x : Str} (h : x = "up" ∨ x = "down") : x ∈ (["up", "down", "row", "key", "number", "index", "broken", "missing", "left"] : List Str) := by
  rcases h with rfl | rfl <;> decide
theorem nice_dX {ix : List (Int × Str)} (hw : ∀ p ∈ ix, p.2 = "up" ∨ p.2 = "down") (hc : ∀ p ∈ ix, p.1.natAbs < 1000) : nice (dX ix) = true := by
  unfold dX
  rw [nice]
  refine nice_map fun p hp => ?_
  unfold dS
  rw [nice, niceAll, niceAll, niceAll, nice, nice, decide_eq_true (hc p hp), decide_eq_true (strs_ok (hw p hp))]
  rfl
theorem depth_dX (ix : List (Int × Str)) : (dX ix).depth ≤ 2 := by
  unfold dX
  rw [PyData.depth]
  have : PyData.depthAll (ix.map dS) ≤ 1 := depth_map fun p _ => by unfold dS; simp [PyData.depth, PyData.depthAll]
  omega
theorem steps_index {c : Int} {ix : List (Int × Str)} (h : StepsOf (upto c.toNat) ix) (h1 : 1 ≤ c) (h3 : c ≤ 3) : ix.length ≤ 3 ∧ (ix.map (·.1)).Nodup ∧ ∀ p ∈ ix, 0 ≤ p.1 ∧ p.1 < c := by
  obtain ⟨rest, hp⟩ := h.perm
  refine ⟨?_, ?_, fun p hp' => ?_⟩
  · have := hp.length_eq
    rw [List.length_append, List.length_map, upto_len] at this
    omega
  · exact (List.nodup_append.mp (hp.nodup_iff.mpr (upto_nd _))).1
  · have := upto_mem (hp.mem_iff.mp (List.mem_append_left rest (List.mem_map_of_mem (f := (·.1)) hp')))
    omega
theorem cal_index (D : Dfn K mg (top 57) "_law_index") (Z : Fre mg) (CD : Cal P w K mg base Nx0 2 "_law_draw" ["_law_state", "_law_many"] spDraw) (CS : Cal P w K mg base Nx0 3 "_law_steps" ["_law_state", "_law_columns", "_law_most"] (spSteps K)) :
    Cal P w K mg base Nx0 4 "_law_index" ["_law_state", "_law_columns"] (spIndex K) := by
  refine D.cal0 sc57 (fun _ _ _ _ _ _ us hl => match us, hl with | [_, _], _ => rfl) (fun vs H Q E ⟨_, _, _, _, _, h, _⟩ => by rw [h]; rfl) fun f cdv A outer s H vs Q E hr h => ?_
  obtain ⟨st, cl, ll, n, c, rfl, hst, hn, c1, c3, q⟩ := h
  have nd := sc57.nd
  have hu := hr.units
  refine ⟨_, pss_cons (ps_set (i := 2) nd rfl (.inl rfl) (pe_cn CS hr (pa_cons (pv 0) (pa_cons (pe_listRg rfl (by rfl) Z.list (prg_1 (by rfl) Z.range (pv 1))) (pa_cons (pv 1) pa_nil)))))
    (pss_one (ps_ret (pe_ifExp (pt_cmpR (op_neD hu) (pv 2) (pe_tup pa_nil) (nomark _)) (pv 2) (pe_tup (pa_cons (pe_tup (pa_cons (pe_cn CD (hr.mono (by decide)) (pa_cons (pv 0) (pa_cons (pv 1) pa_nil))) (pa_cons pe_str pa_nil))) pa_nil))))), ?_⟩
  refine ⟨_, rfl, _, rfl, c, rfl, RgOk.of_le (by omega) (by omega) (by omega) (by omega), fun p hp => ?_⟩
  have a1 := (Aft.refl hst).new (o := .lst (rgV 0 c)) hp
  refine ⟨_, rfl, st, cl, ll, p, n, upto c.toNat, c, rfl, a1.ok, by omega, by rw [upd_same, rgV_upto], by rw [upto_len]; omega, by omega, by omega, fun H1 x ix hs hx af => ?_⟩
  have a2 := a1.trans af
  obtain ⟨i1, i2, i3⟩ := steps_index hs c1 c3
  refine ⟨_, rfl, by decide, fun p2 hp2 => ?_⟩
  have hx2 := dp_kt (KT.new (o := .tup []) hp2) (dX ix) x (tonly_dX ix) hx
  have ni : nice (dX ix) = true := nice_dX hs.ways fun p hp => by have := i3 p hp; omega
  have a3 := a2.new (o := .tup []) hp2
  refine ⟨_, .tuple [], hx2, .tup (SqT.of upd_same) .nil, shaped_of ni (by have := depth_dX ix; omega), rfl, _, rfl, ?_⟩
  rw [eqv_dX_nil]
  by_cases e : ix = []
  · refine itF (by simp [e]) ?_
    refine ⟨_, rfl, _, rfl, st, cl, ll, n + 17, c, rfl, a3.ok, by omega, by omega, by omega, fun H2 r r0 r1 af2 => ?_⟩
    refine ⟨by show 2 ≤ sizeLine; decide, fun p3 hp3 => ⟨by show 1 ≤ sizeLine; decide, fun p4 hp4 => ?_⟩⟩
    refine q _ _ [(r, "up")] ⟨by simp, by simp, by simp, fun p hp => ?_, fun p hp => ?_⟩ (.tup (SqT.of upd_same) (.cons (.tup (SqT.of (same_new hp4 _ _ upd_same)) (.cons (.int r) (.cons (.str _) .nil))) .nil)) (((a3.trans af2).new hp3).new hp4)
    · rcases List.mem_cons.mp hp with h | h
      · rw [h]; exact ⟨r0, r1⟩
      · cases h
    · rcases List.mem_cons.mp hp with h | h
      · rw [h]; exact .inl rfl
      · cases h
  · refine itT (by simp [e]) ?_
    exact ⟨_, rfl, q _ _ ix ⟨e, i1, i2, i3, hs.ways⟩ hx2 (a3.mono (by omega))⟩
/-! _law_lot, _law_row -/
theorem sc60 : FnScope ["_law_state", "_law_columns", "_law_column"] ["_law_state", "_law_columns"] (defScope (top 60)) := ⟨rfl, rfl, rfl, by decide +kernel, rfl, by decide +kernel, by decide +kernel⟩
structure LotOk (c : Int) (ks : List Int) : Prop where
  asc : ks.Pairwise (· < ·)
  cols : ∀ z ∈ ks, 0 ≤ z ∧ z < c
def spLot (K : PySem.W.Frag) : Sp := fun vs H Q _ => ∃ (st cl ll : Addr) (n : Nat) (c : Int), vs = [.ref st, .int c] ∧ StOk H st cl ll n ∧ n ≤ 3800 ∧ 1 ≤ c ∧ c ≤ 3 ∧ ∀ H' x ks, LotOk c ks → Dp K H' x (dL ks) → Aft st cl ll (n + 3) H H' → Q x H'
theorem cal_lot (D : Dfn K mg (top 60) "_law_lot") (Z : Fre mg) (CD : Cal P w K mg base Nx0 2 "_law_draw" ["_law_state", "_law_many"] spDraw) : Cal P w K mg base Nx0 3 "_law_lot" ["_law_state", "_law_columns"] (spLot K) := by
  refine D.cal0 sc60 (fun _ _ _ _ _ _ us hl => match us, hl with | [_, _], _ => rfl) (fun vs H Q E ⟨_, _, _, _, _, h, _⟩ => by rw [h]; rfl) fun f cdv A outer s H vs Q E hr h => ?_
  obtain ⟨st, cl, ll, n, c, rfl, hst, hn, c1, c3, q⟩ := h
  have nd := sc60.nd
  refine ⟨_, pss_one (ps_ret (pe_callTy call_tuple_of (by rfl) Z.tuple (by decide +kernel) (pa_cons (pe_lc (own := [("_law_column", 2)]) (g := gName 2) rfl nd (pi_range1 (by rfl) Z.range (pa_cons (pv 1) pa_nil)) (blkOk_by (N := ["_law_state", "_law_columns", "_law_column"]) (sc := defScope (top 60)) (by decide +kernel)) (fun _ _ _ _ _ => pg_name (i := 2) nd rfl (Or.inl rfl))
    (fun _ _ _ _ _ => pts_one (pt_cmpR op_eq (pe_cn CD hr (pa_cons (pv 0) (pa_cons pe_int pa_nil))) pe_int (nomark _))) (fun _ _ _ _ _ => pv 2)) pa_nil))), ?_⟩
  refine ⟨_, rfl, c, rfl, by omega, by omega, fun D hD => ?_⟩
  refine lc_range (lo := 0) (n := c.toNat) (fun i H' => ∃ ks : List Int, H' D = some (.lst (ks.map V.int)) ∧ ks.Pairwise (· < ·) ∧ (∀ z ∈ ks, 0 ≤ z ∧ z < i) ∧ ks.length ≤ i ∧ Aft st cl ll (n + i) H H') ⟨[], upd_same, .nil, fun z h => (by cases h), Nat.le_refl _, (Aft.refl hst).new hD⟩ ?_ ?_
  · rintro i H' hi ⟨ks, k1, k2, k3, k4, af⟩
    refine ⟨rfl, ?_⟩
    refine ⟨_, rfl, st, cl, ll, n + i, 2, rfl, af.ok, by omega, by decide, by decide, fun H2 r r0 r1 af2 => ?_⟩
    have a2 := af.trans af2
    have kD : H2 D = some (.lst (ks.map V.int)) := af2.keep k1 (ne_of_none_ hst.soft.1 hD) (ne_of_none_ hst.soft.2.2 hD)
    refine ⟨rfl, _, rfl, ?_⟩
    by_cases e : V.int r = V.int 0
    · refine itT (decide_eq_true e) ⟨_, rfl, _, kD, lt_line (by rw [List.length_map]; omega), ks ++ [0 + (i : Int)], by rw [upd_same, List.map_append]; rfl, ?_, ?_, ?_, (a2.out hst hD kD Soft.lst).mono (by omega)⟩
      · refine List.pairwise_append.mpr ⟨k2, List.pairwise_singleton _ _, fun x hx y hy => ?_⟩
        have := k3 x hx
        rcases List.mem_cons.mp hy with h | h
        · rw [h]; omega
        · cases h
      · intro z hz
        rcases List.mem_append.mp hz with h | h
        · have := k3 z h; omega
        · rcases List.mem_cons.mp h with h | h
          · rw [h]; omega
          · cases h
      · rw [List.length_append]
        have : ([0 + (i : Int)] : List Int).length = 1 := rfl
        omega
    · refine itF (decide_eq_false e) ⟨ks, kD, k2, fun z hz => ?_, by omega, a2.mono (by omega)⟩
      have := k3 z hz
      omega
  · rintro H' ⟨ks, k1, k2, k3, k4, af⟩
    refine ⟨_, _, rfl, .inl ⟨SqL.of k1, fun l hl => ?_⟩⟩
    exact q _ _ ks ⟨k2, fun z hz => by have := k3 z hz; omega⟩ (.tup (SqT.of upd_same) (dpAll_ints ks)) ((af.new hl).mono (by omega))
theorem sc61 : FnScope ["_law_state", "_law_columns", "_law_wide", "_law_column"] ["_law_state", "_law_columns", "_law_wide"] (defScope (top 61)) := ⟨rfl, rfl, rfl, by decide +kernel, rfl, by decide +kernel, by decide +kernel⟩
structure RowOk (c : Int) (r : List Int) : Prop where
  len : (r.length : Int) = c
  small : ∀ z ∈ r, -1 ≤ z ∧ z ≤ 1
def spRow (K : PySem.W.Frag) : Sp := fun vs H Q _ => ∃ (st cl ll : Addr) (n : Nat) (c : Int), vs = [.ref st, .int c, .int 3] ∧ StOk H st cl ll n ∧ n ≤ 3800 ∧ 1 ≤ c ∧ c ≤ 3 ∧ ∀ H' x r, RowOk c r → Dp K H' x (dL r) → Aft st cl ll (n + 3) H H' → Q x H'
theorem cal_row (D : Dfn K mg (top 61) "_law_row") (Z : Fre mg) (CD : Cal P w K mg base Nx0 2 "_law_draw" ["_law_state", "_law_many"] spDraw) : Cal P w K mg base Nx0 3 "_law_row" ["_law_state", "_law_columns", "_law_wide"] (spRow K) := by
  refine D.cal0 sc61 (fun _ _ _ _ _ _ us hl => match us, hl with | [_, _, _], _ => rfl) (fun vs H Q E ⟨_, _, _, _, _, h, _⟩ => by rw [h]; rfl) fun f cdv A outer s H vs Q E hr h => ?_
  obtain ⟨st, cl, ll, n, c, rfl, hst, hn, c1, c3, q⟩ := h
  have nd := sc61.nd
  refine ⟨_, pss_one (ps_ret (pe_callTy call_tuple_of (by rfl) Z.tuple (by decide +kernel) (pa_cons (pe_lc (own := [("_law_column", 3)]) (g := gName 3) (tt := tYes) rfl nd (pi_range1 (by rfl) Z.range (pa_cons (pv 1) pa_nil)) (blkOk_by (N := ["_law_state", "_law_columns", "_law_wide", "_law_column"]) (sc := defScope (top 61)) (by decide +kernel)) (fun _ _ _ _ _ => pg_name (i := 3) nd rfl (Or.inl rfl))
    (fun _ _ _ _ _ => pts_nil) (fun _ _ _ _ _ => pe_op op_sub (pe_cn CD hr (pa_cons (pv 0) (pa_cons (pv 2) pa_nil))) pe_int)) pa_nil))), ?_⟩
  refine ⟨_, rfl, c, rfl, by omega, by omega, fun D hD => ?_⟩
  refine lc_range (lo := 0) (n := c.toNat) (fun i H' => ∃ ks : List Int, H' D = some (.lst (ks.map V.int)) ∧ (∀ z ∈ ks, -1 ≤ z ∧ z ≤ 1) ∧ ks.length = i ∧ Aft st cl ll (n + i) H H') ⟨[], upd_same, fun z h => (by cases h), rfl, (Aft.refl hst).new hD⟩ ?_ ?_
  · rintro i H' hi ⟨ks, k1, k3, k4, af⟩
    refine ⟨rfl, yesK ?_⟩
    refine ⟨_, rfl, _, rfl, st, cl, ll, n + i, 3, rfl, af.ok, by omega, by decide, by decide, fun H2 r r0 r1 af2 => ?_⟩
    have a2 := af.trans af2
    have kD : H2 D = some (.lst (ks.map V.int)) := af2.keep k1 (ne_of_none_ hst.soft.1 hD) (ne_of_none_ hst.soft.2.2 hD)
    refine ⟨_, _, rfl, rfl, _, kD, lt_line (by rw [List.length_map]; omega), ks ++ [r - 1], by rw [upd_same, List.map_append]; rfl, ?_, ?_, (a2.out hst hD kD Soft.lst).mono (by omega)⟩
    · intro z hz
      rcases List.mem_append.mp hz with h | h
      · exact k3 z h
      · rcases List.mem_cons.mp h with h | h
        · rw [h]; omega
        · cases h
    · rw [List.length_append, k4]; rfl
  · rintro H' ⟨ks, k1, k3, k4, af⟩
    refine ⟨_, _, rfl, .inl ⟨SqL.of k1, fun l hl => ?_⟩⟩
    exact q _ _ ks ⟨by omega, k3⟩ (.tup (SqT.of upd_same) (dpAll_ints ks)) ((af.new hl).mono (by omega))
end
end K25
end

section
-- BPure
set_option Elab.async false
set_option linter.all false
set_option maxRecDepth 100000
set_option maxHeartbeats 4000000
set_option autoImplicit false
/-! The checks: what is good is found good. -/
namespace K25
open PySem PySem.Spec PyProof.Rows L2
section
variable {K : PySem.W.Frag} {H : Hp} {a : Addr} {xs : List V}
theorem sIx_some (n d j : Nat) : HT.sIx n d (some (j : Int)) = min j n := by
  unfold HT.sIx
  simp only
  split <;> omega
theorem cut_from (xs : List V) (j : Nat) : cutV xs (some (j : Int)) none = xs.drop j := by
  unfold cutV
  rw [sIx_some]
  show (xs.drop (min j xs.length)).take (xs.length - min j xs.length) = _
  by_cases h : j ≤ xs.length
  · rw [Nat.min_eq_left h]
    exact List.take_of_length_le (by rw [List.length_drop]; exact Nat.le_refl _)
  · rw [Nat.min_eq_right (by omega), List.drop_of_length_le (Nat.le_refl _), List.drop_of_length_le (by omega)]
    simp
theorem cut_to (xs : List V) (j : Nat) : cutV xs none (some (j : Int)) = xs.take j := by
  unfold cutV
  rw [sIx_some]
  show (xs.drop 0).take (min j xs.length - 0) = _
  rw [List.drop_zero, Nat.sub_zero]
  by_cases h : j ≤ xs.length
  · rw [Nat.min_eq_left h]
  · rw [Nat.min_eq_right (by omega), List.take_of_length_le (Nat.le_refl _), List.take_of_length_le (by omega)]
theorem slA_from {Q : VK} (h : SqT K H a xs) (j : Nat) (q : ∀ p H', Same H H' → SqT K H' p (xs.drop j) → Q (.ref p) H') : rSlA K (.ref a) (some (j : Int)) none H Q := by
  refine ⟨a, xs, rfl, h, fun e => ?_, fun _ p hp => ?_⟩
  · refine q a H (Same.refl H) ?_
    have e1 : min j xs.length = 0 := by rw [← sIx_some xs.length 0 j]; exact e.1
    have e2 : xs.drop j = xs := by
      by_cases hj : j = 0
      · rw [hj]; rfl
      · have : xs = [] := List.length_eq_zero_iff.mp (by omega)
        rw [this]; simp
    rw [e2]; exact h
  · rw [cut_from]
    exact q p _ (same_new hp) (SqT.of upd_same)
theorem slA_to {Q : VK} (h : SqT K H a xs) (j : Nat) (q : ∀ p H', Same H H' → SqT K H' p (xs.take j) → Q (.ref p) H') : rSlA K (.ref a) none (some (j : Int)) H Q := by
  refine ⟨a, xs, rfl, h, fun e => ?_, fun _ p hp => ?_⟩
  · refine q a H (Same.refl H) ?_
    have e1 : min j xs.length = xs.length := by rw [← sIx_some xs.length xs.length j]; exact e.2
    rw [List.take_of_length_le (by omega)]; exact h
  · rw [cut_to]
    exact q p _ (same_new hp) (SqT.of upd_same)
theorem sqT_ty (h : SqT K H a xs) : TyX K H (.ref a) (.type "tuple") := by
  rcases h with (h | ⟨o, h⟩) | ⟨o, its, n, h, hc, _⟩
  · exact .base (.tup h)
  · exact .fTuple h
  · exact .kTuple h hc
theorem walk_zipT {b : Addr} {ys : List V} {n : Nat} (hn : n = min xs.length ys.length) : Walk (RZ.ItzT K a b) n (fun H => SqT K H a xs ∧ SqT K H b ys) (YPair (fun i => xs[i]?) (fun i => ys[i]?)) := by
  subst hn
  refine ⟨fun i _ hi q => ?_, fun _ q => ⟨xs, ys, q.1, q.2, by omega⟩, fun i H v H' _ q y => ?_⟩
  · have h1 : i < xs.length := by omega
    have h2 : i < ys.length := by omega
    exact ⟨xs, ys, xs[i], ys[i], q.1, q.2, by simp [h1], by simp [h2]⟩
  · obtain ⟨T, x, z, h1, h2, h3, h4, h5⟩ := y
    exact ⟨T, x, z, h1, h2, h3, h4 xs q.1, h5 ys q.2⟩
theorem sqT_same {H' : Hp} (h : SqT K H a xs) (e : Same H H') : SqT K H' a xs := SqT.kt (KT.same e) h
end
section
variable {P : Program} {w : World} {K : PySem.W.Frag} {mg : Str → Option Value} {base : Heap}
/-! is_integer, is_between -/
theorem sc21 : FnScope ["thing"] ["thing"] (defScope (top 21)) := ⟨rfl, rfl, rfl, by decide +kernel, rfl, by decide +kernel, by decide +kernel⟩
def spInt : Sp := fun vs H Q _ => ∃ n : Int, vs = [.int n] ∧ Q (.bl true) H
theorem cal_int (D : Dfn K mg (top 21) "is_integer") (Z : Fre mg) : Cal P w K mg base Nx0 1 "is_integer" ["thing"] spInt := by
  refine D.cal0 sc21 (fun _ _ _ _ _ _ us hl => match us, hl with | [_], _ => rfl) (fun vs H Q E ⟨_, h, _⟩ => by rw [h]; rfl) fun f cdv A outer s H vs Q E hr h => ?_
  obtain ⟨n, rfl, q⟩ := h
  refine ⟨_, pss_one (ps_ret (pe_and (pe_callB call_isi (by rfl) Z.isinstance (by decide +kernel) (pa_cons (pv 0) (pa_cons (pe_bltn (v := .ty "int") (by rfl) Z.int (by decide +kernel) rfl) pa_nil)))
    (pe_one (pe_not (pe_callB call_isi (by rfl) Z.isinstance (by decide +kernel) (pa_cons (pv 0) (pa_cons (pe_bltn (v := .ty "bool") (by rfl) Z.bool (by decide +kernel) rfl) pa_nil))))))), ?_⟩
  refine ⟨_, rfl, _, _, _, _, true, rfl, .ty _, .base (.int n), kit_ty (by decide +kernel), true, rfl, itT rfl ?_⟩
  refine ⟨_, rfl, _, _, _, _, false, rfl, .ty _, .base (.int n), kit_ty (by decide +kernel), false, rfl, q⟩
theorem sc22 : FnScope ["thing", "least", "most"] ["thing", "least", "most"] (defScope (top 22)) := ⟨rfl, rfl, rfl, by decide +kernel, rfl, by decide +kernel, by decide +kernel⟩
def spBtw : Sp := fun vs H Q _ => ∃ n l m : Int, vs = [.int n, .int l, .int m] ∧ Q (.bl (decide (l ≤ n ∧ n ≤ m))) H
theorem cal_btw (D : Dfn K mg (top 22) "is_between") (CI : Cal P w K mg base Nx0 1 "is_integer" ["thing"] spInt) : Cal P w K mg base Nx0 2 "is_between" ["thing", "least", "most"] spBtw := by
  refine D.cal0 sc22 (fun _ _ _ _ _ _ us hl => match us, hl with | [_, _, _], _ => rfl) (fun vs H Q E ⟨_, _, _, h, _⟩ => by rw [h]; rfl) fun f cdv A outer s H vs Q E hr h => ?_
  obtain ⟨n, l, m, rfl, q⟩ := h
  refine ⟨_, pss_one (ps_ret (pe_and (pe_cn CI hr (pa_cons (pv 0) pa_nil)) (pe_one (pe_chain op_le op_le (pv 1) (pv 0) (pv 2))))), ?_⟩
  refine ⟨_, rfl, n, rfl, true, rfl, itT rfl ?_⟩
  refine ⟨_, rfl, _, rfl, _, _, rfl, rfl, _, rfl, ?_⟩
  by_cases c : l ≤ n
  · refine itT (decide_eq_true c) ⟨_, rfl, _, _, rfl, rfl, ?_⟩
    have e : decide (l ≤ n ∧ n ≤ m) = decide (n ≤ m) := decide_eq_decide.mpr ⟨fun h => h.2, fun h => ⟨c, h⟩⟩
    rw [e] at q
    exact q
  · refine itF (decide_eq_false c) ?_
    have e : decide (l ≤ n ∧ n ≤ m) = false := decide_eq_false fun h => c h.1
    rw [e] at q
    exact q
/-! is_rising -/
theorem sc23 : FnScope ["some", "one", "other"] ["some"] (defScope (top 23)) := ⟨rfl, rfl, rfl, by decide +kernel, rfl, by decide +kernel, by decide +kernel⟩
def spRis (K : PySem.W.Frag) : Sp := fun vs H Q _ => ∃ (a : Addr) (ks : List Int), vs = [.ref a] ∧ (SqT K H a (ks.map V.int) ∨ SqL K H a (ks.map V.int)) ∧ ks.length ≤ 100 ∧ ks.Pairwise (· < ·) ∧ ∀ H', Same H H' → Q (.bl true) H'
theorem all_true (n : Nat) : (List.replicate n true).all id = true := by
  induction n with
  | zero => rfl
  | succ n ih => rw [List.replicate_succ, List.all_cons, ih]; rfl
theorem rep_more (n : Nat) : (List.replicate n true).map V.bl ++ [V.bl true] = (List.replicate (n + 1) true).map V.bl := by
  rw [List.replicate_succ', List.map_append]; rfl
/-- one more of all([..]) -/
theorem all_more {H0 H' : Hp} {D : Addr} {i : Nat} {b : Bool} (hb : b = true) (kD : H' D = some (.lst ((List.replicate i true).map V.bl))) (hi : i < 1000) (s : Same H0 H') (hD : H0 D = none) :
    ∃ acc, H' D = some (.lst acc) ∧ acc.length < sizeLine ∧ Same H0 (upd H' D (.lst (acc ++ [V.bl b]))) ∧ upd H' D (.lst (acc ++ [V.bl b])) D = some (.lst ((List.replicate (i + 1) true).map V.bl)) := by
  subst hb
  exact ⟨_, kD, lt_line (by rw [List.length_map, List.length_replicate]; omega), same_out s hD, by rw [upd_same, rep_more]⟩
theorem asc_at {ks : List Int} (h : ks.Pairwise (· < ·)) {i : Nat} {x y : Int} (hx : ks[i]? = some x) (hy : ks[i + 1]? = some y) : x < y := by
  obtain ⟨h1, e1⟩ := List.getElem?_eq_some_iff.mp hx
  obtain ⟨h2, e2⟩ := List.getElem?_eq_some_iff.mp hy
  have := (List.pairwise_iff_getElem.mp h) i (i + 1) h1 h2 (by omega)
  rw [e1, e2] at this
  exact this
theorem cal_ris (D : Dfn K mg (top 23) "is_rising") (Z : Fre mg) : Cal P w K mg base Nx0 1 "is_rising" ["some"] (spRis K) := by
  refine D.cal0 sc23 (fun _ _ _ _ _ _ us hl => match us, hl with | [_], _ => rfl) (fun vs H Q E ⟨_, _, h, _⟩ => by rw [h]; rfl) fun f cdv A outer s H vs Q E hr h => ?_
  obtain ⟨a, ks, rfl, hS, hl, ha, q⟩ := h
  have nd := sc23.nd
  refine ⟨_, pss_one (ps_ret (pe_callB (cr_all rfl) (by rfl) Z.all (by decide +kernel) (pa_cons (pe_lc (own := [("one", 1), ("other", 2)]) (g := gTup K 2 (gCons (gName 1) (gCons (gName 2) gNil))) (tt := tYes) rfl nd (RZ.pi_zipA (by rfl) Z.zip (pa_cons (pv 0) (pa_cons (pe_slice (sl_tupA.or sl_list) (pv 0) (po_some pe_int) po_none) pa_nil))) (blkOk_by (N := ["some", "one", "other"]) (sc := defScope (top 23)) (by decide +kernel))
    (fun _ _ _ _ _ => pg_tup rfl (pgs_cons (pg_name (i := 1) nd rfl (.inl rfl)) (pgs_cons (pg_name (i := 2) nd rfl (.inl rfl)) pgs_nil))) (fun _ _ _ _ _ => pts_nil) (fun _ _ _ _ _ => pe_cmpR op_lt (pv 1) (pv 2) (nomark _))) pa_nil))), ?_⟩
  refine ⟨_, rfl, _, rfl, _, rfl, ?_⟩
  rcases hS with hS | hS
  · refine .inl (slA_from hS 1 fun p H1 s1 hp => ?_)
    refine ⟨a, p, _, _, rfl, .inr ⟨sqT_same hS s1, hp, fun D hD => ?_⟩⟩
    refine lc_it (walk_zipT (xs := ks.map V.int) (ys := (ks.map V.int).drop 1) rfl) (fun i H' => Same H1 H' ∧ H' D = some (.lst ((List.replicate i true).map V.bl))) ⟨same_new hD, upd_same⟩ (fun i H' _ h => ⟨sqT_same (sqT_same hS s1) h.1, sqT_same hp h.1⟩) ?_ ?_
    · rintro i x H' H2 hi ⟨s2, kD⟩ ⟨T, y, z, rfl, hT, rfl, e1, e2⟩
      obtain ⟨y, h1, rfl⟩ := map_at e1
      have e2 : ((ks.map V.int).drop 1)[i]? = some z := e2
      rw [List.getElem?_drop] at e2
      obtain ⟨z, h2, rfl⟩ := map_at e2
      refine ⟨T, _, rfl, SqT.of upd_same, rfl, _, _, rfl, _, _, rfl, rfl, rfl, yesK ?_⟩
      refine ⟨_, rfl, _, rfl, _, _, rfl, rfl, ?_⟩
      have li : i < ks.length := (List.getElem?_eq_some_iff.mp h1).1
      have kD2 := same_new (o := .tup [V.int y, V.int z]) hT _ _ kD
      exact all_more (decide_eq_true (asc_at ha h1 (by rw [Nat.add_comm]; exact h2))) kD2 (by omega) (s2.trans (same_new hT)) hD
    · rintro H' ⟨s2, kD⟩
      refine ⟨D, _, rfl, SqL.of kD, ?_⟩
      rw [all_true]
      exact q _ (s1.trans s2)
  · refine .inr ⟨a, _, rfl, hS, fun p hp => ?_⟩
    have s1 := same_new (o := .lst (cutV (ks.map V.int) (some 1) none)) hp
    have e0 : cutV (ks.map V.int) (some 1) none = (ks.map V.int).drop 1 := cut_from _ 1
    refine ⟨a, p, _, _, rfl, .inl ⟨sql_same hS s1, SqL.of upd_same, fun D hD => ?_⟩⟩
    have hp1 : SqL K (upd H p (.lst (cutV (ks.map V.int) (some 1) none))) p (cutV (ks.map V.int) (some 1) none) := SqL.of upd_same
    refine lc_it (walk_zip (xs := ks.map V.int) (ys := cutV (ks.map V.int) (some 1) none) rfl) (fun i H' => Same (upd H p (.lst (cutV (ks.map V.int) (some 1) none))) H' ∧ H' D = some (.lst ((List.replicate i true).map V.bl))) ⟨same_new hD, upd_same⟩ (fun i H' _ h => ⟨sql_same (sql_same hS s1) h.1, sql_same hp1 h.1⟩) ?_ ?_
    · rintro i x H' H2 hi ⟨s2, kD⟩ ⟨T, y, z, rfl, hT, rfl, e1, e2⟩
      obtain ⟨y, h1, rfl⟩ := map_at e1
      have e2 : (cutV (ks.map V.int) (some 1) none)[i]? = some z := e2
      rw [e0, List.getElem?_drop] at e2
      obtain ⟨z, h2, rfl⟩ := map_at e2
      refine ⟨T, _, rfl, SqT.of upd_same, rfl, _, _, rfl, _, _, rfl, rfl, rfl, yesK ?_⟩
      refine ⟨_, rfl, _, rfl, _, _, rfl, rfl, ?_⟩
      have li : i < ks.length := (List.getElem?_eq_some_iff.mp h1).1
      have kD2 := same_new (o := .tup [V.int y, V.int z]) hT _ _ kD
      exact all_more (decide_eq_true (asc_at ha h1 (by rw [Nat.add_comm]; exact h2))) kD2 (by omega) (s2.trans (same_new hT)) hD
    · rintro H' ⟨s2, kD⟩
      refine ⟨D, _, rfl, SqL.of kD, ?_⟩
      rw [all_true]
      exact q _ (s1.trans s2)
/-! is_lot -/
theorem sc24 : FnScope ["columns", "thing", "one"] ["columns", "thing"] (defScope (top 24)) := ⟨rfl, rfl, rfl, by decide +kernel, rfl, by decide +kernel, by decide +kernel⟩
def spIsLot (K : PySem.W.Frag) : Sp := fun vs H Q _ => ∃ (c : Int) (x : V) (ks : List Int), vs = [.int c, x] ∧ Dp K H x (dL ks) ∧ LotOk c ks ∧ ks.length ≤ 100 ∧ ∀ H', Same H H' → Q (.bl true) H'
theorem dL_inv {K : PySem.W.Frag} {H : Hp} {x : V} {ks : List Int} (h : Dp K H x (dL ks)) : ∃ a, x = .ref a ∧ SqT K H a (ks.map V.int) := by
  obtain ⟨a, xs, e, hs, ha⟩ := dp_tup h
  rw [dpAll_ints' ha] at hs
  exact ⟨a, e, hs⟩
theorem dL_of {K : PySem.W.Frag} {H : Hp} {a : Addr} {ks : List Int} (h : SqT K H a (ks.map V.int)) : Dp K H (.ref a) (dL ks) := .tup h (dpAll_ints ks)
theorem cal_islot (D : Dfn K mg (top 24) "is_lot") (Z : Fre mg) (CB : Cal P w K mg base Nx0 2 "is_between" ["thing", "least", "most"] spBtw) (CR : Cal P w K mg base Nx0 1 "is_rising" ["some"] (spRis K)) : Cal P w K mg base Nx0 3 "is_lot" ["columns", "thing"] (spIsLot K) := by
  refine D.cal0 sc24 (fun _ _ _ _ _ _ us hl => match us, hl with | [_, _], _ => rfl) (fun vs H Q E ⟨_, _, _, h, _⟩ => by rw [h]; rfl) fun f cdv A outer s H vs Q E hr h => ?_
  obtain ⟨c, x, ks, rfl, hd, hk, hl, q⟩ := h
  have nd := sc24.nd
  refine ⟨_, pss_cons (ps_if (PW.pt (pw_or (pt_not (pt_val (pe_callB call_isi (by rfl) Z.isinstance (by decide +kernel) (pa_cons (pv 1) (pa_cons (pe_bltn (v := .ty "tuple") (by rfl) Z.tuple (by decide +kernel) rfl) pa_nil)))))
      (pw_or1 (pt_not (pt_val (pe_callB (cr_all rfl) (by rfl) Z.all (by decide +kernel) (pa_cons (pe_lc (own := [("one", 2)]) (g := gName 2) (tt := tYes) rfl nd (pi_tup (pv 1)) (blkOk_by (N := ["columns", "thing", "one"]) (sc := defScope (top 24)) (by decide +kernel)) (fun _ _ _ _ _ => pg_name (i := 2) nd rfl (.inl rfl)) (fun _ _ _ _ _ => pts_nil)
        (fun _ _ _ _ _ => pe_cn CB hr (pa_cons (pv 2) (pa_cons pe_int (pa_cons (pe_op op_sub (pv 0) pe_int) pa_nil))))) pa_nil))))))) (pss_one (ps_ret pe_bl)) pss_nil)
    (pss_one (ps_ret (pe_cn CR (hr.mono (by decide)) (pa_cons (pv 1) pa_nil)))), ?_⟩
  obtain ⟨a, rfl, hs⟩ := dL_inv hd
  refine ⟨_, rfl, _, _, _, _, true, rfl, .ty _, sqT_ty hs, kit_ty (by decide +kernel), true, rfl, itF rfl ?_⟩
  refine ⟨_, rfl, a, rfl, ⟨_, hs⟩, fun L hL => ?_⟩
  refine lc_tup (K := K) (a := a) (xs := ks.map V.int) (fun i H' => Same H H' ∧ H' L = some (.lst ((List.replicate i true).map V.bl))) ⟨same_new hL, upd_same⟩ (fun i H' _ h => sqT_same hs h.1) ?_ ?_
  · rintro i x H' hx ⟨s2, kD⟩
    obtain ⟨z, hz, rfl⟩ := map_at hx
    have li : i < ks.length := (List.getElem?_eq_some_iff.mp hz).1
    have hb := hk.cols z (List.mem_of_getElem? hz)
    refine ⟨rfl, yesK ?_⟩
    refine ⟨_, rfl, _, rfl, _, _, rfl, rfl, z, 0, c - 1, rfl, ?_⟩
    exact all_more (decide_eq_true ⟨hb.1, by omega⟩) kD (by omega) s2 hL
  · rintro H' ⟨s2, kD⟩
    refine ⟨L, _, rfl, SqL.of kD, _, rfl, ?_⟩
    rw [all_true]
    refine itF rfl ?_
    exact ⟨_, rfl, a, ks, rfl, .inl (sqT_same hs s2), hl, hk.asc, fun H2 s3 => q H2 (s2.trans s3)⟩
/-! is_step, are_steps, is_index -/
theorem sc25 : FnScope ["columns", "thing"] ["columns", "thing"] (defScope (top 25)) := ⟨rfl, rfl, rfl, by decide +kernel, rfl, by decide +kernel, by decide +kernel⟩
def spStep (K : PySem.W.Frag) : Sp := fun vs H Q _ => ∃ (c : Int) (x : V) (p : Int × Str), vs = [.int c, x] ∧ Dp K H x (dS p) ∧ 0 ≤ p.1 ∧ p.1 < c ∧ (p.2 = "up" ∨ p.2 = "down") ∧ Q (.bl true) H
/-- WAYS -/
def Ways (K : PySem.W.Frag) (mg : Str → Option Value) : Prop := ∃ wa, mg "WAYS" = some (.ref wa) ∧ ∀ H, SqT K H wa [.str "up", .str "down"]
theorem dS_inv {K : PySem.W.Frag} {H : Hp} {x : V} {p : Int × Str} (h : Dp K H x (dS p)) : ∃ a, x = .ref a ∧ SqT K H a [.int p.1, .str p.2] := by
  obtain ⟨a, xs, e, hs, ha⟩ := dp_tup h
  cases ha with
  | cons h1 h2 =>
    cases h2 with
    | cons h2 h3 =>
      cases h3
      rw [dp_int h1, dp_str h2] at hs
      exact ⟨a, e, hs⟩
theorem cal_step (D : Dfn K mg (top 25) "is_step") (Z : Fre mg) (W : Ways K mg) (CB : Cal P w K mg base Nx0 2 "is_between" ["thing", "least", "most"] spBtw) : Cal P w K mg base Nx0 3 "is_step" ["columns", "thing"] (spStep K) := by
  refine D.cal0 sc25 (fun _ _ _ _ _ _ us hl => match us, hl with | [_, _], _ => rfl) (fun vs H Q E ⟨_, _, _, h, _⟩ => by rw [h]; rfl) fun f cdv A outer s H vs Q E hr h => ?_
  obtain ⟨c, x, p, rfl, hd, b0, b1, hw, q⟩ := h
  obtain ⟨wa, hwa, hwt⟩ := W
  refine ⟨_, pss_cons (ps_if (PW.pt (pw_or (pt_not (pt_val (pe_callB call_isi (by rfl) Z.isinstance (by decide +kernel) (pa_cons (pv 1) (pa_cons (pe_bltn (v := .ty "tuple") (by rfl) Z.tuple (by decide +kernel) rfl) pa_nil))))) (pw_or (pt_cmpR op_ne (pe_callB call_len_seq (by rfl) Z.len PySem.boot_len (pa_cons (pv 1) pa_nil)) pe_int (nomark _)) (pw_or1 (pt_not (pt_val (pe_cn CB hr (pa_cons (pe_ix ix_tup (pv 1) pe_int (fun _ _ => rfl)) (pa_cons pe_int (pa_cons (pe_op op_sub (pv 0) pe_int) pa_nil)))))))))) (pss_one (ps_ret pe_bl)) pss_nil) (pss_one (ps_ret (pe_and (pe_callB call_isi (by rfl) Z.isinstance (by decide +kernel) (pa_cons (pe_ix ix_tup (pv 1) pe_int (fun _ _ => rfl)) (pa_cons (pe_bltn (v := .ty "str") (by rfl) Z.str (by decide +kernel) rfl) pa_nil))) (pe_one (pe_cmpR op_in_seq (pe_ix ix_tup (pv 1) pe_int (fun _ _ => rfl)) (pe_glob (v := .ref wa) (by rfl) hwa rfl) rfl))))), ?_⟩
  obtain ⟨a, rfl, hs⟩ := dS_inv hd
  refine ⟨_, rfl, _, _, _, _, true, rfl, .ty _, sqT_ty hs, kit_ty (by decide +kernel), true, rfl, itF rfl ?_⟩
  refine ⟨_, rfl, a, _, rfl, .inr hs, rfl, _, rfl, itF rfl ?_⟩
  refine ⟨_, rfl, a, _, _, _, rfl, rfl, hs, rfl, _, rfl, _, _, rfl, rfl, p.1, 0, c - 1, rfl, _, rfl, itF ?_ ?_⟩
  · rw [decide_eq_true (show 0 ≤ p.1 ∧ p.1 ≤ c - 1 from ⟨b0, by omega⟩)]; rfl
  refine ⟨_, rfl, a, _, _, _, rfl, rfl, hs, rfl, _, _, _, _, true, rfl, .ty _, .base (.str p.2), kit_ty (by decide +kernel), true, rfl, itT rfl ?_⟩
  refine ⟨_, rfl, a, _, _, _, rfl, rfl, hs, rfl, wa, _, rfl, .inr (hwt H), rfl, rfl, ?_⟩
  rcases hw with e | e <;> rw [e] <;> exact q
end
end K25
end

section
-- BChk
set_option Elab.async false
set_option linter.all false
set_option maxRecDepth 100000
set_option maxHeartbeats 4000000
set_option autoImplicit false
/-! The checks, second part. -/
namespace K25
open PySem PySem.Spec PyProof.Rows L2
section
variable {P : Program} {w : World} {K : PySem.W.Frag} {mg : Str → Option Value} {base : Heap}
theorem sc26 : FnScope ["columns", "thing", "step"] ["columns", "thing"] (defScope (top 26)) := ⟨rfl, rfl, rfl, by decide +kernel, rfl, by decide +kernel, by decide +kernel⟩
structure StepsOk (c : Int) (ix : List (Int × Str)) : Prop where
  len : ix.length ≤ 3
  nd : (ix.map (·.1)).Nodup
  cols : ∀ p ∈ ix, 0 ≤ p.1 ∧ p.1 < c
  ways : ∀ p ∈ ix, p.2 = "up" ∨ p.2 = "down"
theorem IndexOk.steps {c : Int} {ix : List (Int × Str)} (h : IndexOk c ix) : StepsOk c ix := ⟨h.len, h.nd, h.cols, h.ways⟩
def spSteps26 (K : PySem.W.Frag) : Sp := fun vs H Q _ => ∃ (c : Int) (x : V) (ix : List (Int × Str)), vs = [.int c, x] ∧ Dp K H x (dX ix) ∧ StepsOk c ix ∧ ∀ H', Same H H' → Q (.bl true) H'
theorem dpAll_same {K : PySem.W.Frag} {H H' : Hp} {vs : List V} {ds : List PyData} (t : tonlyAll ds = true) (h : DpAll K H vs ds) (e : Same H H') : DpAll K H' vs ds := dpAll_kt (KT.same e) _ _ t h
theorem strict_of {ns ms : List Int} (hp : ms.Perm ns) (hs : ms.Pairwise (· ≤ ·)) (hn : ns.Nodup) : ms.Pairwise (· < ·) := by
  have hm : ms.Nodup := hp.nodup_iff.mpr hn
  refine List.Pairwise.imp (fun h => ?_) (List.Pairwise.and hs hm)
  omega
theorem cal_steps26 (D : Dfn K mg (top 26) "are_steps") (Z : Fre mg) (CS : Cal P w K mg base Nx0 3 "is_step" ["columns", "thing"] (spStep K)) (CR : Cal P w K mg base Nx0 1 "is_rising" ["some"] (spRis K)) : Cal P w K mg base Nx0 4 "are_steps" ["columns", "thing"] (spSteps26 K) := by
  refine D.cal0 sc26 (fun _ _ _ _ _ _ us hl => match us, hl with | [_, _], _ => rfl) (fun vs H Q E ⟨_, _, _, h, _⟩ => by rw [h]; rfl) fun f cdv A outer s H vs Q E hr h => ?_
  obtain ⟨c, x, ix, rfl, hd, hk, q⟩ := h
  have nd := sc26.nd
  refine ⟨_, pss_cons (ps_if (PW.pt (pw_or (pt_not (pt_val (pe_callB call_isi (by rfl) Z.isinstance (by decide +kernel) (pa_cons (pv 1) (pa_cons (pe_bltn (v := .ty "tuple") (by rfl) Z.tuple (by decide +kernel) rfl) pa_nil))))) (pw_or1 (pt_not (pt_val (pe_callB ((cr_all rfl)) (by rfl) Z.all (by decide +kernel) (pa_cons (pe_lc (own := [("step", 2)]) (g := gName 2) (tt := tYes) rfl nd (pi_tup (pv 1)) (blkOk_by (N := ["columns", "thing", "step"]) (sc := defScope (top 26)) (by decide +kernel)) (fun _ _ _ _ _ => pg_name (i := 2) nd rfl (Or.inl rfl)) (fun _ _ _ _ _ => pts_nil) (fun _ _ _ _ _ => pe_cn CS hr (pa_cons (pv 0) (pa_cons (pv 2) pa_nil)))) pa_nil))))))) (pss_one (ps_ret pe_bl)) pss_nil) (pss_one (ps_ret (pe_cn CR ((hr.mono (by decide))) (pa_cons (pe_callB cr_sorted (by rfl) Z.sorted (by decide +kernel) (pa_cons (pe_lc (own := [("step", 2)]) (g := gName 2) (tt := tYes) (te := tOp (rIxT K) (tVar 2) (tC (.int 0))) rfl nd (pi_tup (pv 1)) (blkOk_by (N := ["columns", "thing", "step"]) (sc := defScope (top 26)) (by decide +kernel)) (fun _ _ _ _ _ => pg_name (i := 2) nd rfl (Or.inl rfl)) (fun _ _ _ _ _ => pts_nil) (fun _ _ _ _ _ => pe_ix ix_tup (pv 2) pe_int (fun _ _ => rfl))) pa_nil)) pa_nil)))), ?_⟩
  obtain ⟨a, xs, rfl, hs, ha⟩ := dp_tup hd
  have hlen : xs.length = ix.length := by rw [dpAll_len ha, List.length_map]
  have to := tonly_all tonly_dS ix
  have li := hk.len
  refine ⟨_, rfl, _, _, _, _, true, rfl, .ty _, sqT_ty hs, kit_ty (by decide +kernel), true, rfl, itF rfl ?_⟩
  refine ⟨_, rfl, a, rfl, ⟨_, hs⟩, fun L hL => ?_⟩
  refine lc_tup (K := K) (a := a) (xs := xs) (fun i H' => Same H H' ∧ H' L = some (.lst ((List.replicate i true).map V.bl))) ⟨same_new hL, upd_same⟩ (fun i H' _ h => sqT_same hs h.1) ?_ ?_
  · rintro i x H' hx ⟨s2, kD⟩
    have lx : i < xs.length := (List.getElem?_eq_some_iff.mp hx).1
    obtain ⟨d, h1, h2⟩ := dpAll_get (dpAll_same to ha s2) hx
    obtain ⟨p, h3, rfl⟩ := map_at h1
    have hp := List.mem_of_getElem? h3
    have hb := hk.cols p hp
    refine ⟨rfl, yesK ?_⟩
    refine ⟨_, rfl, _, rfl, c, x, p, rfl, h2, hb.1, hb.2, hk.ways p hp, ?_⟩
    exact all_more rfl kD (by omega) s2 hL
  · rintro H1 ⟨s1, kD⟩
    refine ⟨L, _, rfl, SqL.of kD, _, rfl, ?_⟩
    rw [all_true]
    refine itF rfl ?_
    have hs1 := sqT_same hs s1
    refine ⟨_, rfl, a, rfl, ⟨_, hs1⟩, fun L2 hL2 => ?_⟩
    refine lc_tup (K := K) (a := a) (xs := xs) (fun i H' => Same H1 H' ∧ H' L2 = some (.lst (((ix.map (·.1)).take i).map V.int))) ⟨same_new hL2, upd_same⟩ (fun i H' _ h => sqT_same hs1 h.1) ?_ ?_
    · rintro i x H' hx ⟨s2, kD2⟩
      have lx : i < xs.length := (List.getElem?_eq_some_iff.mp hx).1
      obtain ⟨d, h1, h2⟩ := dpAll_get (dpAll_same to ha (s1.trans s2)) hx
      obtain ⟨p, h3, rfl⟩ := map_at h1
      obtain ⟨b, rfl, hb⟩ := dS_inv h2
      refine ⟨rfl, yesK ?_⟩
      refine ⟨_, rfl, b, _, _, _, rfl, rfl, hb, rfl, _, kD2, lt_line (by rw [List.length_map, List.length_take]; omega), same_out s2 hL2, ?_⟩
      have e : ((ix.map (·.1)).take (i + 1)) = (ix.map (·.1)).take i ++ [p.1] := by
        rw [List.take_add_one, List.getElem?_map, h3]; rfl
      rw [upd_same, e, List.map_append]
      rfl
    · rintro H2 ⟨s2, kD2⟩
      rw [List.take_of_length_le (by rw [List.length_map]; omega)] at kD2
      refine ⟨L2, _, rfl, SqL.of kD2, by rw [List.length_map]; omega, fun ms p hp hsrt hpn => ?_⟩
      refine ⟨p, ms, rfl, .inr (SqL.of upd_same), ?_, strict_of hp hsrt hk.nd, fun H3 s3 => q H3 ((s1.trans s2).trans ((same_new hpn).trans s3))⟩
      have := hp.length_eq
      rw [List.length_map] at this
      omega
/-! is_index, need_index_of, need_columns -/
theorem sc28 : FnScope ["columns", "thing"] ["columns", "thing"] (defScope (top 28)) := ⟨rfl, rfl, rfl, by decide +kernel, rfl, by decide +kernel, by decide +kernel⟩
def spIx28 (K : PySem.W.Frag) : Sp := fun vs H Q _ => ∃ (c : Int) (x : V) (ix : List (Int × Str)), vs = [.int c, x] ∧ Dp K H x (dX ix) ∧ IndexOk c ix ∧ c ≤ 3 ∧ ∀ H', Same H H' → Q (.bl true) H'
theorem cal_ix28 (D : Dfn K mg (top 28) "is_index") (CS : Cal P w K mg base Nx0 4 "are_steps" ["columns", "thing"] (spSteps26 K)) : Cal P w K mg base Nx0 5 "is_index" ["columns", "thing"] (spIx28 K) := by
  refine D.cal0 sc28 (fun _ _ _ _ _ _ us hl => match us, hl with | [_, _], _ => rfl) (fun vs H Q E ⟨_, _, _, h, _⟩ => by rw [h]; rfl) fun f cdv A outer s H vs Q E hr h => ?_
  obtain ⟨c, x, ix, rfl, hd, hk, c3, q⟩ := h
  have hu := hr.units
  refine ⟨_, pss_one (ps_ret (pe_and (pe_cn CS hr (pa_cons (pv 0) (pa_cons (pv 1) pa_nil))) (pe_one (pe_cmpR ((op_neD hu)) (pv 1) (pe_tup pa_nil) (nomark _))))), ?_⟩
  refine ⟨_, rfl, _, rfl, c, x, ix, rfl, hd, hk.steps, fun H1 s1 => ⟨true, rfl, itT rfl ?_⟩⟩
  refine ⟨_, rfl, by decide, fun p hp => ?_⟩
  have s2 := s1.trans (same_new (o := .tup []) hp)
  have ni : nice (dX ix) = true := nice_dX hk.ways fun p hp => by have := hk.cols p hp; omega
  refine ⟨_, .tuple [], dp_kt (KT.same s2) _ _ (tonly_dX ix) hd, .tup (SqT.of upd_same) .nil, shaped_of ni (by have := depth_dX ix; omega), rfl, ?_⟩
  rw [eqv_dX_nil, decide_eq_false hk.ne]
  exact q _ s2
theorem sc31 : FnScope ["columns", "index"] ["columns", "index"] (defScope (top 31)) := ⟨rfl, rfl, rfl, by decide +kernel, rfl, by decide +kernel, by decide +kernel⟩
def spNeedIx (K : PySem.W.Frag) : Sp := fun vs H Q _ => ∃ (c : Int) (x : V) (ix : List (Int × Str)), vs = [.int c, x] ∧ Dp K H x (dX ix) ∧ IndexOk c ix ∧ c ≤ 3 ∧ ∀ H', Same H H' → Q .non H'
theorem cal_needix (D : Dfn K mg (top 31) "need_index_of") (CX28 : Cal P w K mg base Nx0 5 "is_index" ["columns", "thing"] (spIx28 K)) : Cal P w K mg base Nx0 6 "need_index_of" ["columns", "index"] (spNeedIx K) := by
  refine D.cal0 sc31 (fun _ _ _ _ _ _ us hl => match us, hl with | [_, _], _ => rfl) (fun vs H Q E ⟨_, _, _, h, _⟩ => by rw [h]; rfl) fun f cdv A outer s H vs Q E hr h => ?_
  obtain ⟨c, x, ix, rfl, hd, hk, c3, q⟩ := h
  refine ⟨_, pss_one (ps_if (pt_not (pt_val (pe_cn CX28 hr (pa_cons (pv 0) (pa_cons (pv 1) pa_nil))))) (pss_one ps_never) pss_nil), ?_⟩
  exact ⟨_, rfl, _, rfl, c, x, ix, rfl, hd, hk, c3, fun H1 s1 => ⟨true, rfl, itF rfl (q H1 s1)⟩⟩
theorem sc29 : FnScope ["columns"] ["columns"] (defScope (top 29)) := ⟨rfl, rfl, rfl, by decide +kernel, rfl, by decide +kernel, by decide +kernel⟩
def MostC (mg : Str → Option Value) : Prop := ∃ t, mg "MOST_COLUMNS" = some (.int 8 t)
def spNeedC : Sp := fun vs H Q _ => ∃ c : Int, vs = [.int c] ∧ 1 ≤ c ∧ c ≤ 3 ∧ Q .non H
theorem cal_needc (D : Dfn K mg (top 29) "need_columns") (M : MostC mg) (CB : Cal P w K mg base Nx0 2 "is_between" ["thing", "least", "most"] spBtw) : Cal P w K mg base Nx0 3 "need_columns" ["columns"] spNeedC := by
  refine D.cal0 sc29 (fun _ _ _ _ _ _ us hl => match us, hl with | [_], _ => rfl) (fun vs H Q E ⟨_, h, _⟩ => by rw [h]; rfl) fun f cdv A outer s H vs Q E hr h => ?_
  obtain ⟨c, rfl, h1, h2, q⟩ := h
  obtain ⟨t, ht⟩ := M
  refine ⟨_, pss_one (ps_if (pt_not (pt_val (pe_cn CB hr (pa_cons (pv 0) (pa_cons pe_int (pa_cons (pe_glob (v := .int 8) (by rfl) ht ⟨_, rfl⟩) pa_nil)))))) (pss_one ps_never) pss_nil), ?_⟩
  exact ⟨_, rfl, c, 1, 8, rfl, _, rfl, itF (by rw [decide_eq_true (show 1 ≤ c ∧ c ≤ 8 from ⟨h1, by omega⟩)]; rfl) q⟩
/-! is_row -/
theorem sc38 : FnScope ["columns", "thing", "value"] ["columns", "thing"] (defScope (top 38)) := ⟨rfl, rfl, rfl, by decide +kernel, rfl, by decide +kernel, by decide +kernel⟩
def spIsRow (K : PySem.W.Frag) : Sp := fun vs H Q _ => ∃ (c : Int) (x : V) (r : List Int), vs = [.int c, x] ∧ Dp K H x (dL r) ∧ (r.length : Int) = c ∧ c ≤ 3 ∧ ∀ H', Same H H' → Q (.bl true) H'
theorem cal_isrow (D : Dfn K mg (top 38) "is_row") (Z : Fre mg) (CI : Cal P w K mg base Nx0 1 "is_integer" ["thing"] spInt) : Cal P w K mg base Nx0 2 "is_row" ["columns", "thing"] (spIsRow K) := by
  refine D.cal0 sc38 (fun _ _ _ _ _ _ us hl => match us, hl with | [_, _], _ => rfl) (fun vs H Q E ⟨_, _, _, h, _⟩ => by rw [h]; rfl) fun f cdv A outer s H vs Q E hr h => ?_
  obtain ⟨c, x, r, rfl, hd, hl, c3, q⟩ := h
  have nd := sc38.nd
  refine ⟨_, pss_one (ps_ret (pe_and (pe_callB call_isi (by rfl) Z.isinstance (by decide +kernel) (pa_cons (pv 1) (pa_cons (pe_bltn (v := .ty "tuple") (by rfl) Z.tuple (by decide +kernel) rfl) pa_nil))) (pe_and (pe_cmpR op_eq (pe_callB call_len_seq (by rfl) Z.len PySem.boot_len (pa_cons (pv 1) pa_nil)) (pv 0) (nomark _)) (pe_one (pe_callB ((cr_all rfl)) (by rfl) Z.all (by decide +kernel) (pa_cons (pe_lc (own := [("value", 2)]) (g := gName 2) (tt := tYes) rfl nd (pi_tup (pv 1)) (blkOk_by (N := ["columns", "thing", "value"]) (sc := defScope (top 38)) (by decide +kernel)) (fun _ _ _ _ _ => pg_name (i := 2) nd rfl (Or.inl rfl)) (fun _ _ _ _ _ => pts_nil) (fun _ _ _ _ _ => pe_cn CI hr (pa_cons (pv 2) pa_nil))) pa_nil)))))), ?_⟩
  obtain ⟨a, rfl, hs⟩ := dL_inv hd
  refine ⟨_, rfl, _, _, _, _, true, rfl, .ty _, sqT_ty hs, kit_ty (by decide +kernel), true, rfl, itT rfl ?_⟩
  refine ⟨_, rfl, a, _, rfl, .inr hs, _, rfl, rfl, _, rfl, itT (by rw [List.length_map, hl]; exact decide_eq_true rfl) ?_⟩
  refine ⟨_, rfl, a, rfl, ⟨_, hs⟩, fun L hL => ?_⟩
  refine lc_tup (K := K) (a := a) (xs := r.map V.int) (fun i H' => Same H H' ∧ H' L = some (.lst ((List.replicate i true).map V.bl))) ⟨same_new hL, upd_same⟩ (fun i H' _ h => sqT_same hs h.1) ?_ ?_
  · rintro i x H' hx ⟨s2, kD⟩
    obtain ⟨z, hz, rfl⟩ := map_at hx
    have li : i < r.length := (List.getElem?_eq_some_iff.mp hz).1
    refine ⟨rfl, yesK ?_⟩
    refine ⟨_, rfl, z, rfl, ?_⟩
    exact all_more rfl kD (by omega) s2 hL
  · rintro H' ⟨s2, kD⟩
    refine ⟨L, _, rfl, SqL.of kD, ?_⟩
    rw [all_true]
    exact q _ s2
/-! values_at, _law_at_lot -/
theorem sc44 : FnScope ["lot", "row", "column"] ["lot", "row"] (defScope (top 44)) := ⟨rfl, rfl, rfl, by decide +kernel, rfl, by decide +kernel, by decide +kernel⟩
theorem sc58 : FnScope ["_law_lot_here", "_law_row_here", "_law_column"] ["_law_lot_here", "_law_row_here"] (defScope (top 58)) := ⟨rfl, rfl, rfl, by decide +kernel, rfl, by decide +kernel, by decide +kernel⟩
/-- what stands in the row at the lot's columns -/
def atLot (ks r : List Int) : List Int := ks.map fun z => r.getD z.toNat 0
def spAt (K : PySem.W.Frag) : Sp := fun vs H Q _ => ∃ (x y : V) (ks r : List Int), vs = [x, y] ∧ Dp K H x (dL ks) ∧ Dp K H y (dL r) ∧ (∀ z ∈ ks, 0 ≤ z ∧ z < r.length) ∧ ks.length ≤ 100 ∧ ∀ H' p, Same H H' → H p = none → H' p = some (.tup ((atLot ks r).map V.int)) → Q (.ref p) H'
theorem at_body {K : PySem.W.Frag} {H : Hp} {ks r : List Int} {a b L : Addr} {i : Nat} {z : Int} (hb : SqT K H b (r.map V.int)) (hk : ∀ z ∈ ks, 0 ≤ z ∧ z < r.length) (hz : ks[i]? = some z) : atI (r.map V.int) z = some (.int (r.getD z.toNat 0)) ∧ ((atLot ks r).take (i + 1)) = (atLot ks r).take i ++ [r.getD z.toNat 0] := by
  have h := hk z (List.mem_of_getElem? hz)
  obtain ⟨j, rfl⟩ : ∃ j : Nat, z = j := ⟨z.toNat, by omega⟩
  have hj : j < r.length := by omega
  refine ⟨atI_nat ?_, ?_⟩
  · rw [List.getElem?_map, List.getElem?_eq_getElem hj]
    simp [List.getD, hj]
  · unfold atLot
    rw [List.take_add_one, List.getElem?_map, hz]
    rfl
theorem cal_at44 (D : Dfn K mg (top 44) "values_at") (Z : Fre mg) : Cal P w K mg base Nx0 1 "values_at" ["lot", "row"] (spAt K) := by
  refine D.cal0 sc44 (fun _ _ _ _ _ _ us hl => match us, hl with | [_, _], _ => rfl) (fun vs H Q E ⟨_, _, _, _, h, _⟩ => by rw [h]; rfl) fun f cdv A outer s H vs Q E hr h => ?_
  obtain ⟨x, y, ks, r, rfl, hx, hy, hk, hl, q⟩ := h
  have nd := sc44.nd
  refine ⟨_, pss_one (ps_ret (pe_callTy call_tuple_of (by rfl) Z.tuple (by decide +kernel) (pa_cons (pe_lc (own := [("column", 2)]) (g := gName 2) (tt := tYes) (te := tOp (rIxT K) (tVar 1) (tVar 2)) rfl nd (pi_tup (pv 0)) (blkOk_by (N := ["lot", "row", "column"]) (sc := defScope (top 44)) (by decide +kernel)) (fun _ _ _ _ _ => pg_name (i := 2) nd rfl (Or.inl rfl)) (fun _ _ _ _ _ => pts_nil) (fun _ _ _ _ _ => pe_ix ix_tup (pv 1) (pv 2) (fun _ _ => rfl))) pa_nil))), ?_⟩
  obtain ⟨a, rfl, ha⟩ := dL_inv hx
  obtain ⟨b, rfl, hb⟩ := dL_inv hy
  refine ⟨_, rfl, a, rfl, ⟨_, ha⟩, fun L hL => ?_⟩
  refine lc_tup (K := K) (a := a) (xs := ks.map V.int) (fun i H' => Same H H' ∧ H' L = some (.lst (((atLot ks r).take i).map V.int))) ⟨same_new hL, upd_same⟩ (fun i H' _ h => sqT_same ha h.1) ?_ ?_
  · rintro i x H' hx ⟨s2, kD⟩
    obtain ⟨z, hz, rfl⟩ := map_at hx
    have li : i < ks.length := (List.getElem?_eq_some_iff.mp hz).1
    obtain ⟨e1, e2⟩ := at_body (a := a) (L := L) hb hk hz
    refine ⟨rfl, yesK ?_⟩
    refine ⟨_, rfl, _, rfl, b, _, _, _, rfl, rfl, sqT_same hb s2, e1, _, kD, lt_line (by rw [List.length_map, List.length_take]; omega), same_out s2 hL, ?_⟩
    rw [upd_same, e2, List.map_append]
    rfl
  · rintro H' ⟨s2, kD⟩
    rw [List.take_of_length_le (by unfold atLot; rw [List.length_map, List.length_map]; exact Nat.le_refl _)] at kD
    refine ⟨L, _, rfl, .inl ⟨SqL.of kD, fun l hl => ?_⟩⟩
    exact q _ l (s2.trans (same_new hl)) (same_none s2 hl) upd_same
theorem cal_at58 (D : Dfn K mg (top 58) "_law_at_lot") (Z : Fre mg) : Cal P w K mg base Nx0 1 "_law_at_lot" ["_law_lot_here", "_law_row_here"] (spAt K) := by
  refine D.cal0 sc58 (fun _ _ _ _ _ _ us hl => match us, hl with | [_, _], _ => rfl) (fun vs H Q E ⟨_, _, _, _, h, _⟩ => by rw [h]; rfl) fun f cdv A outer s H vs Q E hr h => ?_
  obtain ⟨x, y, ks, r, rfl, hx, hy, hk, hl, q⟩ := h
  have nd := sc58.nd
  refine ⟨_, pss_one (ps_ret (pe_callTy call_tuple_of (by rfl) Z.tuple (by decide +kernel) (pa_cons (pe_lc (own := [("_law_column", 2)]) (g := gName 2) (tt := tYes) (te := tOp (rIxT K) (tVar 1) (tVar 2)) rfl nd (pi_tup (pv 0)) (blkOk_by (N := ["_law_lot_here", "_law_row_here", "_law_column"]) (sc := defScope (top 58)) (by decide +kernel)) (fun _ _ _ _ _ => pg_name (i := 2) nd rfl (Or.inl rfl)) (fun _ _ _ _ _ => pts_nil) (fun _ _ _ _ _ => pe_ix ix_tup (pv 1) (pv 2) (fun _ _ => rfl))) pa_nil))), ?_⟩
  obtain ⟨a, rfl, ha⟩ := dL_inv hx
  obtain ⟨b, rfl, hb⟩ := dL_inv hy
  refine ⟨_, rfl, a, rfl, ⟨_, ha⟩, fun L hL => ?_⟩
  refine lc_tup (K := K) (a := a) (xs := ks.map V.int) (fun i H' => Same H H' ∧ H' L = some (.lst (((atLot ks r).take i).map V.int))) ⟨same_new hL, upd_same⟩ (fun i H' _ h => sqT_same ha h.1) ?_ ?_
  · rintro i x H' hx ⟨s2, kD⟩
    obtain ⟨z, hz, rfl⟩ := map_at hx
    have li : i < ks.length := (List.getElem?_eq_some_iff.mp hz).1
    obtain ⟨e1, e2⟩ := at_body (a := a) (L := L) hb hk hz
    refine ⟨rfl, yesK ?_⟩
    refine ⟨_, rfl, _, rfl, b, _, _, _, rfl, rfl, sqT_same hb s2, e1, _, kD, lt_line (by rw [List.length_map, List.length_take]; omega), same_out s2 hL, ?_⟩
    rw [upd_same, e2, List.map_append]
    rfl
  · rintro H' ⟨s2, kD⟩
    rw [List.take_of_length_le (by unfold atLot; rw [List.length_map, List.length_map]; exact Nat.le_refl _)] at kD
    refine ⟨L, _, rfl, .inl ⟨SqL.of kD, fun l hl => ?_⟩⟩
    exact q _ l (s2.trans (same_new hl)) (same_none s2 hl) upd_same
end
end K25
end

section
-- XDict
set_option Elab.async false
set_option linter.all false
set_option maxRecDepth 100000
set_option maxHeartbeats 4000000
/-! Dicts with tuple keys: a comprehension, dict(pairs). Turned from HandS.DictComp and HandS.Dict to keys that are tuples. -/
namespace K25
open PySem PySem.Spec PyProof.Rows L2
abbrev St := L2.St
abbrev Inv := L2.Inv
theorem d_dictSetT {X : Cx} {pins : List (Addr × Obj)} {σ : St} {H : Hp} {s : Shared} {E : Value → Shared → Prop} {D b : Addr} {kvs : List (List Key × V)} {k : List Key} {v : V} {u r : Value} {Q : Unit → Shared → Prop} (hu : X.A.units + 1 < cLine) (I : Inv X pins σ H s) (hD : H D = some (.dT kvs)) (hb : H b = some (.tup (k.map kV))) (hz : kvs.length < sizeLine)
    (ry : RelV (.ref b) u) (rv : RelV v r) (h : ∀ s', Inv X pins σ (upd H D (.dT (putK kvs k v))) s' → Q () s') : wpAny (model X.prog X.w) X.A (dictSet D u r) Q E s := by
  cases (show u = Value.ref b from ry)
  obtain ⟨z, hd, xs, rel, dd⟩ := dt_of I.hok hD
  have hzv : xs.length ≤ sizeLine := by rw [← Paired.length rel]; exact z
  have hl : (putK kvs k v).length ≤ sizeLine := by have := length_putK kvs k v; omega
  refine wpAny_dictSet_heap (hsz := hzv) (show X.A.units < cLine from Nat.lt_of_succ_lt hu) (key_of I.hok hb) dd fun h' dd' hs => h _ ?_
  obtain ⟨q, es, ep, hq, h2, h3, h4, _, h5⟩ := dd'
  refine d_write (ob := .dT (putK kvs k v)) I (by rw [hD]; exact True.intro) hs ⟨q, hq⟩ ⟨hl, hd, _, (rel.put k hb rv).keeps fun c ys ec => ?_, q, es, ep, hq, h2, h3, h4, h5⟩
  rw [upd_ne (ne_of ec hD (fun z => nomatch z))]
  exact ec
section
variable {X : Cx}
/-- {k: v for target in iter if ..}, keys ints or texts: D the new dict -/
def tDcT (wi : TI) (g : TG) (tt : TT) (tk tv : TE) (vs : List Nat) : TE := fun σ H Q => wi σ H fun J H1 => ∀ D, H1 D = none → ∃ W : Nat → Nat → Hp → Prop, (∃ m, W 0 m (upd H1 D (.dT []))) ∧ ∀ i m H, W i m H →
  (J.stop i H ∧ Q (.ref D) H) ∨ (J.go i H ∧ ∃ Nx : Hp → Prop, (∀ H', Nx H' → ∃ m', m' < m ∧ W (i + 1) m' H') ∧ ∀ x H', J.yld i H x H' → g x (wipe σ vs) H' fun σ2 H2 => wipe σ2 vs = wipe σ vs ∧ tt σ2 H2 fun b H3 =>
    if b = true then tk σ2 H3 fun y H4 => tv σ2 H4 fun z H5 => ∃ kvs k b, y = .ref b ∧ H5 b = some (.tup (k.map kV)) ∧ H5 D = some (.dT kvs) ∧ kvs.length < sizeLine ∧ Nx (upd H5 D (.dT (putK kvs k z))) else Nx H3)
theorem dcT_core {pins : List (Addr × Obj)} {s : Shared} {σ : St} {H : Hp} {Q : VK} {kx vx tg iter : Expr} {ifs : List Expr} {scope : Scope} {own : List (Str × Nat)} {pos pos' : Pos} {wi : TI} {g : TG} {tt : TT} {tk tv : TE} {use : Option (Value → Sem Unit)} {Qf : Value → Shared → Prop}
    (hu : X.A.units + 1 < cLine) (hc : X.calm = true) (hN : X.N.Nodup) (I : Inv X pins σ H s) (hi : PI X tg iter wi) (ok : BlkOk X.N X.env.scope scope own)
    (hg : ∀ (s : Shared) (H : Hp) (C : Addr) (cl : List (Str × Addr)) (fp : List Addr), PG (X.blk s H scope (compEnvC scope cl C X.env) fp) tg g) (ht : ∀ (s : Shared) (H : Hp) (C : Addr) (cl : List (Str × Addr)) (fp : List Addr), PTs (X.blk s H scope (compEnvC scope cl C X.env) fp) ifs tt)
    (hk : ∀ (s : Shared) (H : Hp) (C : Addr) (cl : List (Str × Addr)) (fp : List Addr), PE (X.blk s H scope (compEnvC scope cl C X.env) fp) kx tk)
    (he : ∀ (s : Shared) (H : Hp) (C : Addr) (cl : List (Str × Addr)) (fp : List Addr), PE (X.blk s H scope (compEnvC scope cl C X.env) fp) vx tv) (hs : ∀ x, foldedSetIterable iter X.env x = pure x)
    (h : tDcT wi g tt tk tv (own.map (·.2)) σ H Q)
    (hRR : ∀ D C s' m H', Inv X pins σ H' s' → Q (.ref D) H' → s'.heap.Ns C m → FpOk X pins H' C → compPost (model X.prog X.w) X.A X.xe use Qf (.ref D) C (.ok .next) s') :
    wpAny (model X.prog X.w) X.A (comprehension (.DictComp kx vx [⟨tg, iter, ifs, 0⟩] scope pos) scope X.env pos' newDict false (eval iter X.env) use) Qf X.xe s := by
  have hfree : ∀ y ∈ scope.names, y.2 = .free → ∃ c, X.env.cells.lookup y.1 = some c := fun y hy e => by
    rcases ok.free y hy e with k | k
    · exact I.ok.has _ (.inl k)
    · exact I.ok.has _ (.inr k)
  refine wpAny_comprehension_free (use := use) rfl hs (closure_ok hfree) ok.kind (fun y hy e => by rw [ok.uniq y hy, e])
    (thn (hi.run pins s σ H _ I h) fun xv s1 hx => thn hx fun itv s2 h2 => ?_)
  obtain ⟨it, fp, tn, J, H2, e, I2, T, st2, f2, q⟩ := h2
  subst e
  refine wpAny_newObj_type (newEnv_comp ?_)
  generalize hD : s2.heap.objs.size = D
  have hDn : H2 D = none := I2.hok.fresh (Nat.le_of_eq hD)
  obtain ⟨W, ⟨m0, w0⟩, turn⟩ := q D hDn
  -- the new list
  generalize hs3 : ({ s2 with heap := s2.heap.push { cls := .type "dict", data := .dict #[] } } : Shared) = s3
  have I3 : Inv X pins σ (upd H2 D (.dT [])) s3 := by
    rw [← hs3]
    refine I2.laid (t' := s2.toks) (fun b o e => Heap.get?_push_of_some _ e) (Nat.le_of_eq hD) ?_
    rw [← hD]
    exact dt_empty s2.heap I2.big
  have h3 : s3.heap = s2.heap.push { cls := .type "dict", data := .dict #[] } := by rw [← hs3]
  have sz : ∀ b ∈ fp, b < s2.heap.objs.size := fun b hb => by
    obtain ⟨o, e, _⟩ := T.obj _ _ st2 b hb
    exact Heap.lt_size e
  have f3 : ∀ b ∈ fp, FpOk X pins (upd H2 D (.dT [])) b ∧ b < s3.heap.objs.size := fun b hb => by
    have hlt := sz b hb
    refine ⟨⟨?_, (f2 b hb).2⟩, by rw [h3, Heap.size_push]; exact Nat.lt_succ_of_lt hlt⟩
    rw [upd_ne (by rw [← hD]; exact Nat.ne_of_lt hlt)]
    exact (f2 b hb).1
  have st3 : tn 0 s3.heap := T.keep _ _ _ st2 fun b _ o e => by rw [h3]; exact Heap.get?_push_of_some _ e
  have I4 := block_start I3 ok hN f3
  have pg := hg s3 (upd H2 D (.dT [])) s3.heap.objs.size (cellsFrom (s3.heap.objs.size + 1) scope.names (cloFrom X.env.cells scope.names [])) fp
  have pt := ht s3 (upd H2 D (.dT [])) s3.heap.objs.size (cellsFrom (s3.heap.objs.size + 1) scope.names (cloFrom X.env.cells scope.names [])) fp
  have pk := hk s3 (upd H2 D (.dT [])) s3.heap.objs.size (cellsFrom (s3.heap.objs.size + 1) scope.names (cloFrom X.env.cells scope.names [])) fp
  have pe := he s3 (upd H2 D (.dT [])) s3.heap.objs.size (cellsFrom (s3.heap.objs.size + 1) scope.names (cloFrom X.env.cells scope.names [])) fp
  show codeAny _ _ (.compStart (.DictComp kx vx [⟨tg, iter, ifs, 0⟩] scope pos) 0 (.ref it) (.ref D) (compEnvC scope (cellsFrom (s3.heap.objs.size + 1) scope.names (cloFrom X.env.cells scope.names [])) s3.heap.objs.size X.env)) (compPost (model X.prog X.w) X.A X.xe use Qf (.ref D) s3.heap.objs.size) { s3 with heap := pushCells (s3.heap.push { cls := .type "dict", data := .dict #[] }) scope.names }
  have nfp : ∀ b ∈ fp, (upd H2 D (.dT [])) b = none := fun b hb => (f3 b hb).1.1
  generalize hce : compEnvC scope (cellsFrom (s3.heap.objs.size + 1) scope.names (cloFrom X.env.cells scope.names [])) s3.heap.objs.size X.env = ce at I4 pg pt pk pe ⊢
  have cL : ce.locals = s3.heap.objs.size := by subst hce; rfl
  generalize hH3 : upd H2 D (.dT []) = H3 at I3 I4 pg pt pk pe w0 nfp f3
  generalize hs4 : ({ s3 with heap := pushCells (s3.heap.push { cls := .type "dict", data := .dict #[] }) scope.names } : Shared) = s4 at I4 ⊢
  have st4 : tn 0 s4.heap := T.keep _ _ _ st3 fun b _ o e => by rw [← hs4]; exact pushCells_keeps _ _ _ _ (Heap.get?_push_of_some _ e)
  have stat : ∀ {σ' : St} {H' : Hp} {s' : Shared}, Inv (X.blk s3 H3 scope ce fp) [] σ' H' s' → (∀ b ∈ fp, H' b = none) → ∀ b ∈ fp, FpOk (X.blk s3 H3 scope ce fp) [] H' b := fun {σ' H' s'} I' hn b hb =>
    ⟨hn b hb, (I'.ok.exf b hb).1, I'.ok.exfs b hb, .inl hb, fun x c e => (I'.ok.exf b hb).2 x c e, fun p hp => absurd (show p ∈ ([] : List (Addr × Obj)) ++ [] from hp) (by simp)⟩
  have loop : codeAny (model X.prog X.w) X.A (.compLoop (.DictComp kx vx [⟨tg, iter, ifs, 0⟩] scope pos) 0 (.ref it) (.ref D) ce) (compPost (model X.prog X.w) X.A X.xe use Qf (.ref D) s3.heap.objs.size) s4 := by
    refine compLoop_anyD (fun n s' => ∃ i H', Inv (X.blk s3 H3 scope ce fp) [] (wipe σ (own.map (·.2))) H' s' ∧ tn i s'.heap ∧ (∀ b ∈ fp, H' b = none) ∧ W i n H') ?_ m0 ⟨0, H3, I4, st4, nfp, w0⟩
    rintro n s5 ⟨i, H5, I5, st5, n5, w5⟩
    rcases turn i n H5 w5 with ⟨stop, qq⟩ | ⟨go, Nx, hNx, step⟩
    · have td := T.done (X.blk s3 H3 scope ce fp) rfl rfl rfl hc i [] s5 _ H5 (fun _ _ => False) I5 (stat I5 n5) st5 stop
      refine thnF td fun r s6 ⟨hr, I6⟩ => ?_
      subst hr
      -- back in the def's context
      have I7 : Inv X pins σ H5 s6 := I3.call' (ch := fp) I6.os I6.base I6.hok I6.bare fun b hb => ⟨(f3 b hb).1.2.2.2.1, (f3 b hb).1.2.1, (f3 b hb).1.2.2.2.2.1, (f3 b hb).1.2.2.2.2.2⟩
      have nC : H5 s3.heap.objs.size = none := by
        have z : H5 ce.locals = none := I6.free
        rw [cL] at z
        exact z
      obtain ⟨m, hn, _⟩ := I6.loc
      have hn : s6.heap.Ns ce.locals m := hn
      rw [cL] at hn
      exact hRR D s3.heap.objs.size s6 m H5 I7 qq hn (I3.fpOk (Nat.le_refl _) nC)
    · have ti := T.item (X.blk s3 H3 scope ce fp) rfl rfl rfl hc i [] s5 _ H5 (fun _ _ => False) I5 (stat I5 n5) st5 go
      refine thnF ti fun r s6 ⟨u, hr, h6⟩ => ?_
      subst hr
      refine thnF h6 fun _ s7 ⟨x, H7, I7, r7, y7, st7, n7⟩ => ?_
      have I7' := I7.pinned (stat I7 n7) (T.obj _ _ st7)
      refine thnF (pg.run _ s7 _ H7 x u _ I7' r7 (step x H7 y7)) fun _ s8 ⟨σ8, H8, I8, hw8, q8⟩ => ?_
      refine thnF (pt.run _ s8 σ8 H8 _ I8 q8) fun b s9 ⟨H9, I9, q9⟩ => ?_
      -- the turn's end
      have fin : ∀ {s' : Shared} {H' : Hp}, Inv (X.blk s3 H3 scope ce fp) ([] ++ pinsAt fp s7.heap) σ8 H' s' → Nx H' → ∃ m, m < n ∧ ∃ i H', Inv (X.blk s3 H3 scope ce fp) [] (wipe σ (own.map (·.2))) H' s' ∧ tn i s'.heap ∧ (∀ b ∈ fp, H' b = none) ∧ W i m H' := fun {s' H'} I' nx => by
        obtain ⟨m', hm, w'⟩ := hNx H' nx
        have pin' : ∀ b ∈ fp, ∀ o, s7.heap.get? b = some o → s'.heap.get? b = some o ∧ H' b = none := fun b hb o e =>
          let z := I'.pin (b, o) (List.mem_append_right _ (List.mem_append_right _ (mem_pinsAt hb e)))
          ⟨z.1, z.2.1⟩
        have hl : (wipe σ (own.map (·.2))).length = σ8.length := by rw [← hw8, wipe_length]
        refine ⟨m', hm, i + 1, H', (I'.unpinned (pins := [])).weak hl (fun j v e => ?_), T.keep _ _ _ st7 fun b hb o e => (pin' b hb o e).1, fun b hb => ?_, w'⟩
        · rw [← hw8] at e
          exact (wipe_some e).1
        · obtain ⟨o, e, _⟩ := T.obj _ _ st7 b hb
          exact (pin' b hb o e).2
      cases b with
      | false =>
        simp only [Bool.false_eq_true, if_false] at q9 ⊢
        exact fin I9 q9
      | true =>
        simp only [if_true] at q9 ⊢
        refine thnF (pk.run _ s9 σ8 H9 _ I9 q9) fun z s10 ⟨yk, H10, I10, r10, q10⟩ => ?_
        refine thnF (pe.run _ s10 σ8 H10 _ I10 q10) fun z2 s11 ⟨yv, H11, I11, r11, kvs, k, kb, ek, hkb, hD11, hz11, nx⟩ => ?_
        subst ek
        exact d_dictSetT (X := X.blk s3 H3 scope ce fp) hu I11 hD11 hkb hz11 r10 r11 fun s12 I12 => fin I12 nx
  exact codeAny_compStart_dict loop (T.self X.A 0 _ _ _ st4 loop)
/-- as a value -/
theorem pe_dcT {kx vx tg iter : Expr} {ifs : List Expr} {scope : Scope} {own : List (Str × Nat)} {pos : Pos} {wi : TI} {g : TG} {tt : TT} {tk tv : TE} (hu : X.A.units + 1 < cLine) (hc : X.calm = true) (hN : X.N.Nodup) (hi : PI X tg iter wi) (ok : BlkOk X.N X.env.scope scope own)
    (hg : ∀ (s : Shared) (H : Hp) (C : Addr) (cl : List (Str × Addr)) (fp : List Addr), PG (X.blk s H scope (compEnvC scope cl C X.env) fp) tg g) (ht : ∀ (s : Shared) (H : Hp) (C : Addr) (cl : List (Str × Addr)) (fp : List Addr), PTs (X.blk s H scope (compEnvC scope cl C X.env) fp) ifs tt)
    (hk : ∀ (s : Shared) (H : Hp) (C : Addr) (cl : List (Str × Addr)) (fp : List Addr), PE (X.blk s H scope (compEnvC scope cl C X.env) fp) kx tk)
    (he : ∀ (s : Shared) (H : Hp) (C : Addr) (cl : List (Str × Addr)) (fp : List Addr), PE (X.blk s H scope (compEnvC scope cl C X.env) fp) vx tv) (hs : ∀ x, foldedSetIterable iter X.env x = pure x := by intro _; rfl) :
    PE X (.DictComp kx vx [⟨tg, iter, ifs, 0⟩] scope pos) (tDcT wi g tt tk tv (own.map (·.2))) := by
  refine ⟨fun pins s σ H Q I h => ?_⟩
  rw [arm_eval_DictComp]
  refine dcT_core hu hc hN I hi ok hg ht hk he hs h fun D C s' m H' I' q hn f => ⟨m, hn, fun h'' sb => ?_⟩
  obtain ⟨f0, f1, f2, f3, f4, f5⟩ := f
  exact ⟨.ref D, H', I'.turned (t' := s'.toks) (fun b o hb e => (sb.2 b hb).trans e) f0 f1 f3 f4 f5, rfl, q⟩
/-- over a tuple that stays -/
theorem dcT_tup {K : PySem.W.Frag} {a : Addr} {xs : List V} {g : TG} {tt : TT} {tk tv : TE} {vs : List Nat} {σ : St} {H1 : Hp} {D : Addr} {Qd : Hp → Prop} (Pv : Nat → Hp → Prop) (h0 : Pv 0 (upd H1 D (.dT []))) (hl : ∀ i H, i ≤ xs.length → Pv i H → SqT K H a xs)
    (hs : ∀ i x H, xs[i]? = some x → Pv i H → g x (wipe σ vs) H fun σ2 H2 => wipe σ2 vs = wipe σ vs ∧ tt σ2 H2 fun b H3 =>
      if b = true then tk σ2 H3 fun y H4 => tv σ2 H4 fun z H5 => ∃ kvs k b, y = .ref b ∧ H5 b = some (.tup (k.map kV)) ∧ H5 D = some (.dT kvs) ∧ kvs.length < sizeLine ∧ Pv (i + 1) (upd H5 D (.dT (putK kvs k z))) else Pv (i + 1) H3) (hd : ∀ H, Pv xs.length H → Qd H) :
    ∃ W : Nat → Nat → Hp → Prop, (∃ m, W 0 m (upd H1 D (.dT []))) ∧ ∀ i m H, W i m H →
      ((Itt K a).stop i H ∧ Qd H) ∨ ((Itt K a).go i H ∧ ∃ Nx : Hp → Prop, (∀ H', Nx H' → ∃ m', m' < m ∧ W (i + 1) m' H') ∧ ∀ x H', (Itt K a).yld i H x H' → g x (wipe σ vs) H' fun σ2 H2 => wipe σ2 vs = wipe σ vs ∧ tt σ2 H2 fun b H3 =>
        if b = true then tk σ2 H3 fun y H4 => tv σ2 H4 fun z H5 => ∃ kvs k b, y = .ref b ∧ H5 b = some (.tup (k.map kV)) ∧ H5 D = some (.dT kvs) ∧ kvs.length < sizeLine ∧ Nx (upd H5 D (.dT (putK kvs k z))) else Nx H3) := by
  refine ⟨fun i m H => m = xs.length - i ∧ i ≤ xs.length ∧ Pv i H, ⟨xs.length, by simp, Nat.zero_le _, h0⟩, ?_⟩
  rintro i m H ⟨rfl, hi, p⟩
  have q := hl i H hi p
  by_cases hlt : i < xs.length
  · refine .inr ⟨⟨xs, xs[i], q, by simp [hlt]⟩, Pv (i + 1), fun H' p' => ⟨xs.length - (i + 1), by omega, rfl, hlt, p'⟩, fun x H' y => ?_⟩
    obtain ⟨e, y⟩ := y
    subst e
    exact hs i x _ (y xs q) p
  · have e : i = xs.length := by omega
    subst e
    exact .inl ⟨⟨xs, q, Nat.le_refl _⟩, hd H p⟩
end
/-! dict(xs) of a list of pairs (tuple, value) -/
def mergeT (kvs more : List (List Key × V)) : List (List Key × V) := more.foldl (fun acc kv => putK acc kv.1 kv.2) kvs
theorem mergeT_len (more : List (List Key × V)) : ∀ kvs, (mergeT kvs more).length ≤ kvs.length + more.length := by
  induction more with
  | nil => intro kvs; exact Nat.le_refl _
  | cons p more ih =>
    intro kvs
    have h := ih (putK kvs p.1 p.2)
    have h2 := length_putK kvs p.1 p.2
    show (mergeT (putK kvs p.1 p.2) more).length ≤ _
    rw [List.length_cons]
    omega
section
variable {X : Cx} {pins : List (Addr × Obj)} {σ : St} {H : Hp} {s : Shared}
/-- the pair at p: a key's tuple, a value -/
def PairT (K : PySem.W.Frag) (H : Hp) (p : Addr) (kv : List Key × V) : Prop := ∃ b, SqT K H p [.ref b, kv.2] ∧ H b = some (.tup (kv.1.map kV))
theorem pairsT_of (I : Inv X pins σ H s) : ∀ {ps : List Addr} {kvs : List (List Key × V)}, Paired (PairT X.K H) ps kvs →
    ∃ prs : List (List Key × Addr × Value), L2.KT H kvs prs ∧ prs.length = ps.length ∧ (∀ q ∈ prs, (tupleKind (mixKind X.prog X.w)).is s.heap q.1 q.2.1) ∧ ∀ (j : Nat) (q : List Key × Addr × Value), prs[j]? = some q → ∃ b : Addr, ps[j]? = some b ∧ IsTup s.heap b #[.ref q.2.1, q.2.2]
  | _, _, .nil => ⟨[], .nil, rfl, ⟨fun _ h => (by cases h), fun j q e => (by simp at e)⟩⟩
  | _, _, .cons (a := p) (b := kv) h t => by
    obtain ⟨prs, r, hl, hi, hp⟩ := pairsT_of I t
    obtain ⟨b, h1, h2⟩ := h
    obtain ⟨its, rv, ht, _⟩ := I.tuple h1
    obtain ⟨u, y, ei, ru, ry⟩ := vals2 rv
    subst ei
    cases (show u = Value.ref b from ru)
    refine ⟨(kv.1, b, y) :: prs, .cons ⟨rfl, h2, ry⟩ r, by rw [List.length_cons, List.length_cons, hl], fun q hq => ?_, fun j q e => ?_⟩
    · rcases List.mem_cons.mp hq with e | e
      · rw [e]; exact key_of I.hok h2
      · exact hi q e
    · cases j with
      | zero =>
        have e' : (kv.1, b, y) = q := Option.some.inj e
        subst e'
        exact ⟨p, rfl, ht⟩
      | succ j =>
        obtain ⟨b', e1, e2⟩ := hp j q (by simpa using e)
        exact ⟨b', by simpa using e1, e2⟩
theorem storedAll_kt {kvs : List (List Key × V)} {prs : List (List Key × Addr × Value)} (r : L2.KT H kvs prs) : ∀ {acc : List (List Key × V)} {acc' : List (List Key × Addr × Value)}, L2.KT H acc acc' → L2.KT H (mergeT acc kvs) (storedAllH acc' prs) := by
  induction r with
  | nil => intro acc acc' h; exact h
  | @cons p q ps qs h t ih =>
    intro acc acc' h'
    obtain ⟨p1, p2⟩ := p
    obtain ⟨q1, q2, q3⟩ := q
    obtain ⟨e1, e2, e3⟩ := h
    have e1 : p1 = q1 := e1
    subst e1
    exact ih (h'.put p1 e2 e3)
theorem call_dictPT (hcalm : X.calm = true) (hu : X.A.units + 64 < cLine) : CallR X (.type "dict") (fun xs H Q => ∃ (a : Addr) (ps : List Addr) (kvs : List (List Key × V)), xs = [.ref a] ∧ SqL X.K H a (ps.map V.ref) ∧ Paired (PairT X.K H) ps kvs ∧
    ∀ p, H p = none → Q (.ref p) (upd H p (.dT (mergeT [] kvs)))) := by
  intro pins s σ H xs us Q I r q
  obtain ⟨a, ps, kvs, ex, hq, hp, q⟩ := q
  subst ex
  obtain ⟨u, eu, rx⟩ := vals1 r
  subst eu
  cases rx
  obtain ⟨its, rv, pl, hz⟩ := I.list hq
  have ei := refs_at rv
  subst ei
  rw [List.length_map] at hz
  obtain ⟨prs, rel, hl, hin, hpr⟩ := pairsT_of I hp
  obtain ⟨o, n, ho, hc, hd, hdat⟩ := pl
  have P := PairArg.list (prog := X.prog) (w := X.w) a (ps.map Value.ref).toArray (fun j => ps.getD j 0) (prs.map fun q => (Value.ref q.2.1, q.2.2))
  have ok : PlainSeq "list" s.heap a (ps.map Value.ref).toArray ∧ PairItems s.heap (ps.map Value.ref).toArray (fun j => ps.getD j 0) (prs.map fun q => (Value.ref q.2.1, q.2.2)) := by
    refine ⟨⟨o, n, ho, hc, hd, hdat⟩, by simp [hl], fun j k v e => ?_⟩
    obtain ⟨qq, e1, e2⟩ := map_at e
    obtain ⟨b, e3, e4⟩ := hpr j qq e1
    cases e2
    refine ⟨by simp [e3, List.getD], ?_⟩
    have eb : ps.getD j 0 = b := by simp [List.getD, e3]
    show PairAt s.heap (ps.getD j 0) _ _
    rw [eb]
    exact .inl e4
  refine call_dict_pairsH (knd := tupleKind (mixKind X.prog X.w)) (ps := prs) P (I.ok.hd hcalm) (by show X.A.in1.in1.units < cLine; show X.A.units + 1 + 1 < cLine; omega) ok ⟨by simp, fun i key v e => ?_⟩ (fun h' k x hx => ?_) (by rw [List.length_map, hl]; exact hz) fun h' tk hd' k => ?_
  · obtain ⟨qq, e1, e2⟩ := map_at e
    cases e2
    exact ⟨qq.1, qq.2.1, e1, rfl⟩
  · obtain ⟨o2, its2, n2, h1, h2, h3, h4⟩ := hin x hx
    exact ⟨o2, its2, n2, k _ _ (Nat.ne_of_lt (Heap.lt_size h1)) (by simp) h1, h2, h3, h4⟩
  · have hm : (s.heap.objs.size == sysModules) = false := beq_eq_false_iff_ne.mpr (Nat.ne_of_gt I.big)
    have hlen : (mergeT [] kvs).length ≤ sizeLine := by
      refine Nat.le_trans (mergeT_len kvs []) ?_
      rw [List.length_nil, Nat.zero_add, Paired.length rel, hl]
      exact hz
    have nf := I.hok.fresh (Nat.le_refl s.heap.objs.size)
    obtain ⟨q', es, ep, hq', h2, h3, h4, _, h5⟩ := hd'
    exact ⟨.ref s.heap.objs.size, upd H s.heap.objs.size (.dT (mergeT [] kvs)), I.laid (t' := tk) (fun b o e => k b o (by simp) e) (Nat.le_refl _) (show ObjOk X.prog X.w (upd H s.heap.objs.size (.dT (mergeT [] kvs))) h' s.heap.objs.size (.dT (mergeT [] kvs)) from
      ⟨hlen, hm, storedAllH [] prs, (storedAll_kt rel .nil).keeps fun c ys ec => by rw [upd_ne (ne_of_none ec nf)]; exact ec, q', es, ep, hq', h2, h3, h4, h5⟩), rfl, q _ nf⟩
end
end K25
end

section
-- BKey
set_option Elab.async false
set_option linter.all false
set_option maxRecDepth 100000
set_option maxHeartbeats 4000000
set_option autoImplicit false
/-! A key: no two rows with the same values at the lot. -/
namespace K25
open PySem PySem.Spec PyProof.Rows L2
def keyP (ks r : List Int) : List Key × V := ((atLot ks r).map Sum.inl, V.bl true)
def isKey (rows : List (List Int)) (ks : List Int) : Bool := decide ((mergeT [] (rows.map (keyP ks))).length = rows.length)
theorem keyV (ks r : List Int) : (keyP ks r).1.map kV = (atLot ks r).map V.int := by
  show ((atLot ks r).map Sum.inl).map kV = _
  rw [List.map_map]
  rfl
theorem merge_take {ks : List Int} {rows : List (List Int)} {i : Nat} {r : List Int} (h : rows[i]? = some r) : mergeT [] ((rows.take (i + 1)).map (keyP ks)) = putK (mergeT [] ((rows.take i).map (keyP ks))) (keyP ks r).1 (V.bl true) := by
  rw [List.take_add_one, h, List.map_append]
  unfold mergeT
  rw [List.foldl_append]
  rfl
theorem dec_len (a b : Nat) : decide (V.int (a : Int) = V.int (b : Int)) = decide (a = b) := decide_eq_decide.mpr ⟨fun h => by injection h with h; omega, fun h => by rw [h]⟩
section
variable {P : Program} {w : World} {K : PySem.W.Frag} {mg : Str → Option Value} {base : Heap}
theorem sc49 : FnScope ["rows", "lot", "row"] ["rows", "lot"] (defScope (top 49)) := ⟨rfl, rfl, rfl, by decide +kernel, rfl, by decide +kernel, by decide +kernel⟩
theorem sc59 : FnScope ["_law_rows", "_law_lot_here", "_law_row_here"] ["_law_rows", "_law_lot_here"] (defScope (top 59)) := ⟨rfl, rfl, rfl, by decide +kernel, rfl, by decide +kernel, by decide +kernel⟩
def spKey (K : PySem.W.Frag) : Sp := fun vs H Q _ => ∃ (x y : V) (rows : List (List Int)) (ks : List Int), vs = [x, y] ∧ Dp K H x (dR rows) ∧ Dp K H y (dL ks) ∧ (∀ r ∈ rows, ∀ z ∈ ks, 0 ≤ z ∧ z < r.length) ∧ ks.length ≤ 100 ∧ rows.length ≤ 1000 ∧ ∀ H', Same H H' → Q (.bl (isKey rows ks)) H'
theorem cal_key49 (D : Dfn K mg (top 49) "is_key_of") (Z : Fre mg) (CA : Cal P w K mg base Nx0 1 "values_at" ["lot", "row"] (spAt K)) : Cal P w K mg base Nx0 2 "is_key_of" ["rows", "lot"] (spKey K) := by
  refine D.cal0 sc49 (fun _ _ _ _ _ _ us hl => match us, hl with | [_, _], _ => rfl) (fun vs H Q E ⟨_, _, _, _, h, _⟩ => by rw [h]; rfl) fun f cdv A outer s H vs Q E hr h => ?_
  obtain ⟨x, y, rows, ks, rfl, hx, hy, hk, hl, hl2, q⟩ := h
  have nd := sc49.nd
  have hu := hu_of hr
  refine ⟨_, pss_one (ps_ret (pe_cmpR op_eq (pe_callB call_len_dT (by rfl) Z.len PySem.boot_len (pa_cons (pe_dcT (own := [("row", 2)]) (g := gName 2) (tt := tYes) hu rfl nd (pi_tup (pv 0)) (blkOk_by (N := ["rows","lot","row"]) (sc := defScope (top 49)) (by decide +kernel)) (fun _ _ _ _ _ => pg_name (i := 2) nd rfl (Or.inl rfl)) (fun _ _ _ _ _ => pts_nil) (fun _ _ _ _ _ => pe_cn CA hr (pa_cons (pv 1) (pa_cons (pv 2) pa_nil))) (fun _ _ _ _ _ => pe_bl)) pa_nil)) (pe_callB call_len_seq (by rfl) Z.len PySem.boot_len (pa_cons (pv 0) pa_nil)) (nomark _))), ?_⟩
  obtain ⟨a, xs, rfl, hs, ha⟩ := dp_tup hx
  have hlen : xs.length = rows.length := by rw [dpAll_len ha, List.length_map]
  have to := tonly_all tonly_dL rows
  refine ⟨_, rfl, a, rfl, ⟨_, hs⟩, fun L hL => ?_⟩
  refine dcT_tup (K := K) (a := a) (xs := xs) (fun i H' => Same H H' ∧ H' L = some (.dT (mergeT [] ((rows.take i).map (keyP ks))))) ⟨same_new hL, upd_same⟩ (fun i H' _ h => sqT_same hs h.1) ?_ ?_
  · rintro i x H' hx ⟨s2, kD⟩
    obtain ⟨d, h1, h2⟩ := dpAll_get (dpAll_same to ha s2) hx
    obtain ⟨r, h3, rfl⟩ := map_at h1
    have li := (List.getElem?_eq_some_iff.mp h3).1
    refine ⟨rfl, yesK ?_⟩
    refine ⟨_, rfl, _, rfl, y, x, ks, r, rfl, dp_kt (KT.same s2) _ _ (tonly_dL ks) hy, h2, hk r (List.mem_of_getElem? h3), hl, fun H2 p s3 hpn hp => ?_⟩
    have hlen2 := mergeT_len ((rows.take i).map (keyP ks)) []
    rw [List.length_nil, List.length_map, List.length_take] at hlen2
    refine ⟨_, (keyP ks r).1, p, rfl, by rw [keyV]; exact hp, s3 _ _ kD, lt_line (by omega), same_out (s2.trans s3) hL, ?_⟩
    rw [upd_same, merge_take h3]
  · rintro H' ⟨s2, kD⟩
    rw [List.take_of_length_le (by omega)] at kD
    refine ⟨L, _, rfl, kD, _, rfl, a, _, rfl, .inr (sqT_same hs s2), rfl, ?_⟩
    rw [hlen, dec_len]
    exact q H' s2
theorem cal_key59 (D : Dfn K mg (top 59) "_law_is_key") (Z : Fre mg) (CA : Cal P w K mg base Nx0 1 "_law_at_lot" ["_law_lot_here", "_law_row_here"] (spAt K)) : Cal P w K mg base Nx0 2 "_law_is_key" ["_law_rows", "_law_lot_here"] (spKey K) := by
  refine D.cal0 sc59 (fun _ _ _ _ _ _ us hl => match us, hl with | [_, _], _ => rfl) (fun vs H Q E ⟨_, _, _, _, h, _⟩ => by rw [h]; rfl) fun f cdv A outer s H vs Q E hr h => ?_
  obtain ⟨x, y, rows, ks, rfl, hx, hy, hk, hl, hl2, q⟩ := h
  have nd := sc59.nd
  have hu := hr.units
  refine ⟨_, pss_one (ps_ret (pe_cmpR op_eq (pe_callB call_len_dT (by rfl) Z.len PySem.boot_len (pa_cons (pe_callTy ((call_dictPT rfl hu)) (by rfl) Z.dict (by decide +kernel) (pa_cons (pe_lc (own := [("_law_row_here", 2)]) (g := gName 2) (tt := tYes) rfl nd (pi_tup (pv 0)) (blkOk_by (N := ["_law_rows", "_law_lot_here", "_law_row_here"]) (sc := defScope (top 59)) (by decide +kernel)) (fun _ _ _ _ _ => pg_name (i := 2) nd rfl (Or.inl rfl)) (fun _ _ _ _ _ => pts_nil) (fun _ _ _ _ _ => pe_tup (pa_cons (pe_cn CA hr (pa_cons (pv 1) (pa_cons (pv 2) pa_nil))) (pa_cons pe_bl pa_nil)))) pa_nil)) pa_nil)) (pe_callB call_len_seq (by rfl) Z.len PySem.boot_len (pa_cons (pv 0) pa_nil)) (nomark _))), ?_⟩
  obtain ⟨a, xs, rfl, hs, ha⟩ := dp_tup hx
  have hlen : xs.length = rows.length := by rw [dpAll_len ha, List.length_map]
  have to := tonly_all tonly_dL rows
  refine ⟨_, rfl, a, rfl, ⟨_, hs⟩, fun L hL => ?_⟩
  refine lc_tup (K := K) (a := a) (xs := xs) (fun i H' => Same H H' ∧ ∃ ps : List Addr, ps.length = i ∧ H' L = some (.lst (ps.map V.ref)) ∧ Paired (PairT K H') ps ((rows.take i).map (keyP ks))) ⟨same_new hL, [], rfl, upd_same, .nil⟩ (fun i H' _ h => sqT_same hs h.1) ?_ ?_
  · rintro i x H' hx ⟨s2, ps, hps, kD, kP⟩
    obtain ⟨d, h1, h2⟩ := dpAll_get (dpAll_same to ha s2) hx
    obtain ⟨r, h3, rfl⟩ := map_at h1
    have li := (List.getElem?_eq_some_iff.mp h3).1
    refine ⟨rfl, yesK ?_⟩
    refine ⟨_, rfl, _, rfl, y, x, ks, r, rfl, dp_kt (KT.same s2) _ _ (tonly_dL ks) hy, h2, hk r (List.mem_of_getElem? h3), hl, fun H2 p s3 hpn hp => ?_⟩
    refine ⟨by show 2 ≤ sizeLine; decide, fun t ht => ?_⟩
    have s4 : Same H' (upd H2 t (.tup [V.ref p, V.bl true])) := s3.trans (same_new ht)
    have kD2 := s4 _ _ kD
    have k5 : KT (upd H2 t (.tup [V.ref p, V.bl true])) (upd (upd H2 t (.tup [V.ref p, V.bl true])) L (.lst (ps.map V.ref ++ [V.ref t]))) := KT.upd kD2 Soft.lst
    refine ⟨_, kD2, lt_line (by rw [List.length_map]; omega), same_out (s2.trans s4) hL, ps ++ [t], by rw [List.length_append, hps]; rfl, by rw [upd_same, List.map_append]; rfl, ?_⟩
    rw [List.take_add_one, h3, List.map_append]
    have k6 := (KT.same s4).trans k5
    refine (Paired.mapP kP fun p' kv z => ?_).snoc ?_
    · obtain ⟨b, z1, z2⟩ := z
      exact ⟨b, SqT.kt k6 z1, k6.1 _ _ z2⟩
    · exact ⟨p, SqT.of (k5.1 _ _ upd_same), by rw [keyV]; exact k5.1 _ _ (same_new ht _ _ hp)⟩
  · rintro H' ⟨s2, ps, hps, kD, kP⟩
    rw [List.take_of_length_le (by omega)] at kP
    refine ⟨L, ps, _, rfl, SqL.of kD, kP, fun p hp => ?_⟩
    refine ⟨p, _, rfl, upd_same, _, rfl, a, _, rfl, .inr (sqT_same (sqT_same hs s2) (same_new hp)), rfl, ?_⟩
    rw [hlen, dec_len]
    exact q _ (s2.trans (same_new hp))
end
end K25
end

section
-- XTix
set_option Elab.async false
set_option linter.all false
set_option maxRecDepth 100000
set_option maxHeartbeats 4000000
set_option autoImplicit false
/-! Tuples known to their objects: made by tuple(xs), a slice, +; index on such a one. -/
namespace K25
open PySem PySem.Spec PyProof.Rows L2
/-- a tuple whose object has no dict -/
def Fz (H : Hp) (v : V) : Prop := ∃ a o xs, v = .ref a ∧ H a = some (.frz o (.tup xs)) ∧ o.dict = none
theorem Fz.kt {H H' : Hp} {v : V} (k : KT H H') (h : Fz H v) : Fz H' v := by
  obtain ⟨a, o, xs, e, h1, h2⟩ := h
  exact ⟨a, o, xs, e, k.2 _ _ _ h1, h2⟩
theorem sqT_frz {K : PySem.W.Frag} {H : Hp} {a : Addr} {o : Obj} {xs : List V} (h : H a = some (.frz o (.tup xs))) : SqT K H a xs := .inl (.inr ⟨o, h⟩)
def ixOf (rows : List (List Int)) (r : List Int) : Nat := (rows.map PySem.W.Tup.mk).idxOf (PySem.W.Tup.mk r)
section
variable {X : Cx}
/-- what is new: a tuple of ys, its object known -/
def NewF (ys : List V) (H : Hp) (Q : VK) : Prop := ∀ l o, H l = none → o.dict = none → Q (.ref l) (upd H l (.frz o (.tup ys)))
def tobj (its : Array Value) : Obj := { cls := .type "tuple", data := .seq its }
theorem newF_ok {pins : List (Addr × Obj)} {σ : L2.St} {H : Hp} {s : Shared} {ys : List V} {its : List Value} {Q : VK} (I : L2.Inv X pins σ H s) (hz : ys.length ≤ sizeLine) (r : Vals ys its) (q : NewF ys H Q) :
    EP X pins σ Q (.ref s.heap.objs.size) { s with heap := s.heap.push { cls := .type "tuple", data := .seq its.toArray } } := by
  refine ⟨.ref s.heap.objs.size, upd H s.heap.objs.size (.frz (tobj its.toArray) (.tup ys)), I.laid (t' := s.toks) (fun b ob q => Heap.get?_push_of_some _ q) (Nat.le_refl _) ?_, rfl, q _ _ (I.hok.fresh (Nat.le_refl _)) rfl⟩
  exact ⟨Heap.get?_push_size _ rfl, hz, its, r, IsTup.new _ _⟩
/-- tuple(xs), xs a list -/
theorem call_tupleF : CallR X (.type "tuple") (fun xs H Q => ∃ p ys, xs = [.ref p] ∧ SqL X.K H p ys ∧ NewF ys H Q) := by
  intro pins s σ H xs us Q I r h
  obtain ⟨p, ys, rfl, hq, q⟩ := h
  obtain ⟨u, rfl, rx⟩ := vals1 r
  cases rx
  obtain ⟨its, r', pl, hz⟩ := I.list hq
  have hlen := r'.length
  refine call_tuple_list pl.isList (fun h' kp => ?_) (by simp only [List.size_toArray] <;> omega)
  exact newF_ok (I.kept (t' := s.toks) kp) hz r' q
/-- t[lo:hi] -/
def rSlF (K : PySem.W.Frag) : V → Option Int → Option Int → Hp → VK → Prop := fun x lo hi H Q => ∃ a xs, x = .ref a ∧ SqT K H a xs ∧
  (HT.sIx xs.length 0 lo = 0 ∧ HT.sIx xs.length xs.length hi = xs.length → Q (.ref a) H) ∧ (¬ (HT.sIx xs.length 0 lo = 0 ∧ HT.sIx xs.length xs.length hi = xs.length) → NewF (cutV xs lo hi) H Q)
theorem sl_tupF : SlR X (rSlF X.K) := by
  intro pins s σ H x v vl vu lo hi sl Q I rx hs pl pu h
  obtain ⟨a, xs, rfl, hx, q1, q2⟩ := h
  cases rx
  obtain ⟨its, r, ht, hz⟩ := I.tuple hx
  have hlen : its.toArray.size = xs.length := by rw [List.size_toArray]; exact r.length.symm
  refine ⟨"tuple", _, PyProof.Rows.slot_tuple_getitem.lookup, ht.typeIs, ?_⟩
  by_cases hw : HT.sIx xs.length 0 lo = 0 ∧ HT.sIx xs.length xs.length hi = xs.length
  · exact getItem_tuple_whole ht hs pl pu (by rw [hlen]; exact hw) ⟨.ref a, H, I, rfl, q1 hw⟩
  · refine HT.getItem_tuple_cut ht hs pl pu (by rw [hlen]; exact hw) ?_ (by rw [hlen]; exact hz)
    rw [hlen]
    exact newF_ok I (Nat.le_trans (cutV_length xs lo hi) hz) ((r.drop (HT.sIx xs.length 0 lo)).take (HT.sIx xs.length xs.length hi - HT.sIx xs.length 0 lo)) (q2 hw)
/-- t + u -/
def rCatF (K : PySem.W.Frag) : R2 := fun x y H Q => ∃ a b xs ys, x = .ref a ∧ y = .ref b ∧ SqT K H a xs ∧ SqT K H b ys ∧ xs.length + ys.length ≤ sizeLine ∧
  (xs = [] → Q (.ref b) H) ∧ (xs ≠ [] → ys = [] → Q (.ref a) H) ∧ (xs ≠ [] → ys ≠ [] → NewF (xs ++ ys) H Q)
theorem op_catF : OpR X (binaryOp .Add) (rCatF X.K) := by
  intro pins s σ H x y v u Q I rx ry h
  obtain ⟨a, b, xs, ys, rfl, rfl, ha, hb, hz, q0, q1, q2⟩ := h
  cases rx
  cases ry
  obtain ⟨its, r1, p1, _⟩ := I.tuple ha
  obtain ⟨its2, r2, p2, _⟩ := I.tuple hb
  by_cases hx : xs = []
  · subst hx
    cases r1
    exact cat_tup0 p1 p2 ⟨.ref b, H, I, rfl, q0 rfl⟩
  · refine HT.cat_tup p1 p2 (fun z => hx (r1.nil_iff.mp z)) (fun z => ⟨.ref a, H, I, rfl, q1 hx (r2.nil_iff.mp z)⟩) (fun z => ?_) (by rw [← r1.length, ← r2.length]; exact hz)
    have q3 := q2 hx (fun w => z (r2.nil_iff.mpr w))
    have := newF_ok I (its := its ++ its2) (by rw [List.length_append]; exact hz) (r1.append r2) q3
    first
      | exact this
      | simpa using this
open PySem.W in
theorem holdAll_of {h : Heap} : ∀ {us : List Value} {rows : List (List Int)} {as : List Addr}, ReadsAll h us (rows.map dL) as → HoldAll h us (rows.map Tup.mk)
  | [], [], _, _ => HoldAll.nil
  | _ :: _, [], _, r => by cases r
  | [], _ :: _, _, r => by cases r
  | u :: us, x :: rows, _, r => by
    cases r with
    | cons r1 r2 => exact HoldAll.cons ⟨_, r1⟩ (holdAll_of r2)
/-- t.index(x), t known to its object, x in it -/
def tTix (K : PySem.W.Frag) (to te : TE) : TE := fun σ H Q => to σ H fun x H1 => Fz H1 x ∧ te σ H1 fun y H2 => ∃ a xs rows r, x = .ref a ∧ SqT K H2 a xs ∧ DpAll K H2 xs (rows.map dL) ∧ Dp K H2 y (dL r) ∧ r ∈ rows ∧ Q (.int (ixOf rows r : Nat)) H2
theorem pe_tix {o e : Expr} {to te : TE} {apos cpos : Pos} (hu : X.A.units + 64 < cLine) (ho : PE X o to) (ha : PE X e te)
    (hbase : attributeBase o "index" X.env (eval o X.env) = eval o X.env := by rfl)
    (hfew : ((backTo cpos (starEach [e] X.env)).all (fun x => !x.1) && (backToKw cpos (keywordEach [] X.env)).all (fun x => x.1.isSome)
      && decide ([e].length + ([] : List Keyword).length + (if ([] : List Keyword).isEmpty then 0 else 1) < 30)) = true := by rfl)
    (hline : (apos.endLine == cpos.line) = true := by rfl) (hs : starEach [e] X.env = (false, eval e X.env) :: starEach [] X.env := by rfl) (hplain : (backTo cpos (starEach [] X.env)).any (·.1) = false := by rfl) :
    PE X (.Call (.Attribute o "index" apos) [e] [] cpos) (tTix X.K to te) := by
  refine ⟨fun pins s σ H Q I h => ?_⟩
  refine wpAny_Call_method_late hbase hfew hline rfl (thn (ho.run pins s σ H _ I h) fun v s1 ⟨x, H1, I1, r1, fz, q1⟩ => ?_)
  obtain ⟨a, ob, xs0, rfl, hfz, hdn⟩ := fz
  cases r1
  obtain ⟨hob, hok⟩ := (show ObjOk X.prog X.w H1 s1.heap a (.frz ob (.tup xs0)) from I1.hok a _ hfz)
  obtain ⟨_, its0, _, ht0⟩ := hok
  refine ⟨"tuple", _, PySem.F.plainAttrs_tuple, PySem.F.slot_tuple_index, PySem.F.type_tuple_index, ht0.typeIs, fun a' e => ?_, ?_⟩
  · cases e
    exact ⟨ob, hob, hdn⟩
  have hA := (pa_cons (es := []) ha pa_nil hs).run cpos pins s1 σ H1 (fun vs H2 => match vs with | [y] => ∃ a' xs rows r, V.ref a = .ref a' ∧ SqT X.K H2 a' xs ∧ DpAll X.K H2 xs (rows.map dL) ∧ Dp X.K H2 y (dL r) ∧ r ∈ rows ∧ Q (.int (ixOf rows r : Nat)) H2 | _ => False) I1 q1
  rw [hs] at hA ⊢
  · refine Calls.callWith_builtin (by show (false || (backTo cpos (starEach [] X.env)).any (·.1)) = false; rw [hplain] <;> rfl) (Calls.evalArgs_plain ?_)
    refine thn hA fun us s2 ⟨vs, H2, I2, r2, qq⟩ => ?_
    obtain ⟨y, rfl⟩ : ∃ y, vs = [y] := by
      match vs, qq with
      | [y], _ => exact ⟨y, rfl⟩
    obtain ⟨a', xs, rows, r, ea, hsq, hda, hdy, hr, q2⟩ := qq
    cases ea
    obtain ⟨u, rfl, ru⟩ := vals1 r2
    obtain ⟨its, rv, ht, _⟩ := I2.tuple hsq
    obtain ⟨as, ra⟩ := Dp.readsAll I2 _ _ _ hda rv
    obtain ⟨bs, rb⟩ := Dp.reads I2 _ _ _ hdy ru
    refine PySem.W.index_tuple_datum (vs := its) (x := PySem.W.Tup.mk r) (xs := rows.map PySem.W.Tup.mk) ht (holdAll_of ra) ⟨bs, rb⟩ (by show X.A.units + 1 + 1 < cLine; omega) (List.mem_map_of_mem hr) ?_
    exact ⟨.int _, H2, I2.tok _, ⟨_, rfl⟩, q2⟩
end
end K25
end

section
-- BBook
set_option Elab.async false
set_option linter.all false
set_option maxRecDepth 100000
set_option maxHeartbeats 4000000
set_option autoImplicit false
/-! A book: what it keeps; its small methods. -/
namespace K25
open PySem PySem.Spec PyProof.Rows L2
def bkO (C dx : Addr) (c : Int) (past : Addr) : HO := .ins C dx [("own_columns", .int c), ("own_past", .ref past)]
structure BkC (K : PySem.W.Frag) (C : Addr) : Prop where
  cl : Cls K C
  n1 : NoAttr K C "own_columns"
  n2 : NoAttr K C "own_past"
/-- rows -/
def RwR (K : PySem.W.Frag) (H : Hp) (x : V) (rows : List (List Int)) : Prop := Dp K H x (dR rows) ∧ (rows ≠ [] → Fz H x)
theorem RwR.kt {K : PySem.W.Frag} {H H' : Hp} {x : V} {rows : List (List Int)} (k : KT H H') (h : RwR K H x rows) : RwR K H' x rows := ⟨dp_kt k _ _ (tonly_dR _) h.1, fun n => (h.2 n).kt k⟩
/-- a snapshot's tuple -/
def SnR (K : PySem.W.Frag) (H : Hp) (v : V) (s : Snap) : Prop := ∃ a x y z, v = .ref a ∧ SqT K H a [x, y, z] ∧ RwR K H x s.rows ∧ Dp K H y (dQ s.stock) ∧ Dp K H z (dR s.lots)
theorem SnR.kt {K : PySem.W.Frag} {H H' : Hp} {v : V} {s : Snap} (k : KT H H') (h : SnR K H v s) : SnR K H' v s := by
  obtain ⟨a, x, y, z, e, h1, h2, h3, h4⟩ := h
  exact ⟨a, x, y, z, e, SqT.kt k h1, h2.kt k, dp_kt k _ _ (tonly_dQ _) h3, dp_kt k _ _ (tonly_dR _) h4⟩
abbrev SnAll (K : PySem.W.Frag) (H : Hp) (xs : List V) (hist : List Snap) : Prop := Paired (SnR K H) xs hist
theorem SnAll.kt {K : PySem.W.Frag} {H H' : Hp} {xs : List V} {hist : List Snap} (k : KT H H') (h : SnAll K H xs hist) : SnAll K H' xs hist := Paired.mapP h fun _ _ z => z.kt k
theorem paired_len {α β : Type} {F : α → β → Prop} : ∀ {xs : List α} {ys : List β}, Paired F xs ys → xs.length = ys.length
  | _, _, .nil => rfl
  | _, _, .cons _ t => by rw [List.length_cons, List.length_cons, paired_len t]
theorem paired_app {α β : Type} {F : α → β → Prop} : ∀ {xs : List α} {ys : List β} {us : List α} {ws : List β}, Paired F xs ys → Paired F us ws → Paired F (xs ++ us) (ys ++ ws)
  | _, _, _, _, .nil, h => h
  | _, _, _, _, .cons h t, g => .cons h (paired_app t g)
theorem paired_take {α β : Type} {F : α → β → Prop} : ∀ {xs : List α} {ys : List β}, Paired F xs ys → ∀ n : Nat, Paired F (xs.take n) (ys.take n)
  | _, _, _, 0 => .nil
  | _, _, .nil, n + 1 => .nil
  | _, _, .cons h t, n + 1 => .cons h (paired_take t n)
theorem paired_snoc {α β : Type} {F : α → β → Prop} : ∀ {ys : List β} {xs : List α} {y : β}, Paired F xs (ys ++ [y]) → ∃ us x, xs = us ++ [x] ∧ Paired F us ys ∧ F x y
  | [], _, y, h => by
    cases h with
    | cons h1 h2 =>
      cases h2
      exact ⟨[], _, rfl, .nil, h1⟩
  | e :: ys, _, y, h => by
    cases h with
    | cons h1 h2 =>
      obtain ⟨us, x, e1, e2, e3⟩ := paired_snoc h2
      exact ⟨_ :: us, x, by rw [e1]; rfl, .cons h1 e2, e3⟩
/-- the book at b has been through hist -/
structure BkOk (K : PySem.W.Frag) (H : Hp) (C b : Addr) (c : Int) (hist : List Snap) : Prop where
  ex : ∃ dx past xs, H b = some (bkO C dx c past) ∧ SqT K H past xs ∧ SnAll K H xs hist
theorem BkOk.soft {K : PySem.W.Frag} {H : Hp} {C b : Addr} {c : Int} {hist : List Snap} (h : BkOk K H C b c hist) : ∃ u, H b = some u ∧ Soft u := by
  obtain ⟨dx, past, xs, e, _⟩ := h.ex
  exact ⟨_, e, Soft.ins⟩
theorem BkOk.at1 {K : PySem.W.Frag} {H H' : Hp} {C b : Addr} {c : Int} {hist : List Snap} (h : BkOk K H C b c hist) (e : H' b = H b) (k : KT H H') : BkOk K H' C b c hist := by
  obtain ⟨dx, past, xs, e1, e2, e3⟩ := h.ex
  exact ⟨dx, past, xs, e.trans e1, SqT.kt k e2, e3.kt k⟩
theorem BkOk.same {K : PySem.W.Frag} {H H' : Hp} {C b : Addr} {c : Int} {hist : List Snap} (h : BkOk K H C b c hist) (e : Same H H') : BkOk K H' C b c hist := by
  obtain ⟨dx, past, xs, e1, e2, e3⟩ := h.ex
  exact ⟨dx, past, xs, e _ _ e1, SqT.kt (KT.same e) e2, e3.kt (KT.same e)⟩
/-- the last of the past -/
theorem BkOk.last {K : PySem.W.Frag} {H : Hp} {C b : Addr} {c : Int} {hs : List Snap} {s : Snap} (h : BkOk K H C b c (hs ++ [s])) : ∃ dx past ys a x y z, H b = some (bkO C dx c past) ∧ SqT K H past (ys ++ [.ref a]) ∧ SnAll K H ys hs ∧ SqT K H a [x, y, z] ∧ RwR K H x s.rows ∧ Dp K H y (dQ s.stock) ∧ Dp K H z (dR s.lots) := by
  obtain ⟨dx, past, xs, e, hq, ha⟩ := h.ex
  obtain ⟨ys, v, rfl, ha2, hv⟩ := paired_snoc ha
  obtain ⟨a2, x, y, z, rfl, h1, h2, h3, h4⟩ := hv
  exact ⟨dx, past, ys, a2, x, y, z, e, hq, ha2, h1, h2, h3, h4⟩
def DfnM (K : PySem.W.Frag) (C : Addr) (st : Stmt) (m qual : Str) : Prop := ∃ f fd, FunD K m qual (defArgs st) (defBody st) (defScope st) [] [] f fd ∧ Meth K C m f
def CalM (P : Program) (w : World) (K : PySem.W.Frag) (mg : Str → Option Value) (base : Heap) (CX : CXT) (k : Nat) (C : Addr) (m : Str) (ps : List Str) (sp : Sp) : Prop := ∃ f fd, FnOk P w K mg base CX k f fd ps sp ∧ Meth K C m f ∧ L2.Binds K fd ps []
section
variable {P : Program} {w : World} {K : PySem.W.Frag} {mg : Str → Option Value} {base : Heap} {st : Stmt} {m qual : Str} {N ps : List Str} {k : Nat} {sp : Sp} {C : Addr}
theorem DfnM.cal0 (D : DfnM K C st m qual) (S : FnScope N ps (defScope st)) (hb : BindOk st m qual ps) (len : ∀ vs H Q E, sp vs H Q E → vs.length = ps.length)
    (hbody : ∀ (f : Addr) (cdv : Value) (A : Around) (outer : List Env) (s : Shared) (H : Hp) (vs : List V) (Q : VK) (E : XK), Room k (A.deeper (envOfC qual (defScope st) s.heap.objs.size f cdv)) → sp vs H Q E →
      ∃ t, PSs (cxOf Nx0 P w K mg base N qual (defScope st) f cdv A outer s H E).nox (defBody st) t ∧ t { nx := fun _ H' => Q .non H', rt := Q } (L2.start N vs) H) : CalM P w K mg base Nx0 (k + 1) C m ps sp := by
  obtain ⟨f, fd, F, M⟩ := D
  refine ⟨f, fd, F.ok S len fun cdv A outer s H vs Q E hr hs => ?_, M, F.bindsN hb⟩
  obtain ⟨t, h, q⟩ := hbody f cdv A outer s H vs Q E hr hs
  exact ⟨t, h.nox, q⟩
theorem DfnM.calX (D : DfnM K C st m qual) (S : FnScope N ps (defScope st)) (hb : BindOk st m qual ps) (len : ∀ vs H Q E, sp vs H Q E → vs.length = ps.length)
    (hbody : ∀ (f : Addr) (cdv : Value) (A : Around) (outer : List Env) (s : Shared) (H : Hp) (vs : List V) (Q : VK) (E : XK), Room k (A.deeper (envOfC qual (defScope st) s.heap.objs.size f cdv)) → sp vs H Q E →
      ∃ t, PSs (cxOf (L2.CX P w) P w K mg base N qual (defScope st) f cdv A outer s H E) (defBody st) t ∧ t { nx := fun _ H' => Q .non H', rt := Q } (L2.start N vs) H) : CalM P w K mg base (L2.CX P w) (k + 1) C m ps sp := by
  obtain ⟨f, fd, F, M⟩ := D
  exact ⟨f, fd, F.ok S len fun cdv A outer s H vs Q E hr hs => hbody f cdv A outer s H vs Q E hr hs, M, F.bindsN hb⟩
end
section
variable {X : Cx} {CX : CXT} {k : Nat} {C : Addr} {m : Str} {ps : List Str} {sp : Sp} {E : XK} {o e : Expr} {es : List Expr} {ta : TE} {t : TA} {apos pos : Pos}
theorem pe_cm {pl : Sem Bool} (F : CalM X.prog X.w X.K X.mg X.base CX k C m ps sp) (he : PE X o ta) (c : Cls X.K C) (hr : Room k X.A) (hx : Passes CX X E) (ha : PA X (e :: es) t)
    (hst : starEach (e :: es) X.env = (false, eval e X.env) :: starEach es X.env := by rfl) (hpl : (backTo pos (starEach es X.env)).any (·.1) = false := by rfl)
    (ht : eval (.Call (.Attribute o m apos) (e :: es) [] pos) X.env = (do
      let ov ← eval o X.env
      standAt apos.atName
      let (f, first) ← holding [ov] (getMethod ov m pl)
      callWith pos f first (backTo pos (starEach (e :: es) X.env)) (backToKw pos (keywordEach [] X.env))) := by rfl) :
    PE X (.Call (.Attribute o m apos) (e :: es) [] pos) (tMeth C m sp [] E ta t) := by
  obtain ⟨f, fd, F, M, b⟩ := F
  exact pe_meth (pl := pl) he c M F hr b .nil hx ha hst hpl ht
end
/-- an own exception's class by its name -/
def ExnC (P : Program) (K : PySem.W.Frag) (mg : Str → Option Value) (x fld : Str) (C : Addr) : Prop := ∃ fI B Nn newId initId bmB, OwnE P K mg C fI fld B Nn newId initId bmB ∧ mg x = some (.ref C) ∧ (fld = "given" ∨ fld = "many")
theorem ps_raiseN {X : Cx} {C : Addr} {fld : Str} {a : Expr} {ta : TA} {x : Str} {W : WX} {p pos pos2 : Pos} {k : Nat} (T : ExnC X.prog X.K X.mg x fld C) (hc : X.calm = true) (hr : Room k X.A) (tk : Takes X W) (ha : PA X [a] ta) (hg : Gl X x := by rfl) (hdb : (x == ("__debug__" : Str)) = false := by decide)
    (he : starEach (a :: []) X.env = (false, eval a X.env) :: starEach [] X.env := by rfl) (hpl : (backTo pos (starEach [] X.env)).any (·.1) = false := by rfl) :
    PS X (.Raise (some (.Call (.Name x p) [a] [] pos)) none pos2) (tRaiseE C fld W ta) := by
  obtain ⟨fI, B, Nn, newId, initId, bmB, T, hm, hf⟩ := T
  exact ps_raiseE hc T hf hr tk hm ha hg hdb he hpl
def IntC (mg : Str → Option Value) (x : Str) (n : Int) : Prop := ∃ t, mg x = some (.int n t)
section
variable {P : Program} {w : World} {K : PySem.W.Frag} {mg : Str → Option Value} {base : Heap} {C : Addr}
/-! __init__ -/
theorem sc500 : FnScope ["self", "columns"] ["self", "columns"] (defScope (mth 50 0)) := ⟨rfl, rfl, rfl, by decide +kernel, rfl, by decide +kernel, by decide +kernel⟩
def snap0 : Snap := ⟨[], [], []⟩
def spInitB (K : PySem.W.Frag) (C : Addr) : Sp := fun vs H Q _ => ∃ (b dx : Addr) (c : Int), vs = [.ref b, .int c] ∧ H b = some (.ins C dx []) ∧ 1 ≤ c ∧ c ≤ 3 ∧ ∀ H', BkOk K H' C b c [snap0] → Bt [b] H H' → KT H H' → Q .non H'
theorem cal_initB (D : DfnM K C (mth 50 0) "__init__" "Book.__init__") (T : BkC K C) (CN : Cal P w K mg base Nx0 3 "need_columns" ["columns"] spNeedC) : CalM P w K mg base Nx0 4 C "__init__" ["self", "columns"] (spInitB K C) := by
  refine D.cal0 sc500 (fun _ _ _ _ _ _ us hl => match us, hl with | [_, _], _ => rfl) (fun vs H Q E ⟨_, _, _, h, _⟩ => by rw [h]; rfl) fun f cdv A outer s H vs Q E hr h => ?_
  obtain ⟨b, dx, c, rfl, hb, c1, c3, q⟩ := h
  refine ⟨_, pss_cons (ps_expr (pe_cn CN hr (pa_cons (pv 1) pa_nil))) (pss_cons (ps_fld (pv 0) (pv 1) rfl) (pss_one (ps_fld (pv 0) (pe_tup (pa_cons (pe_tup (pa_cons (pe_tup pa_nil) (pa_cons (pe_tup pa_nil) (pa_cons (pe_tup pa_nil) pa_nil)))) pa_nil)) rfl))), ?_⟩
  refine ⟨_, rfl, c, rfl, c1, c3, ?_⟩
  refine ⟨_, rfl, _, rfl, b, C, dx, _, rfl, hb, T.cl, T.n1, by decide, ?_⟩
  have k1 : KT H (upd H b (.ins C dx (putF "own_columns" (.int c) []))) := KT.upd hb Soft.ins
  have e1 : upd H b (.ins C dx (putF "own_columns" (.int c) [])) b = some (.ins C dx [("own_columns", .int c)]) := upd_same
  generalize hH1 : upd H b (.ins C dx (putF "own_columns" (.int c) [])) = H1 at k1 e1
  have b1 : Bt [b] H H1 := by rw [← hH1]; exact Bt.upd List.mem_cons_self
  refine ⟨by decide, fun p1 h1 => ⟨by decide, fun p2 h2 => ⟨by decide, fun p3 h3 => ⟨by show 3 ≤ sizeLine; decide, fun p4 h4 => ⟨by show 1 ≤ sizeLine; decide, fun p5 h5 => ?_⟩⟩⟩⟩⟩
  have s2 := same_new (o := .tup []) h2
  have s3 := same_new (o := .tup []) h3
  have s4 := same_new (o := .tup [.ref p1, .ref p2, .ref p3]) h4
  have s5 := same_new (o := .tup [.ref p4]) h5
  have sm := ((((same_new (o := .tup []) h1).trans s2).trans s3).trans s4).trans s5
  have hb5 := sm _ _ e1
  refine ⟨_, rfl, b, C, dx, _, rfl, hb5, T.cl, T.n2, by show 1 < 1000; decide, ?_⟩
  have k6 : KT H1 (upd _ b (.ins C dx (putF "own_past" (.ref p5) [("own_columns", .int c)]))) := (KT.same sm).trans (KT.upd hb5 Soft.ins)
  have ks : KT _ (upd _ b (.ins C dx (putF "own_past" (.ref p5) [("own_columns", .int c)]))) := KT.upd hb5 Soft.ins
  refine q _ ⟨dx, p5, [.ref p4], upd_same, SqT.kt ks (SqT.of upd_same), .cons (SnR.kt ks ⟨p4, _, _, _, rfl, SqT.of (s5 _ _ upd_same), ⟨?_, fun n => absurd rfl n⟩, ?_, ?_⟩) .nil⟩ ((b1.trans (Bt.of sm)).trans (Bt.upd List.mem_cons_self)) (k1.trans k6)
  · exact .tup (SqT.of (s5 _ _ (s4 _ _ (s3 _ _ (s2 _ _ upd_same))))) .nil
  · exact .tup (SqT.of (s5 _ _ (s4 _ _ (s3 _ _ upd_same)))) .nil
  · exact .tup (SqT.of (s5 _ _ (s4 _ _ upd_same))) .nil
/-! go_on -/
theorem sc504 : FnScope ["self", "rows", "stock", "lots"] ["self", "rows", "stock", "lots"] (defScope (mth 50 4)) := ⟨rfl, rfl, rfl, by decide +kernel, rfl, by decide +kernel, by decide +kernel⟩
def spGo (K : PySem.W.Frag) (C : Addr) : Sp := fun vs H Q _ => ∃ (b : Addr) (c : Int) (hist : List Snap) (x y z : V) (s : Snap), vs = [.ref b, x, y, z] ∧ BkOk K H C b c hist ∧ hist.length ≤ 100 ∧ RwR K H x s.rows ∧ Dp K H y (dQ s.stock) ∧ Dp K H z (dR s.lots) ∧
  ∀ H', BkOk K H' C b c (hist ++ [s]) → Bt [b] H H' → KT H H' → Q .non H'
theorem cal_go (D : DfnM K C (mth 50 4) "go_on" "Book.go_on") (T : BkC K C) : CalM P w K mg base Nx0 1 C "go_on" ["self", "rows", "stock", "lots"] (spGo K C) := by
  refine D.cal0 sc504 (fun _ _ _ _ _ _ us hl => match us, hl with | [_, _, _, _], _ => rfl) (fun vs H Q E ⟨_, _, _, _, _, _, _, h, _⟩ => by rw [h]; rfl) fun f cdv A outer s H vs Q E hr h => ?_
  obtain ⟨b, c, hist, x, y, z, s', rfl, hb, hl, hx, hy, hz, q⟩ := h
  refine ⟨_, pss_one (ps_fld (pv 0) (pe_tup (StX.pa_star (pe_fld (pv 0) rfl) (pa_cons (pe_tup (pa_cons (pv 1) (pa_cons (pv 2) (pa_cons (pv 3) pa_nil)))) pa_nil))) rfl), ?_⟩
  obtain ⟨dx, past, xs, e, hq, ha⟩ := hb.ex
  have hlen : xs.length = hist.length := paired_len ha
  refine ⟨_, rfl, b, C, dx, _, _, rfl, e, T.cl, T.n2, rfl, past, xs, rfl, .inl hq, ?_⟩
  refine ⟨_, rfl, _, rfl, _, rfl, by show 3 ≤ sizeLine; decide, fun p1 h1 => ⟨le_line (by rw [List.length_append, hlen]; show hist.length + 1 ≤ _; omega), fun p2 h2 => ?_⟩⟩
  have s2 := same_new (o := .tup (xs ++ [V.ref p1])) h2
  have sm := (same_new (o := .tup [x, y, z]) h1).trans s2
  have e2 := sm _ _ e
  refine ⟨_, rfl, b, C, dx, _, rfl, e2, T.cl, T.n2, by show 2 < 1000; decide, ?_⟩
  have ku : KT _ (upd _ b (.ins C dx (putF "own_past" (.ref p2) [("own_columns", .int c), ("own_past", .ref past)]))) := KT.upd e2 Soft.ins
  have k := (KT.same sm).trans ku
  have ks := KT.same sm
  exact q _ ⟨dx, p2, xs ++ [V.ref p1], upd_same, SqT.kt ku (SqT.of upd_same), paired_app (ha.kt k) (.cons (SnR.kt ku ⟨p1, x, y, z, rfl, SqT.of (s2 _ _ upd_same), hx.kt ks, dp_kt ks _ _ (tonly_dQ _) hy, dp_kt ks _ _ (tonly_dR _) hz⟩) .nil)⟩ ((Bt.of sm).trans (Bt.upd List.mem_cons_self)) k
end
end K25
end

section
-- BMeth
set_option Elab.async false
set_option linter.all false
set_option maxRecDepth 100000
set_option maxHeartbeats 4000000
set_option autoImplicit false
/-! A book's methods: add. -/
namespace K25
open PySem PySem.Spec PyProof.Rows L2
theorem hu4_of {A : Around} {k : Nat} (hr : Room k A) : A.units + 4 < cLine := by have := hr.units; omega
theorem hu65_of {A : Around} {k : Nat} (hr : Room k A) : A.units + 65 < cLine := by have := hr.un; omega
structure SnapOk (c : Int) (s : Snap) : Prop where
  rows : ∀ r ∈ s.rows, (r.length : Int) = c
  stock : ∀ ix ∈ s.stock, IndexOk c ix
  lots : ∀ k ∈ s.lots, LotOk c k
theorem LotOk.short {c : Int} {ks : List Int} (h : LotOk c ks) (c3 : c ≤ 3) : ks.length ≤ 100 := by
  have key : ∀ (l : List Int) (n : Nat), l.Pairwise (· < ·) → (∀ z ∈ l, (3 : Int) - n ≤ z ∧ z < 3) → l.length ≤ n := by
    intro l
    induction l with
    | nil => intro n _ _; exact Nat.zero_le _
    | cons a l ih =>
      intro n hp hz
      have ha := hz a List.mem_cons_self
      cases n with
      | zero => omega
      | succ n =>
        have h2 := List.pairwise_cons.mp hp
        have := ih n h2.2 fun z hz' => by
          have h3 := h2.1 z hz'
          have h4 := hz z (List.mem_cons_of_mem _ hz')
          omega
        rw [List.length_cons]
        omega
  have := key ks 3 h.asc fun z hz => by have := h.cols z hz; omega
  omega
theorem lot_row {c : Int} {ks r : List Int} (h : LotOk c ks) (hr : (r.length : Int) = c) : ∀ z ∈ ks, 0 ≤ z ∧ z < r.length := fun z hz => by
  have := h.cols z hz
  omega
def badLot (rows : List (List Int)) (lots : List (List Int)) : Option (List Int) := lots.find? fun k => !isKey rows k
theorem bad_more {rows : List (List Int)} {lots : List (List Int)} {i : Nat} {k : List Int} (h : lots[i]? = some k) (hb : badLot rows (lots.take i) = none) : (isKey rows k = true → badLot rows (lots.take (i + 1)) = none) ∧ (isKey rows k = false → badLot rows lots = some k) := by
  refine ⟨fun e => ?_, fun e => ?_⟩
  · unfold badLot at hb ⊢
    rw [List.take_add_one, h, List.find?_append, hb]
    simp [e]
  · have el : lots = lots.take i ++ k :: lots.drop (i + 1) := by
      obtain ⟨hi, e2⟩ := List.getElem?_eq_some_iff.mp h
      rw [← e2, ← List.drop_eq_getElem_cons hi, List.take_append_drop]
    rw [el]
    unfold badLot at hb ⊢
    rw [List.find?_append, hb]
    simp [e]
theorem tupsI_of {K : PySem.W.Frag} {H : Hp} : ∀ {xs : List V} {rows : List (List Int)}, DpAll K H xs (rows.map dL) → TupsI K H xs rows
  | [], [], _ => .nil
  | _ :: _, [], h => by cases h
  | [], _ :: _, h => by cases h
  | x :: xs, r :: rows, h => by
    cases h with
    | cons h1 h2 => exact .cons (by obtain ⟨a, e, hs⟩ := dL_inv h1; exact ⟨a, e, hs⟩) (tupsI_of h2)
theorem of_tupsI {K : PySem.W.Frag} {H : Hp} : ∀ {xs : List V} {rows : List (List Int)}, TupsI K H xs rows → DpAll K H xs (rows.map dL)
  | _, _, .nil => .nil
  | _, _, .cons h t => .cons (by obtain ⟨a, e, hs⟩ := h; rw [e]; exact dL_of hs) (of_tupsI t)
theorem srt_len (l : List (List Int)) : (srt l).length = l.length := (srt_perm l).length_eq
theorem srt_mem {l : List (List Int)} {x : List Int} : x ∈ srt l ↔ x ∈ l := (srt_perm l).mem_iff
theorem same_frz {H : Hp} {p : Addr} {o : HO} (h : H p = none) : Same H (upd H p o) := same_new h
section
variable {P : Program} {w : World} {K : PySem.W.Frag} {mg : Str → Option Value} {base : Heap} {C : Addr}
/-! need_row, need_key -/
theorem sc505 : FnScope ["self", "row"] ["self", "row"] (defScope (mth 50 5)) := ⟨rfl, rfl, rfl, by decide +kernel, rfl, by decide +kernel, by decide +kernel⟩
def spNeedRow (K : PySem.W.Frag) (C : Addr) : Sp := fun vs H Q _ => ∃ (b : Addr) (c : Int) (hist : List Snap) (x : V) (r : List Int), vs = [.ref b, x] ∧ BkOk K H C b c hist ∧ Dp K H x (dL r) ∧ (r.length : Int) = c ∧ c ≤ 3 ∧ ∀ H', Same H H' → Q .non H'
theorem cal_needrow (D : DfnM K C (mth 50 5) "need_row" "Book.need_row") (T : BkC K C) (CR : Cal P w K mg base Nx0 2 "is_row" ["columns", "thing"] (spIsRow K)) : CalM P w K mg base Nx0 3 C "need_row" ["self", "row"] (spNeedRow K C) := by
  refine D.cal0 sc505 (fun _ _ _ _ _ _ us hl => match us, hl with | [_, _], _ => rfl) (fun vs H Q E ⟨_, _, _, _, _, h, _⟩ => by rw [h]; rfl) fun f cdv A outer s H vs Q E hr h => ?_
  obtain ⟨b, c, hist, x, r, rfl, hb, hx, hl, c3, q⟩ := h
  refine ⟨_, pss_one (ps_if (pt_not (pt_val (pe_cn CR hr (pa_cons (pe_fld (pv 0) rfl) (pa_cons (pv 1) pa_nil))))) (pss_one ps_never) pss_nil), ?_⟩
  obtain ⟨dx, past, xs, e, hq, ha⟩ := hb.ex
  exact ⟨_, rfl, b, C, dx, _, _, rfl, e, T.cl, T.n1, rfl, _, rfl, c, x, r, rfl, hx, hl, c3, fun H1 s1 => ⟨true, rfl, itF rfl (q H1 s1)⟩⟩
theorem sc510 : FnScope ["self", "lot"] ["self", "lot"] (defScope (mth 50 10)) := ⟨rfl, rfl, rfl, by decide +kernel, rfl, by decide +kernel, by decide +kernel⟩
def spNeedKey (K : PySem.W.Frag) (C : Addr) : Sp := fun vs H Q _ => ∃ (b : Addr) (c : Int) (hist : List Snap) (x : V) (ks : List Int), vs = [.ref b, x] ∧ BkOk K H C b c hist ∧ Dp K H x (dL ks) ∧ LotOk c ks ∧ c ≤ 3 ∧ ∀ H', Same H H' → Q .non H'
theorem cal_needkey (D : DfnM K C (mth 50 10) "need_key" "Book.need_key") (T : BkC K C) (CL : Cal P w K mg base Nx0 3 "is_lot" ["columns", "thing"] (spIsLot K)) : CalM P w K mg base Nx0 4 C "need_key" ["self", "lot"] (spNeedKey K C) := by
  refine D.cal0 sc510 (fun _ _ _ _ _ _ us hl => match us, hl with | [_, _], _ => rfl) (fun vs H Q E ⟨_, _, _, _, _, h, _⟩ => by rw [h]; rfl) fun f cdv A outer s H vs Q E hr h => ?_
  obtain ⟨b, c, hist, x, r, rfl, hb, hx, hl, c3, q⟩ := h
  refine ⟨_, pss_one (ps_if (pt_not (pt_val (pe_cn CL hr (pa_cons (pe_fld (pv 0) rfl) (pa_cons (pv 1) pa_nil))))) (pss_one ps_never) pss_nil), ?_⟩
  obtain ⟨dx, past, xs, e, hq, ha⟩ := hb.ex
  exact ⟨_, rfl, b, C, dx, _, _, rfl, e, T.cl, T.n1, rfl, _, rfl, c, x, r, rfl, hx, hl, hl.short c3, fun H1 s1 => ⟨true, rfl, itF rfl (q H1 s1)⟩⟩
/-! add -/
theorem sc506 : FnScope ["self", "row", "rows", "stock", "lots", "later", "lot"] ["self", "row"] (defScope (mth 50 6)) := ⟨rfl, rfl, rfl, by decide +kernel, rfl, by decide +kernel, by decide +kernel⟩
def spAdd (K : PySem.W.Frag) (C CB : Addr) : Sp := fun vs H Q E => ∃ (b : Addr) (c : Int) (hs : List Snap) (s : Snap) (x : V) (r : List Int), vs = [.ref b, x] ∧ BkOk K H C b c (hs ++ [s]) ∧ hs.length ≤ 90 ∧ SnapOk c s ∧ c ≤ 3 ∧ s.rows.length < 30 ∧ Dp K H x (dL r) ∧ (r.length : Int) = c ∧
  (∀ k, badLot (srt (s.rows ++ [r])) s.lots = some k → ∀ H1 d v, Same H H1 → H1 d = none → Dp K H1 v (dL k) → E (.ref CB) (some d) (upd H1 d (.xd [("given", v)]))) ∧
  (badLot (srt (s.rows ++ [r])) s.lots = none → ∀ H', BkOk K H' C b c (hs ++ [s] ++ [⟨srt (s.rows ++ [r]), s.stock, s.lots⟩]) → Bt [b] H H' → KT H H' → Q .non H')
theorem cal_add {CB : Addr} (D : DfnM K C (mth 50 6) "add" "Book.add") (Z : Fre mg) (T : BkC K C) (M : IntC mg "MOST_ROWS" 30) (TB : ExnC P K mg "Broken" "given" CB) (CNR : CalM P w K mg base Nx0 3 C "need_row" ["self", "row"] (spNeedRow K C))
    (CK : Cal P w K mg base Nx0 2 "is_key_of" ["rows", "lot"] (spKey K)) (CG : CalM P w K mg base Nx0 1 C "go_on" ["self", "rows", "stock", "lots"] (spGo K C)) : CalM P w K mg base (L2.CX P w) 4 C "add" ["self", "row"] (spAdd K C CB) := by
  refine D.calX sc506 (fun _ _ _ _ _ _ us hl => match us, hl with | [_, _], _ => rfl) (fun vs H Q E ⟨_, _, _, _, _, _, h, _⟩ => by rw [h]; rfl) fun f cdv A outer s0 H vs Q E hr h => ?_
  obtain ⟨b, c, hs, s, x, r, rfl, hb, hl, so, c3, r30, hx, hrl, qE, qN⟩ := h
  obtain ⟨tM, hM⟩ := M
  have nd := sc506.nd
  have hu := hr.units
  have hr1 : Room 1 _ := hr.mono (by decide)
  have hr2 : Room 2 _ := hr.mono (by decide)
  refine ⟨_, pss_cons (ps_expr (pe_cm (E := L2.E0) CNR (pv 0) T.cl hr pass0' (pa_cons (pv 1) pa_nil))) (pss_cons (ps_asg (pe_ix ix_tup (pe_fld (pv 0) rfl) (pe_un un_neg pe_int) (fun _ _ => rfl)) (pg_tup rfl (pgs_cons (pg_name (i := 2) nd rfl (.inl rfl)) (pgs_cons (pg_name (i := 3) nd rfl (.inl rfl)) (pgs_cons (pg_name (i := 4) nd rfl (.inl rfl)) pgs_nil))))) (pss_cons (ps_if (pt_cmpR op_eq (pe_callB call_len_seq (by rfl) Z.len PySem.boot_len (pa_cons (pv 2) pa_nil)) (pe_glob (v := .int 30) (by rfl) hM ⟨_, rfl⟩) (nomark _)) (pss_one ps_never) pss_nil) (pss_cons (ps_set (i := 5) nd rfl (.inl rfl) (pe_callTy call_tupleF (by rfl) Z.tuple (by decide +kernel) (pa_cons (pe_callB ((cr_sortL (hu4_of hr))) (by rfl) Z.sorted (by decide +kernel) (pa_cons (pe_lst (StX.pa_star (pv 2) (pa_cons (pv 1) pa_nil))) pa_nil)) pa_nil))) (pss_cons (ps_for (passes_of rfl) rfl (pi_tup (pv 4)) (pg_name (i := 6) nd rfl (.inl rfl)) (pss_one (ps_if (pt_not (pt_val (pe_cn CK hr2 (pa_cons (pv 5) (pa_cons (pv 6) pa_nil))))) (pss_one (ps_raiseN TB rfl hr (takes_of rfl rfl rfl rfl) (pa_cons (pv 6) pa_nil))) pss_nil))) (pss_one (ps_expr (pe_cm (E := L2.E0) CG (pv 0) T.cl hr1 pass0' (pa_cons (pv 5) (pa_cons (pv 3) (pa_cons (pv 4) pa_nil)))))))))), ?_⟩
  obtain ⟨dx0, past0, ys0, a0, vr0, vs0, vl0, e0, _⟩ := hb.last
  refine ⟨_, rfl, b, dx0, _, rfl, e0, rfl, _, rfl, b, c, _, x, r, rfl, hb, hx, hrl, c3, fun H1 s1 => ?_⟩
  obtain ⟨dx, past, ys, a, vr, vs, vl, e1, hq, ha, hsn, hR, hS, hL⟩ := (hb.same s1).last
  refine ⟨_, rfl, b, C, dx, _, _, rfl, e1, T.cl, T.n2, rfl, _, rfl, past, _, _, _, rfl, rfl, hq, atI_last _ _, ?_⟩
  refine ⟨a, _, rfl, hsn, rfl, _, _, rfl, _, _, rfl, _, _, rfl, rfl, ?_⟩
  obtain ⟨ar, xr, rfl, hqr, hdr⟩ := dp_tup hR.1
  have lenr : xr.length = s.rows.length := by rw [dpAll_len hdr, List.length_map]
  refine ⟨_, rfl, ar, _, rfl, .inr hqr, rfl, _, rfl, itF ?_ ?_⟩
  · exact decide_eq_false fun e => by injection e with e; rw [lenr] at e; omega
  have hx1 := dp_kt (KT.same s1) _ _ (tonly_dL r) hx
  refine ⟨_, rfl, ar, xr, rfl, .inl hqr, _, rfl, le_line (by rw [List.length_append, lenr]; show s.rows.length + 1 ≤ _; omega), fun p1 h1 => ?_⟩
  have s2 := s1.trans (same_new (o := .lst (xr ++ [x])) h1)
  have k2 : KT H1 _ := KT.same (same_new (o := .lst (xr ++ [x])) h1)
  refine ⟨p1, _, s.rows ++ [r], rfl, SqL.of upd_same, tupsI_of (by rw [List.map_append]; exact dpAll_app (dpAll_kt k2 _ _ (tonly_all tonly_dL _) hdr) (.cons (dp_kt k2 _ _ (tonly_dL r) hx1) .nil)), fun zs p2 hz h2 => ?_⟩
  have s3 := s2.trans (same_new (o := .lst zs) h2)
  refine ⟨p2, zs, rfl, SqL.of upd_same, fun l o hl0 ho => ?_⟩
  have s4 := s3.trans (same_new (o := .frz o (.tup zs)) hl0)
  have ks4 : KT _ _ := KT.same (same_new (o := .frz o (.tup zs)) hl0)
  have hz4 : DpAll K _ zs ((srt (s.rows ++ [r])).map dL) := dpAll_kt ks4 _ _ (tonly_all tonly_dL _) (dpAll_kt (KT.same (same_new h2)) _ _ (tonly_all tonly_dL _) (of_tupsI hz))
  generalize hH4 : upd (upd (upd H1 p1 (.lst (xr ++ [x]))) p2 (.lst zs)) l (.frz o (.tup zs)) = H4 at s4 hz4
  have hl4 : H4 l = some (.frz o (.tup zs)) := by rw [← hH4]; exact upd_same
  have s14 : Same H1 H4 := by rw [← hH4]; exact ((same_new h1).trans (same_new h2)).trans (same_new hl0)
  obtain ⟨al, xl, rfl, hql, hdl⟩ := dp_tup (dp_kt (KT.same s14) _ _ (tonly_dR _) hL)
  have lenl : xl.length = s.lots.length := by rw [dpAll_len hdl, List.length_map]
  refine ⟨_, rfl, al, rfl, ⟨_, hql⟩, for_tup (K := K) (a := al) (xs := xl) (fun i σ H' => ∃ lv : Option V, σ = [some (.ref b), some x, some (.ref ar), some vs, some (.ref al), some (.ref l), lv] ∧ Same H4 H' ∧ badLot (srt (s.rows ++ [r])) (s.lots.take i) = none)
    ⟨none, rfl, Same.refl _, rfl⟩ (fun i σ H' _ ⟨_, _, s5, _⟩ => sqT_same hql s5) ?_ ?_⟩
  · rintro i v σ H' hv ⟨lv, rfl, s5, hbad⟩
    obtain ⟨d, h3, h4⟩ := dpAll_get (dpAll_same (tonly_all tonly_dL _) hdl s5) hv
    obtain ⟨k, h5, rfl⟩ := map_at h3
    obtain ⟨b1, b2⟩ := bad_more h5 hbad
    have hk := so.lots k (List.mem_of_getElem? h5)
    refine ⟨_, rfl, _, rfl, .ref l, v, srt (s.rows ++ [r]), k, rfl, .tup (sqT_same (sqT_frz hl4) s5) (dpAll_same (tonly_all tonly_dL _) hz4 s5), h4, fun r' hr' => ?_, hk.short c3, by rw [srt_len, List.length_append]; show s.rows.length + 1 ≤ _; omega, fun H2 s6 => ⟨_, rfl, ?_⟩⟩
    · refine lot_row hk ?_
      rcases List.mem_append.mp (srt_mem.mp hr') with h | h
      · exact so.rows r' h
      · rcases List.mem_cons.mp h with h | h
        · rw [h]; exact hrl
        · cases h
    · cases e : isKey (srt (s.rows ++ [r])) k with
      | false =>
        refine itT rfl ⟨_, rfl, v, rfl, fun d hd => qE k (b2 e) H2 d v ((s4.trans s5).trans s6) hd (dp_kt (KT.same s6) _ _ (tonly_dL k) h4)⟩
      | true => exact itF rfl ⟨_, rfl, s5.trans s6, b1 e⟩
  · rintro σ H' ⟨lv, rfl, s5, hbad⟩
    rw [List.take_of_length_le (by omega)] at hbad
    have s6 := s4.trans s5
    have hb6 := hb.same s6
    obtain ⟨dx6, past6, xs6, e6, _⟩ := hb6.ex
    have k5 := KT.same (s14.trans s5)
    refine ⟨_, rfl, b, dx6, _, rfl, e6, rfl, _, rfl, _, rfl, _, rfl, b, c, hs ++ [s], .ref l, vs, .ref al, ⟨srt (s.rows ++ [r]), s.stock, s.lots⟩, rfl, hb6, by rw [List.length_append]; show hs.length + 1 ≤ _; omega, ⟨.tup (sqT_same (sqT_frz hl4) s5) (dpAll_same (tonly_all tonly_dL _) hz4 s5), fun _ => ⟨l, o, zs, rfl, s5 _ _ hl4, ho⟩⟩,
      dp_kt k5 _ _ (tonly_dQ _) hS, .tup (sqT_same hql s5) (dpAll_same (tonly_all tonly_dL _) hdl s5), fun H' h1 h2 h3 => qN hbad H' h1 ((Bt.of s6).trans h2) ((KT.same s6).trans h3)⟩
end
end K25
end

section
-- BMeth2
set_option Elab.async false
set_option linter.all false
set_option maxRecDepth 100000
set_option maxHeartbeats 4000000
set_option autoImplicit false
/-! A book's methods: remove, make, drop, claim, waive. -/
namespace K25
open PySem PySem.Spec PyProof.Rows L2
section
variable {K : PySem.W.Frag} {H : Hp} {a b : Addr} {xs ys : List V}
theorem slF_from {Q : VK} (h : SqT K H a xs) (fz : xs ≠ [] → Fz H (.ref a)) (j : Nat) (q : ∀ p H', Same H H' → SqT K H' p (xs.drop j) → (xs.drop j ≠ [] → Fz H' (.ref p)) → Q (.ref p) H') : rSlF K (.ref a) (some (j : Int)) none H Q := by
  refine ⟨a, xs, rfl, h, fun e => ?_, fun _ p o hp ho => ?_⟩
  · have e1 : min j xs.length = 0 := by rw [← sIx_some xs.length 0 j]; exact e.1
    have e2 : xs.drop j = xs := by
      by_cases hj : j = 0
      · rw [hj]; rfl
      · have : xs = [] := List.length_eq_zero_iff.mp (by omega)
        rw [this]; simp
    refine q a H (Same.refl H) ?_ ?_
    · rw [e2]; exact h
    · rw [e2]; exact fz
  · rw [cut_from]
    exact q p _ (same_new hp) (sqT_frz upd_same) fun _ => ⟨p, o, _, rfl, upd_same, ho⟩
theorem slF_to {Q : VK} (h : SqT K H a xs) (fz : xs ≠ [] → Fz H (.ref a)) (j : Nat) (q : ∀ p H', Same H H' → SqT K H' p (xs.take j) → (xs.take j ≠ [] → Fz H' (.ref p)) → Q (.ref p) H') : rSlF K (.ref a) none (some (j : Int)) H Q := by
  refine ⟨a, xs, rfl, h, fun e => ?_, fun _ p o hp ho => ?_⟩
  · have e1 : min j xs.length = xs.length := by rw [← sIx_some xs.length xs.length j]; exact e.2
    have e2 : xs.take j = xs := List.take_of_length_le (by omega)
    refine q a H (Same.refl H) ?_ ?_
    · rw [e2]; exact h
    · rw [e2]; exact fz
  · rw [cut_to]
    exact q p _ (same_new hp) (sqT_frz upd_same) fun _ => ⟨p, o, _, rfl, upd_same, ho⟩
theorem slF_from1 {Q : VK} (h : SqT K H a xs) (fz : xs ≠ [] → Fz H (.ref a)) (j : Nat) (q : ∀ p H', Same H H' → SqT K H' p (xs.drop (j + 1)) → (xs.drop (j + 1) ≠ [] → Fz H' (.ref p)) → Q (.ref p) H') : rSlF K (.ref a) (some ((j : Int) + 1)) none H Q := by
  have e : ((j : Int) + 1) = ((j + 1 : Nat) : Int) := by omega
  rw [e]; exact slF_from h fz (j + 1) q
theorem slA_from1 {Q : VK} (h : SqT K H a xs) (j : Nat) (q : ∀ p H', Same H H' → SqT K H' p (xs.drop (j + 1)) → Q (.ref p) H') : rSlA K (.ref a) (some ((j : Int) + 1)) none H Q := by
  have e : ((j : Int) + 1) = ((j + 1 : Nat) : Int) := by omega
  rw [e]; exact slA_from h (j + 1) q
theorem catF {Q : VK} (ha : SqT K H a xs) (hb : SqT K H b ys) (fa : xs ≠ [] → Fz H (.ref a)) (fb : ys ≠ [] → Fz H (.ref b)) (hl : xs.length + ys.length ≤ sizeLine) (q : ∀ p H', Same H H' → SqT K H' p (xs ++ ys) → (xs ++ ys ≠ [] → Fz H' (.ref p)) → Q (.ref p) H') : rCatF K (.ref a) (.ref b) H Q := by
  refine ⟨a, b, xs, ys, rfl, rfl, ha, hb, hl, fun e => ?_, fun e1 e2 => ?_, fun _ _ p o hp ho => ?_⟩
  · subst e; exact q b H (Same.refl H) hb fb
  · subst e2; exact q a H (Same.refl H) (by rw [List.append_nil]; exact ha) (by rw [List.append_nil]; exact fa)
  · exact q p _ (same_new hp) (sqT_frz upd_same) fun _ => ⟨p, o, _, rfl, upd_same, ho⟩
theorem catA {Q : VK} (ha : SqT K H a xs) (hb : SqT K H b ys) (hl : xs.length + ys.length ≤ sizeLine) (q : ∀ p H', Same H H' → SqT K H' p (xs ++ ys) → Q (.ref p) H') : rCatA K (.ref a) (.ref b) H Q := by
  refine ⟨a, b, xs, ys, rfl, rfl, ha, hb, hl, fun e => ?_, fun e1 e2 => ?_, fun _ _ p hp => ?_⟩
  · subst e; exact q b H (Same.refl H) hb
  · subst e2; exact q a H (Same.refl H) (by rw [List.append_nil]; exact ha)
  · exact q p _ (same_new hp) (SqT.of upd_same)
end
theorem canLay_ints : ∀ l : List Int, PyData.canLayAll0 (l.map .int) = true
  | [] => rfl
  | a :: l => by rw [List.map_cons, PyData.canLayAll0, canLay_ints l]; rfl
theorem canLay_dL (l : List Int) : (dL l).canLay0 = true := canLay_ints l
theorem canLay_dLs : ∀ l : List (List Int), PyData.canLayAll0 (l.map dL) = true
  | [] => rfl
  | a :: l => by rw [List.map_cons, PyData.canLayAll0, canLay_dLs l, canLay_dL]; rfl
theorem depth_dL (l : List Int) : (dL l).depth ≤ 1 := by
  unfold dL; rw [PyData.depth]
  have : PyData.depthAll (l.map .int) ≤ 0 := depth_map fun _ _ => Nat.le_refl _
  omega
theorem depth_dR (l : List (List Int)) : (dR l).depth ≤ 2 := by
  unfold dR; rw [PyData.depth]
  have : PyData.depthAll (l.map dL) ≤ 1 := depth_map fun x _ => depth_dL x
  omega
theorem shaped_dL (l : List Int) : SeqAt.shaped (dL l) = true := by
  unfold SeqAt.shaped
  rw [canLay_dL, decide_eq_true (by have := depth_dL l; omega)]
  rfl
theorem shaped_dR (l : List (List Int)) : SeqAt.shaped (dR l) = true := by
  unfold SeqAt.shaped
  have : (dR l).canLay0 = true := canLay_dLs l
  rw [this, decide_eq_true (by have := depth_dR l; omega)]
  rfl
def cutRow (rows : List (List Int)) (r : List Int) : List (List Int) := rows.take (ixOf rows r) ++ rows.drop (ixOf rows r + 1)
section
variable {P : Program} {w : World} {K : PySem.W.Frag} {mg : Str → Option Value} {base : Heap} {C : Addr}
/-! remove -/
theorem sc507 : FnScope ["self", "row", "rows", "stock", "lots", "spot"] ["self", "row"] (defScope (mth 50 7)) := ⟨rfl, rfl, rfl, by decide +kernel, rfl, by decide +kernel, by decide +kernel⟩
def spRemove (K : PySem.W.Frag) (C CM : Addr) : Sp := fun vs H Q E => ∃ (b : Addr) (c : Int) (hs : List Snap) (s : Snap) (x : V) (r : List Int), vs = [.ref b, x] ∧ BkOk K H C b c (hs ++ [s]) ∧ hs.length ≤ 90 ∧ s.rows.length ≤ 100 ∧ c ≤ 3 ∧ Dp K H x (dL r) ∧ (r.length : Int) = c ∧
  (r ∉ s.rows → ∀ H1 d, Same H H1 → H1 d = none → E (.ref CM) (some d) (upd H1 d (.xd [("given", x)]))) ∧
  (r ∈ s.rows → ∀ H', BkOk K H' C b c (hs ++ [s] ++ [⟨cutRow s.rows r, s.stock, s.lots⟩]) → Bt [b] H H' → KT H H' → Q .non H')
theorem cal_remove {CM : Addr} (D : DfnM K C (mth 50 7) "remove" "Book.remove") (T : BkC K C) (TM : ExnC P K mg "Missing" "given" CM) (CNR : CalM P w K mg base Nx0 3 C "need_row" ["self", "row"] (spNeedRow K C))
    (CG : CalM P w K mg base Nx0 1 C "go_on" ["self", "rows", "stock", "lots"] (spGo K C)) : CalM P w K mg base (L2.CX P w) 4 C "remove" ["self", "row"] (spRemove K C CM) := by
  refine D.calX sc507 (fun _ _ _ _ _ _ us hl => match us, hl with | [_, _], _ => rfl) (fun vs H Q E ⟨_, _, _, _, _, _, h, _⟩ => by rw [h]; rfl) fun f cdv A outer s0 H vs Q E hr h => ?_
  obtain ⟨b, c, hs, s, x, r, rfl, hb, hl, l30, c3, hx, hrl, qE, qN⟩ := h
  have nd := sc507.nd
  have hu := hr.units
  have hr1 : Room 1 _ := hr.mono (by decide)
  refine ⟨_, pss_cons (ps_expr (pe_cm (E := L2.E0) CNR (pv 0) T.cl hr pass0' (pa_cons (pv 1) pa_nil))) (pss_cons (ps_asg (pe_ix ix_tup (pe_fld (pv 0) rfl) (pe_un un_neg pe_int) (fun _ _ => rfl)) (pg_tup rfl (pgs_cons (pg_name (i := 2) nd rfl (.inl rfl)) (pgs_cons (pg_name (i := 3) nd rfl (.inl rfl)) (pgs_cons (pg_name (i := 4) nd rfl (.inl rfl)) pgs_nil))))) (pss_cons (ps_if (pt_cmpR ((op_notInT (hu65_of hr))) (pv 1) (pv 2) (by rfl)) (pss_one (ps_raiseN TM rfl hr (takes_of rfl rfl rfl rfl) (pa_cons (pv 1) pa_nil))) pss_nil) (pss_cons (ps_set (i := 5) nd rfl (.inl rfl) (pe_tix hu (pv 2) (pv 1))) (pss_one (ps_expr (pe_cm (E := L2.E0) CG (pv 0) T.cl hr1 pass0' (pa_cons (pe_op op_catF (pe_slice sl_tupF (pv 2) po_none (po_some (pv 5))) (pe_slice sl_tupF (pv 2) (po_some (pe_op op_add (pv 5) pe_int)) po_none)) (pa_cons (pv 3) (pa_cons (pv 4) pa_nil))))))))), ?_⟩
  obtain ⟨dx0, past0, ys0, a0, vr0, vs0, vl0, e0, _⟩ := hb.last
  refine ⟨_, rfl, b, dx0, _, rfl, e0, rfl, _, rfl, b, c, _, x, r, rfl, hb, hx, hrl, c3, fun H1 s1 => ?_⟩
  obtain ⟨dx, past, ys, a, vr, vs, vl, e1, hq, ha, hsn, hR, hS, hL⟩ := (hb.same s1).last
  refine ⟨_, rfl, b, C, dx, _, _, rfl, e1, T.cl, T.n2, rfl, _, rfl, past, _, _, _, rfl, rfl, hq, atI_last _ _, ?_⟩
  refine ⟨a, _, rfl, hsn, rfl, _, _, rfl, _, _, rfl, _, _, rfl, rfl, ?_⟩
  have hx1 := dp_kt (KT.same s1) _ _ (tonly_dL r) hx
  refine ⟨_, rfl, _, rfl, dL r, s.rows.map dL, hx1, hR.1, shaped_dL r, shaped_dR s.rows, _, rfl, ?_⟩
  rw [any_dL]
  by_cases hm : r ∈ s.rows
  · refine itF (by rw [decide_eq_true hm]; rfl) ?_
    obtain ⟨ar, xr, rfl, hqr, hdr⟩ := dp_tup hR.1
    have lenr : xr.length = s.rows.length := by rw [dpAll_len hdr, List.length_map]
    have fz : xr ≠ [] → Fz H1 (.ref ar) := fun n => hR.2 fun e => n (List.length_eq_zero_iff.mp (by rw [lenr, e]; rfl))
    refine ⟨_, rfl, hR.2 (fun e => by rw [e] at hm; cases hm), _, rfl, ar, xr, s.rows, r, rfl, hqr, hdr, hx1, hm, ?_⟩
    obtain ⟨dx6, past6, xs6, e6, _⟩ := (hb.same s1).ex
    refine ⟨_, rfl, b, dx6, _, rfl, e6, rfl, _, rfl, _, rfl, _, rfl, slF_to hqr fz _ fun p1 H2 s2 hp1 fz1 => ?_⟩
    have hq2 := sqT_same hqr s2
    refine ⟨_, rfl, _, rfl, _, _, rfl, rfl, _, rfl, ?_⟩
    dsimp only [tNoPart]
    refine slF_from1 hq2 (fun n => (fz n).kt (KT.same s2)) (ixOf s.rows r) fun p2 H3 s3 hp2 fz2 => ?_
    have hp1' := sqT_same hp1 s3
    refine catF hp1' hp2 (fun n => (fz1 n).kt (KT.same s3)) fz2 (le_line ?_) fun p4 H4 s4 hp4 fz4 => ?_
    · rw [List.length_take, List.length_drop]; omega
    have s14 := (s2.trans s3).trans s4
    have k14 := KT.same s14
    have hb4 := (hb.same s1).same s14
    have hd4 : DpAll K H4 (xr.take (ixOf s.rows r) ++ xr.drop (ixOf s.rows r + 1)) ((cutRow s.rows r).map dL) := by
      unfold cutRow
      rw [List.map_append, List.map_take, List.map_drop]
      have := dpAll_kt k14 _ _ (tonly_all tonly_dL _) hdr
      exact dpAll_app (dpAll_take this _) (dpAll_drop this _)
    refine ⟨_, rfl, _, rfl, b, c, hs ++ [s], .ref p4, vs, vl, ⟨cutRow s.rows r, s.stock, s.lots⟩, rfl, hb4, by rw [List.length_append]; show hs.length + 1 ≤ _; omega, ⟨.tup hp4 hd4, fun n => fz4 fun e => n ?_⟩,
      dp_kt k14 _ _ (tonly_dQ _) hS, dp_kt k14 _ _ (tonly_dR _) hL, fun H' h1 h2 h3 => qN hm H' h1 ((Bt.of (s1.trans s14)).trans h2) ((KT.same (s1.trans s14)).trans h3)⟩
    have := dpAll_len hd4
    rw [e, List.length_map] at this
    exact List.length_eq_zero_iff.mp this.symm
  · refine itT (by rw [decide_eq_false hm]; rfl) ⟨_, rfl, x, rfl, fun d hd => qE hm H1 d s1 hd⟩
/-! make -/
theorem sc508 : FnScope ["self", "index", "rows", "stock", "lots"] ["self", "index"] (defScope (mth 50 8)) := ⟨rfl, rfl, rfl, by decide +kernel, rfl, by decide +kernel, by decide +kernel⟩
def spMake (K : PySem.W.Frag) (C : Addr) : Sp := fun vs H Q _ => ∃ (b : Addr) (c : Int) (hs : List Snap) (s : Snap) (x : V) (ix : List (Int × Str)), vs = [.ref b, x] ∧ BkOk K H C b c (hs ++ [s]) ∧ hs.length ≤ 90 ∧ s.stock.length < 12 ∧ c ≤ 3 ∧ Dp K H x (dX ix) ∧ IndexOk c ix ∧
  ∀ H', BkOk K H' C b c (hs ++ [s] ++ [⟨s.rows, s.stock ++ [ix], s.lots⟩]) → Bt [b] H H' → KT H H' → Q .non H'
theorem cal_make (D : DfnM K C (mth 50 8) "make" "Book.make") (Z : Fre mg) (T : BkC K C) (M : IntC mg "MOST_STOCK" 12) (CNI : Cal P w K mg base Nx0 6 "need_index_of" ["columns", "index"] (spNeedIx K))
    (CG : CalM P w K mg base Nx0 1 C "go_on" ["self", "rows", "stock", "lots"] (spGo K C)) : CalM P w K mg base Nx0 7 C "make" ["self", "index"] (spMake K C) := by
  refine D.cal0 sc508 (fun _ _ _ _ _ _ us hl => match us, hl with | [_, _], _ => rfl) (fun vs H Q E ⟨_, _, _, _, _, _, h, _⟩ => by rw [h]; rfl) fun f cdv A outer s0 H vs Q E hr h => ?_
  obtain ⟨b, c, hs, s, x, ix, rfl, hb, hl, l12, c3, hx, hix, qN⟩ := h
  obtain ⟨tM, hM⟩ := M
  have nd := sc508.nd
  have hr1 : Room 1 _ := hr.mono (by decide)
  refine ⟨_, pss_cons (ps_expr (pe_cn CNI hr (pa_cons (pe_fld (pv 0) rfl) (pa_cons (pv 1) pa_nil)))) (pss_cons (ps_asg (pe_ix ix_tup (pe_fld (pv 0) rfl) (pe_un un_neg pe_int) (fun _ _ => rfl)) (pg_tup rfl (pgs_cons (pg_name (i := 2) nd rfl (.inl rfl)) (pgs_cons (pg_name (i := 3) nd rfl (.inl rfl)) (pgs_cons (pg_name (i := 4) nd rfl (.inl rfl)) pgs_nil))))) (pss_cons (ps_if (pt_cmpR op_eq (pe_callB call_len_seq (by rfl) Z.len PySem.boot_len (pa_cons (pv 3) pa_nil)) (pe_glob (v := .int 12) (by rfl) hM ⟨_, rfl⟩) (nomark _)) (pss_one ps_never) pss_nil) (pss_one (ps_expr (pe_cm (E := L2.E0) CG (pv 0) T.cl hr1 pass0' (pa_cons (pv 2) (pa_cons (pe_tup (StX.pa_star (pv 3) (pa_cons (pv 1) pa_nil))) (pa_cons (pv 4) pa_nil)))))))), ?_⟩
  obtain ⟨dx0, past0, xs0, e0, _⟩ := hb.ex
  refine ⟨_, rfl, b, C, dx0, _, _, rfl, e0, T.cl, T.n1, rfl, _, rfl, c, x, ix, rfl, hx, hix, c3, fun H1 s1 => ?_⟩
  obtain ⟨dx, past, ys, a, vr, vs, vl, e1, hq, ha, hsn, hR, hS, hL⟩ := (hb.same s1).last
  refine ⟨_, rfl, b, C, dx, _, _, rfl, e1, T.cl, T.n2, rfl, _, rfl, past, _, _, _, rfl, rfl, hq, atI_last _ _, ?_⟩
  refine ⟨a, _, rfl, hsn, rfl, _, _, rfl, _, _, rfl, _, _, rfl, rfl, ?_⟩
  obtain ⟨as, xs, rfl, hqs, hds⟩ := dp_tup hS
  have lens : xs.length = s.stock.length := by rw [dpAll_len hds, List.length_map]
  refine ⟨_, rfl, as, _, rfl, .inr hqs, rfl, _, rfl, itF ?_ ?_⟩
  · exact decide_eq_false fun e => by injection e with e; rw [lens] at e; omega
  refine ⟨_, rfl, b, dx, _, rfl, e1, rfl, _, rfl, _, rfl, as, xs, rfl, .inl hqs, _, rfl, le_line (by rw [List.length_append, lens]; show s.stock.length + 1 ≤ _; omega), fun p hp => ?_⟩
  have s2 := same_new (o := .tup (xs ++ [x])) hp
  have k2 := KT.same s2
  have hx2 := dp_kt (KT.same (s1.trans s2)) _ _ (tonly_dX ix) hx
  refine ⟨_, rfl, b, c, hs ++ [s], vr, .ref p, vl, ⟨s.rows, s.stock ++ [ix], s.lots⟩, rfl, hb.same (s1.trans s2), by rw [List.length_append]; show hs.length + 1 ≤ _; omega, hR.kt k2, .tup (SqT.of upd_same) ?_, dp_kt k2 _ _ (tonly_dR _) hL,
    fun H' h1 h2 h3 => qN H' h1 ((Bt.of (s1.trans s2)).trans h2) ((KT.same (s1.trans s2)).trans h3)⟩
  show DpAll K _ _ ((s.stock ++ [ix]).map dX)
  rw [List.map_append]
  exact dpAll_app (dpAll_kt k2 _ _ (tonly_all tonly_dX _) hds) (.cons hx2 .nil)
/-! drop -/
theorem sc509 : FnScope ["self", "which", "rows", "stock", "lots"] ["self", "which"] (defScope (mth 50 9)) := ⟨rfl, rfl, rfl, by decide +kernel, rfl, by decide +kernel, by decide +kernel⟩
def cutAt (l : List (List (Int × Str))) (n : Nat) : List (List (Int × Str)) := l.take n ++ l.drop (n + 1)
def spDrop (K : PySem.W.Frag) (C CN : Addr) : Sp := fun vs H Q E => ∃ (b : Addr) (c : Int) (hs : List Snap) (s : Snap) (n : Nat), vs = [.ref b, .int n] ∧ BkOk K H C b c (hs ++ [s]) ∧ hs.length ≤ 90 ∧ s.stock.length ≤ 12 ∧
  (s.stock.length ≤ n → ∀ d, H d = none → E (.ref CN) (some d) (upd H d (.xd [("given", .int n)]))) ∧
  (n < s.stock.length → ∀ H', BkOk K H' C b c (hs ++ [s] ++ [⟨s.rows, cutAt s.stock n, s.lots⟩]) → Bt [b] H H' → KT H H' → Q .non H')
theorem cal_drop {CN : Addr} (D : DfnM K C (mth 50 9) "drop" "Book.drop") (Z : Fre mg) (T : BkC K C) (TN : ExnC P K mg "BadNumber" "given" CN) (CB : Cal P w K mg base Nx0 2 "is_between" ["thing", "least", "most"] spBtw)
    (CG : CalM P w K mg base Nx0 1 C "go_on" ["self", "rows", "stock", "lots"] (spGo K C)) : CalM P w K mg base (L2.CX P w) 3 C "drop" ["self", "which"] (spDrop K C CN) := by
  refine D.calX sc509 (fun _ _ _ _ _ _ us hl => match us, hl with | [_, _], _ => rfl) (fun vs H Q E ⟨_, _, _, _, _, h, _⟩ => by rw [h]; rfl) fun f cdv A outer s0 H vs Q E hr h => ?_
  obtain ⟨b, c, hs, s, n, rfl, hb, hl, l12, qE, qN⟩ := h
  have nd := sc509.nd
  have hr1 : Room 1 _ := hr.mono (by decide)
  refine ⟨_, pss_cons (ps_asg (pe_ix ix_tup (pe_fld (pv 0) rfl) (pe_un un_neg pe_int) (fun _ _ => rfl)) (pg_tup rfl (pgs_cons (pg_name (i := 2) nd rfl (.inl rfl)) (pgs_cons (pg_name (i := 3) nd rfl (.inl rfl)) (pgs_cons (pg_name (i := 4) nd rfl (.inl rfl)) pgs_nil))))) (pss_cons (ps_if (pt_not (pt_val (pe_cn CB hr (pa_cons (pv 1) (pa_cons pe_int (pa_cons (pe_op op_sub (pe_callB call_len_seq (by rfl) Z.len PySem.boot_len (pa_cons (pv 3) pa_nil)) pe_int) pa_nil)))))) (pss_one (ps_raiseN TN rfl hr (takes_of rfl rfl rfl rfl) (pa_cons (pv 1) pa_nil))) pss_nil) (pss_one (ps_expr (pe_cm (E := L2.E0) CG (pv 0) T.cl hr1 pass0' (pa_cons (pv 2) (pa_cons (pe_op op_catA (pe_slice sl_tupA (pv 3) po_none (po_some (pv 1))) (pe_slice sl_tupA (pv 3) (po_some (pe_op op_add (pv 1) pe_int)) po_none)) (pa_cons (pv 4) pa_nil))))))), ?_⟩
  obtain ⟨dx, past, ys, a, vr, vs, vl, e1, hq, ha, hsn, hR, hS, hL⟩ := hb.last
  refine ⟨_, rfl, b, C, dx, _, _, rfl, e1, T.cl, T.n2, rfl, _, rfl, past, _, _, _, rfl, rfl, hq, atI_last _ _, ?_⟩
  refine ⟨a, _, rfl, hsn, rfl, _, _, rfl, _, _, rfl, _, _, rfl, rfl, ?_⟩
  obtain ⟨as, xs, rfl, hqs, hds⟩ := dp_tup hS
  have lens : xs.length = s.stock.length := by rw [dpAll_len hds, List.length_map]
  refine ⟨_, rfl, _, rfl, as, _, rfl, .inr hqs, _, _, rfl, rfl, (n : Int), 0, _, rfl, _, rfl, ?_⟩
  by_cases hm : n < s.stock.length
  · refine itF (by rw [decide_eq_true (show (0 : Int) ≤ n ∧ (n : Int) ≤ (xs.length : Int) - 1 by omega)]; rfl) ?_
    refine ⟨_, rfl, b, dx, _, rfl, e1, rfl, _, rfl, _, rfl, _, rfl, _, rfl, slA_to hqs n fun p1 H2 s2 hp1 => ?_⟩
    have hq2 := sqT_same hqs s2
    refine ⟨_, rfl, _, rfl, _, _, rfl, rfl, _, rfl, ?_⟩
    dsimp only [tNoPart]
    refine slA_from1 hq2 n fun p2 H3 s3 hp2 => ?_
    refine catA (sqT_same hp1 s3) hp2 (le_line ?_) fun p4 H4 s4 hp4 => ?_
    · rw [List.length_take, List.length_drop]; omega
    have s14 := (s2.trans s3).trans s4
    have k14 := KT.same s14
    refine ⟨_, rfl, b, c, hs ++ [s], vr, .ref p4, vl, ⟨s.rows, cutAt s.stock n, s.lots⟩, rfl, hb.same s14, by rw [List.length_append]; show hs.length + 1 ≤ _; omega, hR.kt k14, .tup hp4 ?_, dp_kt k14 _ _ (tonly_dR _) hL,
      fun H' h1 h2 h3 => qN hm H' h1 ((Bt.of s14).trans h2) (k14.trans h3)⟩
    show DpAll K _ _ ((cutAt s.stock n).map dX)
    unfold cutAt
    rw [List.map_append, List.map_take, List.map_drop]
    have := dpAll_kt k14 _ _ (tonly_all tonly_dX _) hds
    exact dpAll_app (dpAll_take this _) (dpAll_drop this _)
  · refine itT (by rw [decide_eq_false (show ¬ ((0 : Int) ≤ n ∧ (n : Int) ≤ (xs.length : Int) - 1) by omega)]; rfl) ⟨_, rfl, .int n, rfl, fun d hd => qE (by omega) d hd⟩
end
end K25
end

section
-- BMeth3
set_option Elab.async false
set_option linter.all false
set_option maxRecDepth 100000
set_option maxHeartbeats 4000000
set_option autoImplicit false
/-! A book's methods: claim, waive, undo, what it shows. -/
namespace K25
open PySem PySem.Spec PyProof.Rows L2
section
variable {P : Program} {w : World} {K : PySem.W.Frag} {mg : Str → Option Value} {base : Heap} {C : Addr}
/-! claim -/
theorem sc511 : FnScope ["self", "lot", "rows", "stock", "lots"] ["self", "lot"] (defScope (mth 50 11)) := ⟨rfl, rfl, rfl, by decide +kernel, rfl, by decide +kernel, by decide +kernel⟩
def spClaim (K : PySem.W.Frag) (C CB : Addr) : Sp := fun vs H Q E => ∃ (b : Addr) (c : Int) (hs : List Snap) (s : Snap) (x : V) (ks : List Int), vs = [.ref b, x] ∧ BkOk K H C b c (hs ++ [s]) ∧ hs.length ≤ 90 ∧ s.rows.length ≤ 100 ∧ s.lots.length ≤ 8 ∧ c ≤ 3 ∧ (∀ r ∈ s.rows, (r.length : Int) = c) ∧ Dp K H x (dL ks) ∧ LotOk c ks ∧ (ks ∈ s.lots ∨ s.lots.length < 8) ∧
  (ks ∉ s.lots → isKey s.rows ks = false → ∀ H1 d, Same H H1 → H1 d = none → E (.ref CB) (some d) (upd H1 d (.xd [("given", x)]))) ∧
  (ks ∈ s.lots → ∀ H1, Same H H1 → Q .non H1) ∧
  (ks ∉ s.lots → isKey s.rows ks = true → ∀ H', BkOk K H' C b c (hs ++ [s] ++ [⟨s.rows, s.stock, srt (s.lots ++ [ks])⟩]) → Bt [b] H H' → KT H H' → Q .non H')
theorem cal_claim {CB : Addr} (D : DfnM K C (mth 50 11) "claim" "Book.claim") (Z : Fre mg) (T : BkC K C) (M : IntC mg "MOST_KEYS" 8) (TB : ExnC P K mg "Broken" "given" CB) (CNK : CalM P w K mg base Nx0 4 C "need_key" ["self", "lot"] (spNeedKey K C))
    (CK : Cal P w K mg base Nx0 2 "is_key_of" ["rows", "lot"] (spKey K)) (CG : CalM P w K mg base Nx0 1 C "go_on" ["self", "rows", "stock", "lots"] (spGo K C)) : CalM P w K mg base (L2.CX P w) 5 C "claim" ["self", "lot"] (spClaim K C CB) := by
  refine D.calX sc511 (fun _ _ _ _ _ _ us hl => match us, hl with | [_, _], _ => rfl) (fun vs H Q E ⟨_, _, _, _, _, _, h, _⟩ => by rw [h]; rfl) fun f cdv A outer s0 H vs Q E hr h => ?_
  obtain ⟨b, c, hs, s, x, ks, rfl, hb, hl, lr, ll, c3, hrl, hx, hk, h8, qE, qI, qN⟩ := h
  obtain ⟨tM, hM⟩ := M
  have nd := sc511.nd
  have hr1 : Room 1 _ := hr.mono (by decide)
  have hr2 : Room 2 _ := hr.mono (by decide)
  refine ⟨_, pss_cons (ps_expr (pe_cm (E := L2.E0) CNK (pv 0) T.cl hr pass0' (pa_cons (pv 1) pa_nil))) (pss_cons (ps_asg (pe_ix ix_tup (pe_fld (pv 0) rfl) (pe_un un_neg pe_int) (fun _ _ => rfl)) (pg_tup rfl (pgs_cons (pg_name (i := 2) nd rfl (.inl rfl)) (pgs_cons (pg_name (i := 3) nd rfl (.inl rfl)) (pgs_cons (pg_name (i := 4) nd rfl (.inl rfl)) pgs_nil))))) (pss_cons (ps_if (pt_cmpR ((op_inT (hu65_of hr))) (pv 1) (pv 4) (by rfl)) (pss_one ps_retN) pss_nil) (pss_cons (ps_if (pt_cmpR op_eq (pe_callB call_len_seq (by rfl) Z.len PySem.boot_len (pa_cons (pv 4) pa_nil)) (pe_glob (v := .int 8) (by rfl) hM ⟨_, rfl⟩) (nomark _)) (pss_one ps_never) pss_nil) (pss_cons (ps_if (pt_not (pt_val (pe_cn CK hr2 (pa_cons (pv 2) (pa_cons (pv 1) pa_nil))))) (pss_one (ps_raiseN TB rfl hr (takes_of rfl rfl rfl rfl) (pa_cons (pv 1) pa_nil))) pss_nil) (pss_one (ps_expr (pe_cm (E := L2.E0) CG (pv 0) T.cl hr1 pass0' (pa_cons (pv 2) (pa_cons (pv 3) (pa_cons (pe_callTy call_tuple_of (by rfl) Z.tuple (by decide +kernel) (pa_cons (pe_callB ((cr_sortL (hu4_of hr))) (by rfl) Z.sorted (by decide +kernel) (pa_cons (pe_lst (StX.pa_star (pv 4) (pa_cons (pv 1) pa_nil))) pa_nil)) pa_nil)) pa_nil)))))))))), ?_⟩
  obtain ⟨dx0, past0, xs0, e0, _⟩ := hb.ex
  refine ⟨_, rfl, b, dx0, _, rfl, e0, rfl, _, rfl, b, c, _, x, ks, rfl, hb, hx, hk, c3, fun H1 s1 => ?_⟩
  obtain ⟨dx, past, ys, a, vr, vs, vl, e1, hq, ha, hsn, hR, hS, hL⟩ := (hb.same s1).last
  refine ⟨_, rfl, b, C, dx, _, _, rfl, e1, T.cl, T.n2, rfl, _, rfl, past, _, _, _, rfl, rfl, hq, atI_last _ _, ?_⟩
  refine ⟨a, _, rfl, hsn, rfl, _, _, rfl, _, _, rfl, _, _, rfl, rfl, ?_⟩
  have hx1 := dp_kt (KT.same s1) _ _ (tonly_dL ks) hx
  refine ⟨_, rfl, _, rfl, dL ks, s.lots.map dL, hx1, hL, shaped_dL ks, shaped_dR s.lots, _, rfl, ?_⟩
  rw [any_dL]
  by_cases hm : ks ∈ s.lots
  · exact itT (decide_eq_true hm) (qI hm H1 s1)
  refine itF (decide_eq_false hm) ?_
  obtain ⟨al, xl, rfl, hql, hdl⟩ := dp_tup hL
  have lenl : xl.length = s.lots.length := by rw [dpAll_len hdl, List.length_map]
  refine ⟨_, rfl, al, _, rfl, .inr hql, rfl, _, rfl, itF ?_ ?_⟩
  · exact decide_eq_false fun e => by
      injection e with e
      rcases h8 with h | h
      · exact hm h
      · omega
  refine ⟨_, rfl, _, rfl, vr, x, s.rows, ks, rfl, hR.1, hx1, fun r hr' => lot_row hk (hrl r hr'), hk.short c3, by omega, fun H2 s2 => ⟨_, rfl, ?_⟩⟩
  have s12 := s1.trans s2
  cases e : isKey s.rows ks with
  | false => exact itT rfl ⟨_, rfl, x, rfl, fun d hd => qE hm e H2 d s12 hd⟩
  | true =>
    refine itF rfl ?_
    have hx2 := dp_kt (KT.same s12) _ _ (tonly_dL ks) hx
    have k2 := KT.same s2
    obtain ⟨dx6, past6, xs6, e6, _⟩ := (hb.same s12).ex
    refine ⟨_, rfl, b, dx6, _, rfl, e6, rfl, _, rfl, _, rfl, _, rfl, al, xl, rfl, .inl (sqT_same hql s2), _, rfl, le_line (by rw [List.length_append, lenl]; show s.lots.length + 1 ≤ _; omega), fun p1 h1 => ?_⟩
    have s3 := s2.trans (same_new (o := .lst (xl ++ [x])) h1)
    have k3 := KT.same s3
    refine ⟨p1, _, s.lots ++ [ks], rfl, SqL.of upd_same, tupsI_of (by rw [List.map_append]; exact dpAll_app (dpAll_kt k3 _ _ (tonly_all tonly_dL _) hdl) (.cons (dp_kt k3 _ _ (tonly_dL ks) hx1) .nil)), fun zs p2 hz h2 => ?_⟩
    have s4 := s3.trans (same_new (o := .lst zs) h2)
    refine ⟨p2, zs, rfl, .inl ⟨SqL.of upd_same, fun l hl0 => ?_⟩⟩
    have s5 := s4.trans (same_new (o := .tup zs) hl0)
    have k5 := KT.same s5
    have hz5 := dpAll_kt (KT.same (same_new (o := .tup zs) hl0)) _ _ (tonly_all tonly_dL _) (dpAll_kt (KT.same (same_new (o := .lst zs) h2)) _ _ (tonly_all tonly_dL _) (of_tupsI hz))
    have s15 := s1.trans s5
    exact ⟨b, c, hs ++ [s], vr, vs, .ref l, ⟨s.rows, s.stock, srt (s.lots ++ [ks])⟩, rfl, hb.same s15, by rw [List.length_append]; show hs.length + 1 ≤ _; omega, hR.kt k5, dp_kt k5 _ _ (tonly_dQ _) hS, .tup (SqT.of upd_same) hz5,
      fun H' h1 h2 h3 => qN hm e H' h1 ((Bt.of s15).trans h2) ((KT.same s15).trans h3)⟩
/-! waive -/
theorem sc512 : FnScope ["self", "lot", "rows", "stock", "lots", "one"] ["self", "lot"] (defScope (mth 50 12)) := ⟨rfl, rfl, rfl, by decide +kernel, rfl, by decide +kernel, by decide +kernel⟩
def outLot (lots : List (List Int)) (ks : List Int) : List (List Int) := lots.filter fun k => !decide (k = ks)
theorem out_take {lots : List (List Int)} {ks k : List Int} {i : Nat} (h : lots[i]? = some k) : outLot (lots.take (i + 1)) ks = outLot (lots.take i) ks ++ (if k = ks then [] else [k]) := by
  unfold outLot
  rw [List.take_add_one, h, List.filter_append]
  by_cases e : k = ks <;> simp [e]
def spWaive (K : PySem.W.Frag) (C CM : Addr) : Sp := fun vs H Q E => ∃ (b : Addr) (c : Int) (hs : List Snap) (s : Snap) (x : V) (ks : List Int), vs = [.ref b, x] ∧ BkOk K H C b c (hs ++ [s]) ∧ hs.length ≤ 90 ∧ s.lots.length ≤ 100 ∧ c ≤ 3 ∧ Dp K H x (dL ks) ∧ LotOk c ks ∧
  (ks ∉ s.lots → ∀ H1 d, Same H H1 → H1 d = none → E (.ref CM) (some d) (upd H1 d (.xd [("given", x)]))) ∧
  (ks ∈ s.lots → ∀ H', BkOk K H' C b c (hs ++ [s] ++ [⟨s.rows, s.stock, outLot s.lots ks⟩]) → Bt [b] H H' → KT H H' → Q .non H')
/-- the loop [one for one in lots if one != lot]: what is made stands at D -/
def WvP (K : PySem.W.Frag) (lots : List (List Int)) (ks : List Int) (H0 : Hp) (D : Addr) (i : Nat) (H' : Hp) : Prop := Same H0 H' ∧ ∃ ys, H' D = some (.lst ys) ∧ DpAll K H' ys ((outLot (lots.take i) ks).map dL)
theorem wv_more {K : PySem.W.Frag} {lots : List (List Int)} {ks k : List Int} {H0 H' : Hp} {D : Addr} {i : Nat} {v : V} (h : lots[i]? = some k) (hv : Dp K H' v (dL k)) (hD : H0 D = none) (hi : lots.length ≤ 100) (w : WvP K lots ks H0 D i H') (e : ¬ k = ks) :
    ∃ acc, H' D = some (.lst acc) ∧ acc.length < sizeLine ∧ WvP K lots ks H0 D (i + 1) (upd H' D (.lst (acc ++ [v]))) := by
  obtain ⟨s, ys, h1, h2⟩ := w
  have hlen := dpAll_len h2
  rw [List.length_map] at hlen
  have := List.length_filter_le (fun k => !decide (k = ks)) (lots.take i)
  rw [List.length_take] at this
  have hk : KT H' (upd H' D (.lst (ys ++ [v]))) := KT.upd h1 Soft.lst
  refine ⟨ys, h1, lt_line (by unfold outLot at hlen; omega), same_out s hD, ys ++ [v], upd_same, ?_⟩
  rw [out_take h, if_neg e, List.map_append]
  exact dpAll_app (dpAll_kt hk _ _ (tonly_all tonly_dL _) h2) (.cons (dp_kt hk _ _ (tonly_dL _) hv) .nil)
theorem wv_skip {K : PySem.W.Frag} {lots : List (List Int)} {ks k : List Int} {H0 H' : Hp} {D : Addr} {i : Nat} (h : lots[i]? = some k) (w : WvP K lots ks H0 D i H') (e : k = ks) : WvP K lots ks H0 D (i + 1) H' := by
  obtain ⟨s, ys, h1, h2⟩ := w
  refine ⟨s, ys, h1, ?_⟩
  rw [out_take h, if_pos e, List.append_nil]
  exact h2
theorem cal_waive {CM : Addr} (D : DfnM K C (mth 50 12) "waive" "Book.waive") (Z : Fre mg) (T : BkC K C) (TM : ExnC P K mg "Missing" "given" CM) (CNK : CalM P w K mg base Nx0 4 C "need_key" ["self", "lot"] (spNeedKey K C))
    (CG : CalM P w K mg base Nx0 1 C "go_on" ["self", "rows", "stock", "lots"] (spGo K C)) : CalM P w K mg base (L2.CX P w) 5 C "waive" ["self", "lot"] (spWaive K C CM) := by
  refine D.calX sc512 (fun _ _ _ _ _ _ us hl => match us, hl with | [_, _], _ => rfl) (fun vs H Q E ⟨_, _, _, _, _, _, h, _⟩ => by rw [h]; rfl) fun f cdv A outer s0 H vs Q E hr h => ?_
  obtain ⟨b, c, hs, s, x, ks, rfl, hb, hl, ll, c3, hx, hk, qE, qN⟩ := h
  have nd := sc512.nd
  have hu := hr.units
  have hr1 : Room 1 _ := hr.mono (by decide)
  refine ⟨_, pss_cons (ps_expr (pe_cm (E := L2.E0) CNK (pv 0) T.cl hr pass0' (pa_cons (pv 1) pa_nil))) (pss_cons (ps_asg (pe_ix ix_tup (pe_fld (pv 0) rfl) (pe_un un_neg pe_int) (fun _ _ => rfl)) (pg_tup rfl (pgs_cons (pg_name (i := 2) nd rfl (.inl rfl)) (pgs_cons (pg_name (i := 3) nd rfl (.inl rfl)) (pgs_cons (pg_name (i := 4) nd rfl (.inl rfl)) pgs_nil))))) (pss_cons (ps_if (pt_cmpR ((op_notInT (hu65_of hr))) (pv 1) (pv 4) (by rfl)) (pss_one (ps_raiseN TM rfl hr (takes_of rfl rfl rfl rfl) (pa_cons (pv 1) pa_nil))) pss_nil) (pss_one (ps_expr (pe_cm (E := L2.E0) CG (pv 0) T.cl hr1 pass0' (pa_cons (pv 2) (pa_cons (pv 3) (pa_cons (pe_callTy call_tuple_of (by rfl) Z.tuple (by decide +kernel) (pa_cons (pe_lc (own := [("one", 5)]) (g := gName 5) (tt := tTest (tOp (rNeD K) (tVar 5) (tVar 1))) rfl nd (pi_tup (pv 4)) (blkOk_by (N := ["self", "lot", "rows", "stock", "lots", "one"]) (sc := defScope (mth 50 12)) (by decide +kernel)) (fun _ _ _ _ _ => pg_name (i := 5) nd rfl (Or.inl rfl)) (fun _ _ _ _ _ => pts_one (pt_cmpR ((op_neD hu)) (pv 5) (pv 1) (nomark _))) (fun _ _ _ _ _ => pv 5)) pa_nil)) pa_nil)))))))), ?_⟩
  obtain ⟨dx0, past0, xs0, e0, _⟩ := hb.ex
  refine ⟨_, rfl, b, dx0, _, rfl, e0, rfl, _, rfl, b, c, _, x, ks, rfl, hb, hx, hk, c3, fun H1 s1 => ?_⟩
  obtain ⟨dx, past, ys, a, vr, vs, vl, e1, hq, ha, hsn, hR, hS, hL⟩ := (hb.same s1).last
  refine ⟨_, rfl, b, C, dx, _, _, rfl, e1, T.cl, T.n2, rfl, _, rfl, past, _, _, _, rfl, rfl, hq, atI_last _ _, ?_⟩
  refine ⟨a, _, rfl, hsn, rfl, _, _, rfl, _, _, rfl, _, _, rfl, rfl, ?_⟩
  have hx1 := dp_kt (KT.same s1) _ _ (tonly_dL ks) hx
  refine ⟨_, rfl, _, rfl, dL ks, s.lots.map dL, hx1, hL, shaped_dL ks, shaped_dR s.lots, _, rfl, ?_⟩
  rw [any_dL]
  by_cases hm : ks ∈ s.lots
  · refine itF (by rw [decide_eq_true hm]; rfl) ?_
    obtain ⟨al, xl, rfl, hql, hdl⟩ := dp_tup hL
    have lenl : xl.length = s.lots.length := by rw [dpAll_len hdl, List.length_map]
    refine ⟨_, rfl, b, dx, _, rfl, e1, rfl, _, rfl, _, rfl, _, rfl, al, rfl, ⟨_, hql⟩, fun L hL0 => ?_⟩
    refine lc_tup (K := K) (a := al) (xs := xl) (WvP K s.lots ks H1 L) ⟨same_new hL0, [], upd_same, .nil⟩ (fun i H' _ h => sqT_same hql h.1) ?_ ?_
    · rintro i v H' hv wv
      obtain ⟨d, h3, h4⟩ := dpAll_get (dpAll_same (tonly_all tonly_dL _) hdl wv.1) hv
      obtain ⟨k, h5, rfl⟩ := map_at h3
      refine ⟨rfl, ⟨_, rfl, _, rfl, dL k, dL ks, h4, dp_kt (KT.same wv.1) _ _ (tonly_dL ks) hx1, shaped_dL k, shaped_dL ks, _, rfl, ?_⟩⟩
      rw [eqv_dL]
      by_cases e : k = ks
      · exact itF (by simp [e]) (wv_skip h5 wv e)
      · exact itT (by simp [e]) ⟨_, rfl, wv_more h5 h4 hL0 ll wv e⟩
    · rintro H' ⟨s2, zs, kD, hz⟩
      rw [List.take_of_length_le (by omega)] at hz
      refine ⟨L, zs, rfl, .inl ⟨SqL.of kD, fun l hl0 => ?_⟩⟩
      have s3 := s2.trans (same_new (o := .tup zs) hl0)
      have k3 := KT.same s3
      have s13 := s1.trans s3
      exact ⟨b, c, hs ++ [s], vr, vs, .ref l, ⟨s.rows, s.stock, outLot s.lots ks⟩, rfl, hb.same s13, by rw [List.length_append]; show hs.length + 1 ≤ _; omega, hR.kt k3, dp_kt k3 _ _ (tonly_dQ _) hS,
        .tup (SqT.of upd_same) (dpAll_kt (KT.new hl0) _ _ (tonly_all tonly_dL _) hz), fun H' h1 h2 h3 => qN hm H' h1 ((Bt.of s13).trans h2) ((KT.same s13).trans h3)⟩
  · exact itT (by rw [decide_eq_false hm]; rfl) ⟨_, rfl, x, rfl, fun d hd => qE hm H1 d s1 hd⟩
end
end K25
end

section
-- BMeth4
set_option Elab.async false
set_option linter.all false
set_option maxRecDepth 100000
set_option maxHeartbeats 4000000
set_option autoImplicit false
/-! A book's methods: undo, what it shows, its length. -/
namespace K25
open PySem PySem.Spec PyProof.Rows L2
/-! len(x) by an own __len__ -/
section
variable {X : Cx} {CX : CXT} {k : Nat} {C : Addr} {ps : List Str} {sp : Sp} {E : XK}
theorem call_lenO (F : CalM X.prog X.w X.K X.mg X.base CX k C "__len__" ps sp) (hr : Room (k + 1) X.A) (hx : Passes CX X.nox E) :
    CallR X (.builtin "len") (fun xs H Q => ∃ a dx fs, xs = [.ref a] ∧ H a = some (.ins C dx fs) ∧ sp [.ref a] H (fun v H' => ∃ n : Nat, v = .int n ∧ n < 100000 ∧ Q (.int n) H') E) := by
  obtain ⟨f, fd, F, M, hb⟩ := F
  intro pins s σ H xs us Q I r h
  obtain ⟨a, dx, fs, rfl, ea, h⟩ := h
  obtain rfl := Vals.ref1 r
  obtain ⟨mA, O, _, _, _, _⟩ := ins_get I.hok ea
  obtain ⟨od, J, _⟩ := O.look
  have hl : ([Value.ref a] ++ ([] : List Value)).length = ps.length := by rw [← F.len _ _ _ _ h]; rfl
  refine Calls.call_function_entry PySem.kind_len PySem.plain_len PySem.entry_len (PySem.args_len1 _) ?_
  unfold Builtin.«len»
  refine wpAny_bind (m := oneArg "len" _) (wpAny_pure ?_)
  refine wpAny_bind (m := callSpecial? (.ref a) (Str.ofString "__len__")) (PySem.W.special_fn I.kIn J M.at_ (beq_iff_eq.mp M.fn) (wpAny_call (codeAny_mono (F.run X.A.in1 X.stack s H ⟨[.ref a], []⟩ [.ref a] [.ref a] _ E hr.in1 I.env0.in1 (by have := hb s [.ref a] I.kIn hl; rwa [List.append_nil] at this) (.cons rfl .nil) h) fun r s' hq => ?_)))
  cases r with
  | error er => exact False.elim (hx pins σ H s er s' (I.wish _) hq)
  | ok fl =>
    cases fl with
    | ret u =>
      obtain ⟨v, H', I3, rv, n, ev, hn, q3⟩ := I.after hq
      subst ev
      obtain ⟨t, rfl⟩ := rv
      refine wpAny_bind (wpAny_holding (wpAny_pure ?_))
      refine wpAny_bind (wpAny_letGo ?_)
      show wpAny _ _ (if (n : Int) < 0 then _ else _) _ _ _
      rw [if_neg (by omega)]
      show wpAny _ _ (if (n : Int) ≥ 2 ^ 63 then _ else _) _ _ _
      rw [if_neg (by omega)]
      exact wpAny_bind (wpAny_mkInt (wpAny_pure ⟨_, rfl, .int n, H', I3.tok _, ⟨_, rfl⟩, q3⟩))
    | next => exact False.elim hq
    | brk => exact False.elim hq
    | cont => exact False.elim hq
end
/-! properties -/
def CalP (P : Program) (w : World) (K : PySem.W.Frag) (mg : Str → Option Value) (base : Heap) (CX : CXT) (k : Nat) (C : Addr) (x : Str) (ps : List Str) (sp : Sp) : Prop := ∃ p g fd, FnOk P w K mg base CX k g fd ps sp ∧ PropOf K C x p g ∧ L2.Binds K fd ps []
def DfnP (K : PySem.W.Frag) (C : Addr) (st : Stmt) (x qual : Str) : Prop := ∃ p g fd, FunD K x qual (defArgs st) (defBody st) (defScope st) [] [] g fd ∧ PropOf K C x p g
section
variable {X : Cx} {CX : CXT} {k : Nat} {C : Addr} {x : Str} {ps : List Str} {sp : Sp} {E : XK} {e : Expr} {ta : TE} {pos : Pos}
theorem pe_pr (F : CalP X.prog X.w X.K X.mg X.base Nx0 k C x ps sp) (he : PE X e ta) (c : Cls X.K C) (hr : Room (k + 1) X.A) (hab : attributeBase e x X.env (eval e X.env) = eval e X.env) : PE X (.Attribute e x pos) (tProp C sp [] L2.E0 ta) := by
  obtain ⟨p, g, fd, F, hp, b⟩ := F
  exact pe_prop he c hp F hr b .nil (fun _ _ _ _ _ _ _ h => h.elim) hab
end
/-- undo, its default 1 -/
def DfnU (K : PySem.W.Frag) (C : Addr) (st : Stmt) (m qual : Str) : Prop := ∃ f fd, FunD K m qual (defArgs st) (defBody st) (defScope st) [.int 1] [] f fd ∧ Meth K C m f
def CalU (P : Program) (w : World) (K : PySem.W.Frag) (mg : Str → Option Value) (base : Heap) (CX : CXT) (k : Nat) (C : Addr) (m : Str) (ps : List Str) (sp : Sp) : Prop := ∃ f fd, FnOk P w K mg base CX k f fd ps sp ∧ Meth K C m f ∧ L2.Binds K fd ps [] ∧ ∃ ds, Vals [.int 1] ds ∧ L2.Binds K fd ps ds
theorem CalU.m {P : Program} {w : World} {K : PySem.W.Frag} {mg : Str → Option Value} {base : Heap} {CX : CXT} {k : Nat} {C : Addr} {m : Str} {ps : List Str} {sp : Sp} (F : CalU P w K mg base CX k C m ps sp) : CalM P w K mg base CX k C m ps sp := by
  obtain ⟨f, fd, F, M, b, _⟩ := F
  exact ⟨f, fd, F, M, b⟩
section
variable {X : Cx} {CX : CXT} {k : Nat} {C : Addr} {m : Str} {ps : List Str} {sp : Sp} {E : XK} {o : Expr} {ta : TE} {apos pos : Pos}
theorem pe_cu0 {pl : Sem Bool} (F : CalU X.prog X.w X.K X.mg X.base CX k C m ps sp) (he : PE X o ta) (c : Cls X.K C) (hr : Room k X.A) (hx : Passes CX X E)
    (ht : eval (.Call (.Attribute o m apos) [] [] pos) X.env = (do
      let ov ← eval o X.env
      standAt apos.atName
      let (f, first) ← holding [ov] (getMethod ov m pl)
      callWith pos f first (backTo pos (starEach [] X.env)) (backToKw pos (keywordEach [] X.env))) := by rfl) :
    PE X (.Call (.Attribute o m apos) [] [] pos) (tMeth C m sp [.int 1] E ta tNil) := by
  obtain ⟨f, fd, F, M, _, ds, hd, b⟩ := F
  exact pe_meth0 (pl := pl) he c M F hr b hd hx ht
end
section
variable {P : Program} {w : World} {K : PySem.W.Frag} {mg : Str → Option Value} {base : Heap} {C : Addr}
/-! table, indexes, held_keys -/
theorem sc501 : FnScope ["self"] ["self"] (defScope (mth 50 1)) := ⟨rfl, rfl, rfl, by decide +kernel, rfl, by decide +kernel, by decide +kernel⟩
theorem sc502 : FnScope ["self"] ["self"] (defScope (mth 50 2)) := ⟨rfl, rfl, rfl, by decide +kernel, rfl, by decide +kernel, by decide +kernel⟩
theorem sc503 : FnScope ["self"] ["self"] (defScope (mth 50 3)) := ⟨rfl, rfl, rfl, by decide +kernel, rfl, by decide +kernel, by decide +kernel⟩
def spTable (K : PySem.W.Frag) (C : Addr) : Sp := fun vs H Q _ => ∃ (b : Addr) (c : Int) (hs : List Snap) (s : Snap), vs = [.ref b] ∧ BkOk K H C b c (hs ++ [s]) ∧ ∀ v, Dp K H v (dR s.rows) → Q v H
def spIndexes (K : PySem.W.Frag) (C : Addr) : Sp := fun vs H Q _ => ∃ (b : Addr) (c : Int) (hs : List Snap) (s : Snap), vs = [.ref b] ∧ BkOk K H C b c (hs ++ [s]) ∧ ∀ v, Dp K H v (dQ s.stock) → Q v H
def spHeld (K : PySem.W.Frag) (C : Addr) : Sp := fun vs H Q _ => ∃ (b : Addr) (c : Int) (hs : List Snap) (s : Snap), vs = [.ref b] ∧ BkOk K H C b c (hs ++ [s]) ∧ ∀ v, Dp K H v (dR s.lots) → Q v H
theorem bindsP {st : Stmt} {x qual : Str} {g : Addr} {fd : FuncData} (F : FunD K x qual (defArgs st) (defBody st) (defScope st) [] [] g fd) (h : BindOk st x qual ["self"]) : L2.Binds K fd ["self"] [] := F.bindsN h
theorem cal_table (D : DfnP K C (mth 50 1) "table" "Book.table") (T : BkC K C) : CalP P w K mg base Nx0 1 C "table" ["self"] (spTable K C) := by
  obtain ⟨p, g, fd, F, hp⟩ := D
  refine ⟨p, g, fd, F.ok sc501 (fun vs H Q E ⟨_, _, _, _, h, _⟩ => by rw [h]; rfl) (fun cdv A outer s0 H vs Q E hr h => ?_), hp, F.bindsN (fun _ _ _ _ _ _ us hl => match us, hl with | [_], _ => rfl)⟩
  obtain ⟨b, c, hs, s, rfl, hb, q⟩ := h
  refine ⟨_, pss_one (ps_ret (pe_ix ix_tup (pe_ix ix_tup (pe_fld (pv 0) rfl) (pe_un un_neg pe_int) (fun _ _ => rfl)) pe_int (fun _ _ => rfl))), ?_⟩
  obtain ⟨dx, past, ys, a, vr, vs, vl, e1, hq, ha, hsn, hR, hS, hL⟩ := hb.last
  exact ⟨_, rfl, b, C, dx, _, _, rfl, e1, T.cl, T.n2, rfl, _, rfl, past, _, _, _, rfl, rfl, hq, atI_last _ _, a, _, _, _, rfl, rfl, hsn, rfl, q _ hR.1⟩
theorem cal_indexes (D : DfnP K C (mth 50 2) "indexes" "Book.indexes") (T : BkC K C) : CalP P w K mg base Nx0 1 C "indexes" ["self"] (spIndexes K C) := by
  obtain ⟨p, g, fd, F, hp⟩ := D
  refine ⟨p, g, fd, F.ok sc502 (fun vs H Q E ⟨_, _, _, _, h, _⟩ => by rw [h]; rfl) (fun cdv A outer s0 H vs Q E hr h => ?_), hp, F.bindsN (fun _ _ _ _ _ _ us hl => match us, hl with | [_], _ => rfl)⟩
  obtain ⟨b, c, hs, s, rfl, hb, q⟩ := h
  refine ⟨_, pss_one (ps_ret (pe_ix ix_tup (pe_ix ix_tup (pe_fld (pv 0) rfl) (pe_un un_neg pe_int) (fun _ _ => rfl)) pe_int (fun _ _ => rfl))), ?_⟩
  obtain ⟨dx, past, ys, a, vr, vs, vl, e1, hq, ha, hsn, hR, hS, hL⟩ := hb.last
  exact ⟨_, rfl, b, C, dx, _, _, rfl, e1, T.cl, T.n2, rfl, _, rfl, past, _, _, _, rfl, rfl, hq, atI_last _ _, a, _, _, _, rfl, rfl, hsn, rfl, q _ hS⟩
theorem cal_held (D : DfnP K C (mth 50 3) "held_keys" "Book.held_keys") (T : BkC K C) : CalP P w K mg base Nx0 1 C "held_keys" ["self"] (spHeld K C) := by
  obtain ⟨p, g, fd, F, hp⟩ := D
  refine ⟨p, g, fd, F.ok sc503 (fun vs H Q E ⟨_, _, _, _, h, _⟩ => by rw [h]; rfl) (fun cdv A outer s0 H vs Q E hr h => ?_), hp, F.bindsN (fun _ _ _ _ _ _ us hl => match us, hl with | [_], _ => rfl)⟩
  obtain ⟨b, c, hs, s, rfl, hb, q⟩ := h
  refine ⟨_, pss_one (ps_ret (pe_ix ix_tup (pe_ix ix_tup (pe_fld (pv 0) rfl) (pe_un un_neg pe_int) (fun _ _ => rfl)) pe_int (fun _ _ => rfl))), ?_⟩
  obtain ⟨dx, past, ys, a, vr, vs, vl, e1, hq, ha, hsn, hR, hS, hL⟩ := hb.last
  exact ⟨_, rfl, b, C, dx, _, _, rfl, e1, T.cl, T.n2, rfl, _, rfl, past, _, _, _, rfl, rfl, hq, atI_last _ _, a, _, _, _, rfl, rfl, hsn, rfl, q _ hL⟩
/-! __len__ -/
theorem sc518 : FnScope ["self"] ["self"] (defScope (mth 50 18)) := ⟨rfl, rfl, rfl, by decide +kernel, rfl, by decide +kernel, by decide +kernel⟩
def spLenB (K : PySem.W.Frag) (C : Addr) : Sp := fun vs H Q _ => ∃ (b : Addr) (c : Int) (hs : List Snap) (s : Snap), vs = [.ref b] ∧ BkOk K H C b c (hs ++ [s]) ∧ ∀ H', Same H H' → Q (.int (hs.length : Nat)) H'
theorem cal_lenB (D : DfnM K C (mth 50 18) "__len__" "Book.__len__") (Z : Fre mg) (T : BkC K C) : CalM P w K mg base Nx0 1 C "__len__" ["self"] (spLenB K C) := by
  refine D.cal0 sc518 (fun _ _ _ _ _ _ us hl => match us, hl with | [_], _ => rfl) (fun vs H Q E ⟨_, _, _, _, h, _⟩ => by rw [h]; rfl) fun f cdv A outer s0 H vs Q E hr h => ?_
  obtain ⟨b, c, hs, s, rfl, hb, q⟩ := h
  refine ⟨_, pss_one (ps_ret (pe_callB call_len_seq (by rfl) Z.len PySem.boot_len (pa_cons (pe_slice sl_tupA (pe_fld (pv 0) rfl) (po_some pe_int) po_none) pa_nil))), ?_⟩
  obtain ⟨dx, past, xs, e1, hq, ha⟩ := hb.ex
  refine ⟨_, rfl, b, C, dx, _, _, rfl, e1, T.cl, T.n2, rfl, _, rfl, ?_⟩
  dsimp only [tNoPart]
  refine slA_from hq 1 fun p H1 s1 hp => ?_
  refine ⟨p, _, rfl, .inr hp, ?_⟩
  have hlen := paired_len ha
  rw [List.length_append] at hlen
  have e : (xs.drop 1).length = hs.length := by rw [List.length_drop, hlen]; show hs.length + 1 - 1 = _; omega
  rw [e]
  exact q H1 s1
/-! undo -/
theorem sc515 : FnScope ["self", "many"] ["self", "many"] (defScope (mth 50 15)) := ⟨rfl, rfl, rfl, by decide +kernel, rfl, by decide +kernel, by decide +kernel⟩
def spUndo (K : PySem.W.Frag) (C CL : Addr) : Sp := fun vs H Q E => ∃ (b : Addr) (c : Int) (hist : List Snap) (m : Nat), vs = [.ref b, .int m] ∧ BkOk K H C b c hist ∧ hist.length ≤ 90 ∧ 1 ≤ m ∧ m ≤ 1000 ∧
  (hist.length ≤ m → ∀ d, H d = none → E (.ref CL) (some d) (upd H d (.xd [("many", .int m)]))) ∧
  (m < hist.length → ∀ H', BkOk K H' C b c (hist.take (hist.length - m)) → Bt [b] H H' → KT H H' → Q .non H')
theorem cal_undo {CL : Addr} (D : DfnU K C (mth 50 15) "undo" "Book.undo") (Z : Fre mg) (T : BkC K C) (TL : ExnC P K mg "NothingLeft" "many" CL) (CI : Cal P w K mg base Nx0 1 "is_integer" ["thing"] spInt) : CalU P w K mg base (L2.CX P w) 2 C "undo" ["self", "many"] (spUndo K C CL) := by
  obtain ⟨f, fd, F, M⟩ := D
  have b2 := F.binds1 (ps := ["self", "many"]) 2 1 (fun z => by cases z) rfl (fun T kV doc pm an cdv ct us its h1 h2 => match us, h1, its, h2 with | [_, _], _, [_], _ => ⟨_, rfl, rfl⟩)
  have b1 := F.binds1 (ps := ["self", "many"]) 1 0 (fun z => by cases z) rfl (fun T kV doc pm an cdv ct us its h1 h2 => match us, h1, its, h2 with | [_], _, [_], _ => ⟨_, rfl, rfl⟩)
  refine ⟨f, fd, F.ok sc515 (fun vs H Q E ⟨_, _, _, _, h, _⟩ => by rw [h]; rfl) (fun cdv A outer s0 H vs Q E hr h => ?_), M, ?_, b1⟩
  · obtain ⟨b, c, hist, m, rfl, hb, hl, h1, h2, qE, qN⟩ := h
    have nd := sc515.nd
    refine ⟨_, pss_cons (ps_if (PW.pt (pw_or (pt_not (pt_val (pe_cn CI hr (pa_cons (pv 1) pa_nil)))) (pw_or1 (pt_cmpR op_lt (pv 1) pe_int (nomark _))))) (pss_one ps_never) pss_nil) (pss_cons (ps_if (pt_cmpR op_ge (pv 1) (pe_callB call_len_seq (by rfl) Z.len PySem.boot_len (pa_cons (pe_fld (pv 0) rfl) pa_nil)) (nomark _)) (pss_one (ps_raiseN TL rfl hr (takes_of rfl rfl rfl rfl) (pa_cons (pv 1) pa_nil))) pss_nil) (pss_one (ps_fld (pv 0) (pe_slice sl_tupA (pe_fld (pv 0) rfl) po_none (po_some (pe_op op_sub (pe_callB call_len_seq (by rfl) Z.len PySem.boot_len (pa_cons (pe_fld (pv 0) rfl) pa_nil)) (pv 1)))) rfl))), ?_⟩
    obtain ⟨dx, past, xs, e1, hq, ha⟩ := hb.ex
    have hlen := paired_len ha
    refine ⟨_, rfl, (m : Int), rfl, true, rfl, itF rfl ⟨_, rfl, _, _, rfl, rfl, _, rfl, itF (decide_eq_false (by omega)) ?_⟩⟩
    refine ⟨_, rfl, _, rfl, b, C, dx, _, _, rfl, e1, T.cl, T.n2, rfl, past, _, rfl, .inr hq, _, _, rfl, rfl, _, rfl, ?_⟩
    by_cases hm : m < hist.length
    · refine itF (decide_eq_false (by omega)) ?_
      refine ⟨_, rfl, b, C, dx, _, _, rfl, e1, T.cl, T.n2, rfl, ?_⟩
      dsimp only [tNoPart]
      refine ⟨_, rfl, b, C, dx, _, _, rfl, e1, T.cl, T.n2, rfl, past, _, rfl, .inr hq, _, rfl, _, _, rfl, rfl, _, rfl, ?_⟩
      have e2 : ((xs.length : Int) - (m : Int)) = ((hist.length - m : Nat) : Int) := by omega
      rw [e2]
      refine slA_to hq (hist.length - m) fun p H1 s1 hp => ?_
      have e3 := s1 _ _ e1
      refine ⟨_, rfl, b, C, dx, _, rfl, e3, T.cl, T.n2, by show 2 < 1000; decide, ?_⟩
      have ku : KT H1 (upd H1 b (.ins C dx (putF "own_past" (.ref p) [("own_columns", .int c), ("own_past", .ref past)]))) := KT.upd e3 Soft.ins
      have k := (KT.same s1).trans ku
      exact qN hm _ ⟨dx, p, xs.take (hist.length - m), upd_same, SqT.kt ku hp, SnAll.kt k (paired_take ha _)⟩ ((Bt.of s1).trans (Bt.upd List.mem_cons_self)) k
    · refine itT (decide_eq_true (by omega)) ⟨_, rfl, .int m, rfl, fun d hd => qE (by omega) d hd⟩
  · obtain ⟨ds, hv, b⟩ := b2
    have hv : Vals [] ds := hv
    cases hv
    exact b
end
end K25
end

section
-- XTold
set_option Elab.async false
set_option linter.all false
set_option maxRecDepth 100000
set_option maxHeartbeats 4000000
/-! _law_told: what a lambda gives, or what it raised, told. -/
namespace K25
open PySem PySem.Spec PyProof.Rows L2
/-- the classes of _law_told's clauses -/
structure ToldC (K : PySem.W.Frag) (mg : Str → Option Value) (CR CK CN CI CB CM CL : Addr) : Prop where
  gR : mg "BadRow" = some (.ref CR)
  gK : mg "BadKey" = some (.ref CK)
  gN : mg "BadNumber" = some (.ref CN)
  gI : mg "BadIndex" = some (.ref CI)
  gB : mg "Broken" = some (.ref CB)
  gM : mg "Missing" = some (.ref CM)
  gL : mg "NothingLeft" = some (.ref CL)
  xN : XfC K CN
  xB : XfC K CB
  xM : XfC K CM
  xL : XfC K CL
  nN : PySem.W.findIn K (.ref CN) "given" = some none
  nB : PySem.W.findIn K (.ref CB) "given" = some none
  nM : PySem.W.findIn K (.ref CM) "given" = some none
  nL : PySem.W.findIn K (.ref CL) "many" = some none
  eN : PySem.W.exmOne K (.ref CN) (.ref CR) = some false ∧ PySem.W.exmOne K (.ref CN) (.ref CK) = some false ∧ PySem.W.exmOne K (.ref CN) (.ref CN) = some true
  eB : PySem.W.exmOne K (.ref CB) (.ref CR) = some false ∧ PySem.W.exmOne K (.ref CB) (.ref CK) = some false ∧ PySem.W.exmOne K (.ref CB) (.ref CN) = some false ∧ PySem.W.exmOne K (.ref CB) (.ref CI) = some false ∧ PySem.W.exmOne K (.ref CB) (.ref CB) = some true
  eM : PySem.W.exmOne K (.ref CM) (.ref CR) = some false ∧ PySem.W.exmOne K (.ref CM) (.ref CK) = some false ∧ PySem.W.exmOne K (.ref CM) (.ref CN) = some false ∧ PySem.W.exmOne K (.ref CM) (.ref CI) = some false ∧ PySem.W.exmOne K (.ref CM) (.ref CB) = some false ∧ PySem.W.exmOne K (.ref CM) (.ref CM) = some true
  eL : PySem.W.exmOne K (.ref CL) (.ref CR) = some false ∧ PySem.W.exmOne K (.ref CL) (.ref CK) = some false ∧ PySem.W.exmOne K (.ref CL) (.ref CN) = some false ∧ PySem.W.exmOne K (.ref CL) (.ref CI) = some false ∧ PySem.W.exmOne K (.ref CL) (.ref CB) = some false ∧ PySem.W.exmOne K (.ref CL) (.ref CM) = some false ∧ PySem.W.exmOne K (.ref CL) (.ref CL) = some true
/-- what is told of an exception -/
def Told1 (C : Addr) (wd fld : Str) (cls : Value) (d : Option Addr) (H' : Hp) (Q : VK) : Prop := cls = .ref C ∧ ∃ dd v, d = some dd ∧ H' dd = some (.xd [(fld, v)]) ∧ ∀ p, H' p = none → Q (.ref p) (upd H' p (.tup [.str wd, v]))
def ToldX (CN CB CM CL : Addr) (cls : Value) (d : Option Addr) (H' : Hp) (Q : VK) : Prop :=
  Told1 CN "number" "given" cls d H' Q ∨ Told1 CB "broken" "given" cls d H' Q ∨ Told1 CM "missing" "given" cls d H' Q ∨ Told1 CL "left" "many" cls d H' Q
/-- told of a lambda -/
def TTold (CN CB CM CL : Addr) : (XK → Hp → VK → Prop) → Hp → VK → Prop := fun tl H Q =>
  tl (fun cls d H' => ToldX CN CB CM CL cls d H' Q) H (fun v H1 => 1 ≤ sizeLine ∧ ∀ p, H1 p = none → Q (.ref p) (upd H1 p (.lst [v])))
theorem takes_len {X : Cx} {W : WX} (tk : Takes X W) : Takes X (fun c d σ H => σ.length = X.N.length → W c d σ H) := fun u s' ⟨a, B, sI, pins, σ, H, cls, d, e, I, nb, up, sky, na, os, ag, w⟩ =>
  tk u s' ⟨a, B, sI, pins, σ, H, cls, d, e, I, nb, up, sky, na, os, ag, w I.len⟩
abbrev tsOf (C : Addr) (wd fld : Str) : Addr → Value → Option Addr → TS := fun a cls d => tRet (tTup (tCons (tC (.str wd)) (tCons (tXf a cls d C fld (tVar 1)) tNil)))
abbrev clOf (C : Addr) (wd fld : Str) : Cl := ⟨.ref C, 1, tsOf C wd fld⟩
abbrev clNo (C : Addr) : Cl := ⟨.ref C, 1, fun _ _ _ => tNever⟩
theorem sc62 : FnScope ["_law_call", "error"] ["_law_call"] (defScope (top 62)) := ⟨rfl, rfl, rfl, by decide +kernel, rfl, by decide +kernel, by decide +kernel⟩
theorem ts_reads {C a : Addr} {wd fld : Str} {cls : Value} {d : Option Addr} {σ : L2.St} {H : Hp} {D : Ends} (h : Told1 C wd fld cls d H D.rt) (hs : σ[1]? = some (some (.ref a))) : tsOf C wd fld a cls d D σ H := by
  obtain ⟨e, dd, v, ed, eh, q⟩ := h
  exact ⟨.ref a, hs, rfl, e, dd, _, v, ed, eh, by simp [List.lookup], by show 2 ≤ sizeLine; decide, q⟩
abbrev ZT (X : Cx) (g : Addr) (cdg : Value) (s : Shared) (H : Hp) : Cx := (cxOf C8.CX0 X.prog X.w X.K X.mg X.base ["_law_call", "error"] "_law_told" (defScope (top 62)) g cdg X.A X.stack s H C8.E0).nox
section
variable {X : Cx} {CR CK CN CI CB CM CL : Addr}
theorem told_gives (T : ToldC X.K X.mg CR CK CN CI CB CM CL) {g : Addr} {cdg : Value} {q : Str} :
    LamX.GivesTo X ["_law_call", "error"] "_law_told" (defScope (top 62)) g cdg (defBody (top 62)) "_law_call" q (TTold CN CB CM CL) := by
  intro f c' s H Q tl act hc h
  refine ⟨_, pss_one (ps_try_all (X := (cxOf C8.CX0 X.prog X.w X.K X.mg X.base ["_law_call", "error"] "_law_told" (defScope (top 62)) g cdg X.A X.stack s H C8.E0).nox)
      (l := [clNo CR, clNo CK, clOf CN "number" "given", clNo CI, clOf CB "broken" "given", clOf CM "missing" "given", clOf CL "left" "many"]) (Wout := fun _ _ _ _ => False)
      (tb := fun W D σ H => ∃ Ech : XK, (∀ cls d σ' H', Ech cls d H' → σ'.length = 2 → W cls d σ' H') ∧ σ[0]? = some (some (.ref f)) ∧ H c' = some (LamX.CodeO c' q) ∧ tl Ech H fun v H1 => 1 ≤ sizeLine ∧ ∀ p, H1 p = none → D.rt (.ref p) (upd H1 p (.lst [v])))
      rfl rfl sc62.nd LamX.takes0 (fun W pn xe tk _ => ?_)
      (.cons rfl rfl ⟨rfl, by decide, .inl T.gR⟩ (fun _ _ _ _ _ _ _ => pss_never)
      (.cons rfl rfl ⟨rfl, by decide, .inl T.gK⟩ (fun _ _ _ _ _ _ _ => pss_never)
      (.cons rfl rfl ⟨rfl, by decide, .inl T.gN⟩ (fun a oe cls d pn hz hf => pss_one (ps_ret (pe_tup (pa_cons pe_str (pa_cons (pe_xf (X := ZT X g cdg s H) T.xN T.nN hz hf (pv 1)) pa_nil)))))
      (.cons rfl rfl ⟨rfl, by decide, .inl T.gI⟩ (fun _ _ _ _ _ _ _ => pss_never)
      (.cons rfl rfl ⟨rfl, by decide, .inl T.gB⟩ (fun a oe cls d pn hz hf => pss_one (ps_ret (pe_tup (pa_cons pe_str (pa_cons (pe_xf (X := ZT X g cdg s H) T.xB T.nB hz hf (pv 1)) pa_nil)))))
      (.cons rfl rfl ⟨rfl, by decide, .inl T.gM⟩ (fun a oe cls d pn hz hf => pss_one (ps_ret (pe_tup (pa_cons pe_str (pa_cons (pe_xf (X := ZT X g cdg s H) T.xM T.nM hz hf (pv 1)) pa_nil)))))
      (.cons rfl rfl ⟨rfl, by decide, .inl T.gL⟩ (fun a oe cls d pn hz hf => pss_one (ps_ret (pe_tup (pa_cons pe_str (pa_cons (pe_xf (X := ZT X g cdg s H) T.xL T.nL hz hf (pv 1)) pa_nil)))))
      .nil)))))))), ?_⟩
  · refine ⟨fun pins s' σ H' D I h' => ?_⟩
    obtain ⟨Ech, hW, h1, h2, h3⟩ := h'
    have hp := fun p1 p2 => act (fun c d σ H => σ.length = 2 → W c d σ H) pn xe Ech p1 p2 (takes_len tk) (fun cls d σ' H' he hl => hW cls d σ' H' he hl)
    refine PSs.run (t := tRet (tLst (tCons (fun σZ HZ Q => σZ[0]? = some (some (V.ref f)) ∧ HZ c' = some (LamX.CodeO c' q) ∧ tl Ech HZ Q) tNil))) ?_ pins s' σ H' D I ⟨h1, h2, h3⟩
    exact pss_one (ps_ret (pe_lst (pa_cons (hp _ _) pa_nil)))
  · refine ⟨fun cls d H' => ToldX CN CB CM CL cls d H' Q, fun cls d σ' H' he hl => ?_, rfl, hc, ?_⟩
    · have s1 : ∀ a, (σ'.set 1 (some (V.ref a)))[1]? = some (some (V.ref a)) := fun a => by rw [List.getElem?_set_self (by omega)]
      rcases he with he | he | he | he
      · have e := he.1
        subst e
        exact ⟨false, T.eN.1, (fun z => Bool.noConfusion z), fun _ => ⟨false, T.eN.2.1, (fun z => Bool.noConfusion z), fun _ => ⟨true, T.eN.2.2, fun _ a _ => ts_reads he (s1 a), (fun z => Bool.noConfusion z)⟩⟩⟩
      · have e := he.1
        subst e
        exact ⟨false, T.eB.1, (fun z => Bool.noConfusion z), fun _ => ⟨false, T.eB.2.1, (fun z => Bool.noConfusion z), fun _ => ⟨false, T.eB.2.2.1, (fun z => Bool.noConfusion z), fun _ => ⟨false, T.eB.2.2.2.1, (fun z => Bool.noConfusion z), fun _ => ⟨true, T.eB.2.2.2.2, fun _ a _ => ts_reads he (s1 a), (fun z => Bool.noConfusion z)⟩⟩⟩⟩⟩
      · have e := he.1
        subst e
        exact ⟨false, T.eM.1, (fun z => Bool.noConfusion z), fun _ => ⟨false, T.eM.2.1, (fun z => Bool.noConfusion z), fun _ => ⟨false, T.eM.2.2.1, (fun z => Bool.noConfusion z), fun _ => ⟨false, T.eM.2.2.2.1, (fun z => Bool.noConfusion z), fun _ => ⟨false, T.eM.2.2.2.2.1, (fun z => Bool.noConfusion z), fun _ => ⟨true, T.eM.2.2.2.2.2, fun _ a _ => ts_reads he (s1 a), (fun z => Bool.noConfusion z)⟩⟩⟩⟩⟩⟩
      · have e := he.1
        subst e
        exact ⟨false, T.eL.1, (fun z => Bool.noConfusion z), fun _ => ⟨false, T.eL.2.1, (fun z => Bool.noConfusion z), fun _ => ⟨false, T.eL.2.2.1, (fun z => Bool.noConfusion z), fun _ => ⟨false, T.eL.2.2.2.1, (fun z => Bool.noConfusion z), fun _ => ⟨false, T.eL.2.2.2.2.1, (fun z => Bool.noConfusion z), fun _ => ⟨false, T.eL.2.2.2.2.2.1, (fun z => Bool.noConfusion z), fun _ => ⟨true, T.eL.2.2.2.2.2.2, fun _ a _ => ts_reads he (s1 a), (fun z => Bool.noConfusion z)⟩⟩⟩⟩⟩⟩⟩
    · exact h
end
end K25
end

section
-- XSortT
set_option Elab.async false
set_option linter.all false
set_option maxRecDepth 100000
set_option maxHeartbeats 4000000
/-! sorted of a tuple of tuples of ints. -/
namespace K25
open PySem PySem.Spec PyProof.Rows L2 SrtO Srt
section
variable {prog : Program} {w : World} {A : Around} {E : Value → Shared → Prop} {s : Shared}
theorem sorted_ordT {l : Addr} {vs : List Value} {ltv : Value → Value → Bool} {Q : Value → Shared → Prop} (O : Swo ltv) (hl : IsTup s.heap l vs.toArray) (hz : vs.length ≤ sizeLine)
    (hS : 2 ≤ vs.length → ∀ (h₁ : Heap) (a : Addr), h₁.get? a = some (seqObj "list" vs.toArray 0) → (∀ b o, s.heap.get? b = some o → b ≠ a ∧ h₁.get? b = some o) → SortableO prog w A.in1.in1 { s with heap := h₁ } a vs ltv)
    (h : ∀ (hm : Heap) (out : List Value) (hN : Heap), Srtd ltv out → Stb ltv out vs → (∀ b o, s.heap.get? b = some o → hm.get? b = some o) → (∀ b o, hm.get? b = some o → hN.get? b = some o) → (∃ e, hN.get? hm.objs.size = some (seqObj "list" out.toArray e)) → Q (.ref hm.objs.size) { s with heap := hN }) :
    wpAny (model prog w) A (call (.builtin "sorted") [.ref l]) Q E s := by
  obtain ⟨o, ho, hc, n, hd⟩ := id hl
  refine Calls.call_function_entry kind_sorted plain_sorted entry_sorted (args_sorted1 _) ?_
  unfold Builtin.«sorted»
  refine wpAny_bind (m := checkCount "sorted" 1 1 _) (wpAny_pure ?_)
  refine wpAny_bind (wpAny_collect_seq l (.inr rfl) ho hc hd (fun hm km => ?_) (by simpa using hz))
  refine wpAny_bind (wpAny_newList ?_ (by simpa using hz))
  have hoL : (hm.push (seqObj "list" vs.toArray 0)).get? hm.objs.size = some (seqObj "list" vs.toArray 0) := Heap.get?_push_size _ rfl
  have keep : ∀ b o, s.heap.get? b = some o → b ≠ hm.objs.size ∧ (hm.push (seqObj "list" vs.toArray 0)).get? b = some o := fun b o q => by
    have hlt : b < hm.objs.size := Heap.lt_size (km b o q)
    exact ⟨Nat.ne_of_lt hlt, Heap.get?_push_of_some _ (km b o q)⟩
  show wpAny _ _ _ _ _ { s with heap := hm.push (seqObj "list" vs.toArray 0) }
  refine wpAny_bind (wpAny_holding (wpAny_call_entry slot_list_sort ⟨_, hoL, rfl⟩ entry_list_sort (list_sort_ord (s := { s with heap := hm.push (seqObj "list" vs.toArray 0) }) O hoL hz (fun h2 => hS h2 _ _ hoL keep) fun out hs hb => ⟨_, rfl, ?_⟩) (args_list_sort _)))
  refine wpAny_pure ⟨_, rfl, h hm out _ hs hb km (fun b o q => ?_) (sortedHeap_at (n := 0) hoL)⟩
  have hlt : b < hm.objs.size := Heap.lt_size q
  rw [sortedHeap_old (Nat.ne_of_lt hlt) (by rw [size_push']; exact Nat.lt_succ_of_lt hlt)]
  exact Heap.get?_push_of_some _ q
end
def rSortT (K : PySem.W.Frag) : List V → Hp → VK → Prop := fun vs H Q => ∃ (a : Addr) (xs : List V) (kss : List (List Int)), vs = [V.ref a] ∧ SqT K H a xs ∧ TupsI K H xs kss ∧
  ∀ (ys : List V) (p : Addr), TupsI K H ys (srt kss) → H p = none → Q (.ref p) (upd H p (.lst ys))
section
variable {X : Cx}
theorem cr_sortT (hu : X.A.units + 4 < cLine) : CallR X (.builtin "sorted") (rSortT X.K) := by
  intro pins s σ H vs us Q I r h
  obtain ⟨a, xs, kss, rfl, hs, hx, q⟩ := h
  obtain ⟨its, rv, hl, hz⟩ := I.tuple hs
  rw [Vals.ref1 r]
  obtain ⟨e1, e2⟩ := bkV_refs rv (tups_refs hx)
  have ht := tups_raw I rv hx
  have hk : its.map (TS.intsOf s.heap) = kss := map_of_paired (fun v ns (x : TS.TupInts s.heap v ns) => x.ints) ht
  have keepT : ∀ {h' : Heap}, (∀ b o, s.heap.get? b = some o → o.cls = .type "tuple" → h'.get? b = some o) → Tups h' its kss := fun {h'} k => Paired.mapP ht fun v ns x => x.keeps k
  have hsame : ∀ {h' : Heap}, Tups h' its kss → ∀ v ∈ its, TS.TupInts h' v (TS.intsOf s.heap v) := fun {h'} t v hv => by
    have key : ∀ {l : List Value} {m : List (List Int)}, Tups h' l m → Tups s.heap l m → v ∈ l → TS.TupInts h' v (TS.intsOf s.heap v) := by
      intro l m r1
      induction r1 with
      | nil => intro _ hm; cases hm
      | cons x xs ih =>
        intro r2 hm
        cases r2 with
        | cons y ys =>
          rcases List.mem_cons.mp hm with e | hm
          · rw [e, y.ints]; exact x
          · exact ih ys hm
    exact key t ht hv
  refine sorted_ordT (swo_lex2 (TS.intsOf s.heap)) hl (by rw [← rv.length]; exact hz) (fun h2 h₁ l hl1 kk => ?_) fun hm out hN h1 h2 km => ?_
  · intro h' keep
    have kt : ∀ b o, s.heap.get? b = some o → o.cls = .type "tuple" → h'.get? b = some o := fun b o e _ => keep b o (kk b o e).1 (kk b o e).2
    have hT := keepT kt
    obtain ⟨κ, hκ, hrun⟩ := kind_tups (prog := X.prog) (w := X.w) (A := X.A.in1.in1) (s := { s with heap := h' }) hT h2
    refine ⟨κ, hrun, fun p q hp hq => ?_⟩
    have a1 := hsame hT _ hp
    have a2 := hsame hT _ hq
    have hu2 : X.A.in1.in1.units < cLine := by
      show X.A.units + 1 + 1 < cLine
      omega
    rcases hκ with rfl | rfl | rfl
    · exact tups_lt (s := { s with heap := h' }) a1 a2 ⟨rfl, rfl⟩
    · exact gen_lt (s := { s with heap := h' }) a1 a2 hu2 ⟨rfl, rfl⟩
    · exact one_lt (s := { s with heap := h' }) a1 a2 hu2 ⟨rfl, rfl⟩
  · intro kn2 ⟨ep, he'⟩
    have I1 : L2.Inv X pins σ H { s with heap := hm } := I.kept (t' := s.toks) km
    have h3 : ∀ u ∈ out, ∃ a, u = Value.ref a := fun u hu => e2 u (h2.perm.mem_iff.mp hu)
    have hp : (out.map bkV).Perm xs := by
      rw [e1]
      exact h2.perm.map bkV
    have hlen : (out.map bkV).length ≤ sizeLine := by
      rw [hp.length_eq]
      exact hz
    refine ⟨.ref _, upd H hm.objs.size (.lst (out.map bkV)), I1.laid (t' := s.toks) kn2 (Nat.le_refl _) ⟨hlen, out, ep, bkV_vals h3, he'⟩, rfl, q _ _ ?_ (I1.hok.fresh (Nat.le_refl _))⟩
    have eo : out.map (TS.intsOf s.heap) = srt kss := by
      refine srt_uniq ?_ ?_
      · rw [← hk]
        exact h2.perm.map _
      · rw [List.pairwise_map]
        exact h1
    rw [← eo]
    -- item by item
    have key : ∀ {l : List Value}, (∀ v ∈ l, v ∈ its) → TupsI X.K H (l.map bkV) (l.map (TS.intsOf s.heap)) := by
      intro l
      induction l with
      | nil => intro _; exact .nil
      | cons v l ih =>
        intro hm
        refine .cons ?_ (ih fun y hy => hm y (List.mem_cons_of_mem _ hy))
        have hv := hm v List.mem_cons_self
        obtain ⟨t, rfl⟩ := e2 v hv
        have hx2 : V.ref t ∈ xs := by
          rw [e1]
          exact List.mem_map.mpr ⟨_, hv, rfl⟩
        obtain ⟨ns, _, t', e, hT⟩ := paired_mem hx _ hx2
        cases e
        rw [(tupI_raw I hT).ints]
        exact ⟨t, rfl, hT⟩
    exact key fun v hv => h2.perm.mem_iff.mp hv
end
end K25
end

section
-- BWd
set_option Elab.async false
set_option linter.all false
set_option maxRecDepth 100000
set_option maxHeartbeats 4000000
set_option autoImplicit false
/-! What stands between two deeds; a lambda told. -/
namespace K25
open PySem PySem.Spec PyProof.Rows L2
/-- a def whose code object stands at c -/
def DfnC (K : PySem.W.Frag) (mg : Str → Option Value) (st : Stmt) (x : Str) (c : Addr) : Prop := ∃ (f : Addr) (oc : Value) (od : Option Addr) (kV doc pm : Value) (an : Option Addr) (ct : Value) (osl : Array (Option Value)),
  K.lookup f = some ⟨oc, od, .func (PySem.W.fnOf x x (defArgs st) (defBody st) (defScope st) .none kV doc pm an (.ref c) ct), osl⟩ ∧ PySem.W.codeIn K (.ref c) x = true ∧ PySem.W.keepIn K (.ref f) = true ∧ mg x = some (.ref f)
section
variable {P : Program} {w : World} {K : PySem.W.Frag} {mg : Str → Option Value} {base : Heap} {st : Stmt} {x : Str} {N ps : List Str} {k : Nat} {sp : Sp} {c : Addr}
theorem DfnC.cal0 (D : DfnC K mg st x c) (S : FnScope N ps (defScope st)) (hb : BindOk st x x ps) (len : ∀ vs H Q E, sp vs H Q E → vs.length = ps.length)
    (hbody : ∀ (f : Addr) (A : Around) (outer : List Env) (s : Shared) (H : Hp) (vs : List V) (Q : VK) (E : XK), Room k (A.deeper (envOfC x (defScope st) s.heap.objs.size f (.ref c))) → sp vs H Q E →
      ∃ t, PSs (cxOf Nx0 P w K mg base N x (defScope st) f (.ref c) A outer s H E).nox (defBody st) t ∧ t { nx := fun _ H' => Q .non H', rt := Q } (L2.start N vs) H) : Cal P w K mg base Nx0 (k + 1) x ps sp := by
  obtain ⟨f, oc, od, kV, doc, pm, an, ct, osl, lk, hcd, kp, m⟩ := D
  refine ⟨f, _, fn_of lk hcd S len fun A outer s H vs Q E hr hs => ?_, m, kp, .all (hb kV doc pm an (.ref c) ct)⟩
  obtain ⟨t, h, q⟩ := hbody f A outer s H vs Q E hr hs
  exact ⟨t, h.nox, q⟩
end
/-! a lambda told -/
section
variable {X : Cx} {CR CK CN CI CB CM CL : Addr}
theorem pe_told {T : List (Addr × Str)} {c P ct : Addr} {k : Nat} {params : Arguments} {body : Expr} {scope : Scope} {t : XK → TE} {p lpos pos : Pos} (TD : ToldC X.K X.mg CR CK CN CI CB CM CL) (DT : DfnC X.K X.mg (top 62) "_law_told" ct)
    (TB : LamX.TabB X.base X.mg c P) (hmT : (P, X.env.qual ++ "<lambda>") ∈ T) (hu : ∀ p ∈ T, p.1 = P → p.2 = X.env.qual ++ "<lambda>") (hr : Room (k + 2) X.A) (L : LamX.LamS X.env.scope scope)
    (hbody : ∀ (A : Around) (outer : List Env) (s : Shared) (H : Hp) (E : XK) (f c' : Addr), Room k (A.deeper (LamX.lamEnv X scope s.heap.objs.size f c')) → PE (LamX.lamCx X A outer s H E scope f c') body (t E))
    (hcode : X.env.code = .ref c := by rfl) (hdef : defaultsOf params X.env = ([], []) := by rfl) (hg : Gl X "_law_told" := by rfl)
    (hbind : ∀ (q : Str) (cl : List (Str × Addr)) (pm cv ctv : Value), bindArgs (PySem.W.kla_fn "<lambda>" q params body scope cl pm cv ctv) ⟨[], []⟩ = pure [] := by intros; rfl) :
    PE X (.Call (.Name "_law_told" p) [.Lambda params body scope lpos] [] pos) (LamX.tLam T (TTold CN CB CM CL) t) := by
  obtain ⟨g, oc, od, kV, doc, pm, an, ctv, osl, lk, hcd, kp, m⟩ := DT
  exact LamX.pe_lamcall (a := "_law_call") (Ng := ["_law_call", "error"]) hg m kp lk hcd (.all fun us hl => match us, hl with | [_], _ => rfl) sc62 rfl (.inl rfl) (told_gives TD) TB hcode hmT hu hr L hdef hbind hbody
end
/-! tables stay -/
def NoT (u : HO) : Prop := (∀ ps, u ≠ .tbl ps) ∧ ∀ φ, u ≠ .ext φ
theorem NoT.lst {xs : List V} : NoT (.lst xs) := ⟨fun _ z => (by cases z), fun _ z => (by cases z)⟩
theorem NoT.dK {xs : List (Key × V)} : NoT (.dK xs) := ⟨fun _ z => (by cases z), fun _ z => (by cases z)⟩
theorem NoT.ins {C dx : Addr} {fs : List (Str × V)} : NoT (.ins C dx fs) := ⟨fun _ z => (by cases z), fun _ z => (by cases z)⟩
theorem tabs_bt {T : List (Addr × Str)} {H H' : Hp} {S : List Addr} (t : LamX.Tabs T H) (b : Bt S H H') (hS : ∀ x ∈ S, ∃ u, H x = some u ∧ NoT u) : LamX.Tabs T H' := fun p hp => by
  obtain ⟨ps, h1, h2, h3⟩ := t p hp
  have nS : ∀ {a : Addr} {u : HO}, H a = some u → ¬ NoT u → a ∉ S := fun {a u} e n m => by
    obtain ⟨u', e', n'⟩ := hS a m
    rw [e] at e'
    rw [Option.some.inj e'] at n
    exact n n'
  refine ⟨ps, b _ _ h1 (nS h1 fun n => n.1 _ rfl), h2, fun pos cv hc => ?_⟩
  obtain ⟨c, e1, e2⟩ := h3 pos cv hc
  exact ⟨c, e1, b _ _ e2 (nS e2 fun n => n.2 _ rfl)⟩
/-! what stands -/
structure Wd (K : PySem.W.Frag) (T : List (Addr × Str)) (C : Addr) (H : Hp) (st cl ll b w : Addr) (c : Int) (n : Nat) (hb ho : List Snap) : Prop where
  so : StOk H st cl ll n
  bk : BkOk K H C b c hb
  ow : ∃ ws, H w = some (.lst ws) ∧ SnAll K H ws ho
  tb : LamX.Tabs T H
  n1 : w ≠ cl
  n2 : w ≠ ll
section
variable {K : PySem.W.Frag} {T : List (Addr × Str)} {C : Addr} {H H' : Hp} {st cl ll b w : Addr} {c : Int} {n m : Nat} {hb ho hb' ho' : List Snap}
theorem Wd.kinds (h : Wd K T C H st cl ll b w c n hb ho) : b ≠ st ∧ b ≠ cl ∧ b ≠ ll ∧ b ≠ w ∧ w ≠ st := by
  obtain ⟨dx, past, xs, e1, _⟩ := h.bk.ex
  obtain ⟨cells, lefts, at_, e2, e3, e4, _⟩ := h.so.ex
  obtain ⟨ws, e5, _⟩ := h.ow
  exact ⟨ne_of e1 e2 (by intro z; cases z), ne_of e1 e3 (by intro z; cases z), ne_of e1 e4 (by intro z; cases z), ne_of e1 e5 (by intro z; cases z), ne_of e5 e2 (by intro z; cases z)⟩
theorem Wd.mono (h : Wd K T C H st cl ll b w c n hb ho) (l : n ≤ m) : Wd K T C H st cl ll b w c m hb ho := ⟨h.so.mono l, h.bk, h.ow, h.tb, h.n1, h.n2⟩
theorem Wd.aft (h : Wd K T C H st cl ll b w c n hb ho) (a : Aft st cl ll m H H') : Wd K T C H' st cl ll b w c m hb ho := by
  obtain ⟨k1, k2, k3, k4, k5⟩ := h.kinds
  obtain ⟨dx, past, xs, e1, _⟩ := h.bk.ex
  obtain ⟨cells, lefts, at_, e2, e3, e4, _⟩ := h.so.ex
  obtain ⟨ws, e5, e6⟩ := h.ow
  refine ⟨a.ok, h.bk.at1 ((a.keep e1 k1 k3).trans e1.symm) a.kt, ⟨ws, a.keep e5 k5 h.n2, e6.kt a.kt⟩, tabs_bt h.tb a.bt fun x hx => ?_, h.n1, h.n2⟩
  rcases List.mem_cons.mp hx with e | hx
  · rw [e]; exact ⟨_, e2, NoT.dK⟩
  · rcases List.mem_cons.mp hx with e | hx
    · rw [e]; exact ⟨_, e4, NoT.lst⟩
    · cases hx
theorem Wd.same (h : Wd K T C H st cl ll b w c n hb ho) (e : Same H H') : Wd K T C H' st cl ll b w c n hb ho := by
  obtain ⟨ws, e5, e6⟩ := h.ow
  exact ⟨h.so.same e, h.bk.same e, ⟨ws, e _ _ e5, e6.kt (KT.same e)⟩, h.tb.ext e, h.n1, h.n2⟩
theorem Wd.new {p : Addr} {o : HO} (h : Wd K T C H st cl ll b w c n hb ho) (hp : H p = none) : Wd K T C (upd H p o) st cl ll b w c n hb ho := h.same (same_new hp)
/-- a lambda was made -/
theorem kt_ext (e : LamX.ExtN H H') : KT H H' := ⟨fun _ _ h => e _ _ h fun _ z => (by cases z), fun _ _ _ h => e _ _ h fun _ z => (by cases z)⟩
theorem Wd.ext (h : Wd K T C H st cl ll b w c n hb ho) (e : LamX.ExtN H H') (t : LamX.Tabs T H') : Wd K T C H' st cl ll b w c n hb ho := by
  have k := kt_ext e
  obtain ⟨dx, past, xs, e1, _⟩ := h.bk.ex
  obtain ⟨cells, lefts, at_, e2, e3, e4, r⟩ := h.so.ex
  obtain ⟨ws, e5, e6⟩ := h.ow
  exact ⟨⟨cells, lefts, at_, e _ _ e2 NoT.dK.1, e _ _ e3 NoT.lst.1, e _ _ e4 NoT.lst.1, r⟩, h.bk.at1 ((e _ _ e1 NoT.ins.1).trans e1.symm) k, ⟨ws, e _ _ e5 NoT.lst.1, e6.kt k⟩, t, h.n1, h.n2⟩
/-- the book has done something -/
theorem Wd.book (h : Wd K T C H st cl ll b w c n hb ho) (bt : Bt [b] H H') (k : KT H H') (hk : BkOk K H' C b c hb') : Wd K T C H' st cl ll b w c n hb' ho := by
  obtain ⟨k1, k2, k3, k4, k5⟩ := h.kinds
  obtain ⟨dx, past, xs, e1, _⟩ := h.bk.ex
  obtain ⟨cells, lefts, at_, e2, e3, e4, r⟩ := h.so.ex
  obtain ⟨ws, e5, e6⟩ := h.ow
  refine ⟨⟨cells, lefts, at_, bt _ _ e2 (by simp [k1.symm]), bt _ _ e3 (by simp [k2.symm]), bt _ _ e4 (by simp [k3.symm]), r⟩, hk, ⟨ws, bt _ _ e5 (by simp [k4.symm]), e6.kt k⟩, tabs_bt h.tb bt fun x hx => ?_, h.n1, h.n2⟩
  rcases List.mem_cons.mp hx with e | hx
  · rw [e]; exact ⟨_, e1, NoT.ins⟩
  · cases hx
/-- the law's own list is changed -/
theorem Wd.own (h : Wd K T C H st cl ll b w c n hb ho) {ws ws' : List V} (e : H w = some (.lst ws)) (hs : SnAll K H ws' ho') : Wd K T C (upd H w (.lst ws')) st cl ll b w c n hb ho' ∧ KT H (upd H w (.lst ws')) := by
  obtain ⟨k1, k2, k3, k4, k5⟩ := h.kinds
  have k : KT H (upd H w (.lst ws')) := KT.upd e Soft.lst
  refine ⟨⟨h.so.upd k5 h.n1 h.n2, h.bk.at1 (upd_ne k4) k, ⟨ws', upd_same, hs.kt k⟩, tabs_bt h.tb (Bt.upd (S := [w]) List.mem_cons_self) fun x hx => ?_, h.n1, h.n2⟩, k⟩
  rcases List.mem_cons.mp hx with e2 | hx
  · rw [e2]; exact ⟨_, e, NoT.lst⟩
  · cases hx
/-- the last of the law's own list -/
theorem Wd.olast {s : Snap} (h : Wd K T C H st cl ll b w c n hb (ho ++ [s])) : ∃ ws a x y z, H w = some (.lst (ws ++ [.ref a])) ∧ SnAll K H ws ho ∧ SqT K H a [x, y, z] ∧ RwR K H x s.rows ∧ Dp K H y (dQ s.stock) ∧ Dp K H z (dR s.lots) := by
  obtain ⟨ws, e1, e2⟩ := h.ow
  obtain ⟨ys, v, rfl, ha2, hv⟩ := paired_snoc e2
  obtain ⟨a2, x, y, z, rfl, h1, h2, h3, h4⟩ := hv
  exact ⟨ys, a2, x, y, z, e1, ha2, h1, h2, h3, h4⟩
end
/-! the law's bounds -/
structure SnapL (c : Int) (i : Nat) (s : Snap) : Prop where
  rlen : s.rows.length ≤ i
  rows : ∀ r ∈ s.rows, RowOk c r
  slen : s.stock.length ≤ 12
  stock : ∀ ix ∈ s.stock, IndexOk c ix
  llen : s.lots.length ≤ 8
  lots : ∀ k ∈ s.lots, LotOk c k
theorem SnapL.ok {c : Int} {i : Nat} {s : Snap} (h : SnapL c i s) : SnapOk c s := ⟨fun r hr => (h.rows r hr).len, h.stock, h.lots⟩
def HistOk (c : Int) (hist : List Snap) : Prop := ∀ i s, hist[i]? = some s → SnapL c i s
theorem HistOk.last {c : Int} {hs : List Snap} {s : Snap} (h : HistOk c (hs ++ [s])) : SnapL c hs.length s := h _ _ (by simp)
theorem HistOk.snoc {c : Int} {hs : List Snap} {s : Snap} (h : HistOk c hs) (hl : SnapL c hs.length s) : HistOk c (hs ++ [s]) := fun i t e => by
  by_cases hi : i < hs.length
  · rw [List.getElem?_append_left hi] at e
    exact h i t e
  · rw [List.getElem?_append_right (by omega)] at e
    obtain ⟨h2, e2⟩ := List.getElem?_eq_some_iff.mp e
    have : i - hs.length = 0 := by simpa using h2
    have hi2 : i = hs.length := by omega
    subst hi2
    simp at e2
    rw [← e2]
    exact hl
theorem HistOk.take {c : Int} {hs : List Snap} (h : HistOk c hs) (n : Nat) : HistOk c (hs.take n) := fun i t e => by
  rw [List.getElem?_take] at e
  split at e
  · exact h i t e
  · cases e
end K25
end

section
-- XDeed
set_option Elab.async false
set_option linter.all false
set_option maxRecDepth 100000
set_option maxHeartbeats 4000000
set_option autoImplicit false
/-! What a deed promises. -/
namespace K25
open PySem PySem.Spec PyProof.Rows L2
mutual
theorem dp_ext {K : PySem.W.Frag} {H H' : Hp} (e : Same H H') : ∀ (d : PyData) (v : V), Dp K H v d → Dp K H' v d
  | .none, _, h => by cases h; exact .non
  | .bool b, _, h => by cases h; exact .bl b
  | .int i, _, h => by cases h; exact .int i
  | .str x, _, h => by cases h; exact .str x
  | .tuple ds, _, h => by
    cases h with
    | tup hs ha => exact .tup (sqT_same hs e) (dpAll_ext e ds _ ha)
  | .list ds, _, h => by
    cases h with
    | lst hs ha => exact .lst (sql_same hs e) (dpAll_ext e ds _ ha)
  | .dict _, _, h => by cases h
theorem dpAll_ext {K : PySem.W.Frag} {H H' : Hp} (e : Same H H') : ∀ (ds : List PyData) (vs : List V), DpAll K H vs ds → DpAll K H' vs ds
  | [], _, h => by cases h; exact .nil
  | d :: ds, _, h => by
    cases h with
    | cons h1 h2 => exact .cons (dp_ext e d _ h1) (dpAll_ext e ds _ h2)
end
/-- what is told -/
structure Tell (d : PyData) : Prop where
  ni : nice d = true
  de : d.depth ≤ 10
  wg : wgt d ≤ 10000
  rf : ∃ ds, d = .list ds ∨ d = .tuple ds
theorem Tell.ref {K : PySem.W.Frag} {H : Hp} {x : V} {d : PyData} (t : Tell d) (h : Dp K H x d) : ∃ a, x = .ref a := by
  obtain ⟨ds, rfl | rfl⟩ := t.rf
  · cases h; exact ⟨_, rfl⟩
  · cases h; exact ⟨_, rfl⟩
/-- what a deed leaves -/
structure DeedOut (K : PySem.W.Frag) (T : List (Addr × Str)) (C st cl ll b w : Addr) (c : Int) (n l : Nat) (Q : VK) : Prop where
  go : ∀ (H' : Hp) (p : Addr) (hist : List Snap) (x y : V) (d : PyData), Wd K T C H' st cl ll b w c (n + 19) hist hist → hist ≠ [] → hist.length ≤ l → HistOk c hist → H' p = some (.tup [x, y]) → Dp K H' x d → Dp K H' y d → Tell d → Q (.ref p) H'
theorem tell_none : Tell (.list [.none]) := ⟨by decide +kernel, by decide +kernel, by decide +kernel, _, .inl rfl⟩
theorem tell_nil : Tell (.list []) := ⟨by decide +kernel, by decide +kernel, by decide +kernel, _, .inl rfl⟩
theorem tell_lot {wd : Str} {ks : List Int} (hw : wd ∈ (["up", "down", "row", "key", "number", "index", "broken", "missing", "left"] : List Str)) (hl : ks.length ≤ 100) (hk : ∀ z ∈ ks, z.natAbs < 1000) : Tell (.tuple [.str wd, dL ks]) := by
  refine ⟨?_, ?_, ?_, _, .inr rfl⟩
  · rw [nice, niceAll, niceAll, niceAll, nice, decide_eq_true hw]
    unfold dL
    rw [nice, nice_map fun z hz => by rw [nice]; exact decide_eq_true (hk z hz)]
    rfl
  · have := depth_dL ks
    simp only [PyData.depth, PyData.depthAll]
    omega
  · have h : wgtAll (ks.map PyData.int) ≤ 100 * (16 + 2) := wgt_map hl fun z _ => by unfold wgt; exact Nat.le_refl _
    unfold dL
    rw [wgt, wgtAll, wgtAll, wgtAll, wgt, wgt]
    · omega
    · intro _ z; cases z
    · intro _ z; cases z
theorem tell_int {wd : Str} {n : Int} (hw : wd ∈ (["up", "down", "row", "key", "number", "index", "broken", "missing", "left"] : List Str)) (hn : n.natAbs < 1000) : Tell (.tuple [.str wd, .int n]) := by
  refine ⟨?_, ?_, ?_, _, .inr rfl⟩
  · rw [nice, niceAll, niceAll, niceAll, nice, nice, decide_eq_true hw, decide_eq_true hn]; rfl
  · simp [PyData.depth, PyData.depthAll]
  · rw [wgt, wgtAll, wgtAll, wgtAll, wgt, wgt]
    · omega
    all_goals (intro _ z; cases z)
theorem LotOk.nat {c : Int} {ks : List Int} (h : LotOk c ks) (c3 : c ≤ 3) : ∀ z ∈ ks, z.natAbs < 1000 := fun z hz => by have := h.cols z hz; omega
theorem RowOk.nat {c : Int} {r : List Int} (h : RowOk c r) : ∀ z ∈ r, z.natAbs < 1000 := fun z hz => by have := h.small z hz; omega
theorem RowOk.short {c : Int} {r : List Int} (h : RowOk c r) (c3 : c ≤ 3) : r.length ≤ 100 := by have := h.len; omega
section
variable {K : PySem.W.Frag} {T : List (Addr × Str)} {C st cl ll b w : Addr} {c : Int} {n m l : Nat} {Q : VK} {H : Hp} {hist : List Snap} {x y : V} {d : PyData}
theorem DeedOut.fin (G : DeedOut K T C st cl ll b w c n l Q) (hw : Wd K T C H st cl ll b w c m hist hist) (hm : m ≤ n + 19) (hne : hist ≠ []) (hl : hist.length ≤ l) (ho : HistOk c hist) (hx : Dp K H x d) (hy : Dp K H y d) (t : Tell d) :
    2 ≤ sizeLine ∧ ∀ p, H p = none → Q (.ref p) (upd H p (.tup [x, y])) := by
  refine ⟨by decide, fun p hp => ?_⟩
  have e := same_new (o := .tup [x, y]) hp
  exact G.go _ p hist x y d ((hw.same e).mono hm) hne hl ho upd_same (dp_ext e _ _ hx) (dp_ext e _ _ hy) t
/-- [None] told, [None] due -/
theorem DeedOut.fin0 (G : DeedOut K T C st cl ll b w c n l Q) {p1 p2 : Addr} (hw : Wd K T C H st cl ll b w c m hist hist) (hm : m ≤ n + 19) (hne : hist ≠ []) (hl : hist.length ≤ l) (ho : HistOk c hist) (h1 : H p1 = none) (h2 : upd H p1 (.lst [.non]) p2 = none) :
    2 ≤ sizeLine ∧ ∀ p, upd (upd H p1 (.lst [.non])) p2 (.lst [.non]) p = none → Q (.ref p) (upd (upd (upd H p1 (.lst [.non])) p2 (.lst [.non])) p (.tup [.ref p1, .ref p2])) := by
  have e1 := same_new (o := .lst [.non]) h1
  have e2 := same_new (o := .lst [.non]) h2
  exact G.fin (hw.same (e1.trans e2)) hm hne hl ho (.lst (SqL.of (e2 _ _ upd_same)) (.cons .non .nil)) (.lst (SqL.of upd_same) (.cons .non .nil)) tell_none
theorem RwR.ext {H' : Hp} {rows : List (List Int)} (h : RwR K H x rows) (k : KT H H') : RwR K H' x rows := h.kt k
end
def spDeed (K : PySem.W.Frag) (T : List (Addr × Str)) (C : Addr) : Sp := fun vs H Q _ => ∃ (st cl ll b w : Addr) (c : Int) (n : Nat) (hs : List Snap) (s : Snap), vs = [.ref st, .ref b, .int c, .ref w] ∧ Wd K T C H st cl ll b w c n (hs ++ [s]) (hs ++ [s]) ∧ n ≤ 3000 ∧ hs.length ≤ 14 ∧ 1 ≤ c ∧ c ≤ 3 ∧ HistOk c (hs ++ [s]) ∧ DeedOut K T C st cl ll b w c n (hs.length + 2) Q
/-- an exception told -/
theorem toldB {CN CB CM CL d : Addr} {v : V} {H : Hp} {Q : VK} (q : ∀ p, upd H d (.xd [("given", v)]) p = none → Q (.ref p) (upd (upd H d (.xd [("given", v)])) p (.tup [.str "broken", v]))) : ToldX CN CB CM CL (.ref CB) (some d) (upd H d (.xd [("given", v)])) Q := .inr (.inl ⟨rfl, d, v, rfl, upd_same, q⟩)
theorem toldN {CN CB CM CL d : Addr} {v : V} {H : Hp} {Q : VK} (q : ∀ p, upd H d (.xd [("given", v)]) p = none → Q (.ref p) (upd (upd H d (.xd [("given", v)])) p (.tup [.str "number", v]))) : ToldX CN CB CM CL (.ref CN) (some d) (upd H d (.xd [("given", v)])) Q := .inl ⟨rfl, d, v, rfl, upd_same, q⟩
theorem toldM {CN CB CM CL d : Addr} {v : V} {H : Hp} {Q : VK} (q : ∀ p, upd H d (.xd [("given", v)]) p = none → Q (.ref p) (upd (upd H d (.xd [("given", v)])) p (.tup [.str "missing", v]))) : ToldX CN CB CM CL (.ref CM) (some d) (upd H d (.xd [("given", v)])) Q := .inr (.inr (.inl ⟨rfl, d, v, rfl, upd_same, q⟩))
theorem toldL {CN CB CM CL d : Addr} {v : V} {H : Hp} {Q : VK} (q : ∀ p, upd H d (.xd [("many", v)]) p = none → Q (.ref p) (upd (upd H d (.xd [("many", v)])) p (.tup [.str "left", v]))) : ToldX CN CB CM CL (.ref CL) (some d) (upd H d (.xd [("many", v)])) Q := .inr (.inr (.inr ⟨rfl, d, v, rfl, upd_same, q⟩))
/-! helpers -/
/-- an if by what holds at its branches -/
theorem ifs_key {t : TT} {A B : TS} {D : Ends} {σ : L2.St} {H : Hp} (S S' : Hp → Prop) (ht : ∀ G : Bool → Hp → Prop, (∀ H', S H' → G true H') → (∀ H', S' H' → G false H') → t σ H G) (hA : ∀ H', S H' → A D σ H') (hB : ∀ H', S' H' → B D σ H') : tIfS t A B D σ H :=
  ht _ (fun H' h => by show if true = true then _ else _; rw [if_pos rfl]; exact hA H' h) (fun H' h => by show if false = true then _ else _; rw [if_neg Bool.false_ne_true]; exact hB H' h)
theorem ifs_keyS {t : TT} {A B R : TS} {D : Ends} {σ : L2.St} {H : Hp} (S S' : Hp → Prop) (ht : ∀ G : Bool → Hp → Prop, (∀ H', S H' → G true H') → (∀ H', S' H' → G false H') → t σ H G) (hA : ∀ H', S H' → A { D with nx := R D } σ H') (hB : ∀ H', S' H' → B { D with nx := R D } σ H') : tSeq (tIfS t A B) R D σ H := ifs_key S S' ht hA hB
theorem eqv_nilT {α : Type} {f : α → PyData} (l : List α) : PyData.eqv (.tuple (l.map f)) (.tuple []) = decide (l = []) := by
  cases l <;> simp [PyData.eqv, PyData.eqvAll]
theorem eqv_nilL {α : Type} {f : α → PyData} (l : List α) : PyData.eqv (.list (l.map f)) (.list []) = decide (l = []) := by
  cases l <;> simp [PyData.eqv, PyData.eqvAll]
theorem shaped_nilT : SeqAt.shaped (.tuple []) = true := by decide +kernel
theorem shaped_nilL : SeqAt.shaped (.list []) = true := by decide +kernel
theorem shaped_LR (l : List (List Int)) : SeqAt.shaped (.list (l.map dL)) = true := by
  have h1 : (PyData.list (l.map dL)).canLay0 = true := canLay_dLs l
  have h2 : (PyData.list (l.map dL)).depth ≤ 2 := by
    rw [PyData.depth]
    have : PyData.depthAll (l.map dL) ≤ 1 := depth_map fun x _ => depth_dL x
    omega
  unfold SeqAt.shaped
  rw [h1, decide_eq_true (by omega)]
  rfl
section
variable {K : PySem.W.Frag} {T : List (Addr × Str)} {C st cl ll b w : Addr} {c : Int} {n : Nat} {H : Hp} {hb ho : List Snap}
/-- what the own list gets -/
theorem Wd.push {x y z : V} {s : Snap} (h : Wd K T C H st cl ll b w c n hb ho) (hx : RwR K H x s.rows) (hy : Dp K H y (dQ s.stock)) (hz : Dp K H z (dR s.lots)) (hl : ho.length ≤ 1000) : ∃ ws, H w = some (.lst ws) ∧ ws.length < sizeLine ∧
    ∀ p, H p = none → upd H p (.tup [x, y, z]) w = some (.lst ws) ∧ Wd K T C (upd (upd H p (.tup [x, y, z])) w (.lst (ws ++ [.ref p]))) st cl ll b w c n hb (ho ++ [s]) ∧ KT H (upd (upd H p (.tup [x, y, z])) w (.lst (ws ++ [.ref p]))) ∧ Bt [w] H (upd (upd H p (.tup [x, y, z])) w (.lst (ws ++ [.ref p]))) := by
  obtain ⟨ws, e, hs⟩ := h.ow
  have hlen := paired_len hs
  refine ⟨ws, e, lt_line (by omega), fun p hp => ?_⟩
  have s1 := same_new (o := .tup [x, y, z]) hp
  have e1 := s1 _ _ e
  have h1 := h.same s1
  have ku : KT (upd H p (.tup [x, y, z])) (upd (upd H p (.tup [x, y, z])) w (.lst (ws ++ [.ref p]))) := KT.upd e1 Soft.lst
  have k1 := KT.same s1
  obtain ⟨a1, a2⟩ := h1.own (ws' := ws ++ [.ref p]) (ho' := ho ++ [s]) e1 (paired_app (hs.kt k1) (.cons ⟨p, x, y, z, rfl, SqT.of upd_same, hx.kt k1, dp_kt k1 _ _ (tonly_dQ _) hy, dp_kt k1 _ _ (tonly_dR _) hz⟩ .nil))
  exact ⟨e1, a1, k1.trans ku, (Bt.of s1).trans (Bt.upd List.mem_cons_self)⟩
theorem Wd.bkE (h : Wd K T C H st cl ll b w c n hb ho) : ∃ dx past, H b = some (bkO C dx c past) := by
  obtain ⟨dx, past, xs, e, _⟩ := h.bk.ex
  exact ⟨dx, past, e⟩
end
theorem ext_lst {H H' : Hp} {a : Addr} {xs : List V} (e : LamX.ExtN H H') (h : H a = some (.lst xs)) : H' a = some (.lst xs) := e _ _ h NoT.lst.1
/-! new snapshots -/
section
variable {c : Int} {i : Nat} {s : Snap}
theorem SnapL.more {i' : Nat} (h : SnapL c i s) (l : i ≤ i') : SnapL c i' s := ⟨Nat.le_trans h.rlen l, h.rows, h.slen, h.stock, h.llen, h.lots⟩
theorem SnapL.add {r : List Int} (h : SnapL c i s) (hr : RowOk c r) : SnapL c (i + 1) ⟨srt (s.rows ++ [r]), s.stock, s.lots⟩ := by
  refine ⟨?_, fun r' h' => ?_, h.slen, h.stock, h.llen, h.lots⟩
  · show (srt (s.rows ++ [r])).length ≤ _
    rw [srt_len, List.length_append]
    have := h.rlen
    show s.rows.length + 1 ≤ _
    omega
  · rcases List.mem_append.mp (srt_mem.mp h') with z | z
    · exact h.rows r' z
    · rcases List.mem_cons.mp z with z | z
      · rw [z]; exact hr
      · cases z
theorem SnapL.cut {r : List Int} (h : SnapL c i s) : SnapL c (i + 1) ⟨cutRow s.rows r, s.stock, s.lots⟩ := by
  refine ⟨?_, fun r' h' => ?_, h.slen, h.stock, h.llen, h.lots⟩
  · show (cutRow s.rows r).length ≤ _
    unfold cutRow
    rw [List.length_append, List.length_take, List.length_drop]
    have := h.rlen
    omega
  · rcases List.mem_append.mp h' with z | z
    · exact h.rows r' (List.mem_of_mem_take z)
    · exact h.rows r' (List.mem_of_mem_drop z)
theorem SnapL.make {ix : List (Int × Str)} (h : SnapL c i s) (hl : s.stock.length < 12) (hi : IndexOk c ix) : SnapL c (i + 1) ⟨s.rows, s.stock ++ [ix], s.lots⟩ := by
  refine ⟨Nat.le_succ_of_le h.rlen, h.rows, ?_, fun x hx => ?_, h.llen, h.lots⟩
  · show (s.stock ++ [ix]).length ≤ _
    rw [List.length_append]; exact hl
  · rcases List.mem_append.mp hx with z | z
    · exact h.stock x z
    · rcases List.mem_cons.mp z with z | z
      · rw [z]; exact hi
      · cases z
theorem SnapL.drop {j : Nat} (h : SnapL c i s) : SnapL c (i + 1) ⟨s.rows, cutAt s.stock j, s.lots⟩ := by
  refine ⟨Nat.le_succ_of_le h.rlen, h.rows, ?_, fun x hx => ?_, h.llen, h.lots⟩
  · show (cutAt s.stock j).length ≤ _
    unfold cutAt
    rw [List.length_append, List.length_take, List.length_drop]
    have := h.slen
    omega
  · rcases List.mem_append.mp hx with z | z
    · exact h.stock x (List.mem_of_mem_take z)
    · exact h.stock x (List.mem_of_mem_drop z)
theorem SnapL.claim {ks : List Int} (h : SnapL c i s) (hl : s.lots.length < 8) (hk : LotOk c ks) : SnapL c (i + 1) ⟨s.rows, s.stock, srt (s.lots ++ [ks])⟩ := by
  refine ⟨Nat.le_succ_of_le h.rlen, h.rows, h.slen, h.stock, ?_, fun x hx => ?_⟩
  · show (srt (s.lots ++ [ks])).length ≤ _
    rw [srt_len, List.length_append]; exact hl
  · rcases List.mem_append.mp (srt_mem.mp hx) with z | z
    · exact h.lots x z
    · rcases List.mem_cons.mp z with z | z
      · rw [z]; exact hk
      · cases z
theorem SnapL.waive {ks : List Int} (h : SnapL c i s) : SnapL c (i + 1) ⟨s.rows, s.stock, outLot s.lots ks⟩ := by
  refine ⟨Nat.le_succ_of_le h.rlen, h.rows, h.slen, h.stock, ?_, fun x hx => ?_⟩
  · show (outLot s.lots ks).length ≤ _
    exact Nat.le_trans (List.length_filter_le _ _) h.llen
  · exact h.lots x (List.mem_filter.mp hx).1
end
end K25
end

section
-- XGuard
set_option Elab.async false
set_option linter.all false
set_option maxRecDepth 100000
set_option maxHeartbeats 4000000
set_option autoImplicit false
/-! Defs that run where no repr is under way. -/
namespace K25
open PySem PySem.Spec PyProof.Rows L2
structure FnG (P : Program) (w : World) (K : PySem.W.Frag) (mg : Str → Option Value) (base : Heap) (CX : CXT) (k : Nat) (f : Addr) (fd : FuncData) (ps : List Str) (sp : Sp) : Prop where
  len : ∀ vs H Q E, sp vs H Q E → vs.length = ps.length
  run : ∀ (A : Around) (outer : List Env) (s : Shared) (H : Hp) (args : Args) (us : List Value) (vs : List V) (Q : VK) (E : XK), A.guards = some [] → Room k A → Env0 P w K mg base A outer s H → BindsTo s fd args (ps.zip us) → Vals vs us → sp vs H Q E →
    codeAny (model P w) A (.call (.ref f) args) (CR CX outer P w H s Q E) s
def CalG (P : Program) (w : World) (K : PySem.W.Frag) (mg : Str → Option Value) (base : Heap) (CX : CXT) (k : Nat) (x : Str) (ps : List Str) (sp : Sp) : Prop :=
  ∃ f fd, FnG P w K mg base CX k f fd ps sp ∧ mg x = some (.ref f) ∧ PySem.W.keepIn K (.ref f) = true ∧ L2.Binds K fd ps []
theorem guards_deeper {A : Around} {env : Env} (h : A.guards = some []) : (A.deeper env).guards = some [] := h
section
variable {P : Program} {w : World} {K : PySem.W.Frag} {mg : Str → Option Value} {base : Heap} {st : Stmt} {x : Str} {N ps : List Str} {k : Nat} {sp : Sp}
theorem fnG_of {f : Addr} {fd : FuncData} (F : FunD K x x (defArgs st) (defBody st) (defScope st) [] [] f fd) (S : FnScope N ps (defScope st)) (len : ∀ vs H Q E, sp vs H Q E → vs.length = ps.length)
    (hbody : ∀ (f : Addr) (cdv : Value) (A : Around) (outer : List Env) (s : Shared) (H : Hp) (vs : List V) (Q : VK) (E : XK), (A.deeper (envOfC x (defScope st) s.heap.objs.size f cdv)).guards = some [] → Room k (A.deeper (envOfC x (defScope st) s.heap.objs.size f cdv)) → sp vs H Q E →
      ∃ t, PSs (cxOf Nx0 P w K mg base N x (defScope st) f cdv A outer s H E).nox (defBody st) t ∧ t { nx := fun _ H' => Q .non H', rt := Q } (L2.start N vs) H) : FnG P w K mg base Nx0 (k + 1) f fd ps sp := by
  obtain ⟨oc, od, dV, kV, doc, pm, an, cdv, ct, osl, rfl, lk, hcd, _, _⟩ := F.ex
  refine ⟨len, fun A outer s H args us vs Q E hG hr e0 hb' r hsp => ?_⟩
  refine LamX.run_ofS lk hcd S hr e0 hb' r (len _ _ _ _ hsp) fun hr' => ?_
  obtain ⟨t, h, q⟩ := hbody f cdv A outer s H vs Q E (guards_deeper hG) hr' hsp
  exact ⟨t, h.nox, q⟩
theorem Dfn.fnG (D : Dfn K mg st x) (S : FnScope N ps (defScope st)) (hb : BindOk st x x ps) (len : ∀ vs H Q E, sp vs H Q E → vs.length = ps.length)
    (hbody : ∀ (f : Addr) (cdv : Value) (A : Around) (outer : List Env) (s : Shared) (H : Hp) (vs : List V) (Q : VK) (E : XK), (A.deeper (envOfC x (defScope st) s.heap.objs.size f cdv)).guards = some [] → Room k (A.deeper (envOfC x (defScope st) s.heap.objs.size f cdv)) → sp vs H Q E →
      ∃ t, PSs (cxOf Nx0 P w K mg base N x (defScope st) f cdv A outer s H E).nox (defBody st) t ∧ t { nx := fun _ H' => Q .non H', rt := Q } (L2.start N vs) H) : CalG P w K mg base Nx0 (k + 1) x ps sp := by
  obtain ⟨f, fd, F, m⟩ := D
  exact ⟨f, fd, fnG_of F S len hbody, m, F.kp, F.bindsN hb⟩
end
section
variable {X : Cx} {CX : CXT} {k : Nat} {f : Addr} {fd : FuncData} {x : Str} {ps : List Str} {sp : Sp} {dvs : List V} {ds : List Value} {E : XK} {e : Expr} {es : List Expr} {t : TA} {p pos : Pos}
theorem run_fnG {pins : List (Addr × Obj)} {σ : L2.St} {H : Hp} {s : Shared} {Q : VK} {us : List Value} {vs : List V} (F : FnG X.prog X.w X.K X.mg X.base CX k f fd ps sp) (hG : X.A.guards = some []) (hr : Room k X.A) (hb : L2.Binds X.K fd ps ds) (hd : Vals dvs ds) (hx : Passes CX X E)
    (I : L2.Inv X pins σ H s) (r : Vals vs us) (h : sp (vs ++ dvs) H Q E) : wpAny (model X.prog X.w) X.A (call (.ref f) us) (EP X pins σ Q) X.xe s := by
  have r2 : Vals (vs ++ dvs) (us ++ ds) := r.append hd
  have hl : (us ++ ds).length = ps.length := by rw [← r2.length]; exact F.len _ _ _ _ h
  refine wpAny_call (codeAny_mono (F.run X.A X.stack s H ⟨us, []⟩ (us ++ ds) (vs ++ dvs) Q E hG hr I.env0 (hb s us I.kIn hl) r2 h) fun r s' hq => ?_)
  cases r with
  | error e => exact hx pins σ H s e s' I hq
  | ok fl =>
    cases fl with
    | ret u => exact I.after hq
    | next => exact False.elim hq
    | brk => exact False.elim hq
    | cont => exact False.elim hq
theorem pe_cg (F : CalG X.prog X.w X.K X.mg X.base Nx0 k x ps sp) (hG : X.A.guards = some []) (hr : Room k X.A) (ha : PA X (e :: es) t) (hg : Gl X x := by rfl) (hdb : (x == ("__debug__" : Str)) = false := by decide)
    (he : starEach (e :: es) X.env = (false, eval e X.env) :: starEach es X.env := by rfl) (hpl : (backTo pos (starEach es X.env)).any (·.1) = false := by rfl) :
    PE X (.Call (.Name x p) (e :: es) [] pos) (tCall sp [] L2.E0 t) := by
  obtain ⟨f, fd, F, m, kp, b⟩ := F
  refine ⟨fun pins s σ H Q I h => ?_⟩
  refine wpAny_Call_Name_kw (ld_glob I hg m ?_ hdb)
  refine PySem.W.callWith_K (h₀ := X.base) I.ok.mod.kin kp (thn (ha.run pos pins s σ H _ I h) fun us s1 ⟨vs, H1, I1, r, q⟩ => ⟨I1.kIn, ?_⟩) he hpl
  exact run_fnG F hG hr b .nil pass0' I1 r q
end
/-! a book made -/
structure BkMk (K : PySem.W.Frag) (mg : Str → Option Value) (C : Addr) : Prop where
  makes : PySem.W.makesIn K C = true
  kp : PySem.W.keepIn K (.ref C) = true
  gB : mg "Book" = some (.ref C)
theorem pe_mkB {X : Cx} {C : Addr} {k : Nat} {e : Expr} {es : List Expr} {t : TA} {p pos : Pos} {ps : List Str} {sp : Sp} (F : CalM X.prog X.w X.K X.mg X.base Nx0 k C "__init__" ps sp) (M : BkMk X.K X.mg C) (hr : Room (k + 1) X.A) (ha : PA X (e :: es) t) (hg : Gl X "Book" := by rfl)
    (he : starEach (e :: es) X.env = (false, eval e X.env) :: starEach es X.env := by rfl) (hpl : (backTo pos (starEach es X.env)).any (·.1) = false := by rfl) : PE X (.Call (.Name "Book" p) (e :: es) [] pos) (tMake C sp [] L2.E0 t) := by
  obtain ⟨f, fd, F, Me, b⟩ := F
  exact pe_make (Mk.mk M.makes Me.at_ Me.fn M.kp) F hr hg M.gB b .nil pass0' ha (by decide) he hpl
end K25
end

section
-- XLamD
set_option Elab.async false
set_option linter.all false
set_option maxRecDepth 100000
set_option maxHeartbeats 4000000
/-! A lambda with one parameter that has a default, handed to a def that calls it without arguments. -/
namespace K25
open PySem PySem.Spec PyProof.Rows L2 LamX
abbrev fnL (qual : Str) (params : Arguments) (body : Expr) (scope : Scope) (cl : List (Str × Addr)) (dV pm cdv ct : Value) : FuncData :=
  { name := "<lambda>", qualname := qual, params, body := .expr body, scope, globals := mainGlobals, closure := cl, defaults := dV, kwdefaults := .none, doc := .none, pyModule := pm, annotations := none, code := cdv, closureTuple := ct, builtins := builtinsNs }
abbrev objL (qual : Str) (params : Arguments) (body : Expr) (scope : Scope) (cl : List (Str × Addr)) (dV pm cdv ct : Value) : Obj := { cls := .type "function", data := .func (fnL qual params body scope cl dV pm cdv ct) }
section
variable {M : Model} {A : Around} {E : Value → Shared → Prop} {s : Shared} {qual : Str} {params : Arguments} {body : Expr} {scope : Scope} {env : Env} {c P : Addr} {ps : Array Value} {pos : Pos} {firstLine : Nat} {mg : Str → Option Value}
  {clos : List (Str × Addr)} {dV : Value} {Q : Value → Shared → Prop}
open PySem.W in
theorem tail_new (hcl : closureFor scope env = pure clos) (hge0 : env.globals = mainGlobals) (hg : s.heap.Ns mainGlobals mg) (hcode : env.code = .ref c) (C : CodeHd s.heap c P) (hP : s.heap.get? P = some (tabObj ps)) (ht : TriplesOk ps.toList)
    (hnf : codeAmong pos ps.toList = none) (hgP : mainGlobals ≠ P) (hb : s.heap.BuiltinsAt mg P)
    (h : ∀ c' ctv h' tk, Heap.ExtBut P s.heap h' → s.heap.objs.size ≤ c' → c' < h'.objs.size → h'.CodeRec (.ref c') qual → h'.get? P = some (tabObj (ps ++ #[rawInt pos.line, rawInt pos.col, .ref c'])) →
      Q (.ref h'.objs.size) { s with heap := h'.push (objL qual params body scope clos dV ((mg "__name__").getD .none) (.ref c') ctv), toks := tk }) :
    wpAny M A (makeTail "<lambda>" qual params (.expr body) scope env dV .none none pos firstLine) Q E s := by
  obtain ⟨bm, ob, hbm, hne0, _, hneP, hbo, hcls, hdict, hdata⟩ := hb
  unfold makeTail
  rw [hcl, hge0]
  refine wpAny_bind (wpAny_pure ?_)
  cases clos with
  | nil =>
    simp only [List.isEmpty_nil, if_true]
    refine wpAny_bind (wpAny_pure ?_)
    refine wpAny_bind (wpAny_functionCodeX hcode (C.code hP ht) (C.tab hP) hnf fun c' h' tk hx hge hlt _ hrec htb _ => ?_)
    have hg' := hg.extBut hx hgP
    refine wpAny_bind (wpAny_builtinsFor hg' hbm hne0 (hx _ _ hneP hbo) hcls hdict hdata ?_)
    refine wpAny_bind (wpAny_nsGet hg' ?_)
    exact wpAny_bind (wpAny_pure (wpAny_newObj_type (h c' .none h' tk hx hge hlt hrec htb.2) (by size_fits)))
  | cons q r =>
    simp only [List.isEmpty_cons, Bool.false_eq_true, if_false]
    refine wpAny_bind (wpAny_newTextTuple ?_)
    refine wpAny_bind (wpAny_functionCodeX hcode ((C.keeps fun b o e => Heap.get?_push_of_some _ e).code (Heap.get?_push_of_some _ hP) ht) ((C.keeps fun b o e => Heap.get?_push_of_some _ e).tab (Heap.get?_push_of_some _ hP)) hnf fun c' h' tk hx hge hlt _ hrec htb _ => ?_)
    have hg' := (hg.push _).extBut hx hgP
    have hx' : Heap.ExtBut P s.heap h' := fun b o hb' e => hx b o hb' (Heap.get?_push_of_some _ e)
    have hge' : s.heap.objs.size ≤ c' := Nat.le_trans (by rw [Heap.size_push]; omega) hge
    refine wpAny_bind (wpAny_builtinsFor hg' hbm hne0 (hx' _ _ hneP hbo) hcls hdict hdata ?_)
    refine wpAny_bind (wpAny_nsGet hg' ?_)
    exact wpAny_bind (wpAny_pure (wpAny_newObj_type (h c' _ h' tk hx' hge' hlt hrec htb.2) (by size_fits)))
open PySem.W in
theorem tail_hit {cv : Value} (hcl : closureFor scope env = pure clos) (hge0 : env.globals = mainGlobals) (hg : s.heap.Ns mainGlobals mg) (hcode : env.code = .ref c) (C : CodeHd s.heap c P) (hP : s.heap.get? P = some (tabObj ps)) (ht : TriplesOk ps.toList)
    (hf : codeAmong pos ps.toList = some cv) (hb : s.heap.BuiltinsAt mg P)
    (h : ∀ (ctv : Value) (h' : Heap) (tk : Tok), (∀ b o, s.heap.get? b = some o → h'.get? b = some o) → s.heap.objs.size ≤ h'.objs.size →
      Q (.ref h'.objs.size) { s with heap := h'.push (objL qual params body scope clos dV ((mg "__name__").getD .none) cv ctv), toks := tk }) :
    wpAny M A (makeTail "<lambda>" qual params (.expr body) scope env dV .none none pos firstLine) Q E s := by
  obtain ⟨bm, ob, hbm, hne0, _, hneP, hbo, hcls, hdict, hdata⟩ := hb
  unfold makeTail
  rw [hcl, hge0]
  refine wpAny_bind (wpAny_pure ?_)
  cases clos with
  | nil =>
    simp only [List.isEmpty_nil, if_true]
    refine wpAny_bind (wpAny_pure ?_)
    refine wpAny_bind (wpAny_functionCode_hit hcode (C.code hP ht) hf ?_)
    refine wpAny_bind (wpAny_builtinsFor hg hbm hne0 hbo hcls hdict hdata ?_)
    refine wpAny_bind (wpAny_nsGet hg ?_)
    exact wpAny_bind (wpAny_pure (wpAny_newObj_type (h .none s.heap s.toks (fun _ _ e => e) (Nat.le_refl _)) (by size_fits)))
  | cons q r =>
    simp only [List.isEmpty_cons, Bool.false_eq_true, if_false]
    refine wpAny_bind (wpAny_newTextTuple ?_)
    refine wpAny_bind (wpAny_functionCode_hit hcode ((C.keeps fun b o e => Heap.get?_push_of_some _ e).code (Heap.get?_push_of_some _ hP) ht) hf ?_)
    refine wpAny_bind (wpAny_builtinsFor (hg.push _) hbm hne0 (Heap.get?_push_of_some _ hbo) hcls hdict hdata ?_)
    refine wpAny_bind (wpAny_nsGet (hg.push _) ?_)
    have hsz : ∀ oT : Obj, s.heap.objs.size ≤ (s.heap.push oT).objs.size := fun oT => by rw [Heap.size_push]; omega
    exact wpAny_bind (wpAny_pure (wpAny_newObj_type (h _ _ s.toks (fun b o e => Heap.get?_push_of_some _ e) (hsz _)) (by size_fits)))
end
section
variable {X : Cx} {pins : List (Addr × Obj)} {σ : L2.St} {H : Hp} {s : Shared}
theorem lam_tailD {T : List (Addr × Str)} {c P : Addr} {params : Arguments} {body : Expr} {scope : Scope} {pos : Pos} {dV : Value} {E : Value → Shared → Prop} {Q : Value → Shared → Prop} (I : L2.Inv X pins σ H s) (TB : TabB X.base X.mg c P) (hcode : X.env.code = .ref c)
    (hm : (P, X.env.qual ++ "<lambda>") ∈ T) (hu : ∀ p ∈ T, p.1 = P → p.2 = X.env.qual ++ "<lambda>") (hT : Tabs T H) (hfree : ∀ y ∈ scope.names, y.2 = .free → ∃ c, X.env.cells.lookup y.1 = some c)
    (h : ∀ (f c' : Addr) (pm ctv : Value) (H1 : Hp) (s' : Shared), L2.Inv X pins σ H1 s' → ExtN H H1 → Tabs T H1 →
      s'.heap.get? f = some (objL (X.env.qual ++ "<lambda>") params body scope (cloFrom X.env.cells scope.names []) dV pm (.ref c') ctv) → H1 f = none → f ∉ frs X.stack → H1 c' = some (CodeO c' (X.env.qual ++ "<lambda>")) →
      (∀ b o, s.heap.get? b = some o → H b = none → s'.heap.get? b = some o ∧ H1 b = none) → Q (.ref f) s') :
    wpAny (model X.prog X.w) X.A (makeTail "<lambda>" (X.env.qual ++ "<lambda>") params (.expr body) scope X.env dV .none none pos pos.line) Q E s := by
  obtain ⟨ps, hP, ht, ha⟩ := hT _ hm
  have bP : s.heap.BuiltinsAt X.mg P := TB.bm.keeps I.bk
  have hP' : s.heap.get? P = some { cls := .none, data := .fields ps } := I.hok P _ hP
  have nofr : ∀ f, s.heap.objs.size ≤ f → f ∉ frs X.stack := fun f hf z => by
    rcases List.mem_cons.mp (I.stkSub _ z) with e | e
    · have h1 := I.lt
      rw [← e] at h1
      exact Nat.lt_irrefl _ (Nat.lt_of_lt_of_le h1 hf)
    · exact I.nofs hf e
  have nP : ∀ b, H b = none → b ≠ P := fun b e z => by rw [z, hP] at e; cases e
  cases hc : codeAmong pos ps.toList with
  | none =>
    refine tail_new (mg := X.mg) (c := c) (P := P) (ps := ps) (closure_ok hfree) I.ok.glob (I.mod.glob.keeps I.bk) hcode (TB.code.keeps I.bk) hP' ht hc TB.gP bP fun c' ctv h' tk hx hge hlt hrec htb => ?_
    obtain ⟨c2, oc, vs, t, e2, hoc, hd, hv⟩ := hrec
    cases e2
    have hsz : s.heap.objs.size ≤ h'.objs.size := Nat.le_trans hge (Nat.le_of_lt hlt)
    have nC : H c' = none := I.hok.fresh hge
    have I1 := inv_table (t' := tk) (more := #[rawInt pos.line, rawInt pos.col, .ref c']) (h' := h'.push (objL (X.env.qual ++ "<lambda>") params body scope (cloFrom X.env.cells scope.names []) dV ((X.mg "__name__").getD .none) (.ref c') ctv)) I hP
      (fun b o hb e => Heap.get?_push_of_some _ (hx b o hb e)) (Heap.get?_push_of_some _ htb) hge ⟨oc, vs, t, Heap.get?_push_of_some _ hoc, hd, hv⟩
    have hE : ExtN H (upd (upd H P (.tbl (ps ++ #[rawInt pos.line, rawInt pos.col, .ref c']))) c' (CodeO c' (X.env.qual ++ "<lambda>"))) := fun b o e n => by
      rw [upd_ne (ne_of_none e nC), upd_ne (fun z => n ps (Option.some.inj (e.symm.trans (by rw [z]; exact hP))))]
      exact e
    have eL : (ps ++ #[rawInt pos.line, rawInt pos.col, .ref c']).toList = ps.toList ++ [rawInt pos.line, rawInt pos.col, .ref c'] := by simp
    refine h h'.objs.size c' ((X.mg "__name__").getD .none) ctv _ _ I1 hE (fun p hp => ?_) (Heap.get?_push_size _ rfl) ?_ (nofr _ hsz) upd_same (fun b o e n => ⟨Heap.get?_push_of_some _ (hx b o (nP b n) e), ?_⟩)
    · by_cases hb : p.1 = P
      · rw [hu p hp hb, hb]
        refine ⟨_, by rw [upd_ne (ne_of_none hP nC), upd_same], by rw [eL]; exact PySem.TriplesOk_snoc _ _ _ _ ht, fun p' cv hcv => ?_⟩
        rw [eL] at hcv
        rcases among_app _ ht hcv with z | z
        · obtain ⟨c0, e1, e2⟩ := ha p' cv z
          exact ⟨c0, e1, hE _ _ e2 codeO_ne⟩
        · exact ⟨c', z, upd_same⟩
      · obtain ⟨ps', a1, a2, a3⟩ := hT p hp
        refine ⟨ps', by rw [upd_ne (ne_of_none a1 nC), upd_ne hb]; exact a1, a2, fun p' cv hcv => ?_⟩
        obtain ⟨c0, e1, e2⟩ := a3 p' cv hcv
        exact ⟨c0, e1, hE _ _ e2 codeO_ne⟩
    · have n1 : h'.objs.size ≠ c' := Nat.ne_of_gt hlt
      have n2 : h'.objs.size ≠ P := Nat.ne_of_gt (Nat.lt_of_lt_of_le (Heap.lt_size hP') hsz)
      rw [upd_ne n1, upd_ne n2]
      exact I.hok.fresh hsz
    · have n1 : b ≠ c' := fun z => by
        have := Heap.lt_size e
        rw [z] at this
        exact Nat.lt_irrefl _ (Nat.lt_of_lt_of_le this hge)
      rw [upd_ne n1, upd_ne (nP b n)]
      exact n
  | some cv =>
    obtain ⟨c', e, hco⟩ := ha pos cv hc
    subst e
    refine tail_hit (mg := X.mg) (c := c) (P := P) (ps := ps) (closure_ok hfree) I.ok.glob (I.mod.glob.keeps I.bk) hcode (TB.code.keeps I.bk) hP' ht hc bP fun ctv h' tk hx hsz => ?_
    have I1 : L2.Inv X pins σ H { s with heap := h'.push (objL (X.env.qual ++ "<lambda>") params body scope (cloFrom X.env.cells scope.names []) dV ((X.mg "__name__").getD .none) (.ref c') ctv), toks := tk } := I.kept fun b o e => Heap.get?_push_of_some _ (hx b o e)
    exact h h'.objs.size c' ((X.mg "__name__").getD .none) ctv H _ I1 (ExtN.refl H) hT (Heap.get?_push_size _ rfl) (I.hok.fresh hsz) (nofr _ hsz) hco fun b o e n => ⟨Heap.get?_push_of_some _ (hx b o e), n⟩
/-- the lambda with one default, an int, is made -/
theorem lam_makeD {T : List (Addr × Str)} {c P : Addr} {params : Arguments} {body : Expr} {scope : Scope} {pos : Pos} {d0 : Sem Value} {E : Value → Shared → Prop} {Q : Value → Shared → Prop} (I : L2.Inv X pins σ H s) (TB : TabB X.base X.mg c P) (hcode : X.env.code = .ref c)
    (hm : (P, X.env.qual ++ "<lambda>") ∈ T) (hu : ∀ p ∈ T, p.1 = P → p.2 = X.env.qual ++ "<lambda>") (hT : Tabs T H) (hdef : defaultsOf params X.env = ([d0], [])) (hkw : params.kwonlyargs = []) (hd0 : wpAny (model X.prog X.w) X.A d0 (fun v s' => L2.Inv X pins σ H s') E s)
    (hfree : ∀ y ∈ scope.names, y.2 = .free → ∃ c, X.env.cells.lookup y.1 = some c)
    (h : ∀ (f c' d : Addr) (v pm ctv : Value) (H1 : Hp) (s' : Shared), L2.Inv X pins σ H1 s' → ExtN H H1 → Tabs T H1 →
      s'.heap.get? f = some (objL (X.env.qual ++ "<lambda>") params body scope (cloFrom X.env.cells scope.names []) (.ref d) pm (.ref c') ctv) → H1 f = none → f ∉ frs X.stack → H1 c' = some (CodeO c' (X.env.qual ++ "<lambda>")) →
      s'.heap.get? d = some { cls := .type "tuple", data := .seq #[v] } → H1 d = none → d ∉ frs X.stack → Q (.ref f) s') :
    wpAny (model X.prog X.w) X.A (eval (.Lambda params body scope pos) X.env) Q E s := by
  rw [arm_eval_Lambda, hdef]
  show wpAny _ _ (do let dv ← evalAll [d0]; let kdv ← holding dv (evalAllOpt []); makeFunction "<lambda>" (X.env.qual ++ "<lambda>") params (.expr body) scope X.env dv kdv [] pos pos.line) Q E s
  refine wpAny_bind ?_
  show wpAny _ _ (do let v ← d0; return v :: (← holding [v] (evalAll []))) _ _ s
  refine wpAny_bind (wpAny_mono hd0 (fun v s1 I1 => ?_) fun _ _ z => z)
  refine wpAny_bind (wpAny_holding (wpAny_pure (wpAny_pure ?_)))
  refine wpAny_bind (wpAny_holding (wpAny_pure ?_))
  rw [makeFunction_eq, hkw]
  simp only [List.zip_nil_left, List.filterMap_nil, List.isEmpty_nil, List.isEmpty_cons, Bool.false_eq_true, if_true, if_false, pure_bind]
  refine wpAny_bind (wpAny_newTextTuple ?_)
  have I2 : L2.Inv X pins σ H { s1 with heap := s1.heap.push { cls := .type "tuple", data := .seq [v].toArray } } := I1.kept (t' := s1.toks) fun b o e => Heap.get?_push_of_some _ e
  refine lam_tailD (dV := .ref s1.heap.objs.size) I2 TB hcode hm hu hT hfree fun f c' pm ctv H1 s' I3 e3 t3 g1 g2 g3 g4 g5 => ?_
  obtain ⟨k1, k2⟩ := g5 s1.heap.objs.size _ (Heap.get?_push_size _ rfl) (I1.hok.fresh (Nat.le_refl _))
  refine h f c' _ v pm ctv H1 s' I3 e3 t3 g1 g2 g3 g4 k1 k2 fun z => ?_
  rcases List.mem_cons.mp (I1.stkSub _ z) with e | e
  · have h1 := I1.lt
    rw [← e] at h1
    exact Nat.lt_irrefl _ h1
  · exact I1.nofs (Nat.le_refl _) e
end
/-! the names of such a lambda -/
structure LamD (N : List Str) (sc scope : Scope) (y0 : Str) : Prop where
  kind : scope.kind = .function
  co : scope.isCoroutine = false
  gen : scope.isGenerator = false
  own : ∀ y ∈ scope.names, y.2 ≠ .cell
  out : ∀ y : Str, scope.names.lookup y = some .local → y ∉ N
  loc : scope.names.lookup y0 = some .local
  free : ∀ y ∈ scope.names, y.2 = .free → sc.names.lookup y.1 = some .cell ∨ sc.names.lookup y.1 = some .free
theorem LamD.has {X : Cx} {scope : Scope} {y0 : Str} {N : List Str} (L : LamD N X.env.scope scope y0) (ok : X.Ok) : ∀ y ∈ scope.names, y.2 = .free → ∃ c, X.env.cells.lookup y.1 = some c := fun y hy e => by
  rcases L.free y hy e with k | k
  · exact ok.has _ (.inl k)
  · exact ok.has _ (.inr k)
section
variable {X : Cx} {pins : List (Addr × Obj)} {σ : L2.St} {H HZ : Hp} {s s1 : Shared}
theorem lam_startD {A : Around} {outer : List Env} {E : XK} {scope : Scope} {f c' : Addr} {h₁ : Heap} {tk : Nat} {y0 : Str} {bs : List (Str × Value)} (I : L2.Inv X pins σ H s) (L : LamD X.N X.env.scope scope y0) (e0 : Env0 X.prog X.w X.K X.mg X.base A outer s1 HZ) (hd : A.handled = none)
    (un : Un (frs X.stack) [] H HZ s.heap s1.heap) (hns : h₁.Ns s1.heap.objs.size fun y => bs.reverse.lookup y) (kp : ∀ b o, s1.heap.get? b = some o → h₁.get? b = some o) :
    L2.Inv (lamCx X A outer s1 HZ E scope f c') [] σ HZ { s1 with heap := h₁, toks := tk } := by
  have hfree := L.has I.ok
  have cm : ∀ {y c}, (cloFrom X.env.cells scope.names []).lookup y = some c → X.env.cells.lookup y = some c := fun {y c} e => by
    rcases cloFrom_mem (PySem.mem_of_lookup e) with hm | ⟨h1, h2⟩
    · cases hm
    · obtain ⟨c1, hc⟩ := hfree _ h1 rfl
      have hc : X.env.cells.lookup y = some c1 := hc
      have e2 : c = c1 := by
        rw [h2, hc] <;> rfl
      rw [e2]
      exact hc
  have look : ∀ {y}, scope.names.lookup y = some .free → ∃ c, (cloFrom X.env.cells scope.names []).lookup y = some c := fun {y} hl => by
    have hy : (y, NameKind.free) ∈ scope.names := PySem.mem_of_lookup hl
    exact mem_lookup (cloFrom_has (cells := X.env.cells) (acc := []) hy)
  have cellK : ∀ {c : Addr} {v : Option Value}, H c = none → s.heap.IsCell c v → h₁.IsCell c v := fun {c v} n ⟨o, ho, hd⟩ => by
    obtain ⟨sl, q⟩ := un.any ho n (by simp)
    exact ⟨_, kp _ _ q, hd⟩
  have noA : ∀ b : Addr, b ∉ (lamCx X A outer s1 HZ E scope f c').ex := fun b z => absurd (show b ∈ ([] : List Addr) from z) (by simp)
  refine ⟨⟨e0.mod, L.kind, rfl, rfl, Nat.le_refl _, fun y z c e1 e2 => I.ok.inj y z c (cm e1) (cm e2), fun y hy => ?_, fun y c z _ => ?_, fun _ => hd, Around.frames_deeper e0.frames, .inr ⟨rfl, rfl⟩, fun b z => absurd z (noA b), e0.bs, e0.bsz, fun b _ _ => noA b,
      fun b z => absurd z (noA b), e0.funs, e0.frf⟩,
    rfl, e0.bare, Un.kept kp, ⟨_, hns, fun i y v e1 e2 e3 => ?_⟩, fun y c e => ?_, e0.hok.fresh (Nat.le_refl _), fun y c e => ?_, fun q hq => absurd (show q ∈ ([] : List (Addr × Obj)) ++ [] from hq) (by simp), e0.hok.kept kp, I.len⟩
  · have hy : scope.names.lookup y = some .cell ∨ scope.names.lookup y = some .free := hy
    rcases hy with hy | hy
    · exact absurd rfl (L.own _ (PySem.mem_of_lookup hy))
    · exact look hy
  · have z : false = true := z
    cases z
  · have e3 : Vis scope y := e3
    rcases e3 with k | k | k
    · exact absurd (List.mem_of_getElem? e1) (L.out _ k)
    · exact absurd rfl (L.own _ (PySem.mem_of_lookup k))
    · obtain ⟨m, hn, hl⟩ := I.loc
      have hvis : Vis X.env.scope y := (L.free _ (PySem.mem_of_lookup k) rfl).elim (fun k => .inr (.inl k)) (fun k => .inr (.inr k))
      obtain ⟨w', r, q⟩ := hl i y v e1 e2 hvis
      obtain ⟨c2, h2⟩ := look k
      refine ⟨w', r, .inr ⟨.inr k, c2, h2, ?_⟩⟩
      have c1 := cm h2
      rcases q with ⟨k', _⟩ | ⟨_, c3, e', z⟩
      · have k' : X.env.scope.names.lookup y = some .local := k'
        rcases L.free _ (PySem.mem_of_lookup k) rfl with k2 | k2 <;> rw [show X.env.scope.names.lookup y = _ from k2] at k' <;> cases k'
      · rw [c1] at e'
        cases e'
        exact cellK (I.freeC y _ c1) z
  · obtain ⟨w', z⟩ := I.cell y c (cm e)
    exact ⟨w', cellK (I.freeC y c (cm e)) z⟩
  · obtain ⟨v, o, ho, hd⟩ := I.cell y c (cm e)
    exact un.free c o ho (I.freeC y c (cm e)) (by simp)
theorem pe_actD {CXg : CXT} {Eg : XK} {Ng : List Str} {qg : Str} {sg : Scope} {g f c' d : Addr} {cdg pm ctv v0 : Value} {params : Arguments} {body : Expr} {scope : Scope} {k i : Nat} {a y0 : Str} {pn : List (Addr × Obj)} {xe : Value → Shared → Prop} {W : WX} {E : XK} {tb : TE} {p1 p2 : Pos}
    (I : L2.Inv X pins σ H s) (L : LamD X.N X.env.scope scope y0) (hf : s.heap.get? f = some (objL (X.env.qual ++ "<lambda>") params body scope (cloFrom X.env.cells scope.names []) (.ref d) pm (.ref c') ctv)) (hfn : H f = none) (hfr : f ∉ frs X.stack)
    (hdt : s.heap.get? d = some { cls := .type "tuple", data := .seq #[v0] }) (hdn : H d = none) (hdr : d ∉ frs X.stack)
    (hbind : ∃ kk, bindArgs (fnL (X.env.qual ++ "<lambda>") params body scope (cloFrom X.env.cells scope.names []) (.ref d) pm (.ref c') ctv) ⟨[], []⟩ = seqItems? (.ref d) >>= kk ∧ kk (some #[v0]) = pure [(y0, v0)])
    (tk : Takes ((cxOf CXg X.prog X.w X.K X.mg X.base Ng qg sg g cdg X.A X.stack s H Eg).tr pn xe) W) (hW : ∀ cls d σ' H', E cls d H' → W cls d σ' H') (hr : Room (k + 1) (X.A.deeper (envOfC qg sg s.heap.objs.size g cdg)))
    (hbody : ∀ (A : Around) (outer : List Env) (s : Shared) (H : Hp), Room k (A.deeper (lamEnv X scope s.heap.objs.size f c')) → PE (lamCx X A outer s H E scope f c') body tb)
    (hN : Ng[i]? = some a) (hv : Vis sg a) (hd : (a == ("__debug__" : Str)) = false := by decide) (hcd : (a == ("__classdict__" : Str)) = false := by decide) :
    PE ((cxOf CXg X.prog X.w X.K X.mg X.base Ng qg sg g cdg X.A X.stack s H Eg).tr pn xe) (.Call (.Name a p1) [] [] p2)
      (fun σZ HZ Q => σZ[i]? = some (some (.ref f)) ∧ HZ c' = some (CodeO c' (X.env.qual ++ "<lambda>")) ∧ tb σ HZ Q) := by
  refine ⟨fun pinsZ sZ σZ HZ Q IZ h => ?_⟩
  obtain ⟨hs, hc, ht⟩ := h
  refine wpAny_Call_Name_kw (thn ((pe_var (pos := p1) (i := i) hN hv hd hcd).run pinsZ sZ σZ HZ (fun v H1 => v = .ref f ∧ H1 = HZ) IZ ⟨.ref f, hs, rfl, rfl⟩) fun u s1 ⟨v, H1, I1, r1, q1⟩ => ?_)
  obtain ⟨ev, eH⟩ := q1
  subst ev
  rw [eH] at I1
  obtain rfl : u = Value.ref f := r1
  have of1 : s1.heap.get? f = some (objL (X.env.qual ++ "<lambda>") params body scope (cloFrom X.env.cells scope.names []) (.ref d) pm (.ref c') ctv) := I1.base.keep f _ hf hfn hfr (fun z => nomatch (show f ∈ ([] : List Addr) from z))
  have od1 : s1.heap.get? d = some { cls := .type "tuple", data := .seq #[v0] } := I1.base.keep d _ hdt hdn hdr (fun z => nomatch (show d ∈ ([] : List Addr) from z))
  refine PySem.W.callWith_F0 ⟨_, _, _, _, of1⟩ ?_
  have un : Un (frs X.stack) [] H HZ s.heap s1.heap := I1.base
  obtain ⟨⟨oc, vs, t, hoc, hdc, hvc⟩, _, _⟩ := I1.hok c' _ hc
  have rc : codeAny (model X.prog X.w) (X.A.deeper (envOfC qg sg s.heap.objs.size g cdg)) (.call (.ref f) ⟨[], []⟩) (CR (L2.CX X.prog X.w) (envOfC qg sg s.heap.objs.size g cdg :: X.stack) X.prog X.w HZ s1 Q E) s1 := by
    refine PySem.W.kla_callFunE hr.depth of1 rfl L.co L.gen rfl ⟨c', oc, vs, t, rfl, hoc, hdc, hvc⟩ ?_
    obtain ⟨kk, b1, b2⟩ := hbind
    rw [b1]
    refine wpAny_bind (wpAny_seqItems od1 rfl ?_)
    rw [b2]
    refine wpAny_pure (wpAny_newFunctionEnv (fun y hy => L.own y hy) (fun y hy => ?_) (fun h₁ hns hsb => ⟨I1.nolimit.fresh _ hsb, ?_⟩) L.kind)
    · rcases List.mem_cons.mp hy with e | hy
      · rw [e]; exact L.loc
      · cases hy
    show codeAny _ _ (.expr body (lamEnv X scope s1.heap.objs.size f c')) _ _
    have kp : ∀ b o, s1.heap.get? b = some o → h₁.get? b = some o := fun b o e => hsb.extBut b o (Nat.ne_of_lt (Heap.lt_size e)) (Heap.get?_push_of_some _ e)
    have J : L2.Inv (lamCx X (X.A.deeper (envOfC qg sg s.heap.objs.size g cdg)) (envOfC qg sg s.heap.objs.size g cdg :: X.stack) s1 HZ E scope f c') [] σ HZ { s1 with heap := h₁, toks := s1.toks + ([(y0, v0)] : List (Str × Value)).length } :=
      lam_startD I L I1.env0 hr.hd un hns kp
    refine PySem.W.kla_codeExpr (wpAny_mono ((hbody _ _ s1 HZ (hr.deeper _)).run [] _ _ HZ Q J ht) (fun v s' hq => ?_) fun e s' hq => hq)
    obtain ⟨w', H', J', rv, q⟩ := hq
    exact ⟨w', H', J'.os, J'.bare, J'.base, J'.hok, rv, q⟩
  have hx : Passes (L2.CX X.prog X.w) ((cxOf CXg X.prog X.w X.K X.mg X.base Ng qg sg g cdg X.A X.stack s H Eg).tr pn xe) E := passes_call tk hW
  refine wpAny_call (codeAny_mono rc fun r s' hq => ?_)
  cases r with
  | error e => exact hx pinsZ σZ HZ s1 e s' I1 hq
  | ok fl =>
    cases fl with
    | ret u => exact I1.after hq
    | next => exact False.elim hq
    | brk => exact False.elim hq
    | cont => exact False.elim hq
end
section
variable {X : Cx} {CR CK CN CI CB CM CL : Addr}
/-- _law_told(lambda y0=0: body) -/
theorem pe_toldD {T : List (Addr × Str)} {c P ct : Addr} {k : Nat} {params : Arguments} {body : Expr} {scope : Scope} {t : XK → TE} {y0 : Str} {p lpos pos : Pos} (n : Int) {e0 : Expr} (TD : ToldC X.K X.mg CR CK CN CI CB CM CL) (DT : DfnC X.K X.mg (top 62) "_law_told" ct)
    (TB : LamX.TabB X.base X.mg c P) (hmT : (P, X.env.qual ++ "<lambda>") ∈ T) (hu : ∀ p ∈ T, p.1 = P → p.2 = X.env.qual ++ "<lambda>") (hr : Room (k + 2) X.A) (L : LamD X.N X.env.scope scope y0)
    (hbody : ∀ (A : Around) (outer : List Env) (s : Shared) (H : Hp) (E : XK) (f c' : Addr), Room k (A.deeper (LamX.lamEnv X scope s.heap.objs.size f c')) → PE (LamX.lamCx X A outer s H E scope f c') body (t E))
    (he0 : PE X e0 (tC (.int n)))
    (hcode : X.env.code = .ref c := by rfl) (hdef : defaultsOf params X.env = ([eval e0 X.env], []) := by rfl) (hkw : params.kwonlyargs = [] := by rfl) (hg : Gl X "_law_told" := by rfl)
    (hbind : ∀ (q : Str) (cl : List (Str × Addr)) (pm cv ctv v0 : Value) (d : Addr), ∃ kk, bindArgs (fnL q params body scope cl (.ref d) pm cv ctv) ⟨[], []⟩ = seqItems? (.ref d) >>= kk ∧ kk (some #[v0]) = pure [(y0, v0)] := by intros; exact ⟨_, rfl, rfl⟩) :
    PE X (.Call (.Name "_law_told" p) [.Lambda params body scope lpos] [] pos) (LamX.tLam T (TTold CN CB CM CL) t) := by
  obtain ⟨g, oc, od, kV, doc, pm, an, ctv, osl, lk, hcd, kp, m⟩ := DT
  refine ⟨fun pins s σ H Q I h => ?_⟩
  obtain ⟨hT, h⟩ := h
  refine wpAny_Call_Name_kw (ld_glob I hg m ?_ (by decide))
  refine PySem.W.callWith_K (h₀ := X.base) I.ok.mod.kin kp ?_ (by rfl) (by rfl)
  show wpAny _ _ (spliced ((false, eval (.Lambda params body scope lpos) X.env) :: backTo pos (starEach [] X.env))) _ _ s
  refine Calls.spliced_cons (lam_makeD I TB hcode hmT hu hT hdef hkw (wpAny_mono (he0.run pins s σ H (fun _ H1 => H1 = H) I rfl) (fun v s' ⟨_, H1, I1, _, e⟩ => by rw [e] at I1; exact I1) fun _ _ z => z) (L.has I.ok) fun f c' d v0 pm' ctv' H1 s' I1 eN T1 hf hfn hfr hco e1 e2 e3 => ?_)
  refine Calls.spliced_nil ⟨I1.kIn, ?_⟩
  have rc : codeAny (model X.prog X.w) X.A (.call (.ref g) ⟨[.ref f], []⟩) (L2.CR C8.CX0 X.stack X.prog X.w H1 s' Q C8.E0) s' := by
    refine run_ofS (N := ["_law_call", "error"]) (ps := ["_law_call"]) (us := [.ref f]) (vs := [.ref f]) lk hcd sc62 hr I1.env0 (BindsTo.of_eq (args := ⟨[.ref f], []⟩) (by rfl)) (.cons rfl .nil) rfl fun hr' => ?_
    obtain ⟨t', ht', hq'⟩ := told_gives TD f c' s' H1 Q (fun E H' Q' => t E σ H' Q') (fun W pn xe E p1 p2 tk hW => pe_actD (i := 0) I1 L hf hfn hfr e1 e2 e3 (hbind _ _ _ _ _ _ _) tk hW hr' (fun A outer s H hr2 => hbody A outer s H E f c' hr2) rfl (.inl rfl)) hco (h H1 eN T1)
    exact ⟨t', ht'.nox, hq'⟩
  refine wpAny_call (codeAny_mono rc fun r s2 hq => ?_)
  cases r with
  | error e => exact (show False from hq).elim
  | ok fl =>
    cases fl with
    | ret u => exact I1.after hq
    | next => exact False.elim hq
    | brk => exact False.elim hq
    | cont => exact False.elim hq
end
end K25
end

section
-- BDeed63
set_option Elab.async false
set_option linter.all false
set_option maxRecDepth 100000
set_option maxHeartbeats 4000000
set_option autoImplicit false
/-! _law_rows_deed -/
namespace K25
open PySem PySem.Spec PyProof.Rows L2
section
variable {P : Program} {w : World} {K : PySem.W.Frag} {mg : Str → Option Value} {base : Heap} {C : Addr} {CR CK CN CI CB CM CL ct cd cp : Addr} {T : List (Addr × Str)}
theorem sc63 : FnScope ["_law_state", "_law_book", "_law_columns", "_law_own", "_law_rows", "_law_stock", "_law_lots", "_law_later", "_law_broken", "_law_at", "_law_row_here", "_law_lot_here"] ["_law_state", "_law_book", "_law_columns", "_law_own"] (defScope (top 63)) := ⟨rfl, rfl, rfl, by decide +kernel, rfl, by decide +kernel, by decide +kernel⟩
def brk (rows : List (List Int)) (lots : List (List Int)) : List (List Int) := lots.filter fun k => !isKey rows k
theorem brk_bad (rows lots : List (List Int)) : badLot rows lots = (brk rows lots).head? := by
  unfold badLot brk
  rw [List.head?_filter]
theorem brk_take {rows lots : List (List Int)} {k : List Int} {i : Nat} (h : lots[i]? = some k) : brk rows (lots.take (i + 1)) = brk rows (lots.take i) ++ (if isKey rows k then [] else [k]) := by
  unfold brk
  rw [List.take_add_one, h, List.filter_append]
  cases e : isKey rows k <;> simp [e]
/-- the loop of the broken lots: what is made stands at D -/
def BrP (K : PySem.W.Frag) (rows lots : List (List Int)) (H0 : Hp) (D : Addr) (i : Nat) (H' : Hp) : Prop := Same H0 H' ∧ ∃ ys, H' D = some (.lst ys) ∧ DpAll K H' ys ((brk rows (lots.take i)).map dL)
theorem br_more {rows lots : List (List Int)} {k : List Int} {H0 H' : Hp} {D : Addr} {i : Nat} {v : V} (h : lots[i]? = some k) (hv : Dp K H' v (dL k)) (hD : H0 D = none) (hi : lots.length ≤ 100) (w : BrP K rows lots H0 D i H') (e : isKey rows k = false) :
    ∃ acc, H' D = some (.lst acc) ∧ acc.length < sizeLine ∧ BrP K rows lots H0 D (i + 1) (upd H' D (.lst (acc ++ [v]))) := by
  obtain ⟨s, ys, h1, h2⟩ := w
  have hlen := dpAll_len h2
  rw [List.length_map] at hlen
  have := List.length_filter_le (fun k => !isKey rows k) (lots.take i)
  rw [List.length_take] at this
  have hk : KT H' (upd H' D (.lst (ys ++ [v]))) := KT.upd h1 Soft.lst
  refine ⟨ys, h1, lt_line (by unfold brk at hlen; omega), same_out s hD, ys ++ [v], upd_same, ?_⟩
  rw [brk_take h, if_neg (by rw [e]; decide), List.map_append]
  exact dpAll_app (dpAll_kt hk _ _ (tonly_all tonly_dL _) h2) (.cons (dp_kt hk _ _ (tonly_dL _) hv) .nil)
theorem br_skip {rows lots : List (List Int)} {k : List Int} {H0 H' : Hp} {D : Addr} {i : Nat} (h : lots[i]? = some k) (w : BrP K rows lots H0 D i H') (e : isKey rows k = true) : BrP K rows lots H0 D (i + 1) H' := by
  obtain ⟨s, ys, h1, h2⟩ := w
  refine ⟨s, ys, h1, ?_⟩
  rw [brk_take h, if_pos e, List.append_nil]
  exact h2
theorem BrP.same {rows lots : List (List Int)} {H0 H' H2 : Hp} {D : Addr} {i : Nat} (w : BrP K rows lots H0 D i H') (e : Same H' H2) : BrP K rows lots H0 D i H2 := by
  obtain ⟨s, ys, h1, h2⟩ := w
  exact ⟨s.trans e, ys, e _ _ h1, dpAll_kt (KT.same e) _ _ (tonly_all tonly_dL _) h2⟩
theorem cal_deed63 (D : DfnC K mg (top 63) "_law_rows_deed" cd) (Z : Fre mg) (BC : BkC K C) (TD : ToldC K mg CR CK CN CI CB CM CL) (DT : DfnC K mg (top 62) "_law_told" ct) (TB : LamX.TabB base mg cd cp) (hmT : ((cp, ("_law_rows_deed.<locals>.<lambda>" : Str)) : Addr × Str) ∈ T) (hu : ∀ p ∈ T, p.1 = cp → p.2 = "_law_rows_deed.<locals>.<lambda>")
    (CD : Cal P w K mg base Nx0 2 "_law_draw" ["_law_state", "_law_many"] spDraw) (CO : Cal P w K mg base Nx0 3 "_law_of" ["_law_state", "_law_some"] (spOf K)) (CW : Cal P w K mg base Nx0 3 "_law_row" ["_law_state", "_law_columns", "_law_wide"] (spRow K)) (CK : Cal P w K mg base Nx0 2 "_law_is_key" ["_law_rows", "_law_lot_here"] (spKey K))
    (CA : CalM P w K mg base (L2.CX P w) 4 C "add" ["self", "row"] (spAdd K C CB)) (CV : CalM P w K mg base (L2.CX P w) 4 C "remove" ["self", "row"] (spRemove K C CM)) : Cal P w K mg base Nx0 10 "_law_rows_deed" ["_law_state", "_law_book", "_law_columns", "_law_own"] (spDeed K T C) := by
  refine D.cal0 sc63 (fun _ _ _ _ _ _ us hl => match us, hl with | [_, _, _, _], _ => rfl) (fun vs H Q E ⟨_, _, _, _, _, _, _, _, _, h, _⟩ => by rw [h]; rfl) fun f A outer s0 H vs Q E hr h => ?_
  obtain ⟨st, cl, ll, b, w', c, n, hs, s, rfl, hw, hn, hl14, c1, c3, hist, G⟩ := h
  have nd := sc63.nd
  have hu64 := hr.units
  have hr9 : Room (7 + 2) _ := hr
  have hr2 : Room 2 _ := hr.mono (by decide)
  have hr3 : Room 3 _ := hr.mono (by decide)
  refine ⟨_, pss_cons (ps_asg (pe_ix ix_list (pv 3) (pe_un un_neg pe_int) (fun _ _ => rfl)) (pg_tup rfl (pgs_cons (pg_name (i := 4) nd rfl (.inl rfl)) (pgs_cons (pg_name (i := 5) nd rfl (.inl rfl)) (pgs_cons (pg_name (i := 6) nd rfl (.inl rfl)) pgs_nil))))) (pss_cons (ps_set (i := 10) nd rfl (.inr rfl) (pe_cn CW hr3 (pa_cons (pv 0) (pa_cons (pv 2) (pa_cons pe_int pa_nil))))) (pss_cons (ps_if (PW.pt (pw_or (pt_cmpR op_gt (pe_cn CD hr2 (pa_cons (pv 0) (pa_cons pe_int pa_nil))) pe_int (nomark _)) (pw_or1 (pt_cmpR ((op_eqD hu64)) (pv 4) (pe_tup pa_nil) (nomark _))))) (pss_cons (ps_set (i := 7) nd rfl (.inr rfl) (pe_callTy call_tupleF (by rfl) Z.tuple (by decide +kernel) (pa_cons (pe_callB ((cr_sortT (hu4_of hr))) (by rfl) Z.sorted (by decide +kernel) (pa_cons (pe_op op_catA (pv 4) (pe_tup (pa_cons (pv 10) pa_nil))) pa_nil)) pa_nil))) (pss_cons (ps_setLc (i := 8) (own := [("_law_lot_here", 11)]) (g := gName 11) rfl nd rfl rfl (sw_true rfl rfl rfl (by decide +kernel)) (pi_tup (pv 6)) (blkOk_by (N := ["_law_state", "_law_book", "_law_columns", "_law_own", "_law_rows", "_law_stock", "_law_lots", "_law_later", "_law_broken", "_law_at", "_law_row_here", "_law_lot_here"]) (sc := defScope (top 63)) (by decide +kernel)) (fun _ _ _ _ _ => pg_name (i := 11) nd rfl (Or.inl rfl)) (fun _ _ _ _ _ => pts_one (pt_not (pt_val (pe_cn CK hr2 (pa_cons (pv 7) (pa_cons (pv 11) pa_nil)))))) (fun _ _ _ _ _ => pv 11)) (pss_cons (ps_if (pt_cmpR ((op_eqD hu64)) (pv 8) (pe_lst pa_nil) (nomark _)) (pss_one (ps_expr (pe_bm PySem.F.plainAttrs_list PySem.F.slot_list_append PySem.F.type_list_append mt_append (pv 3) (pa_cons (pe_tup (pa_cons (pv 7) (pa_cons (pv 5) (pa_cons (pv 6) pa_nil)))) pa_nil)))) pss_nil) (pss_one (ps_ret (pe_tup (pa_cons (pe_told (t := fun E => tMeth C "add" (spAdd K C CB) [] E (tVar 1) (tCons (tVar 10) tNil)) TD DT TB hmT hu hr9 (LamX.lamS_by (sc := defScope (top 63)) (by decide +kernel)) (fun A outer s H E f c' hr2 => pe_cm CA (pv 1) BC.cl (hr2.mono (by decide)) (passes_call (takes_of rfl rfl rfl rfl) (fun _ _ _ _ h => h)) (pa_cons (pv 10) pa_nil))) (pa_cons (pe_ifExp (pt_cmpR ((op_eqD hu64)) (pv 8) (pe_lst pa_nil) (nomark _)) (pe_lst (pa_cons pe_non pa_nil)) (pe_tup (pa_cons pe_str (pa_cons (pe_ix ix_list (pv 8) pe_int (fun _ _ => rfl)) pa_nil)))) pa_nil)))))))) pss_nil) (pss_cons (ps_set (i := 10) nd rfl (.inr rfl) (pe_cn CO hr3 (pa_cons (pv 0) (pa_cons (pe_op op_catA (pv 4) (pe_tup (pa_cons (pv 10) pa_nil))) pa_nil)))) (pss_cons (ps_if (pt_cmpR ((op_notInT (hu65_of hr))) (pv 10) (pv 4) (by rfl)) (pss_one (ps_ret (pe_tup (pa_cons (pe_told (t := fun E => tMeth C "remove" (spRemove K C CM) [] E (tVar 1) (tCons (tVar 10) tNil)) TD DT TB hmT hu hr9 (LamX.lamS_by (sc := defScope (top 63)) (by decide +kernel)) (fun A outer s H E f c' hr2 => pe_cm CV (pv 1) BC.cl (hr2.mono (by decide)) (passes_call (takes_of rfl rfl rfl rfl) (fun _ _ _ _ h => h)) (pa_cons (pv 10) pa_nil))) (pa_cons (pe_tup (pa_cons pe_str (pa_cons (pv 10) pa_nil))) pa_nil))))) pss_nil) (pss_cons (ps_set (i := 9) nd rfl (.inl rfl) (pe_tix hu64 (pv 4) (pv 10))) (pss_cons (ps_expr (pe_bm PySem.F.plainAttrs_list PySem.F.slot_list_append PySem.F.type_list_append mt_append (pv 3) (pa_cons (pe_tup (pa_cons (pe_op op_catF (pe_slice sl_tupF (pv 4) po_none (po_some (pv 9))) (pe_slice sl_tupF (pv 4) (po_some (pe_op op_add (pv 9) pe_int)) po_none)) (pa_cons (pv 5) (pa_cons (pv 6) pa_nil)))) pa_nil))) (pss_one (ps_ret (pe_tup (pa_cons (pe_told (t := fun E => tMeth C "remove" (spRemove K C CM) [] E (tVar 1) (tCons (tVar 10) tNil)) TD DT TB hmT hu hr9 (LamX.lamS_by (sc := defScope (top 63)) (by decide +kernel)) (fun A outer s H E f c' hr2 => pe_cm CV (pv 1) BC.cl (hr2.mono (by decide)) (passes_call (takes_of rfl rfl rfl rfl) (fun _ _ _ _ h => h)) (pa_cons (pv 10) pa_nil))) (pa_cons (pe_lst (pa_cons pe_non pa_nil)) pa_nil))))))))))), ?_⟩
  obtain ⟨ws, aw, xr, xs, xl, ew, hws, hqw, hR, hS, hL⟩ := hw.olast
  have hsl := hist.last
  refine ⟨_, rfl, _, rfl, w', _, _, _, rfl, rfl, SqL.of ew, atI_last _ _, ?_⟩
  refine ⟨aw, _, rfl, hqw, rfl, _, _, rfl, _, _, rfl, _, _, rfl, rfl, ?_⟩
  refine ⟨_, rfl, _, rfl, st, cl, ll, n, c, rfl, hw.so, by omega, c1, c3, fun H1 vr r hr1 hvr af => ?_⟩
  have hw1 := hw.aft af
  have k1 := af.kt
  dsimp only [gName]
  refine ifs_keyS (fun H' => Aft st cl ll (n + 4) H1 H') (fun H' => Aft st cl ll (n + 4) H1 H' ∧ s.rows ≠ []) (fun G gT gF => ?_) (fun H3 af3 => ?_) (fun H3 ⟨af3, hne⟩ => ?_)
  · refine ⟨_, rfl, st, cl, ll, n + 3, 3, rfl, hw1.so, by omega, by decide, by decide, fun H2 z z0 z1 af2 => ?_⟩
    refine ⟨_, _, rfl, rfl, _, rfl, ?_⟩
    by_cases hz : 0 < z
    · exact itT (decide_eq_true hz) (gT H2 af2)
    · refine itF (decide_eq_false hz) ⟨_, rfl, by decide, fun p hp => ?_⟩
      have af3 := af2.new (o := .tup []) hp
      refine ⟨dR s.rows, .tuple [], (hR.kt (k1.trans af3.kt)).1, .tup (SqT.of upd_same) .nil, shaped_dR _, shaped_nilT, _, rfl, ?_⟩
      have e : PyData.eqv (dR s.rows) (.tuple []) = decide (s.rows = []) := eqv_nilT s.rows
      rw [e]
      by_cases h : s.rows = []
      · rw [decide_eq_true h]; exact gT _ af3
      · rw [decide_eq_false h]; exact gF _ ⟨af3, h⟩
  · -- a row more
    have hw3 := hw1.aft af3
    have k3 := k1.trans af3.kt
    have hvr3 := dp_kt af3.kt _ _ (tonly_dL r) hvr
    obtain ⟨ar, ys, rfl, hqr, hdr⟩ := dp_tup (hR.kt k3).1
    have lenr : ys.length = s.rows.length := by rw [dpAll_len hdr, List.length_map]
    have hrl := hsl.rlen
    refine ⟨_, rfl, _, rfl, by show 1 ≤ sizeLine; decide, fun p1 h1 => ?_⟩
    have s1 := same_new (o := .tup [vr]) h1
    refine catA (sqT_same hqr s1) (SqT.of upd_same) (le_line ?_) fun p4 H4 s4 hp4 => ?_
    · rw [lenr]; show s.rows.length + 1 ≤ _; omega
    have s14 := s1.trans s4
    have k14 := KT.same s14
    refine ⟨p4, _, s.rows ++ [r], rfl, hp4, tupsI_of ?_, fun zs p2 hz h2 => ?_⟩
    · rw [List.map_append]
      exact dpAll_app (dpAll_kt k14 _ _ (tonly_all tonly_dL _) hdr) (.cons (dp_kt k14 _ _ (tonly_dL r) hvr3) .nil)
    refine ⟨p2, zs, rfl, SqL.of upd_same, fun l o hl0 ho => ?_⟩
    have s5 := same_new (o := .frz o (.tup zs)) hl0
    have s35 := (s14.trans (same_new (o := .lst zs) h2)).trans s5
    have hz5 := dpAll_kt ((KT.same (same_new (o := .lst zs) h2)).trans (KT.same s5)) _ _ (tonly_all tonly_dL _) (of_tupsI hz)
    have el : upd (upd H4 p2 (.lst zs)) l (.frz o (.tup zs)) l = some (.frz o (.tup zs)) := upd_same
    generalize upd (upd H4 p2 (.lst zs)) l (.frz o (.tup zs)) = H5 at s35 hz5 el
    have hw5 := hw3.same s35
    have k5 := k3.trans (KT.same s35)
    have hRl : RwR K H5 (.ref l) (srt (s.rows ++ [r])) := ⟨.tup (sqT_frz el) hz5, fun _ => ⟨l, o, zs, rfl, el, ho⟩⟩
    obtain ⟨al, xl', rfl, hql, hdl⟩ := dp_tup (dp_kt k5 _ _ (tonly_dR _) hL)
    have lenl : xl'.length = s.lots.length := by rw [dpAll_len hdl, List.length_map]
    have hll := hsl.llen
    refine ⟨_, rfl, al, rfl, ⟨_, hql⟩, fun L hL0 => ?_⟩
    refine lc_tup (K := K) (a := al) (xs := xl') (BrP K (srt (s.rows ++ [r])) s.lots H5 L) ⟨same_new hL0, [], upd_same, .nil⟩ (fun i H' _ h => sqT_same hql h.1) ?_ ?_
    · rintro i v H' hv bp
      obtain ⟨d, h3, h4⟩ := dpAll_get (dpAll_same (tonly_all tonly_dL _) hdl bp.1) hv
      obtain ⟨k, h5, rfl⟩ := map_at h3
      have hk := hsl.lots k (List.mem_of_getElem? h5)
      refine ⟨rfl, ⟨_, rfl, _, rfl, .ref l, v, srt (s.rows ++ [r]), k, rfl, (hRl.kt (KT.same bp.1)).1, h4, fun r' hr' => ?_, hk.short c3, by rw [srt_len, List.length_append]; show s.rows.length + 1 ≤ _; omega, fun H6 s6 => ⟨_, rfl, ?_⟩⟩⟩
      · refine lot_row hk ?_
        rcases List.mem_append.mp (srt_mem.mp hr') with h | h
        · exact (hsl.rows r' h).len
        · rcases List.mem_cons.mp h with h | h
          · rw [h]; exact hr1.len
          · cases h
      · have bp6 := bp.same s6
        cases e : isKey (srt (s.rows ++ [r])) k with
        | false => exact itT rfl ⟨_, rfl, br_more h5 (dp_kt (KT.same s6) _ _ (tonly_dL k) h4) hL0 (by omega) bp6 e⟩
        | true => exact itF rfl (br_skip h5 bp6 e)
    · rintro H6 ⟨s6, bs, kD, hbs⟩
      rw [List.take_of_length_le (by omega)] at hbs
      have hw6 := hw5.same s6
      have k6 := k5.trans (KT.same s6)
      have hRl6 := hRl.kt (KT.same s6)
      have hvr6 := dp_kt ((KT.same s35).trans (KT.same s6)) _ _ (tonly_dL r) hvr3
      have hLlen : L ≠ w' ∧ L ≠ b := by
        obtain ⟨ws5, e5, _⟩ := hw5.ow
        obtain ⟨dx, past, e6⟩ := hw5.bkE
        exact ⟨fun z => (by rw [z, e5] at hL0; cases hL0), fun z => (by rw [z, e6] at hL0; cases hL0)⟩
      have hbb : badLot (srt (s.rows ++ [r])) s.lots = (brk (srt (s.rows ++ [r])) s.lots).head? := brk_bad _ _
      dsimp only [gName]
      refine ifs_keyS (fun H' => (∃ p o, H6 p = none ∧ H' = upd H6 p o) ∧ brk (srt (s.rows ++ [r])) s.lots = []) (fun H' => (∃ p o, H6 p = none ∧ H' = upd H6 p o) ∧ brk (srt (s.rows ++ [r])) s.lots ≠ []) (fun G gT gF => ?_) (fun H7 ⟨⟨p, o, hp, e⟩, hb0⟩ => ?_) (fun H7 ⟨⟨p, o, hp, e⟩, hb0⟩ => ?_)
      · refine ⟨_, rfl, by decide, fun p hp => ?_⟩
        have s7 := same_new (o := .lst []) hp
        refine ⟨.list ((brk (srt (s.rows ++ [r])) s.lots).map dL), .list [], .lst (SqL.of (s7 _ _ kD)) (dpAll_same (tonly_all tonly_dL _) hbs s7), .lst (SqL.of upd_same) .nil, shaped_LR _, shaped_nilL, _, rfl, ?_⟩
        rw [eqv_nilL]
        by_cases h : brk (srt (s.rows ++ [r])) s.lots = []
        · rw [decide_eq_true h]; exact gT _ ⟨⟨p, _, hp, rfl⟩, h⟩
        · rw [decide_eq_false h]; exact gF _ ⟨⟨p, _, hp, rfl⟩, h⟩
      · -- none broken
        subst e
        have s7 := same_new (o := o) hp
        have hw7 := hw6.same s7
        have k7 := KT.same s7
        obtain ⟨ws7, e7, l7, push⟩ := hw7.push (s := ⟨srt (s.rows ++ [r]), s.stock, s.lots⟩) (hRl6.kt k7) (dp_kt (k6.trans k7) _ _ (tonly_dQ _) hS) (.tup (SqT.kt ((KT.same s6).trans k7) hql) (dpAll_kt ((KT.same s6).trans k7) _ _ (tonly_all tonly_dL _) hdl)) (by rw [List.length_append]; show hs.length + 1 ≤ _; omega)
        refine ⟨_, rfl, .inl ⟨rfl, _, SqL.of e7⟩, _, rfl, _, rfl, _, rfl, by show 3 ≤ sizeLine; decide, fun tp htp => ?_⟩
        obtain ⟨e8, hw8, k8, b8⟩ := push tp htp
        refine ⟨w', ws7, _, rfl, rfl, e8, l7, ?_⟩
        have kD8 := b8 _ _ (s7 _ _ kD) (by simp [hLlen.1])
        have hvr8 := dp_kt (k7.trans k8) _ _ (tonly_dL r) hvr6
        have hbs8 := dpAll_kt (k7.trans k8) _ _ (tonly_all tonly_dL _) hbs
        generalize upd (upd (upd H6 p o) tp _) w' _ = H8 at hw8 k8 kD8 hvr8 hbs8
        refine ⟨hw8.tb, fun H9 eN T9 => ?_⟩
        have hw9 := hw8.ext eN T9
        have kN := kt_ext eN
        obtain ⟨dx, past, e9⟩ := hw9.bkE
        refine ⟨_, rfl, b, dx, _, rfl, e9, rfl, _, rfl, b, c, hs, s, vr, r, rfl, hw9.bk, by omega, hsl.ok, c3, by omega, dp_kt kN _ _ (tonly_dL r) hvr8, hr1.len, fun k hk => ?_, fun hb1 Ha hbk bt kt => ?_⟩
        · rw [hbb, hb0] at hk; cases hk
        · have hwa := hw9.book bt kt hbk
          refine ⟨by decide, fun p1 hp1 => ?_⟩
          have sa := same_new (o := .lst [.non]) hp1
          have kDa := sa _ _ (bt _ _ (ext_lst eN kD8) (by simp [hLlen.2]))
          refine ⟨_, rfl, by decide, fun p2 hp2 => ?_⟩
          have sb := same_new (o := .lst []) hp2
          have hbsb := dpAll_kt ((kN.trans kt).trans (KT.same (sa.trans sb))) _ _ (tonly_all tonly_dL _) hbs8
          refine ⟨.list ((brk (srt (s.rows ++ [r])) s.lots).map dL), .list [], .lst (SqL.of (sb _ _ kDa)) hbsb, .lst (SqL.of upd_same) .nil, shaped_LR _, shaped_nilL, _, rfl, ?_⟩
          rw [eqv_nilL]
          refine itT (decide_eq_true hb0) ⟨by decide, fun p3 hp3 => ?_⟩
          have sc := same_new (o := .lst [.non]) hp3
          exact G.fin (hwa.same ((sa.trans sb).trans sc)) (by omega) (by simp) (by simp) (hist.snoc (by rw [List.length_append]; exact hsl.add hr1)) (.lst (SqL.of (sc _ _ (sb _ _ upd_same))) (.cons .non .nil)) (.lst (SqL.of upd_same) (.cons .non .nil)) tell_none
      · -- some lot is broken
        subst e
        have s7 := same_new (o := o) hp
        have hw7 := hw6.same s7
        have k7 := KT.same s7
        have kD7 := s7 _ _ kD
        refine ⟨hw7.tb, fun H9 eN T9 => ?_⟩
        have hw9 := hw7.ext eN T9
        have kN := kt_ext eN
        obtain ⟨dx, past, e9⟩ := hw9.bkE
        refine ⟨_, rfl, b, dx, _, rfl, e9, rfl, _, rfl, b, c, hs, s, vr, r, rfl, hw9.bk, by omega, hsl.ok, c3, by omega, dp_kt (k7.trans kN) _ _ (tonly_dL r) hvr6, hr1.len, fun k hk Ha d v sa hd hv => toldB fun p1 hp1 => ?_, fun hb1 => ?_⟩
        · obtain ⟨br0, brs, ebr⟩ : ∃ x l, brk (srt (s.rows ++ [r])) s.lots = x :: l := by
            cases q : brk (srt (s.rows ++ [r])) s.lots with
            | nil => exact absurd q hb0
            | cons x l => exact ⟨x, l, rfl⟩
          have hbr0 : k = br0 := by rw [hbb, ebr] at hk; exact (Option.some.inj hk).symm
          subst hbr0
          have hmk : k ∈ s.lots := (List.mem_filter.mp (show k ∈ brk (srt (s.rows ++ [r])) s.lots by rw [ebr]; exact List.mem_cons_self)).1
          have hko := hsl.lots k hmk
          have sd := same_new (o := .xd [("given", v)]) hd
          have se := same_new (o := .tup [.str "broken", v]) hp1
          have ske := (sa.trans sd).trans se
          have kDe := ske _ _ (ext_lst eN kD7)
          refine ⟨_, rfl, by decide, fun p2 hp2 => ?_⟩
          have sf := same_new (o := .lst []) hp2
          have kf := (k7.trans kN).trans (KT.same (ske.trans sf))
          have hbsf := dpAll_kt kf _ _ (tonly_all tonly_dL _) hbs
          refine ⟨.list ((brk (srt (s.rows ++ [r])) s.lots).map dL), .list [], .lst (SqL.of (sf _ _ kDe)) hbsf, .lst (SqL.of upd_same) .nil, shaped_LR _, shaped_nilL, _, rfl, ?_⟩
          rw [eqv_nilL]
          refine itF (decide_eq_false hb0) ?_
          rw [ebr] at hbsf
          cases hbsf with
          | @cons v0 vs0 _ _ hx0 hxs =>
            refine ⟨_, rfl, _, _, _, _, rfl, rfl, SqL.of (sf _ _ kDe), atI_nat (j := 0) rfl, by show 2 ≤ sizeLine; decide, fun p3 hp3 => ?_⟩
            have sg := same_new (o := .tup [.str "broken", v0]) hp3
            exact G.fin (hw9.same ((ske.trans sf).trans sg)) (by omega) (by simp) (by simp) hist (.tup (SqT.of (sg _ _ (sf _ _ upd_same))) (.cons (.str _) (.cons (dp_kt (KT.same ((sd.trans se).trans (sf.trans sg))) _ _ (tonly_dL k) hv) .nil))) (.tup (SqT.of upd_same) (.cons (.str _) (.cons (dp_kt (KT.same sg) _ _ (tonly_dL k) hx0) .nil))) (tell_lot (by decide) (hko.short c3) (hko.nat c3))
        · rw [hbb] at hb1
          exact absurd (by simpa using hb1) hb0
  · -- a row of old or the new one
    have hw3 := hw1.aft af3
    have k3 := k1.trans af3.kt
    have hvr3 := dp_kt af3.kt _ _ (tonly_dL r) hvr
    have hR3 := hR.kt k3
    obtain ⟨ar, ys, rfl, hqr, hdr⟩ := dp_tup hR3.1
    have lenr : ys.length = s.rows.length := by rw [dpAll_len hdr, List.length_map]
    have hrl := hsl.rlen
    refine ⟨_, rfl, _, rfl, _, rfl, by show 1 ≤ sizeLine; decide, fun p1 h1 => ?_⟩
    have s1 := same_new (o := .tup [vr]) h1
    refine catA (sqT_same hqr s1) (SqT.of upd_same) (le_line ?_) fun p4 H4 s4 hp4 => ?_
    · rw [lenr]; show s.rows.length + 1 ≤ _; omega
    have s14 := s1.trans s4
    have k14 := KT.same s14
    have hd4 : DpAll K H4 (ys ++ [vr]) ((s.rows ++ [r]).map dL) := by
      rw [List.map_append]
      exact dpAll_app (dpAll_kt k14 _ _ (tonly_all tonly_dL _) hdr) (.cons (dp_kt k14 _ _ (tonly_dL r) hvr3) .nil)
    refine ⟨st, cl, ll, n + 4, .ref p4, (s.rows ++ [r]).map dL, rfl, (hw3.same s14).so, by omega, .tup hp4 hd4, tonly_all tonly_dL _, by simp, by simp; omega, fun H5 x d hd hx af5 => ?_⟩
    obtain ⟨r2, hr2m, rfl⟩ := List.mem_map.mp hd
    have hro : RowOk c r2 := by
      rcases List.mem_append.mp hr2m with h | h
      · exact hsl.rows r2 h
      · rcases List.mem_cons.mp h with h | h
        · rw [h]; exact hr1
        · cases h
    have hw5 := (hw3.same s14).aft af5
    have k5 := k14.trans af5.kt
    have hR5 := hR3.kt k5
    have hqr5 := SqT.kt k5 hqr
    have hdr5 := dpAll_kt k5 _ _ (tonly_all tonly_dL _) hdr
    refine ⟨_, rfl, _, rfl, dL r2, s.rows.map dL, hx, hR5.1, shaped_dL r2, shaped_dR s.rows, _, rfl, ?_⟩
    rw [any_dL]
    by_cases hm : r2 ∈ s.rows
    · refine itF (by rw [decide_eq_true hm]; rfl) ?_
      refine ⟨_, rfl, hR5.2 (fun e => by rw [e] at hm; cases hm), _, rfl, ar, ys, s.rows, r2, rfl, hqr5, hdr5, hx, hm, ?_⟩
      obtain ⟨ws5, e5, _⟩ := hw5.ow
      have fz : ys ≠ [] → Fz H5 (.ref ar) := fun n => hR5.2 fun e => n (List.length_eq_zero_iff.mp (by rw [lenr, e]; rfl))
      refine ⟨_, rfl, .inl ⟨rfl, _, SqL.of e5⟩, _, rfl, _, rfl, _, rfl, slF_to hqr5 fz _ fun p5 H6 s6 hp5 fz5 => ?_⟩
      have hq6 := sqT_same hqr5 s6
      refine ⟨_, rfl, _, rfl, _, _, rfl, rfl, _, rfl, ?_⟩
      dsimp only [tNoPart]
      refine slF_from1 hq6 (fun n => (fz n).kt (KT.same s6)) (ixOf s.rows r2) fun p6 H7 s7 hp6 fz6 => ?_
      refine catF (sqT_same hp5 s7) hp6 (fun n => (fz5 n).kt (KT.same s7)) fz6 (le_line ?_) fun p7 H8 s8 hp7 fz7 => ?_
      · rw [List.length_take, List.length_drop]; omega
      have s58 := (s6.trans s7).trans s8
      have k58 := KT.same s58
      have hd8 : DpAll K H8 (ys.take (ixOf s.rows r2) ++ ys.drop (ixOf s.rows r2 + 1)) ((cutRow s.rows r2).map dL) := by
        unfold cutRow
        rw [List.map_append, List.map_take, List.map_drop]
        have := dpAll_kt k58 _ _ (tonly_all tonly_dL _) hdr5
        exact dpAll_app (dpAll_take this _) (dpAll_drop this _)
      have hR8 : RwR K H8 (.ref p7) (cutRow s.rows r2) := ⟨.tup hp7 hd8, fun n => fz7 fun e => n (by
        have := dpAll_len hd8
        rw [e, List.length_map] at this
        exact List.length_eq_zero_iff.mp this.symm)⟩
      have hw8 := hw5.same s58
      have k08 := (k3.trans k5).trans k58
      obtain ⟨ws8, e8, l8, push⟩ := hw8.push (s := ⟨cutRow s.rows r2, s.stock, s.lots⟩) hR8 (dp_kt k08 _ _ (tonly_dQ _) hS) (dp_kt k08 _ _ (tonly_dR _) hL) (by rw [List.length_append]; show hs.length + 1 ≤ _; omega)
      refine ⟨_, rfl, _, rfl, by show 3 ≤ sizeLine; decide, fun tp htp => ?_⟩
      obtain ⟨e9, hw9, k9, b9⟩ := push tp htp
      refine ⟨w', ws8, _, rfl, rfl, e9, l8, ?_⟩
      have hx9 := dp_kt (k58.trans k9) _ _ (tonly_dL r2) hx
      generalize upd (upd H8 tp _) w' _ = H9 at hw9 hx9
      refine ⟨hw9.tb, fun Ha eN Ta => ?_⟩
      have hwa := hw9.ext eN Ta
      have kN := kt_ext eN
      obtain ⟨dx, past, ea⟩ := hwa.bkE
      refine ⟨_, rfl, b, dx, _, rfl, ea, rfl, _, rfl, b, c, hs, s, x, r2, rfl, hwa.bk, by omega, by omega, c3, dp_kt kN _ _ (tonly_dL r2) hx9, hro.len, fun h => absurd hm h, fun _ Hb hbk bt kt => ?_⟩
      have hwb := hwa.book bt kt hbk
      exact ⟨by decide, fun p1 hp1 => ⟨by show 1 ≤ sizeLine; decide, fun p2 hp2 => G.fin0 hwb (by omega) (by simp) (by simp) (hist.snoc (by rw [List.length_append]; exact hsl.cut)) hp1 hp2⟩⟩
    · refine itT (by rw [decide_eq_false hm]; rfl) ?_
      refine ⟨hw5.tb, fun H9 eN T9 => ?_⟩
      have hw9 := hw5.ext eN T9
      have kN := kt_ext eN
      obtain ⟨dx, past, e9⟩ := hw9.bkE
      refine ⟨_, rfl, b, dx, _, rfl, e9, rfl, _, rfl, b, c, hs, s, x, r2, rfl, hw9.bk, by omega, by omega, c3, dp_kt kN _ _ (tonly_dL r2) hx, hro.len, fun _ Ha d sa hd => toldM fun p1 hp1 => ?_, fun h => absurd h hm⟩
      have sd := same_new (o := .xd [("given", x)]) hd
      have se := same_new (o := .tup [.str "missing", x]) hp1
      have ske := (sa.trans sd).trans se
      refine ⟨_, rfl, by show 2 ≤ sizeLine; decide, fun p3 hp3 => ?_⟩
      have sg := same_new (o := .tup [.str "missing", x]) hp3
      have hxg := dp_kt (kN.trans (KT.same (ske.trans sg))) _ _ (tonly_dL r2) hx
      exact G.fin (hw9.same (ske.trans sg)) (by omega) (by simp) (by simp) hist (.tup (SqT.of (sg _ _ upd_same)) (.cons (.str _) (.cons hxg .nil))) (.tup (SqT.of upd_same) (.cons (.str _) (.cons hxg .nil))) (tell_lot (by decide) (hro.short c3) hro.nat)
end
end K25
end

section
-- BDeed64
set_option Elab.async false
set_option linter.all false
set_option maxRecDepth 100000
set_option maxHeartbeats 4000000
set_option autoImplicit false
/-! _law_stock_deed, _law_back -/
namespace K25
open PySem PySem.Spec PyProof.Rows L2
section
variable {P : Program} {w : World} {K : PySem.W.Frag} {mg : Str → Option Value} {base : Heap} {C : Addr} {CR CK CN CI CB CM CL ct cd cp : Addr} {T : List (Addr × Str)}
theorem sc64 : FnScope ["_law_state", "_law_book", "_law_columns", "_law_own", "_law_rows", "_law_stock", "_law_lots", "_law_index_here", "_law_which"] ["_law_state", "_law_book", "_law_columns", "_law_own"] (defScope (top 64)) := ⟨rfl, rfl, rfl, by decide +kernel, rfl, by decide +kernel, by decide +kernel⟩
theorem cal_deed64 (D : DfnC K mg (top 64) "_law_stock_deed" cd) (Z : Fre mg) (BC : BkC K C) (TD : ToldC K mg CR CK CN CI CB CM CL) (DT : DfnC K mg (top 62) "_law_told" ct) (TB : LamX.TabB base mg cd cp) (hmT : ((cp, ("_law_stock_deed.<locals>.<lambda>" : Str)) : Addr × Str) ∈ T) (hu : ∀ p ∈ T, p.1 = cp → p.2 = "_law_stock_deed.<locals>.<lambda>")
    (CD : Cal P w K mg base Nx0 2 "_law_draw" ["_law_state", "_law_many"] spDraw) (CI : Cal P w K mg base Nx0 4 "_law_index" ["_law_state", "_law_columns"] (spIndex K))
    (CA : CalM P w K mg base Nx0 7 C "make" ["self", "index"] (spMake K C)) (CV : CalM P w K mg base (L2.CX P w) 3 C "drop" ["self", "which"] (spDrop K C CN)) : Cal P w K mg base Nx0 10 "_law_stock_deed" ["_law_state", "_law_book", "_law_columns", "_law_own"] (spDeed K T C) := by
  refine D.cal0 sc64 (fun _ _ _ _ _ _ us hl => match us, hl with | [_, _, _, _], _ => rfl) (fun vs H Q E ⟨_, _, _, _, _, _, _, _, _, h, _⟩ => by rw [h]; rfl) fun f A outer s0 H vs Q E hr h => ?_
  obtain ⟨st, cl, ll, b, w', c, n, hs, s, rfl, hw, hn, hl14, c1, c3, hist, G⟩ := h
  have nd := sc64.nd
  have hu64 := hr.units
  have hr9 : Room (7 + 2) _ := hr
  have hr2 : Room 2 _ := hr.mono (by decide)
  have hr4 : Room 4 _ := hr.mono (by decide)
  refine ⟨_, pss_cons (ps_asg (pe_ix ix_list (pv 3) (pe_un un_neg pe_int) (fun _ _ => rfl)) (pg_tup rfl (pgs_cons (pg_name (i := 4) nd rfl (.inl rfl)) (pgs_cons (pg_name (i := 5) nd rfl (.inl rfl)) (pgs_cons (pg_name (i := 6) nd rfl (.inl rfl)) pgs_nil))))) (pss_cons (ps_if (PW.pt (pw_and (pt_cmpR op_gt (pe_cn CD hr2 (pa_cons (pv 0) (pa_cons pe_int pa_nil))) pe_int (nomark _)) (pw_and1 (pt_cmpR op_lt (pe_callB call_len_seq (by rfl) Z.len PySem.boot_len (pa_cons (pv 5) pa_nil)) pe_int (nomark _))))) (pss_cons (ps_set (i := 7) nd rfl (.inr rfl) (pe_cn CI hr4 (pa_cons (pv 0) (pa_cons (pv 2) pa_nil)))) (pss_cons (ps_expr (pe_bm PySem.F.plainAttrs_list PySem.F.slot_list_append PySem.F.type_list_append mt_append (pv 3) (pa_cons (pe_tup (pa_cons (pv 4) (pa_cons (pe_op op_catA (pv 5) (pe_tup (pa_cons (pv 7) pa_nil))) (pa_cons (pv 6) pa_nil)))) pa_nil))) (pss_one (ps_ret (pe_tup (pa_cons (pe_told (t := fun E => tMeth C "make" (spMake K C) [] L2.E0 (tVar 1) (tCons (tVar 7) tNil)) TD DT TB hmT hu hr9 (LamX.lamS_by (sc := defScope (top 64)) (by decide +kernel)) (fun A outer s H E f c' hr2 => pe_cm CA (pv 1) BC.cl (hr2.mono (by decide)) pass0' (pa_cons (pv 7) pa_nil))) (pa_cons (pe_lst (pa_cons pe_non pa_nil)) pa_nil))))))) pss_nil) (pss_cons (ps_set (i := 8) nd rfl (.inr rfl) (pe_cn CD hr2 (pa_cons (pv 0) (pa_cons (pe_op op_add (pe_callB call_len_seq (by rfl) Z.len PySem.boot_len (pa_cons (pv 5) pa_nil)) pe_int) pa_nil)))) (pss_cons (ps_if (pt_cmpR op_eq (pv 8) (pe_callB call_len_seq (by rfl) Z.len PySem.boot_len (pa_cons (pv 5) pa_nil)) (nomark _)) (pss_one (ps_ret (pe_tup (pa_cons (pe_told (t := fun E => tMeth C "drop" (spDrop K C CN) [] E (tVar 1) (tCons (tVar 8) tNil)) TD DT TB hmT hu hr9 (LamX.lamS_by (sc := defScope (top 64)) (by decide +kernel)) (fun A outer s H E f c' hr2 => pe_cm CV (pv 1) BC.cl (hr2.mono (by decide)) (passes_call (takes_of rfl rfl rfl rfl) (fun _ _ _ _ h => h)) (pa_cons (pv 8) pa_nil))) (pa_cons (pe_tup (pa_cons pe_str (pa_cons (pv 8) pa_nil))) pa_nil))))) pss_nil) (pss_cons (ps_expr (pe_bm PySem.F.plainAttrs_list PySem.F.slot_list_append PySem.F.type_list_append mt_append (pv 3) (pa_cons (pe_tup (pa_cons (pv 4) (pa_cons (pe_op op_catA (pe_slice sl_tupA (pv 5) po_none (po_some (pv 8))) (pe_slice sl_tupA (pv 5) (po_some (pe_op op_add (pv 8) pe_int)) po_none)) (pa_cons (pv 6) pa_nil)))) pa_nil))) (pss_one (ps_ret (pe_tup (pa_cons (pe_told (t := fun E => tMeth C "drop" (spDrop K C CN) [] E (tVar 1) (tCons (tVar 8) tNil)) TD DT TB hmT hu hr9 (LamX.lamS_by (sc := defScope (top 64)) (by decide +kernel)) (fun A outer s H E f c' hr2 => pe_cm CV (pv 1) BC.cl (hr2.mono (by decide)) (passes_call (takes_of rfl rfl rfl rfl) (fun _ _ _ _ h => h)) (pa_cons (pv 8) pa_nil))) (pa_cons (pe_lst (pa_cons pe_non pa_nil)) pa_nil))))))))), ?_⟩
  obtain ⟨ws, aw, xr, xs, xl, ew, hws, hqw, hR, hS, hL⟩ := hw.olast
  have hsl := hist.last
  obtain ⟨as, ys, rfl, hqs, hds⟩ := dp_tup hS
  have lens : ys.length = s.stock.length := by rw [dpAll_len hds, List.length_map]
  have hsl12 := hsl.slen
  refine ⟨_, rfl, _, rfl, w', _, _, _, rfl, rfl, SqL.of ew, atI_last _ _, ?_⟩
  refine ⟨aw, _, rfl, hqw, rfl, _, _, rfl, _, _, rfl, _, _, rfl, rfl, ?_⟩
  dsimp only [gName]
  refine ifs_keyS (fun H' => Aft st cl ll (n + 1) H H' ∧ s.stock.length < 12) (fun H' => Aft st cl ll (n + 1) H H') (fun G gT gF => ?_) (fun H3 ⟨af3, h12⟩ => ?_) (fun H3 af3 => ?_)
  · refine ⟨_, rfl, st, cl, ll, n, 3, rfl, hw.so, by omega, by decide, by decide, fun H2 z z0 z1 af2 => ?_⟩
    refine ⟨_, _, rfl, rfl, _, rfl, ?_⟩
    by_cases hz : 0 < z
    · refine itT (decide_eq_true hz) ⟨_, rfl, as, _, rfl, .inr (SqT.kt af2.kt hqs), _, _, rfl, rfl, _, rfl, ?_⟩
      by_cases h : s.stock.length < 12
      · rw [decide_eq_true (show ((ys.length : Nat) : Int) < 12 by omega)]; exact gT _ ⟨af2, h⟩
      · rw [decide_eq_false (show ¬ ((ys.length : Nat) : Int) < 12 by omega)]; exact gF _ af2
    · exact itF (decide_eq_false hz) (gF H2 af2)
  · -- make
    have hw3 := hw.aft af3
    refine ⟨_, rfl, _, rfl, st, cl, ll, n + 1, c, rfl, hw3.so, by omega, c1, c3, fun H4 x ix hix hx af4 => ?_⟩
    have hw4 := hw3.aft af4
    have k4 := af3.kt.trans af4.kt
    obtain ⟨ws4, e4, _⟩ := hw4.ow
    refine ⟨_, rfl, .inl ⟨rfl, _, SqL.of e4⟩, _, rfl, _, rfl, _, rfl, by show 1 ≤ sizeLine; decide, fun p1 h1 => ?_⟩
    have s1 := same_new (o := .tup [x]) h1
    refine catA (SqT.kt (k4.trans (KT.same s1)) hqs) (SqT.of upd_same) (le_line ?_) fun p2 H5 s5 hp2 => ?_
    · rw [lens]; show s.stock.length + 1 ≤ _; omega
    have s45 := s1.trans s5
    have k5 := k4.trans (KT.same s45)
    have hx5 := dp_kt (KT.same s45) _ _ (tonly_dX ix) hx
    have hS5 : Dp K H5 (.ref p2) (dQ (s.stock ++ [ix])) := .tup hp2 (by
      show DpAll K _ _ ((s.stock ++ [ix]).map dX)
      rw [List.map_append]
      exact dpAll_app (dpAll_kt k5 _ _ (tonly_all tonly_dX _) hds) (.cons hx5 .nil))
    have hw5 := hw4.same s45
    obtain ⟨ws8, e8, l8, push⟩ := hw5.push (s := ⟨s.rows, s.stock ++ [ix], s.lots⟩) (hR.kt k5) hS5 (dp_kt k5 _ _ (tonly_dR _) hL) (by rw [List.length_append]; show hs.length + 1 ≤ _; omega)
    refine ⟨_, rfl, by show 3 ≤ sizeLine; decide, fun tp htp => ?_⟩
    obtain ⟨e9, hw9, k9, b9⟩ := push tp htp
    refine ⟨w', ws8, _, rfl, rfl, e9, l8, ?_⟩
    have hx9 := dp_kt k9 _ _ (tonly_dX ix) hx5
    generalize upd (upd H5 tp _) w' _ = H9 at hw9 hx9
    refine ⟨hw9.tb, fun Ha eN Ta => ?_⟩
    have hwa := hw9.ext eN Ta
    have kN := kt_ext eN
    obtain ⟨dx, past, ea⟩ := hwa.bkE
    refine ⟨_, rfl, b, dx, _, rfl, ea, rfl, _, rfl, b, c, hs, s, x, ix, rfl, hwa.bk, by omega, h12, c3, dp_kt kN _ _ (tonly_dX ix) hx9, hix, fun Hb hbk bt kt => ?_⟩
    have hwb := hwa.book bt kt hbk
    exact ⟨by decide, fun p1 hp1 => ⟨by show 1 ≤ sizeLine; decide, fun p2 hp2 => G.fin0 hwb (by omega) (by simp) (by simp) (hist.snoc (by rw [List.length_append]; exact hsl.make h12 hix)) hp1 hp2⟩⟩
  · -- drop
    have hw3 := hw.aft af3
    have k3 := af3.kt
    have hqs3 := SqT.kt k3 hqs
    refine ⟨_, rfl, _, rfl, as, _, rfl, .inr hqs3, _, _, rfl, rfl, st, cl, ll, n + 1, _, rfl, hw3.so, by omega, by omega, by omega, fun H4 z z0 z1 af4 => ?_⟩
    obtain ⟨j, rfl⟩ : ∃ j : Nat, z = j := ⟨z.toNat, by omega⟩
    have hw4 := hw3.aft af4
    have k4 := k3.trans af4.kt
    have hqs4 := SqT.kt k4 hqs
    refine ⟨_, rfl, _, rfl, as, _, rfl, .inr hqs4, rfl, _, rfl, ?_⟩
    by_cases hj : j = s.stock.length
    · refine itT (decide_eq_true (by rw [hj, lens])) ?_
      refine ⟨hw4.tb, fun H9 eN T9 => ?_⟩
      have hw9 := hw4.ext eN T9
      have kN := kt_ext eN
      obtain ⟨dx, past, e9⟩ := hw9.bkE
      refine ⟨_, rfl, b, dx, _, rfl, e9, rfl, _, rfl, b, c, hs, s, j, rfl, hw9.bk, by omega, by omega, fun _ d hd => toldN fun p1 hp1 => ?_, fun h => by omega⟩
      have sd := same_new (o := .xd [("given", .int j)]) hd
      have se := same_new (o := .tup [.str "number", .int j]) hp1
      have ske := sd.trans se
      refine ⟨_, rfl, by show 2 ≤ sizeLine; decide, fun p3 hp3 => ?_⟩
      have sg := same_new (o := .tup [.str "number", .int j]) hp3
      exact G.fin (hw9.same (ske.trans sg)) (by omega) (by simp) (by simp) hist (.tup (SqT.of (sg _ _ upd_same)) (.cons (.str _) (.cons (.int _) .nil))) (.tup (SqT.of upd_same) (.cons (.str _) (.cons (.int _) .nil))) (tell_int (by decide) (by omega))
    · refine itF (decide_eq_false fun e => hj (by injection e with e; omega)) ?_
      have hj2 : j < s.stock.length := by omega
      obtain ⟨ws4, e4, _⟩ := hw4.ow
      refine ⟨_, rfl, .inl ⟨rfl, _, SqL.of e4⟩, _, rfl, _, rfl, _, rfl, _, rfl, slA_to hqs4 j fun p5 H6 s6 hp5 => ?_⟩
      have hq6 := sqT_same hqs4 s6
      refine ⟨_, rfl, _, rfl, _, _, rfl, rfl, _, rfl, ?_⟩
      dsimp only [tNoPart]
      refine slA_from1 hq6 j fun p6 H7 s7 hp6 => ?_
      refine catA (sqT_same hp5 s7) hp6 (le_line ?_) fun p7 H8 s8 hp7 => ?_
      · rw [List.length_take, List.length_drop]; omega
      have s58 := (s6.trans s7).trans s8
      have k08 := k4.trans (KT.same s58)
      have hS8 : Dp K H8 (.ref p7) (dQ (cutAt s.stock j)) := .tup hp7 (by
        show DpAll K _ _ ((cutAt s.stock j).map dX)
        unfold cutAt
        rw [List.map_append, List.map_take, List.map_drop]
        have := dpAll_kt k08 _ _ (tonly_all tonly_dX _) hds
        exact dpAll_app (dpAll_take this _) (dpAll_drop this _))
      have hw8 := hw4.same s58
      obtain ⟨ws8, e8, l8, push⟩ := hw8.push (s := ⟨s.rows, cutAt s.stock j, s.lots⟩) (hR.kt k08) hS8 (dp_kt k08 _ _ (tonly_dR _) hL) (by rw [List.length_append]; show hs.length + 1 ≤ _; omega)
      refine ⟨_, rfl, by show 3 ≤ sizeLine; decide, fun tp htp => ?_⟩
      obtain ⟨e9, hw9, k9, b9⟩ := push tp htp
      refine ⟨w', ws8, _, rfl, rfl, e9, l8, ?_⟩
      generalize upd (upd H8 tp _) w' _ = H9 at hw9
      refine ⟨hw9.tb, fun Ha eN Ta => ?_⟩
      have hwa := hw9.ext eN Ta
      obtain ⟨dx, past, ea⟩ := hwa.bkE
      refine ⟨_, rfl, b, dx, _, rfl, ea, rfl, _, rfl, b, c, hs, s, j, rfl, hwa.bk, by omega, by omega, fun h => by omega, fun _ Hb hbk bt kt => ?_⟩
      have hwb := hwa.book bt kt hbk
      exact ⟨by decide, fun p1 hp1 => ⟨by show 1 ≤ sizeLine; decide, fun p2 hp2 => G.fin0 hwb (by omega) (by simp) (by simp) (hist.snoc (by rw [List.length_append]; exact hsl.drop)) hp1 hp2⟩⟩
end
end K25
end

section
-- BDeed65
set_option Elab.async false
set_option linter.all false
set_option maxRecDepth 100000
set_option maxHeartbeats 4000000
set_option autoImplicit false
/-! _law_keys_deed -/
namespace K25
open PySem PySem.Spec PyProof.Rows L2
section
variable {P : Program} {w : World} {K : PySem.W.Frag} {mg : Str → Option Value} {base : Heap} {C : Addr} {CR CK CN CI CB CM CL ct cd cp : Addr} {T : List (Addr × Str)}
theorem sc65 : FnScope ["_law_state", "_law_book", "_law_columns", "_law_own", "_law_rows", "_law_stock", "_law_lots", "_law_lot_here", "_law_one"] ["_law_state", "_law_book", "_law_columns", "_law_own"] (defScope (top 65)) := ⟨rfl, rfl, rfl, by decide +kernel, rfl, by decide +kernel, by decide +kernel⟩
theorem cal_deed65 (D : DfnC K mg (top 65) "_law_keys_deed" cd) (Z : Fre mg) (BC : BkC K C) (TD : ToldC K mg CR CK CN CI CB CM CL) (DT : DfnC K mg (top 62) "_law_told" ct) (TB : LamX.TabB base mg cd cp) (hmT : ((cp, ("_law_keys_deed.<locals>.<lambda>" : Str)) : Addr × Str) ∈ T) (hu : ∀ p ∈ T, p.1 = cp → p.2 = "_law_keys_deed.<locals>.<lambda>")
    (CD : Cal P w K mg base Nx0 2 "_law_draw" ["_law_state", "_law_many"] spDraw) (CT : Cal P w K mg base Nx0 3 "_law_lot" ["_law_state", "_law_columns"] (spLot K)) (CE : Cal P w K mg base Nx0 2 "_law_is_key" ["_law_rows", "_law_lot_here"] (spKey K))
    (CA : CalM P w K mg base (L2.CX P w) 5 C "claim" ["self", "lot"] (spClaim K C CB)) (CV : CalM P w K mg base (L2.CX P w) 5 C "waive" ["self", "lot"] (spWaive K C CM)) : Cal P w K mg base Nx0 10 "_law_keys_deed" ["_law_state", "_law_book", "_law_columns", "_law_own"] (spDeed K T C) := by
  refine D.cal0 sc65 (fun _ _ _ _ _ _ us hl => match us, hl with | [_, _, _, _], _ => rfl) (fun vs H Q E ⟨_, _, _, _, _, _, _, _, _, h, _⟩ => by rw [h]; rfl) fun f A outer s0 H vs Q E hr h => ?_
  obtain ⟨st, cl, ll, b, w', c, n, hs, s, rfl, hw, hn, hl14, c1, c3, hist, G⟩ := h
  have nd := sc65.nd
  have hu64 := hr.units
  have hr9 : Room (7 + 2) _ := hr
  have hr2 : Room 2 _ := hr.mono (by decide)
  have hr3 : Room 3 _ := hr.mono (by decide)
  refine ⟨_, pss_cons (ps_asg (pe_ix ix_list (pv 3) (pe_un un_neg pe_int) (fun _ _ => rfl)) (pg_tup rfl (pgs_cons (pg_name (i := 4) nd rfl (.inl rfl)) (pgs_cons (pg_name (i := 5) nd rfl (.inl rfl)) (pgs_cons (pg_name (i := 6) nd rfl (.inl rfl)) pgs_nil))))) (pss_cons (ps_set (i := 7) nd rfl (.inr rfl) (pe_cn CT hr3 (pa_cons (pv 0) (pa_cons (pv 2) pa_nil)))) (pss_cons (ps_if (pt_cmpR op_gt (pe_cn CD hr2 (pa_cons (pv 0) (pa_cons pe_int pa_nil))) pe_int (nomark _)) (pss_cons (ps_if (pt_cmpR ((op_inT (hu65_of hr))) (pv 7) (pv 6) (by rfl)) (pss_one (ps_ret (pe_tup (pa_cons (pe_told (t := fun E => tMeth C "claim" (spClaim K C CB) [] E (tVar 1) (tCons (tVar 7) tNil)) TD DT TB hmT hu hr9 (LamX.lamS_by (sc := defScope (top 65)) (by decide +kernel)) (fun A outer s H E f c' hr2 => pe_cm CA (pv 1) BC.cl (hr2.mono (by decide)) (passes_call (takes_of rfl rfl rfl rfl) (fun _ _ _ _ h => h)) (pa_cons (pv 7) pa_nil))) (pa_cons (pe_lst (pa_cons pe_non pa_nil)) pa_nil))))) pss_nil) (pss_cons (ps_if (pt_cmpR op_eq (pe_callB call_len_seq (by rfl) Z.len PySem.boot_len (pa_cons (pv 6) pa_nil)) pe_int (nomark _)) (pss_one (ps_ret (pe_tup (pa_cons (pe_lst pa_nil) (pa_cons (pe_lst pa_nil) pa_nil))))) pss_nil) (pss_cons (ps_if (pt_not (pt_val (pe_cn CE hr2 (pa_cons (pv 4) (pa_cons (pv 7) pa_nil))))) (pss_one (ps_ret (pe_tup (pa_cons (pe_told (t := fun E => tMeth C "claim" (spClaim K C CB) [] E (tVar 1) (tCons (tVar 7) tNil)) TD DT TB hmT hu hr9 (LamX.lamS_by (sc := defScope (top 65)) (by decide +kernel)) (fun A outer s H E f c' hr2 => pe_cm CA (pv 1) BC.cl (hr2.mono (by decide)) (passes_call (takes_of rfl rfl rfl rfl) (fun _ _ _ _ h => h)) (pa_cons (pv 7) pa_nil))) (pa_cons (pe_tup (pa_cons pe_str (pa_cons (pv 7) pa_nil))) pa_nil))))) pss_nil) (pss_cons (ps_expr (pe_bm PySem.F.plainAttrs_list PySem.F.slot_list_append PySem.F.type_list_append mt_append (pv 3) (pa_cons (pe_tup (pa_cons (pv 4) (pa_cons (pv 5) (pa_cons (pe_callTy call_tuple_of (by rfl) Z.tuple (by decide +kernel) (pa_cons (pe_callB ((cr_sortT (hu4_of hr))) (by rfl) Z.sorted (by decide +kernel) (pa_cons (pe_op op_catA (pv 6) (pe_tup (pa_cons (pv 7) pa_nil))) pa_nil)) pa_nil)) pa_nil)))) pa_nil))) (pss_one (ps_ret (pe_tup (pa_cons (pe_told (t := fun E => tMeth C "claim" (spClaim K C CB) [] E (tVar 1) (tCons (tVar 7) tNil)) TD DT TB hmT hu hr9 (LamX.lamS_by (sc := defScope (top 65)) (by decide +kernel)) (fun A outer s H E f c' hr2 => pe_cm CA (pv 1) BC.cl (hr2.mono (by decide)) (passes_call (takes_of rfl rfl rfl rfl) (fun _ _ _ _ h => h)) (pa_cons (pv 7) pa_nil))) (pa_cons (pe_lst (pa_cons pe_non pa_nil)) pa_nil))))))))) pss_nil) (pss_cons (ps_if (pt_cmpR ((op_notInT (hu65_of hr))) (pv 7) (pv 6) (by rfl)) (pss_one (ps_ret (pe_tup (pa_cons (pe_told (t := fun E => tMeth C "waive" (spWaive K C CM) [] E (tVar 1) (tCons (tVar 7) tNil)) TD DT TB hmT hu hr9 (LamX.lamS_by (sc := defScope (top 65)) (by decide +kernel)) (fun A outer s H E f c' hr2 => pe_cm CV (pv 1) BC.cl (hr2.mono (by decide)) (passes_call (takes_of rfl rfl rfl rfl) (fun _ _ _ _ h => h)) (pa_cons (pv 7) pa_nil))) (pa_cons (pe_tup (pa_cons pe_str (pa_cons (pv 7) pa_nil))) pa_nil))))) pss_nil) (pss_cons (ps_expr (pe_bm PySem.F.plainAttrs_list PySem.F.slot_list_append PySem.F.type_list_append mt_append (pv 3) (pa_cons (pe_tup (pa_cons (pv 4) (pa_cons (pv 5) (pa_cons (pe_callTy call_tuple_of (by rfl) Z.tuple (by decide +kernel) (pa_cons (pe_lc (own := [("_law_one", 8)]) (g := gName 8) (tt := tTest (tOp (rNeD K) (tVar 8) (tVar 7))) rfl nd (pi_tup (pv 6)) (blkOk_by (N := ["_law_state", "_law_book", "_law_columns", "_law_own", "_law_rows", "_law_stock", "_law_lots", "_law_lot_here", "_law_one"]) (sc := defScope (top 65)) (by decide +kernel)) (fun _ _ _ _ _ => pg_name (i := 8) nd rfl (Or.inl rfl)) (fun _ _ _ _ _ => pts_one (pt_cmpR ((op_neD hu64)) (pv 8) (pv 7) (nomark _))) (fun _ _ _ _ _ => pv 8)) pa_nil)) pa_nil)))) pa_nil))) (pss_one (ps_ret (pe_tup (pa_cons (pe_told (t := fun E => tMeth C "waive" (spWaive K C CM) [] E (tVar 1) (tCons (tVar 7) tNil)) TD DT TB hmT hu hr9 (LamX.lamS_by (sc := defScope (top 65)) (by decide +kernel)) (fun A outer s H E f c' hr2 => pe_cm CV (pv 1) BC.cl (hr2.mono (by decide)) (passes_call (takes_of rfl rfl rfl rfl) (fun _ _ _ _ h => h)) (pa_cons (pv 7) pa_nil))) (pa_cons (pe_lst (pa_cons pe_non pa_nil)) pa_nil))))))))), ?_⟩
  obtain ⟨ws, aw, xr, xs, xl, ew, hws, hqw, hR, hS, hL⟩ := hw.olast
  have hsl := hist.last
  obtain ⟨al, ys, rfl, hql, hdl⟩ := dp_tup hL
  have lenl : ys.length = s.lots.length := by rw [dpAll_len hdl, List.length_map]
  have hl8 := hsl.llen
  have hrl := hsl.rlen
  refine ⟨_, rfl, _, rfl, w', _, _, _, rfl, rfl, SqL.of ew, atI_last _ _, ?_⟩
  refine ⟨aw, _, rfl, hqw, rfl, _, _, rfl, _, _, rfl, _, _, rfl, rfl, ?_⟩
  refine ⟨_, rfl, _, rfl, st, cl, ll, n, c, rfl, hw.so, by omega, c1, c3, fun H1 x ks hk hx af => ?_⟩
  have hw1 := hw.aft af
  refine ⟨_, rfl, st, cl, ll, n + 3, 3, rfl, hw1.so, by omega, by decide, by decide, fun H2 z z0 z1 af2 => ?_⟩
  have hw2 := hw1.aft af2
  have k2 := af.kt.trans af2.kt
  have hx2 := dp_kt af2.kt _ _ (tonly_dL ks) hx
  have hR2 := hR.kt k2
  have hL2 := dp_kt k2 _ _ (tonly_dR _) hL
  have hql2 := SqT.kt k2 hql
  have hdl2 := dpAll_kt k2 _ _ (tonly_all tonly_dL _) hdl
  have hS2 := dp_kt k2 _ _ (tonly_dQ _) hS
  have hrow : ∀ r ∈ s.rows, (r.length : Int) = c := fun r hr => (hsl.rows r hr).len
  have hlr : ∀ r ∈ s.rows, ∀ z ∈ ks, 0 ≤ z ∧ z < r.length := fun r hr' => lot_row hk (hrow r hr')
  have tl := tell_lot (wd := "broken") (ks := ks) (by decide) (hk.short c3) (hk.nat c3)
  have tm := tell_lot (wd := "missing") (ks := ks) (by decide) (hk.short c3) (hk.nat c3)
  refine ⟨_, _, rfl, rfl, _, rfl, ?_⟩
  by_cases hz : 0 < z
  · refine itT (decide_eq_true hz) ⟨_, rfl, _, rfl, dL ks, s.lots.map dL, hx2, hL2, shaped_dL ks, shaped_dR s.lots, _, rfl, ?_⟩
    rw [any_dL]
    by_cases hm : ks ∈ s.lots
    · -- held already
      refine itT (decide_eq_true hm) ⟨hw2.tb, fun Ha eN Ta => ?_⟩
      have hwa := hw2.ext eN Ta
      have kN := kt_ext eN
      obtain ⟨dx, past, ea⟩ := hwa.bkE
      refine ⟨_, rfl, b, dx, _, rfl, ea, rfl, _, rfl, b, c, hs, s, x, ks, rfl, hwa.bk, by omega, by omega, hl8, c3, hrow, dp_kt kN _ _ (tonly_dL ks) hx2, hk, .inl hm, fun h => absurd hm h, fun _ Hb sb => ?_, fun h => absurd hm h⟩
      exact ⟨by decide, fun p1 hp1 => ⟨by show 1 ≤ sizeLine; decide, fun p2 hp2 => G.fin0 (hwa.same sb) (by omega) (by simp) (by simp) hist hp1 hp2⟩⟩
    refine itF (decide_eq_false hm) ?_
    refine ⟨_, rfl, al, _, rfl, .inr hql2, rfl, _, rfl, ?_⟩
    by_cases h8 : s.lots.length = 8
    · refine itT (decide_eq_true (by rw [lenl, h8]; rfl)) ⟨by decide, fun p1 hp1 => ⟨by show 0 ≤ sizeLine; decide, fun p2 hp2 => ?_⟩⟩
      have sa := same_new (o := .lst []) hp1
      have sb := same_new (o := .lst []) hp2
      exact G.fin (hw2.same (sa.trans sb)) (by omega) (by simp) (by simp) hist (.lst (SqL.of (sb _ _ upd_same)) .nil) (.lst (SqL.of upd_same) .nil) tell_nil
    refine itF (decide_eq_false fun e => h8 (by injection e with e; omega)) ?_
    have h8' : s.lots.length < 8 := by omega
    refine ⟨_, rfl, _, rfl, xr, x, s.rows, ks, rfl, hR2.1, hx2, hlr, hk.short c3, by omega, fun H3 s3 => ⟨_, rfl, ?_⟩⟩
    have hw3 := hw2.same s3
    have hx3 := dp_kt (KT.same s3) _ _ (tonly_dL ks) hx2
    cases e : isKey s.rows ks with
    | false =>
      refine itT rfl ⟨hw3.tb, fun H9 eN T9 => ?_⟩
      have hw9 := hw3.ext eN T9
      have kN := kt_ext eN
      obtain ⟨dx, past, e9⟩ := hw9.bkE
      refine ⟨_, rfl, b, dx, _, rfl, e9, rfl, _, rfl, b, c, hs, s, x, ks, rfl, hw9.bk, by omega, by omega, hl8, c3, hrow, dp_kt kN _ _ (tonly_dL ks) hx3, hk, .inr h8', fun _ _ Ha d sa hd => toldB fun p1 hp1 => ?_, fun h => absurd h hm, fun _ h => (by rw [e] at h; cases h)⟩
      have sd := same_new (o := .xd [("given", x)]) hd
      have se := same_new (o := .tup [.str "broken", x]) hp1
      have ske := (sa.trans sd).trans se
      refine ⟨_, rfl, by show 2 ≤ sizeLine; decide, fun p3 hp3 => ?_⟩
      have sg := same_new (o := .tup [.str "broken", x]) hp3
      have hxg := dp_kt (kN.trans (KT.same (ske.trans sg))) _ _ (tonly_dL ks) hx3
      exact G.fin (hw9.same (ske.trans sg)) (by omega) (by simp) (by simp) hist (.tup (SqT.of (sg _ _ upd_same)) (.cons (.str _) (.cons hxg .nil))) (.tup (SqT.of upd_same) (.cons (.str _) (.cons hxg .nil))) tl
    | true =>
      refine itF rfl ?_
      obtain ⟨ws4, e4, _⟩ := hw3.ow
      refine ⟨_, rfl, .inl ⟨rfl, _, SqL.of e4⟩, _, rfl, _, rfl, _, rfl, _, rfl, by show 1 ≤ sizeLine; decide, fun p1 h1 => ?_⟩
      have s1 := same_new (o := .tup [x]) h1
      have k31 := (KT.same s3).trans (KT.same s1)
      refine catA (SqT.kt k31 hql2) (SqT.of upd_same) (le_line ?_) fun p4 H4 s4 hp4 => ?_
      · rw [lenl]; show s.lots.length + 1 ≤ _; omega
      have s34 := s1.trans s4
      have k24 := (KT.same s3).trans (KT.same s34)
      refine ⟨p4, _, s.lots ++ [ks], rfl, hp4, tupsI_of ?_, fun zs p2 hz' h2 => ?_⟩
      · rw [List.map_append]
        exact dpAll_app (dpAll_kt k24 _ _ (tonly_all tonly_dL _) hdl2) (.cons (dp_kt (KT.same s34) _ _ (tonly_dL ks) hx3) .nil)
      have s5 := same_new (o := .lst zs) h2
      refine ⟨p2, zs, rfl, .inl ⟨SqL.of upd_same, fun l hl0 => ?_⟩⟩
      have s6 := same_new (o := .tup zs) hl0
      have hz6 := dpAll_kt ((KT.same s5).trans (KT.same s6)) _ _ (tonly_all tonly_dL _) (of_tupsI hz')
      have s36 := (s34.trans s5).trans s6
      have el : upd (upd H4 p2 (.lst zs)) l (.tup zs) l = some (.tup zs) := upd_same
      generalize upd (upd H4 p2 (.lst zs)) l (.tup zs) = H6 at s36 hz6 el
      have hw6 := hw3.same s36
      have k26 := (KT.same s3).trans (KT.same s36)
      obtain ⟨ws8, e8, l8, push⟩ := hw6.push (s := ⟨s.rows, s.stock, srt (s.lots ++ [ks])⟩) (hR2.kt k26) (dp_kt k26 _ _ (tonly_dQ _) hS2) (.tup (SqT.of el) hz6) (by rw [List.length_append]; show hs.length + 1 ≤ _; omega)
      refine ⟨by show 3 ≤ sizeLine; decide, fun tp htp => ?_⟩
      obtain ⟨e9, hw9, k9, b9⟩ := push tp htp
      refine ⟨w', ws8, _, rfl, rfl, e9, l8, ?_⟩
      have hx9 := dp_kt ((KT.same s36).trans k9) _ _ (tonly_dL ks) hx3
      generalize upd (upd H6 tp _) w' _ = H9 at hw9 hx9
      refine ⟨hw9.tb, fun Ha eN Ta => ?_⟩
      have hwa := hw9.ext eN Ta
      have kN := kt_ext eN
      obtain ⟨dx, past, ea⟩ := hwa.bkE
      refine ⟨_, rfl, b, dx, _, rfl, ea, rfl, _, rfl, b, c, hs, s, x, ks, rfl, hwa.bk, by omega, by omega, hl8, c3, hrow, dp_kt kN _ _ (tonly_dL ks) hx9, hk, .inr h8', fun _ h => (by rw [e] at h; cases h), fun h => absurd h hm, fun _ _ Hb hbk bt kt => ?_⟩
      have hwb := hwa.book bt kt hbk
      exact ⟨by decide, fun p1 hp1 => ⟨by show 1 ≤ sizeLine; decide, fun p2 hp2 => G.fin0 hwb (by omega) (by simp) (by simp) (hist.snoc (by rw [List.length_append]; exact hsl.claim h8' hk)) hp1 hp2⟩⟩
  · refine itF (decide_eq_false hz) ⟨_, rfl, _, rfl, dL ks, s.lots.map dL, hx2, hL2, shaped_dL ks, shaped_dR s.lots, _, rfl, ?_⟩
    rw [any_dL]
    by_cases hm : ks ∈ s.lots
    · refine itF (by rw [decide_eq_true hm]; rfl) ?_
      obtain ⟨ws4, e4, _⟩ := hw2.ow
      refine ⟨_, rfl, .inl ⟨rfl, _, SqL.of e4⟩, _, rfl, _, rfl, _, rfl, al, rfl, ⟨_, hql2⟩, fun L hL0 => ?_⟩
      refine lc_tup (K := K) (a := al) (xs := ys) (WvP K s.lots ks H2 L) ⟨same_new hL0, [], upd_same, .nil⟩ (fun i H' _ h => sqT_same hql2 h.1) ?_ ?_
      · rintro i v H' hv wv
        obtain ⟨d, h3, h4⟩ := dpAll_get (dpAll_same (tonly_all tonly_dL _) hdl2 wv.1) hv
        obtain ⟨k, h5, rfl⟩ := map_at h3
        refine ⟨rfl, ⟨_, rfl, _, rfl, dL k, dL ks, h4, dp_kt (KT.same wv.1) _ _ (tonly_dL ks) hx2, shaped_dL k, shaped_dL ks, _, rfl, ?_⟩⟩
        rw [eqv_dL]
        by_cases e : k = ks
        · exact itF (by simp [e]) (wv_skip h5 wv e)
        · exact itT (by simp [e]) ⟨_, rfl, wv_more h5 h4 hL0 (by omega) wv e⟩
      · rintro H' ⟨s3, zs, kD, hz'⟩
        rw [List.take_of_length_le (by omega)] at hz'
        refine ⟨L, zs, rfl, .inl ⟨SqL.of kD, fun l hl0 => ?_⟩⟩
        have s6 := s3.trans (same_new (o := .tup zs) hl0)
        have hz6 := dpAll_kt (KT.new (o := .tup zs) hl0) _ _ (tonly_all tonly_dL _) hz'
        have el : upd H' l (.tup zs) l = some (.tup zs) := upd_same
        generalize upd H' l (.tup zs) = H6 at s6 hz6 el
        have hw6 := hw2.same s6
        have k26 := KT.same s6
        obtain ⟨ws8, e8, l8, push⟩ := hw6.push (s := ⟨s.rows, s.stock, outLot s.lots ks⟩) (hR2.kt k26) (dp_kt k26 _ _ (tonly_dQ _) hS2) (.tup (SqT.of el) hz6) (by rw [List.length_append]; show hs.length + 1 ≤ _; omega)
        refine ⟨by show 3 ≤ sizeLine; decide, fun tp htp => ?_⟩
        obtain ⟨e9, hw9, k9, b9⟩ := push tp htp
        refine ⟨w', ws8, _, rfl, rfl, e9, l8, ?_⟩
        have hx9 := dp_kt (k26.trans k9) _ _ (tonly_dL ks) hx2
        generalize upd (upd H6 tp _) w' _ = H9 at hw9 hx9
        refine ⟨hw9.tb, fun Ha eN Ta => ?_⟩
        have hwa := hw9.ext eN Ta
        have kN := kt_ext eN
        obtain ⟨dx, past, ea⟩ := hwa.bkE
        refine ⟨_, rfl, b, dx, _, rfl, ea, rfl, _, rfl, b, c, hs, s, x, ks, rfl, hwa.bk, by omega, by omega, c3, dp_kt kN _ _ (tonly_dL ks) hx9, hk, fun h => absurd hm h, fun _ Hb hbk bt kt => ?_⟩
        have hwb := hwa.book bt kt hbk
        exact ⟨by decide, fun p1 hp1 => ⟨by show 1 ≤ sizeLine; decide, fun p2 hp2 => G.fin0 hwb (by omega) (by simp) (by simp) (hist.snoc (by rw [List.length_append]; exact hsl.waive)) hp1 hp2⟩⟩
    · refine itT (by rw [decide_eq_false hm]; rfl) ⟨hw2.tb, fun H9 eN T9 => ?_⟩
      have hw9 := hw2.ext eN T9
      have kN := kt_ext eN
      obtain ⟨dx, past, e9⟩ := hw9.bkE
      refine ⟨_, rfl, b, dx, _, rfl, e9, rfl, _, rfl, b, c, hs, s, x, ks, rfl, hw9.bk, by omega, by omega, c3, dp_kt kN _ _ (tonly_dL ks) hx2, hk, fun _ Ha d sa hd => toldM fun p1 hp1 => ?_, fun h => absurd h hm⟩
      have sd := same_new (o := .xd [("given", x)]) hd
      have se := same_new (o := .tup [.str "missing", x]) hp1
      have ske := (sa.trans sd).trans se
      refine ⟨_, rfl, by show 2 ≤ sizeLine; decide, fun p3 hp3 => ?_⟩
      have sg := same_new (o := .tup [.str "missing", x]) hp3
      have hxg := dp_kt (kN.trans (KT.same (ske.trans sg))) _ _ (tonly_dL ks) hx2
      exact G.fin (hw9.same (ske.trans sg)) (by omega) (by simp) (by simp) hist (.tup (SqT.of (sg _ _ upd_same)) (.cons (.str _) (.cons hxg .nil))) (.tup (SqT.of upd_same) (.cons (.str _) (.cons hxg .nil))) tm
end
end K25
end

section
-- BDeed66
set_option Elab.async false
set_option linter.all false
set_option maxRecDepth 100000
set_option maxHeartbeats 4000000
set_option autoImplicit false
/-! _law_back -/
namespace K25
open PySem PySem.Spec PyProof.Rows L2
section
variable {P : Program} {w : World} {K : PySem.W.Frag} {mg : Str → Option Value} {base : Heap} {C : Addr} {CR CK CN CI CB CM CL ct cd cp : Addr} {T : List (Addr × Str)}
theorem sc66 : FnScope ["_law_state", "_law_book", "_law_own", "_law_k", "_law_many"] ["_law_state", "_law_book", "_law_own"] (defScope (top 66)) := ⟨rfl, rfl, rfl, by decide +kernel, rfl, by decide +kernel, by decide +kernel⟩
def spBack (K : PySem.W.Frag) (T : List (Addr × Str)) (C : Addr) : Sp := fun vs H Q _ => ∃ (st cl ll b w : Addr) (c : Int) (n : Nat) (hs : List Snap) (s : Snap), vs = [.ref st, .ref b, .ref w] ∧ Wd K T C H st cl ll b w c n (hs ++ [s]) (hs ++ [s]) ∧ n ≤ 3000 ∧ hs.length ≤ 14 ∧ 1 ≤ c ∧ c ≤ 3 ∧ HistOk c (hs ++ [s]) ∧ DeedOut K T C st cl ll b w c n (hs.length + 2) Q
theorem cal_back66 (D : DfnC K mg (top 66) "_law_back" cd) (Z : Fre mg) (BC : BkC K C) (TD : ToldC K mg CR CK CN CI CB CM CL) (DT : DfnC K mg (top 62) "_law_told" ct) (TB : LamX.TabB base mg cd cp) (hmT : ((cp, ("_law_back.<locals>.<lambda>" : Str)) : Addr × Str) ∈ T) (hu : ∀ p ∈ T, p.1 = cp → p.2 = "_law_back.<locals>.<lambda>")
    (CD : Cal P w K mg base Nx0 2 "_law_draw" ["_law_state", "_law_many"] spDraw) (CU : CalU P w K mg base (L2.CX P w) 2 C "undo" ["self", "many"] (spUndo K C CL)) : Cal P w K mg base Nx0 10 "_law_back" ["_law_state", "_law_book", "_law_own"] (spBack K T C) := by
  refine D.cal0 sc66 (fun _ _ _ _ _ _ us hl => match us, hl with | [_, _, _], _ => rfl) (fun vs H Q E ⟨_, _, _, _, _, _, _, _, _, h, _⟩ => by rw [h]; rfl) fun f A outer s0 H vs Q E hr h => ?_
  obtain ⟨st, cl, ll, b, w', c, n, hs, s, rfl, hw, hn, hl14, c1, c3, hist, G⟩ := h
  have nd := sc66.nd
  have hr9 : Room (7 + 2) _ := hr
  have hr2 : Room 2 _ := hr.mono (by decide)
  refine ⟨_, pss_cons (ps_set (i := 4) nd rfl (.inr rfl) (pe_op op_add pe_int (pe_cn CD hr2 (pa_cons (pv 0) (pa_cons pe_int pa_nil))))) (pss_cons (ps_if (pt_cmpR op_ge (pv 4) (pe_callB call_len_seq (by rfl) Z.len PySem.boot_len (pa_cons (pv 2) pa_nil)) (nomark _)) (pss_one (ps_ret (pe_tup (pa_cons (pe_told (t := fun E => tMeth C "undo" (spUndo K C CL) [] E (tVar 1) (tCons (tVar 4) tNil)) TD DT TB hmT hu hr9 (LamX.lamS_by (sc := defScope (top 66)) (by decide +kernel)) (fun A outer s H E f c' hr2 => pe_cm CU.m (pv 1) BC.cl (hr2.mono (by decide)) (passes_call (takes_of rfl rfl rfl rfl) (fun _ _ _ _ h => h)) (pa_cons (pv 4) pa_nil))) (pa_cons (pe_tup (pa_cons pe_str (pa_cons (pv 4) pa_nil))) pa_nil))))) pss_nil) (pss_cons (ps_for PassesOwn.never rfl (pi_range1 (by rfl) Z.range (pa_cons (pv 4) pa_nil)) (pg_name (i := 3) nd rfl (.inl rfl)) (pss_one (ps_expr (pe_bm0 PySem.F.plainAttrs_list PySem.F.slot_list_pop PySem.F.type_list_pop mt_pop (pv 2))))) (pss_one (ps_ret (pe_tup (pa_cons (pe_told (t := fun E => tIf (tTest (tOp rEq (tVar 4) (tC (.int 1)))) (tMeth C "undo" (spUndo K C CL) [.int 1] E (tVar 1) tNil) (tMeth C "undo" (spUndo K C CL) [] E (tVar 1) (tCons (tVar 4) tNil))) TD DT TB hmT hu hr9 (LamX.lamS_by (sc := defScope (top 66)) (by decide +kernel)) (fun A outer s H E f c' hr2 => pe_ifExp (pt_cmpR op_eq (pv 4) pe_int (nomark _)) (pe_cu0 CU (pv 1) BC.cl (hr2.mono (by decide)) (passes_call (takes_of rfl rfl rfl rfl) (fun _ _ _ _ h => h))) (pe_cm CU.m (pv 1) BC.cl (hr2.mono (by decide)) (passes_call (takes_of rfl rfl rfl rfl) (fun _ _ _ _ h => h)) (pa_cons (pv 4) pa_nil)))) (pa_cons (pe_lst (pa_cons pe_non pa_nil)) pa_nil))))))), ?_⟩
  refine ⟨_, rfl, st, cl, ll, n, 3, rfl, hw.so, by omega, by decide, by decide, fun H1 z z0 z1 af => ?_⟩
  have hw1 := hw.aft af
  obtain ⟨j, rfl⟩ : ∃ j : Nat, z = j := ⟨z.toNat, by omega⟩
  refine ⟨_, _, rfl, rfl, ?_⟩
  have ej : (1 + (j : Int)) = ((j + 1 : Nat) : Int) := by omega
  dsimp only [gName]
  rw [ej]
  obtain ⟨ws1, e1, hs1⟩ := hw1.ow
  have lenw : ws1.length = hs.length + 1 := by rw [paired_len hs1, List.length_append]; rfl
  refine ⟨_, rfl, _, rfl, w', _, rfl, .inl (SqL.of e1), _, _, rfl, rfl, _, rfl, ?_⟩
  by_cases hj : hs.length + 1 ≤ j + 1
  · refine itT (decide_eq_true (by omega)) ⟨hw1.tb, fun H9 eN T9 => ?_⟩
    have hw9 := hw1.ext eN T9
    obtain ⟨dx, past, e9⟩ := hw9.bkE
    refine ⟨_, rfl, b, dx, _, rfl, e9, rfl, _, rfl, b, c, hs ++ [s], j + 1, rfl, hw9.bk, by rw [List.length_append]; show hs.length + 1 ≤ _; omega, by omega, by omega, fun _ d hd => toldL fun p1 hp1 => ?_, fun h => by rw [List.length_append] at h; have : ([s] : List Snap).length = 1 := rfl; omega⟩
    have sd := same_new (o := .xd [("many", .int (j + 1 : Nat))]) hd
    have se := same_new (o := .tup [.str "left", .int (j + 1 : Nat)]) hp1
    have ske := sd.trans se
    refine ⟨_, rfl, by show 2 ≤ sizeLine; decide, fun p3 hp3 => ?_⟩
    have sg := same_new (o := .tup [.str "left", .int (j + 1 : Nat)]) hp3
    exact G.fin (hw9.same (ske.trans sg)) (by omega) (by simp) (by simp) hist (.tup (SqT.of (sg _ _ upd_same)) (.cons (.str _) (.cons (.int _) .nil))) (.tup (SqT.of upd_same) (.cons (.str _) (.cons (.int _) .nil))) (tell_int (by decide) (by omega))
  · refine itF (decide_eq_false (by omega)) ?_
    have hlen : (hs ++ [s]).length = hs.length + 1 := by rw [List.length_append]; rfl
    refine ⟨_, rfl, (j + 1 : Nat), rfl, by omega, by omega, for_range (lo := 0) (n := j + 1) (fun i σ H' => ∃ kv : Option V, σ = [some (.ref st), some (.ref b), some (.ref w'), kv, some (.int (j + 1 : Nat))] ∧ Wd K T C H' st cl ll b w' c (n + 1) (hs ++ [s]) ((hs ++ [s]).take (hs.length + 1 - i)))
      ⟨none, rfl, by rw [List.take_of_length_le (by omega)]; exact hw1⟩ ?_ ?_⟩
    · rintro i σ H' hi ⟨kv, rfl, hwi⟩
      obtain ⟨ws, e, hsn⟩ := hwi.ow
      have lenw2 : ws.length = hs.length + 1 - i := by rw [paired_len hsn, List.length_take, hlen]; omega
      refine ⟨_, rfl, .inl ⟨rfl, _, SqL.of e⟩, w', ws, _, rfl, rfl, e, List.getElem?_eq_getElem (by omega), _, rfl, ?_⟩
      obtain ⟨a1, _⟩ := hwi.own (ws' := ws.dropLast) (ho' := (hs ++ [s]).take (hs.length + 1 - (i + 1))) e (by
        rw [List.dropLast_eq_take]
        have := paired_take hsn (ws.length - 1)
        rw [List.take_take] at this
        have e2 : min (ws.length - 1) (hs.length + 1 - i) = hs.length + 1 - (i + 1) := by omega
        rw [e2] at this
        exact this)
      exact a1
    · rintro σ H2 ⟨kv, rfl, hw2⟩
      refine ⟨hw2.tb, fun H9 eN T9 => ?_⟩
      have hw9 := hw2.ext eN T9
      obtain ⟨dx, past, e9⟩ := hw9.bkE
      have hne : (hs ++ [s]).take (hs.length + 1 - (j + 1)) ≠ [] := fun z => by
        have := congrArg List.length z
        rw [List.length_take, hlen] at this
        have h0 : ([] : List Snap).length = 0 := rfl
        omega
      have hle : ((hs ++ [s]).take (hs.length + 1 - (j + 1))).length ≤ hs.length + 2 := by rw [List.length_take]; omega
      have fin : ∀ Hb, BkOk K Hb C b c ((hs ++ [s]).take ((hs ++ [s]).length - (j + 1))) → Bt [b] H9 Hb → KT H9 Hb → 1 ≤ sizeLine ∧ ∀ p1, Hb p1 = none → 1 ≤ sizeLine ∧ ∀ p2, upd Hb p1 (.lst [.non]) p2 = none → 2 ≤ sizeLine ∧ ∀ p, upd (upd Hb p1 (.lst [.non])) p2 (.lst [.non]) p = none → Q (.ref p) (upd (upd (upd Hb p1 (.lst [.non])) p2 (.lst [.non])) p (.tup [.ref p1, .ref p2])) := fun Hb hbk bt kt => by
        rw [hlen] at hbk
        have hwb := hw9.book bt kt hbk
        exact ⟨by decide, fun p1 hp1 => ⟨by decide, fun p2 hp2 => G.fin0 hwb (by omega) hne hle (hist.take _) hp1 hp2⟩⟩
      refine ⟨_, rfl, rfl, _, rfl, ?_⟩
      by_cases hj0 : j = 0
      · subst hj0
        refine itT (by decide) ⟨_, rfl, b, dx, _, rfl, e9, rfl, b, c, hs ++ [s], 1, rfl, hw9.bk, by omega, by omega, by omega, fun h => by omega, fun _ => fin⟩
      · refine itF (decide_eq_false fun e => hj0 (by injection e with e; omega)) ⟨_, rfl, b, dx, _, rfl, e9, rfl, _, rfl, b, c, hs ++ [s], j + 1, rfl, hw9.bk, by omega, by omega, by omega, fun h => by omega, fun _ => fin⟩
end
end K25
end

section
-- BRight
set_option Elab.async false
set_option linter.all false
set_option maxRecDepth 100000
set_option maxHeartbeats 4000000
set_option autoImplicit false
/-! _law_deed, _law_stands, _law_right -/
namespace K25
open PySem PySem.Spec PyProof.Rows L2
section
variable {P : Program} {w : World} {K : PySem.W.Frag} {mg : Str → Option Value} {base : Heap} {C : Addr} {T : List (Addr × Str)}
theorem sc67 : FnScope ["_law_state", "_law_book", "_law_columns", "_law_own", "_law_choice"] ["_law_state", "_law_book", "_law_columns", "_law_own"] (defScope (top 67)) := ⟨rfl, rfl, rfl, by decide +kernel, rfl, by decide +kernel, by decide +kernel⟩
def spDeedT (K : PySem.W.Frag) (T : List (Addr × Str)) (C : Addr) : Sp := fun vs H Q _ => ∃ (st cl ll b w : Addr) (c : Int) (n : Nat) (hs : List Snap) (s : Snap), vs = [.ref st, .ref b, .int c, .ref w] ∧ Wd K T C H st cl ll b w c n (hs ++ [s]) (hs ++ [s]) ∧ n ≤ 2999 ∧ hs.length ≤ 14 ∧ 1 ≤ c ∧ c ≤ 3 ∧ HistOk c (hs ++ [s]) ∧ DeedOut K T C st cl ll b w c (n + 1) (hs.length + 2) Q
theorem cal_deed67 (D : Dfn K mg (top 67) "_law_deed") (CD : Cal P w K mg base Nx0 2 "_law_draw" ["_law_state", "_law_many"] spDraw) (C3 : Cal P w K mg base Nx0 10 "_law_rows_deed" ["_law_state", "_law_book", "_law_columns", "_law_own"] (spDeed K T C))
    (C4 : Cal P w K mg base Nx0 10 "_law_stock_deed" ["_law_state", "_law_book", "_law_columns", "_law_own"] (spDeed K T C)) (C5 : Cal P w K mg base Nx0 10 "_law_keys_deed" ["_law_state", "_law_book", "_law_columns", "_law_own"] (spDeed K T C)) (C6 : Cal P w K mg base Nx0 10 "_law_back" ["_law_state", "_law_book", "_law_own"] (spBack K T C)) :
    Cal P w K mg base Nx0 11 "_law_deed" ["_law_state", "_law_book", "_law_columns", "_law_own"] (spDeedT K T C) := by
  refine D.cal0 sc67 (fun _ _ _ _ _ _ us hl => match us, hl with | [_, _, _, _], _ => rfl) (fun vs H Q E ⟨_, _, _, _, _, _, _, _, _, h, _⟩ => by rw [h]; rfl) fun f cdv A outer s0 H vs Q E hr h => ?_
  obtain ⟨st, cl, ll, b, w', c, n, hs, s, rfl, hw, hn, hl14, c1, c3, hist, G⟩ := h
  have nd := sc67.nd
  have hr2 : Room 2 _ := hr.mono (by decide)
  refine ⟨_, pss_cons (ps_set (i := 4) nd rfl (.inl rfl) (pe_cn CD hr2 (pa_cons (pv 0) (pa_cons pe_int pa_nil)))) (pss_cons (ps_if (pt_cmpR op_lt (pv 4) pe_int (nomark _)) (pss_one (ps_ret (pe_cn C3 hr (pa_cons (pv 0) (pa_cons (pv 1) (pa_cons (pv 2) (pa_cons (pv 3) pa_nil))))))) pss_nil) (pss_cons (ps_if (pt_cmpR op_lt (pv 4) pe_int (nomark _)) (pss_one (ps_ret (pe_cn C4 hr (pa_cons (pv 0) (pa_cons (pv 1) (pa_cons (pv 2) (pa_cons (pv 3) pa_nil))))))) pss_nil) (pss_one (ps_ret (pe_ifExp (pt_cmpR op_lt (pv 4) pe_int (nomark _)) (pe_cn C5 hr (pa_cons (pv 0) (pa_cons (pv 1) (pa_cons (pv 2) (pa_cons (pv 3) pa_nil))))) (pe_cn C6 hr (pa_cons (pv 0) (pa_cons (pv 1) (pa_cons (pv 3) pa_nil))))))))), ?_⟩
  refine ⟨_, rfl, st, cl, ll, n, 9, rfl, hw.so, by omega, by decide, by decide, fun H1 z z0 z1 af => ?_⟩
  have hw1 := hw.aft af
  refine ⟨_, rfl, _, _, rfl, rfl, _, rfl, ?_⟩
  by_cases h4 : z < 4
  · exact itT (decide_eq_true h4) ⟨_, rfl, _, rfl, _, rfl, _, rfl, st, cl, ll, b, w', c, n + 1, hs, s, rfl, hw1, by omega, hl14, c1, c3, hist, G⟩
  refine itF (decide_eq_false h4) ⟨_, rfl, _, _, rfl, rfl, _, rfl, ?_⟩
  by_cases h6 : z < 6
  · exact itT (decide_eq_true h6) ⟨_, rfl, _, rfl, _, rfl, _, rfl, st, cl, ll, b, w', c, n + 1, hs, s, rfl, hw1, by omega, hl14, c1, c3, hist, G⟩
  refine itF (decide_eq_false h6) ⟨_, rfl, _, _, rfl, rfl, _, rfl, ?_⟩
  by_cases h8 : z < 8
  · exact itT (decide_eq_true h8) ⟨_, rfl, _, rfl, _, rfl, _, rfl, st, cl, ll, b, w', c, n + 1, hs, s, rfl, hw1, by omega, hl14, c1, c3, hist, G⟩
  · exact itF (decide_eq_false h8) ⟨_, rfl, _, rfl, _, rfl, st, cl, ll, b, w', c, n + 1, hs, s, rfl, hw1, by omega, hl14, c1, c3, hist, G⟩
/-! _law_stands -/
def dF (s : Snap) (n : Int) : PyData := .list [dR s.rows, dQ s.stock, dR s.lots, .int n]
theorem wgt_dL {ks : List Int} {n : Nat} (h : ks.length ≤ n) : wgt (dL ks) ≤ n * 18 + 4 := by
  have h : wgtAll (ks.map PyData.int) ≤ n * (16 + 2) := wgt_map h fun z _ => by unfold wgt; exact Nat.le_refl _
  unfold dL
  rw [wgt]
  omega
theorem nice_dL {ks : List Int} (h : ∀ z ∈ ks, z.natAbs < 1000) : nice (dL ks) = true := by
  unfold dL
  rw [nice]
  exact nice_map fun z hz => by rw [nice]; exact decide_eq_true (h z hz)
theorem IndexOk.nice {c : Int} {ix : List (Int × Str)} (h : IndexOk c ix) (c3 : c ≤ 3) : nice (dX ix) = true := nice_dX h.ways fun p hp => by have := h.cols p hp; omega
theorem wgt_dS (p : Int × Str) : wgt (dS p) = 40 := by
  unfold dS
  simp only [wgt, wgtAll]
theorem wgt_dX {ix : List (Int × Str)} (h : ix.length ≤ 3) : wgt (dX ix) ≤ 130 := by
  have h : wgtAll (ix.map dS) ≤ 3 * (40 + 2) := wgt_map h fun z _ => by rw [wgt_dS]; exact Nat.le_refl _
  unfold dX
  rw [wgt]
  omega
theorem fits_dF {c : Int} {s : Snap} {i n : Nat} (h : SnapL c i s) (c3 : c ≤ 3) (hi : i ≤ 20) (hn : n < 1000) : nice (dF s n) = true ∧ (dF s n).depth ≤ 10 ∧ wgt (dF s n) ≤ 100000 := by
  have l20 : s.rows.length ≤ 20 := Nat.le_trans h.rlen hi
  have n1 : nice (dR s.rows) = true := by
    unfold dR; rw [nice]
    exact nice_map fun r hr => nice_dL (h.rows r hr).nat
  have n2 : nice (dQ s.stock) = true := by
    unfold dQ; rw [nice]
    exact nice_map fun ix hx => (h.stock ix hx).nice c3
  have n3 : nice (dR s.lots) = true := by
    unfold dR; rw [nice]
    exact nice_map fun k hk => nice_dL ((h.lots k hk).nat c3)
  have w1 : wgtAll (s.rows.map dL) ≤ 20 * (1804 + 2) := wgt_map l20 fun r hr => wgt_dL ((h.rows r hr).short c3)
  have w2 : wgtAll (s.stock.map dX) ≤ 12 * (130 + 2) := wgt_map h.slen fun ix hx => wgt_dX (h.stock ix hx).len
  have w3 : wgtAll (s.lots.map dL) ≤ 8 * (1804 + 2) := wgt_map h.llen fun k hk => wgt_dL ((h.lots k hk).short c3)
  refine ⟨?_, ?_, ?_⟩
  · unfold dF
    rw [nice, niceAll, niceAll, niceAll, niceAll, niceAll, n1, n2, n3, nice, decide_eq_true (show ((n : Int)).natAbs < 1000 by omega)]
    rfl
  · have d1 := depth_dR s.rows
    have d3 := depth_dR s.lots
    have d2 : (dQ s.stock).depth ≤ 3 := by
      unfold dQ; rw [PyData.depth]
      have : PyData.depthAll (s.stock.map dX) ≤ 2 := depth_map fun x _ => depth_dX x
      omega
    unfold dF
    simp only [PyData.depth, PyData.depthAll]
    omega
  · have e1 : wgt (dR s.rows) = wgtAll (s.rows.map dL) + 4 := by unfold dR; rw [wgt]
    have e2 : wgt (dQ s.stock) = wgtAll (s.stock.map dX) + 4 := by unfold dQ; rw [wgt]
    have e3 : wgt (dR s.lots) = wgtAll (s.lots.map dL) + 4 := by unfold dR; rw [wgt]
    unfold dF
    simp only [wgt, wgtAll]
    omega
/-- what repr asks -/
theorem repr_fit {d : PyData} (n : nice d = true) (de : d.depth ≤ 10) (wg : wgt d ≤ 100000) : d.showable = true ∧ d.hasDict = false ∧ d.depth ≤ 60 ∧ d.shown.length ≤ sizeLine := by
  obtain ⟨s1, s2, _⟩ := nice_shows d n
  exact ⟨s1, s2, by omega, Nat.le_trans (shown_len d n) (Nat.le_trans wg (by decide))⟩
theorem sc68 : FnScope ["_law_book", "_law_own"] ["_law_book", "_law_own"] (defScope (top 68)) := ⟨rfl, rfl, rfl, by decide +kernel, rfl, by decide +kernel, by decide +kernel⟩
def spStands (K : PySem.W.Frag) (C : Addr) : Sp := fun vs H Q _ => ∃ (b w : Addr) (c : Int) (hs : List Snap) (s : Snap) (ws : List V), vs = [.ref b, .ref w] ∧ BkOk K H C b c (hs ++ [s]) ∧ H w = some (.lst ws) ∧ SnAll K H ws (hs ++ [s]) ∧ SnapL c hs.length s ∧ hs.length ≤ 20 ∧ c ≤ 3 ∧ ∀ H', Same H H' → Q (.bl true) H'
theorem cal_stands (D : Dfn K mg (top 68) "_law_stands") (Z : Fre mg) (BC : BkC K C) (CT : CalP P w K mg base Nx0 1 C "table" ["self"] (spTable K C)) (CI : CalP P w K mg base Nx0 1 C "indexes" ["self"] (spIndexes K C)) (CH : CalP P w K mg base Nx0 1 C "held_keys" ["self"] (spHeld K C))
    (CL : CalM P w K mg base Nx0 1 C "__len__" ["self"] (spLenB K C)) : CalG P w K mg base Nx0 3 "_law_stands" ["_law_book", "_law_own"] (spStands K C) := by
  refine D.fnG sc68 (fun _ _ _ _ _ _ us hl => match us, hl with | [_, _], _ => rfl) (fun vs H Q E ⟨_, _, _, _, _, _, h, _⟩ => by rw [h]; rfl) fun f cdv A outer s0 H vs Q E hG hr h => ?_
  obtain ⟨b, w', c, hs, s, ws, rfl, hb, hw, hsn, hsl, l20, c3, q⟩ := h
  have nd := sc68.nd
  have hu64 := hr.units
  have hr2 : Room (1 + 1) _ := hr
  refine ⟨_, pss_one (ps_ret (pe_cmpR op_eq (pe_callB ((call_repr hG hu64)) (by rfl) Z.repr (by decide +kernel) (pa_cons (pe_lst (pa_cons (pe_pr CT (pv 0) BC.cl hr2 (by rfl)) (pa_cons (pe_pr CI (pv 0) BC.cl hr2 (by rfl)) (pa_cons (pe_pr CH (pv 0) BC.cl hr2 (by rfl)) (pa_cons (pe_callB ((call_lenO (E := L2.E0) CL hr2 pass0')) (by rfl) Z.len PySem.boot_len (pa_cons (pv 0) pa_nil)) pa_nil))))) pa_nil)) (pe_callB ((call_repr hG hu64)) (by rfl) Z.repr (by decide +kernel) (pa_cons (pe_op op_cat (pe_callTy call_list_of (by rfl) Z.list (by decide +kernel) (pa_cons (pe_ix ix_list (pv 1) (pe_un un_neg pe_int) (fun _ _ => rfl)) pa_nil)) (pe_lst (pa_cons (pe_op op_sub (pe_callB call_len_seq (by rfl) Z.len PySem.boot_len (pa_cons (pv 1) pa_nil)) pe_int) pa_nil))) pa_nil)) (nomark _))), ?_⟩
  obtain ⟨dx, past, xs, e1, _⟩ := hb.ex
  obtain ⟨ys, v, rfl, ha2, hv⟩ := paired_snoc hsn
  obtain ⟨a2, x, y, z, rfl, hq, hR, hS, hL⟩ := hv
  have hys := paired_len ha2
  obtain ⟨f1, f2, f3⟩ := fits_dF (n := hs.length) hsl c3 l20 (by omega)
  obtain ⟨g1, g2, g3, g4⟩ := repr_fit f1 f2 f3
  refine ⟨_, rfl, b, dx, _, rfl, e1, b, c, hs, s, rfl, hb, fun v1 h1 => ?_⟩
  refine ⟨_, rfl, b, dx, _, rfl, e1, b, c, hs, s, rfl, hb, fun v2 h2 => ?_⟩
  refine ⟨_, rfl, b, dx, _, rfl, e1, b, c, hs, s, rfl, hb, fun v3 h3 => ?_⟩
  refine ⟨_, rfl, b, dx, _, rfl, e1, b, c, hs, s, rfl, hb, fun H1 s1 => ⟨hs.length, rfl, by omega, ?_⟩⟩
  refine ⟨by show 4 ≤ sizeLine; decide, fun p1 hp1 => ?_⟩
  have s2 := s1.trans (same_new (o := .lst [v1, v2, v3, .int hs.length]) hp1)
  have k2 := KT.same s2
  refine ⟨.ref p1, dF s hs.length, rfl, ⟨_, rfl⟩, .lst (SqL.of upd_same) (.cons (dp_kt k2 _ _ (tonly_dR _) h1) (.cons (dp_kt k2 _ _ (tonly_dQ _) h2) (.cons (dp_kt k2 _ _ (tonly_dR _) h3) (.cons (.int _) .nil)))), g1, g2, g3, g4, ?_⟩
  have ew2 := s2 _ _ hw
  refine ⟨_, rfl, _, rfl, w', _, _, _, rfl, rfl, SqL.of ew2, atI_last _ _, a2, _, rfl, .inr (SqT.kt k2 hq), fun p3 hp3 => ?_⟩
  have s3 := s2.trans (same_new (o := .lst [x, y, z]) hp3)
  have ew3 := s3 _ _ hw
  refine ⟨_, rfl, w', _, rfl, .inl (SqL.of ew3), _, _, rfl, rfl, by show 1 ≤ sizeLine; decide, fun p4 hp4 => ?_⟩
  have s34 := same_new (o := .lst [.int (((ys ++ [V.ref a2]).length : Nat) - 1)]) hp4
  have s4 := s3.trans s34
  refine ⟨p3, p4, _, _, rfl, rfl, s34 _ _ upd_same, upd_same, by show 4 ≤ sizeLine; decide, fun p5 hp5 => ?_⟩
  have s5 := s4.trans (same_new (o := .lst ([x, y, z] ++ [.int (((ys ++ [V.ref a2]).length : Nat) - 1)])) hp5)
  have k5 := KT.same s5
  have en : ((((ys ++ [V.ref a2]).length : Nat) : Int) - 1) = (hs.length : Nat) := by
    rw [List.length_append, hys]
    have : ([V.ref a2] : List V).length = 1 := rfl
    omega
  have e5 : ∀ Hx, Dp K Hx (.int (((ys ++ [V.ref a2]).length : Nat) - 1)) (.int (hs.length : Nat)) := fun Hx => by rw [en]; exact .int _
  refine ⟨.ref p5, dF s hs.length, rfl, ⟨_, rfl⟩, .lst (SqL.of upd_same) (.cons (hR.kt k5).1 (.cons (dp_kt k5 _ _ (tonly_dQ _) hS) (.cons (dp_kt k5 _ _ (tonly_dR _) hL) (.cons (e5 _) .nil)))), g1, g2, g3, g4, ?_⟩
  refine ⟨rfl, ?_⟩
  rw [decide_eq_true rfl]
  exact q _ s5
/-! _law_right -/
theorem sc69 : FnScope ["_law_state", "_law_columns", "_law_book", "_law_own", "_law_again", "_law_told_so", "_law_due"] ["_law_state"] (defScope (top 69)) := ⟨rfl, rfl, rfl, by decide +kernel, rfl, by decide +kernel, by decide +kernel⟩
def spRight (T : List (Addr × Str)) : Sp := fun vs H Q _ => ∃ (st cl ll : Addr) (n : Nat), vs = [.ref st] ∧ StOk H st cl ll n ∧ LamX.Tabs T H ∧ n ≤ 2700 ∧ ∀ H', StOk H' st cl ll (n + 282) → LamX.Tabs T H' → Q (.bl true) H'
theorem StOk.bt {H H' : Hp} {st cl ll x : Addr} {n : Nat} (h : StOk H st cl ll n) (b : Bt [x] H H') (n1 : x ≠ st) (n2 : x ≠ cl) (n3 : x ≠ ll) : StOk H' st cl ll n := by
  obtain ⟨cells, lefts, at_, h1, h2, h3, r⟩ := h.ex
  exact ⟨cells, lefts, at_, b _ _ h1 (by simp [n1.symm]), b _ _ h2 (by simp [n2.symm]), b _ _ h3 (by simp [n3.symm]), r⟩
theorem snoc_of {α : Type} {l : List α} (h : l ≠ []) : ∃ hs s, l = hs ++ [s] := ⟨l.dropLast, l.getLast h, (List.dropLast_concat_getLast h).symm⟩
theorem cal_right (D : Dfn K mg (top 69) "_law_right") (Z : Fre mg) (BC : BkC K C) (BM : BkMk K mg C) (CD : Cal P w K mg base Nx0 2 "_law_draw" ["_law_state", "_law_many"] spDraw) (CI : CalM P w K mg base Nx0 4 C "__init__" ["self", "columns"] (spInitB K C))
    (CE : Cal P w K mg base Nx0 11 "_law_deed" ["_law_state", "_law_book", "_law_columns", "_law_own"] (spDeedT K T C)) (CS : CalG P w K mg base Nx0 3 "_law_stands" ["_law_book", "_law_own"] (spStands K C)) : CalG P w K mg base Nx0 12 "_law_right" ["_law_state"] (spRight T) := by
  refine D.fnG sc69 (fun _ _ _ _ _ _ us hl => match us, hl with | [_], _ => rfl) (fun vs H Q E ⟨_, _, _, _, h, _⟩ => by rw [h]; rfl) fun f cdv A outer s0 H vs Q E hG hr h => ?_
  obtain ⟨st, cl, ll, n, rfl, hst, hT, hn, q⟩ := h
  have nd := sc69.nd
  have hu64 := hr.units
  have hr2 : Room 2 _ := hr.mono (by decide)
  have hr3 : Room 3 _ := hr.mono (by decide)
  have hr5 : Room (4 + 1) _ := hr.mono (by decide)
  refine ⟨_, pss_cons (ps_set (i := 1) nd rfl (.inl rfl) (pe_op op_add pe_int (pe_cn CD hr2 (pa_cons (pv 0) (pa_cons pe_int pa_nil))))) (pss_cons (ps_par (i := 2) (j := 3) rfl nd rfl rfl (by decide) rfl rfl (pa_cons (pe_mkB CI BM hr5 (pa_cons (pv 1) pa_nil)) (pa_cons (pe_lst (pa_cons (pe_tup (pa_cons (pe_tup pa_nil) (pa_cons (pe_tup pa_nil) (pa_cons (pe_tup pa_nil) pa_nil)))) pa_nil)) pa_nil)) (by rfl)) (pss_cons (ps_for PassesOwn.never rfl (pi_range1 (by rfl) Z.range (pa_cons (pe_op op_add pe_int (pe_cn CD hr2 (pa_cons (pv 0) (pa_cons pe_int pa_nil)))) pa_nil)) (pg_name (i := 4) nd rfl (.inl rfl)) (pss_cons (ps_asg (pe_cn CE hr (pa_cons (pv 0) (pa_cons (pv 2) (pa_cons (pv 1) (pa_cons (pv 3) pa_nil))))) (pg_tup rfl (pgs_cons (pg_name (i := 5) nd rfl (.inl rfl)) (pgs_cons (pg_name (i := 6) nd rfl (.inl rfl)) pgs_nil)))) (pss_one (ps_if (PW.pt (pw_or (pt_cmpR op_ne (pe_callB ((call_repr hG hu64)) (by rfl) Z.repr (by decide +kernel) (pa_cons (pv 5) pa_nil)) (pe_callB ((call_repr hG hu64)) (by rfl) Z.repr (by decide +kernel) (pa_cons (pv 6) pa_nil)) (nomark _)) (pw_or1 (pt_not (pt_val (pe_cg CS hG hr3 (pa_cons (pv 2) (pa_cons (pv 3) pa_nil)))))))) (pss_one (ps_ret pe_bl)) pss_nil)))) (pss_one (ps_ret pe_bl)))), ?_⟩
  refine ⟨_, rfl, st, cl, ll, n, 3, rfl, hst, by omega, by decide, by decide, fun H1 z z0 z1 af => ?_⟩
  have hT1 : LamX.Tabs T H1 := tabs_bt hT af.bt fun x hx => by
    obtain ⟨cells, lefts, at_, e2, e3, e4, _⟩ := hst.ex
    rcases List.mem_cons.mp hx with e | hx
    · rw [e]; exact ⟨_, e2, NoT.dK⟩
    · rcases List.mem_cons.mp hx with e | hx
      · rw [e]; exact ⟨_, e4, NoT.lst⟩
      · cases hx
  refine ⟨_, _, rfl, rfl, ?_⟩
  have c1 : 1 ≤ 1 + z := by omega
  have c3 : 1 + z ≤ 3 := by omega
  have hso := af.ok
  obtain ⟨⟨_, u1, _⟩, ⟨_, u2, _⟩, ⟨_, u3, _⟩⟩ := hso.soft
  refine ⟨_, rfl, fun b dx hb hdx nbd => ⟨b, dx, _, rfl, upd_same, c1, c3, fun H2 hbk bt kt => ⟨rfl, ?_⟩⟩⟩
  have sm : Same H1 (upd (upd H1 dx (.own b)) b (.ins C dx [])) := (same_new hdx).trans (same_new (by rw [upd_ne nbd.symm]; exact hb))
  have so2 := (hso.same sm).bt bt (ne_of_none u1 hb).symm (ne_of_none u2 hb).symm (ne_of_none u3 hb).symm
  have hT2 : LamX.Tabs T H2 := tabs_bt (hT1.ext sm) bt fun x hx => by
    rcases List.mem_cons.mp hx with e | hx
    · rw [e]; exact ⟨_, upd_same, NoT.ins⟩
    · cases hx
  have c2 : H2 cl = some _ := (show H2 cl = H1 cl from by rw [u2]; exact bt _ _ (sm _ _ u2) (by simp [ne_of_none u2 hb])).trans u2
  have l2 : H2 ll = some _ := (show H2 ll = H1 ll from by rw [u3]; exact bt _ _ (sm _ _ u3) (by simp [ne_of_none u3 hb])).trans u3
  refine ⟨by decide, fun p1 h1 => ⟨by decide, fun p2 h2 => ⟨by decide, fun p3 h3 => ⟨by show 3 ≤ sizeLine; decide, fun p4 h4 => ⟨by show 1 ≤ sizeLine; decide, fun w' hw' => ?_⟩⟩⟩⟩⟩
  have s1 := same_new (o := .tup []) h1
  have s2 := same_new (o := .tup []) h2
  have s3 := same_new (o := .tup []) h3
  have s4 := same_new (o := .tup [.ref p1, .ref p2, .ref p3]) h4
  have s5 := same_new (o := .lst [.ref p4]) hw'
  have s15 := ((((s1.trans s2).trans s3).trans s4)).trans s5
  have hwn : H2 w' = none := same_none (((s1.trans s2).trans s3).trans s4) hw'
  refine ⟨_, _, rfl, ?_⟩
  have hw0 : Wd K T C _ st cl ll b w' (1 + z) (n + 1) ([] ++ [snap0]) ([] ++ [snap0]) := ⟨so2.same s15, hbk.same s15, ⟨[.ref p4], upd_same, .cons ⟨p4, _, _, _, rfl, SqT.of (s5 _ _ upd_same), ⟨.tup (SqT.of (s5 _ _ (s4 _ _ (s3 _ _ (s2 _ _ upd_same))))) .nil, fun n => absurd rfl n⟩, .tup (SqT.of (s5 _ _ (s4 _ _ (s3 _ _ upd_same)))) .nil, .tup (SqT.of (s5 _ _ (s4 _ _ upd_same))) .nil⟩ .nil⟩, hT2.ext s15, (ne_of_none c2 hwn).symm, (ne_of_none l2 hwn).symm⟩
  generalize upd (upd (upd (upd (upd H2 p1 (.tup [])) p2 (.tup [])) p3 (.tup [])) p4 (.tup [.ref p1, .ref p2, .ref p3])) w' (.lst [.ref p4]) = H3 at hw0
  refine ⟨_, rfl, st, cl, ll, n + 1, 11, rfl, hw0.so, by omega, by decide, by decide, fun H4 y y0 y1 af4 => ?_⟩
  have hw4 := hw0.aft af4
  obtain ⟨j, rfl⟩ : ∃ j : Nat, y = j := ⟨y.toNat, by omega⟩
  refine ⟨_, _, rfl, rfl, ?_⟩
  have hh0 : HistOk (1 + z) ([] ++ [snap0]) := fun i s e => by
    match i, e with
    | 0, e => cases e; exact ⟨Nat.le_refl _, fun r h => (by cases h), Nat.zero_le _, fun r h => (by cases h), Nat.zero_le _, fun r h => (by cases h)⟩
    | i + 1, e => simp at e
  refine ⟨4 + (j : Int), rfl, by omega, by omega, for_range (lo := 0) (n := (4 + (j : Int)).toNat) (fun i σ H' => ∃ (kv tv dv : Option V) (hs : List Snap) (s : Snap), σ = [some (.ref st), some (.int (1 + z)), some (.ref b), some (.ref w'), kv, tv, dv] ∧ Wd K T C H' st cl ll b w' (1 + z) (n + 2 + 20 * i) (hs ++ [s]) (hs ++ [s]) ∧ hs.length ≤ i ∧ HistOk (1 + z) (hs ++ [s]))
    ⟨none, none, none, [], snap0, rfl, hw4, Nat.le_refl _, hh0⟩ ?_ ?_⟩
  · rintro i σ H' hi ⟨kv, tv, dv, hs, s, rfl, hwi, hl, hh⟩
    refine ⟨_, rfl, _, rfl, _, rfl, _, rfl, st, cl, ll, b, w', 1 + z, n + 2 + 20 * i, hs, s, rfl, hwi, by omega, by omega, c1, c3, hh, ⟨fun H5 p hist' x y d hw5 hne hl5 hh5 hp hx hy tl => ?_⟩⟩
    obtain ⟨hs', s', rfl⟩ := snoc_of hne
    obtain ⟨ax, rfl⟩ := tl.ref hx
    obtain ⟨ay, rfl⟩ := tl.ref hy
    obtain ⟨g1, g2, g3, g4⟩ := repr_fit tl.ni tl.de (Nat.le_trans tl.wg (by decide))
    have hl6 : hs'.length ≤ i + 1 := by rw [List.length_append] at hl5; have : ([s'] : List Snap).length = 1 := rfl; omega
    refine ⟨p, _, rfl, SqT.of hp, rfl, _, _, rfl, _, _, rfl, rfl, ?_⟩
    refine ⟨_, rfl, _, d, rfl, ⟨_, rfl⟩, hx, g1, g2, g3, g4, _, rfl, _, d, rfl, ⟨_, rfl⟩, hy, g1, g2, g3, g4, rfl, _, rfl, ?_⟩
    refine itF (by rw [decide_eq_true rfl]; rfl) ?_
    obtain ⟨ws, ew, hsn⟩ := hw5.ow
    refine ⟨_, rfl, _, rfl, b, w', 1 + z, hs', s', ws, rfl, hw5.bk, ew, hsn, hh5.last, by omega, c3, fun H6 s6 => ⟨true, rfl, itF rfl ?_⟩⟩
    exact ⟨_, _, _, hs', s', rfl, (hw5.same s6).mono (by omega), hl6, hh5⟩
  · rintro σ H' ⟨kv, tv, dv, hs, s, rfl, hwi, hl, hh⟩
    exact q H' (hwi.so.mono (by omega)) hwi.tb
end
end K25
end

section
-- BHand
set_option Elab.async false
set_option linter.all false
set_option maxRecDepth 100000
set_option maxHeartbeats 4000000
set_option autoImplicit false
/-! _law_hand_right -/
namespace K25
open PySem PySem.Spec PyProof.Rows L2
theorem passE0 {X : Cx} : Passes (L2.CX X.prog X.w) X L2.E0 := fun _ _ _ _ _ _ _ h => by
  obtain ⟨_, _, _, _, _, _, _, _, _, _, _, _, z⟩ := h
  exact z.elim
def lamDB (N : List Str) (sc scope : Scope) (y0 : Str) : Bool :=
  decide (scope.kind = .function) && !scope.isCoroutine && !scope.isGenerator && (scope.names.all fun y => !decide (y.2 = .cell) && (!decide (y.2 = .local) || !decide (y.1 ∈ N)) && (!decide (y.2 = .free) || decide (sc.names.lookup y.1 = some .cell) || decide (sc.names.lookup y.1 = some .free))) && decide (scope.names.lookup y0 = some .local)
theorem lamD_by {N : List Str} {sc scope : Scope} {y0 : Str} (h : lamDB N sc scope y0 = true) : LamD N sc scope y0 := by
  unfold lamDB at h
  simp only [Bool.and_eq_true, Bool.or_eq_true, Bool.not_eq_true', decide_eq_true_eq, decide_eq_false_iff_not, List.all_eq_true] at h
  obtain ⟨⟨⟨⟨h1, h2⟩, h3⟩, h4⟩, h5⟩ := h
  refine ⟨h1, h2, h3, fun y hy => (h4 y hy).1.1, fun y hy => ?_, h5, fun y hy e => ?_⟩
  · rcases (h4 _ (PySem.mem_of_lookup hy)).1.2 with z | z
    · exact absurd rfl z
    · exact z
  · rcases (h4 y hy).2 with (z | z) | z
    · exact absurd e z
    · exact .inl z
    · exact .inr z
/-! what it goes through -/
def sA : Snap := ⟨[[1, 0]], [], []⟩
def sB : Snap := ⟨[[0, 5], [1, 0]], [], []⟩
def sC : Snap := ⟨[[0, 5], [1, 0], [1, 0]], [], []⟩
def sD : Snap := ⟨[[0, 2], [0, 5], [1, 0], [1, 0]], [], []⟩
def sE : Snap := ⟨[[0, 2], [0, 5], [1, 0]], [], []⟩
def sF : Snap := ⟨[[0, 2], [0, 5], [1, 0]], [], [[1]]⟩
def sG : Snap := ⟨[[0, 2], [0, 5], [1, 0]], [], [[0, 1], [1]]⟩
theorem rA : (⟨srt (snap0.rows ++ [[1, 0]]), snap0.stock, snap0.lots⟩ : Snap) = sA := by
  rw [← srt_uniq (show ([[1, 0]] : List (List Int)).Perm (snap0.rows ++ [[1, 0]]) by decide +kernel) (by decide +kernel)]; rfl
theorem rB : (⟨srt (sA.rows ++ [[0, 5]]), sA.stock, sA.lots⟩ : Snap) = sB := by
  rw [← srt_uniq (show ([[0, 5], [1, 0]] : List (List Int)).Perm (sA.rows ++ [[0, 5]]) by decide +kernel) (by decide +kernel)]; rfl
theorem rC : (⟨srt (sB.rows ++ [[1, 0]]), sB.stock, sB.lots⟩ : Snap) = sC := by
  rw [← srt_uniq (show ([[0, 5], [1, 0], [1, 0]] : List (List Int)).Perm (sB.rows ++ [[1, 0]]) by decide +kernel) (by decide +kernel)]; rfl
theorem rD : (⟨srt (sC.rows ++ [[0, 2]]), sC.stock, sC.lots⟩ : Snap) = sD := by
  rw [← srt_uniq (show ([[0, 2], [0, 5], [1, 0], [1, 0]] : List (List Int)).Perm (sC.rows ++ [[0, 2]]) by decide +kernel) (by decide +kernel)]; rfl
theorem rE : (⟨cutRow sD.rows [1, 0], sD.stock, sD.lots⟩ : Snap) = sE := by
  have : cutRow sD.rows [1, 0] = [[0, 2], [0, 5], [1, 0]] := by decide +kernel
  rw [this]; rfl
theorem rF : (⟨sE.rows, sE.stock, srt (sE.lots ++ [[1]])⟩ : Snap) = sF := by
  rw [← srt_uniq (show ([[1]] : List (List Int)).Perm (sE.lots ++ [[1]]) by decide +kernel) (by decide +kernel)]; rfl
theorem rG : (⟨sF.rows, sF.stock, srt (sF.lots ++ [[0, 1]])⟩ : Snap) = sG := by
  rw [← srt_uniq (show ([[0, 1], [1]] : List (List Int)).Perm (sF.lots ++ [[0, 1]]) by decide +kernel) (by decide +kernel)]; rfl
theorem b1 : badLot (srt (sG.rows ++ [[0, 2]])) sG.lots = some [0, 1] := by
  rw [← srt_uniq (show ([[0, 2], [0, 2], [0, 5], [1, 0]] : List (List Int)).Perm (sG.rows ++ [[0, 2]]) by decide +kernel) (by decide +kernel)]; decide +kernel
theorem b2 : badLot (srt (sG.rows ++ [[9, 5]])) sG.lots = some [1] := by
  rw [← srt_uniq (show ([[0, 2], [0, 5], [1, 0], [9, 5]] : List (List Int)).Perm (sG.rows ++ [[9, 5]]) by decide +kernel) (by decide +kernel)]; decide +kernel
theorem kD : isKey sD.rows [0] = false := by decide +kernel
theorem kE : isKey sE.rows [1] = true := by decide +kernel
theorem kF : isKey sF.rows [0, 1] = true := by decide +kernel
def hsL : List Snap := [snap0, sA, sB, sC, sD]
def rowsL : List (List Int) := [[1, 0], [0, 5], [1, 0], [0, 2]]
theorem rows2 {l : List (List Int)} (h : (l.all fun r => decide ((r.length : Int) = 2)) = true) : ∀ r ∈ l, (r.length : Int) = 2 := fun r hr => decide_eq_true_eq.mp (List.all_eq_true.mp h r hr)
theorem lot2a : LotOk 2 [0] := ⟨by decide, by decide⟩
theorem lot2b : LotOk 2 [1] := ⟨by decide, by decide⟩
theorem lot2c : LotOk 2 [0, 1] := ⟨by decide, by decide⟩
theorem ok_of {s : Snap} (h : (s.rows.all fun r => decide ((r.length : Int) = 2)) = true) (h2 : s.stock = []) (h3 : ∀ k ∈ s.lots, LotOk 2 k) : SnapOk 2 s := ⟨rows2 h, fun ix hx => (by rw [h2] at hx; cases hx), h3⟩
theorem okG : SnapOk 2 sG := ok_of (by decide +kernel) rfl fun k hk => by
  rcases List.mem_cons.mp hk with e | hk
  · rw [e]; exact lot2c
  · rcases List.mem_cons.mp hk with e | hk
    · rw [e]; exact lot2b
    · cases hk
theorem stepL : ∀ i, i < 4 → ∃ hs s r, hsL.take (i + 1) = hs ++ [s] ∧ rowsL[i]? = some r ∧ hsL.take (i + 2) = hs ++ [s] ++ [⟨srt (s.rows ++ [r]), s.stock, s.lots⟩] ∧ hs.length ≤ 4 ∧ s.lots = [] ∧ s.rows.length ≤ 4 ∧ SnapOk 2 s ∧ (r.length : Int) = 2
  | 0, _ => ⟨[], snap0, [1, 0], rfl, rfl, by rw [rA]; rfl, by decide, rfl, by decide, ok_of (by decide +kernel) rfl fun k hk => (by cases hk), rfl⟩
  | 1, _ => ⟨[snap0], sA, [0, 5], rfl, rfl, by rw [rB]; rfl, by decide, rfl, by decide, ok_of (by decide +kernel) rfl fun k hk => (by cases hk), rfl⟩
  | 2, _ => ⟨[snap0, sA], sB, [1, 0], rfl, rfl, by rw [rC]; rfl, by decide, rfl, by decide, ok_of (by decide +kernel) rfl fun k hk => (by cases hk), rfl⟩
  | 3, _ => ⟨[snap0, sA, sB], sC, [0, 2], rfl, rfl, by rw [rD]; rfl, by decide, rfl, by decide, ok_of (by decide +kernel) rfl fun k hk => (by cases hk), rfl⟩
  | i + 4, h => by omega
/-! displays -/
section
variable {K : PySem.W.Frag} {te : TE} {ta : TA} {d : PyData} {ds : List PyData}
def Disp (K : PySem.W.Frag) (te : TE) (d : PyData) : Prop := ∀ (σ : L2.St) (H : Hp) (G : VK), (∀ v H', Same H H' → Dp K H' v d → G v H') → te σ H G
def DispA (K : PySem.W.Frag) (ta : TA) (ds : List PyData) : Prop := ∀ (σ : L2.St) (H : Hp) (G : List V → Hp → Prop), (∀ vs H', Same H H' → DpAll K H' vs ds → G vs H') → ta σ H G
theorem disp_int {n : Int} : Disp K (tC (.int n)) (.int n) := fun σ H G h => h _ _ (Same.refl _) (.int n)
theorem disp_str {n : Str} : Disp K (tC (.str n)) (.str n) := fun σ H G h => h _ _ (Same.refl _) (.str n)
theorem dispA_nil : DispA K tNil [] := fun σ H G h => h _ _ (Same.refl _) .nil
theorem dispA_cons (h1 : Disp K te d) (h2 : DispA K ta ds) : DispA K (tCons te ta) (d :: ds) := fun σ H G h =>
  h1 σ H _ fun v H1 s1 e1 => h2 σ H1 _ fun vs H2 s2 e2 => h _ _ (s1.trans s2) (.cons (dp_ext s2 _ _ e1) e2)
theorem disp_tup (h : DispA K ta ds) (hl : ds.length ≤ 100) : Disp K (tTup ta) (.tuple ds) := fun σ H G g =>
  h σ H _ fun vs H1 s1 e1 => ⟨le_line (by rw [dpAll_len e1]; omega), fun p hp => g _ _ (s1.trans (same_new hp)) (.tup (SqT.of upd_same) (dpAll_ext (same_new hp) _ _ e1))⟩
theorem disp_lst (h : DispA K ta ds) (hl : ds.length ≤ 100) : Disp K (tLst ta) (.list ds) := fun σ H G g =>
  h σ H _ fun vs H1 s1 e1 => ⟨le_line (by rw [dpAll_len e1]; omega), fun p hp => g _ _ (s1.trans (same_new hp)) (.lst (SqL.of upd_same) (dpAll_ext (same_new hp) _ _ e1))⟩
theorem dispA1 (h1 : Disp K te d) (σ : L2.St) (H : Hp) (G : List V → Hp → Prop) (h : ∀ v H', Same H H' → Dp K H' v d → G [v] H') : tCons te tNil σ H G := h1 σ H _ fun v H1 s1 e1 => h v H1 s1 e1
theorem disp1 {n : Int} : Disp K (tTup (tCons (tC (.int n)) tNil)) (dL [n]) := disp_tup (dispA_cons disp_int dispA_nil) (by show 1 ≤ 100; decide)
theorem disp2 {n m : Int} : Disp K (tTup (tCons (tC (.int n)) (tCons (tC (.int m)) tNil))) (dL [n, m]) := disp_tup (dispA_cons disp_int (dispA_cons disp_int dispA_nil)) (by show 2 ≤ 100; decide)
theorem disp4 {a1 b1 a2 b2 a3 b3 a4 b4 : Int} : Disp K (tTup (tCons (tTup (tCons (tC (.int a1)) (tCons (tC (.int b1)) tNil))) (tCons (tTup (tCons (tC (.int a2)) (tCons (tC (.int b2)) tNil))) (tCons (tTup (tCons (tC (.int a3)) (tCons (tC (.int b3)) tNil))) (tCons (tTup (tCons (tC (.int a4)) (tCons (tC (.int b4)) tNil))) tNil)))))
    (dR [[a1, b1], [a2, b2], [a3, b3], [a4, b4]]) := disp_tup (dispA_cons disp2 (dispA_cons disp2 (dispA_cons disp2 (dispA_cons disp2 dispA_nil)))) (by show 4 ≤ 100; decide)
theorem dispW1 {wd : Str} {n : Int} : Disp K (tTup (tCons (tC (.str wd)) (tCons (tTup (tCons (tC (.int n)) tNil)) tNil))) (.tuple [.str wd, dL [n]]) := disp_tup (dispA_cons disp_str (dispA_cons disp1 dispA_nil)) (by show 2 ≤ 100; decide)
theorem dispW2 {wd : Str} {n m : Int} : Disp K (tTup (tCons (tC (.str wd)) (tCons (tTup (tCons (tC (.int n)) (tCons (tC (.int m)) tNil))) tNil))) (.tuple [.str wd, dL [n, m]]) := disp_tup (dispA_cons disp_str (dispA_cons disp2 dispA_nil)) (by show 2 ≤ 100; decide)
theorem dispWi {wd : Str} {n : Int} : Disp K (tTup (tCons (tC (.str wd)) (tCons (tC (.int n)) tNil))) (.tuple [.str wd, .int n]) := disp_tup (dispA_cons disp_str (dispA_cons disp_int dispA_nil)) (by show 2 ≤ 100; decide)
theorem disp21 {n m k : Int} : Disp K (tTup (tCons (tTup (tCons (tC (.int n)) (tCons (tC (.int m)) tNil))) (tCons (tTup (tCons (tC (.int k)) tNil)) tNil))) (dR [[n, m], [k]]) := disp_tup (dispA_cons disp2 (dispA_cons disp1 dispA_nil)) (by show 2 ≤ 100; decide)
theorem disp0 : Disp K (tTup tNil) (dR []) := disp_tup dispA_nil (by show 0 ≤ 100; decide)
theorem dispLL {w1 w2 : Str} {n m k : Int} : Disp K (tLst (tCons (tTup (tCons (tC (.str w1)) (tCons (tTup (tCons (tC (.int n)) (tCons (tC (.int m)) tNil))) tNil))) (tCons (tTup (tCons (tC (.str w2)) (tCons (tTup (tCons (tC (.int k)) tNil)) tNil))) tNil))) (.list [.tuple [.str w1, dL [n, m]], .tuple [.str w2, dL [k]]]) :=
  disp_lst (dispA_cons dispW2 (dispA_cons dispW1 dispA_nil)) (by show 2 ≤ 100; decide)
end
/-- what stands -/
structure Hd (K : PySem.W.Frag) (T : List (Addr × Str)) (C : Addr) (H : Hp) (b : Addr) (hist : List Snap) : Prop where
  bk : BkOk K H C b 2 hist
  tb : LamX.Tabs T H
section
variable {K : PySem.W.Frag} {T : List (Addr × Str)} {C b : Addr} {H H' : Hp} {hist hist' : List Snap}
theorem Hd.same (h : Hd K T C H b hist) (e : Same H H') : Hd K T C H' b hist := ⟨h.bk.same e, h.tb.ext e⟩
theorem Hd.new {p : Addr} {o : HO} (h : Hd K T C H b hist) (e : H p = none) : Hd K T C (upd H p o) b hist := h.same (same_new e)
theorem Hd.bkE (h : Hd K T C H b hist) : ∃ dx past, H b = some (bkO C dx 2 past) := by
  obtain ⟨dx, past, xs, e, _⟩ := h.bk.ex
  exact ⟨dx, past, e⟩
theorem Hd.ext (h : Hd K T C H b hist) (e : LamX.ExtN H H') (t : LamX.Tabs T H') : Hd K T C H' b hist := by
  obtain ⟨dx, past, e1⟩ := h.bkE
  exact ⟨h.bk.at1 ((e _ _ e1 NoT.ins.1).trans e1.symm) (kt_ext e), t⟩
theorem Hd.book (h : Hd K T C H b hist) (bt : Bt [b] H H') (hk : BkOk K H' C b 2 hist') : Hd K T C H' b hist' := by
  obtain ⟨dx, past, e1⟩ := h.bkE
  refine ⟨hk, tabs_bt h.tb bt fun x hx => ?_⟩
  rcases List.mem_cons.mp hx with e | hx
  · rw [e]; exact ⟨_, e1, NoT.ins⟩
  · cases hx
end
section
variable {P : Program} {w : World} {K : PySem.W.Frag} {mg : Str → Option Value} {base : Heap} {C : Addr} {CR CK CN CI CB CM CL ct cd cp : Addr} {T : List (Addr × Str)}
theorem sc70 : FnScope ["_law_book", "_law_row_here", "_law_told_so"] [] (defScope (top 70)) := ⟨rfl, rfl, rfl, by decide +kernel, rfl, by decide +kernel, by decide +kernel⟩
def spHand (T : List (Addr × Str)) : Sp := fun vs H Q _ => vs = [] ∧ LamX.Tabs T H ∧ ∀ H', Q (.bl true) H'
theorem cal_hand (D : DfnC K mg (top 70) "_law_hand_right" cd) (Z : Fre mg) (BC : BkC K C) (BM : BkMk K mg C) (TD : ToldC K mg CR CK CN CI CB CM CL) (DT : DfnC K mg (top 62) "_law_told" ct) (TB : LamX.TabB base mg cd cp) (hmT : ((cp, ("_law_hand_right.<locals>.<lambda>" : Str)) : Addr × Str) ∈ T) (hu : ∀ p ∈ T, p.1 = cp → p.2 = "_law_hand_right.<locals>.<lambda>")
    (CIn : CalM P w K mg base Nx0 4 C "__init__" ["self", "columns"] (spInitB K C)) (CA : CalM P w K mg base (L2.CX P w) 4 C "add" ["self", "row"] (spAdd K C CB)) (CV : CalM P w K mg base (L2.CX P w) 4 C "remove" ["self", "row"] (spRemove K C CM))
    (CC : CalM P w K mg base (L2.CX P w) 5 C "claim" ["self", "lot"] (spClaim K C CB)) (CU : CalU P w K mg base (L2.CX P w) 2 C "undo" ["self", "many"] (spUndo K C CL))
    (CT : CalP P w K mg base Nx0 1 C "table" ["self"] (spTable K C)) (CH : CalP P w K mg base Nx0 1 C "held_keys" ["self"] (spHeld K C)) (CLn : CalM P w K mg base Nx0 1 C "__len__" ["self"] (spLenB K C)) : Cal P w K mg base Nx0 10 "_law_hand_right" [] (spHand T) := by
  refine D.cal0 sc70 (fun _ _ _ _ _ _ us hl => match us, hl with | [], _ => rfl) (fun vs H Q E ⟨h, _⟩ => by rw [h]; rfl) fun f A outer s0 H vs Q E hr h => ?_
  obtain ⟨rfl, hT, q⟩ := h
  have nd := sc70.nd
  have hu64 := hr.units
  have hr5 : Room (4 + 1) _ := hr.mono (by decide)
  have hr7 : Room (7 + 2) _ := hr
  refine ⟨_, pss_cons (ps_set (i := 0) nd rfl (.inr rfl) (pe_mkB CIn BM hr5 (pa_cons pe_int pa_nil))) (pss_cons (ps_for PassesOwn.never rfl (pi_tup (pe_tup (pa_cons (pe_tup (pa_cons pe_int (pa_cons pe_int pa_nil))) (pa_cons (pe_tup (pa_cons pe_int (pa_cons pe_int pa_nil))) (pa_cons (pe_tup (pa_cons pe_int (pa_cons pe_int pa_nil))) (pa_cons (pe_tup (pa_cons pe_int (pa_cons pe_int pa_nil))) pa_nil)))))) (pg_name (i := 1) nd rfl (.inl rfl)) (pss_one (ps_expr (pe_cm (E := L2.E0) CA (pv 0) BC.cl (hr.mono (by decide)) passE0 (pa_cons (pv 1) pa_nil))))) (pss_cons (ps_if (PW.pt (pw_or (pt_cmpR ((op_neD hu64)) (pe_pr CT (pv 0) BC.cl (hr.mono (by decide)) (by rfl)) (pe_tup (pa_cons (pe_tup (pa_cons pe_int (pa_cons pe_int pa_nil))) (pa_cons (pe_tup (pa_cons pe_int (pa_cons pe_int pa_nil))) (pa_cons (pe_tup (pa_cons pe_int (pa_cons pe_int pa_nil))) (pa_cons (pe_tup (pa_cons pe_int (pa_cons pe_int pa_nil))) pa_nil))))) (nomark _)) (pw_or1 (pt_cmpR ((op_neD hu64)) (pe_told (t := fun E => tMeth C "claim" (spClaim K C CB) [] E (tVar 0) (tCons (tTup (tCons (tC (.int 0)) (tNil))) tNil)) TD DT TB hmT hu hr7 (LamX.lamS_by (sc := defScope (top 70)) (by decide +kernel)) (fun A outer s H E f c' hr2 => pe_cm CC (pv 0) BC.cl (hr2.mono (by decide)) (passes_call (takes_of rfl rfl rfl rfl) (fun _ _ _ _ h => h)) (pa_cons (pe_tup (pa_cons pe_int pa_nil)) pa_nil))) (pe_tup (pa_cons pe_str (pa_cons (pe_tup (pa_cons pe_int pa_nil)) pa_nil))) (nomark _))))) (pss_one (ps_ret pe_bl)) pss_nil) (pss_cons (ps_expr (pe_cm (E := L2.E0) CV (pv 0) BC.cl (hr.mono (by decide)) passE0 (pa_cons (pe_tup (pa_cons pe_int (pa_cons pe_int pa_nil))) pa_nil))) (pss_cons (ps_expr (pe_cm (E := L2.E0) CC (pv 0) BC.cl (hr.mono (by decide)) passE0 (pa_cons (pe_tup (pa_cons pe_int pa_nil)) pa_nil))) (pss_cons (ps_expr (pe_cm (E := L2.E0) CC (pv 0) BC.cl (hr.mono (by decide)) passE0 (pa_cons (pe_tup (pa_cons pe_int (pa_cons pe_int pa_nil))) pa_nil))) (pss_cons (ps_expr (pe_cm (E := L2.E0) CC (pv 0) BC.cl (hr.mono (by decide)) passE0 (pa_cons (pe_tup (pa_cons pe_int pa_nil)) pa_nil))) (pss_cons (ps_if (PW.pt (pw_or (pt_cmpR ((op_neD hu64)) (pe_pr CH (pv 0) BC.cl (hr.mono (by decide)) (by rfl)) (pe_tup (pa_cons (pe_tup (pa_cons pe_int (pa_cons pe_int pa_nil))) (pa_cons (pe_tup (pa_cons pe_int pa_nil)) pa_nil))) (nomark _)) (pw_or1 (pt_cmpR op_ne (pe_callB ((call_lenO (E := L2.E0) CLn (hr.mono (by decide)) pass0')) (by rfl) Z.len PySem.boot_len (pa_cons (pv 0) pa_nil)) pe_int (nomark _))))) (pss_one (ps_ret pe_bl)) pss_nil) (pss_cons (ps_set (i := 2) nd rfl (.inl rfl) (pe_lst (pa_cons (pe_told (t := fun E => tMeth C "add" (spAdd K C CB) [] E (tVar 0) (tCons (tTup (tCons (tC (.int 0)) (tCons (tC (.int 2)) (tNil)))) tNil)) TD DT TB hmT hu hr7 (LamX.lamS_by (sc := defScope (top 70)) (by decide +kernel)) (fun A outer s H E f c' hr2 => pe_cm CA (pv 0) BC.cl (hr2.mono (by decide)) (passes_call (takes_of rfl rfl rfl rfl) (fun _ _ _ _ h => h)) (pa_cons (pe_tup (pa_cons pe_int (pa_cons pe_int pa_nil))) pa_nil))) (pa_cons (pe_toldD (t := fun E => tMeth C "add" (spAdd K C CB) [] E (tVar 0) (tCons (tTup (tCons (tC (.int 9)) (tCons (tC (.int 5)) (tNil)))) tNil)) 0 TD DT TB hmT hu hr7 (lamD_by (N := ["_law_book", "_law_row_here", "_law_told_so"]) (sc := defScope (top 70)) (y0 := "_law_own") (by decide +kernel)) (fun A outer s H E f c' hr2 => pe_cm CA (pv 0) BC.cl (hr2.mono (by decide)) (passes_call (takes_of rfl rfl rfl rfl) (fun _ _ _ _ h => h)) (pa_cons (pe_tup (pa_cons pe_int (pa_cons pe_int pa_nil))) pa_nil)) pe_int) pa_nil)))) (pss_cons (ps_if (pt_cmpR ((op_neD hu64)) (pv 2) (pe_lst (pa_cons (pe_tup (pa_cons pe_str (pa_cons (pe_tup (pa_cons pe_int (pa_cons pe_int pa_nil))) pa_nil))) (pa_cons (pe_tup (pa_cons pe_str (pa_cons (pe_tup (pa_cons pe_int pa_nil)) pa_nil))) pa_nil))) (nomark _)) (pss_one (ps_ret pe_bl)) pss_nil) (pss_cons (ps_expr (pe_cm (E := L2.E0) CU.m (pv 0) BC.cl (hr.mono (by decide)) passE0 (pa_cons pe_int pa_nil))) (pss_cons (ps_if (PW.pt (pw_or (pt_cmpR ((op_neD hu64)) (pe_pr CH (pv 0) BC.cl (hr.mono (by decide)) (by rfl)) (pe_tup pa_nil) (nomark _)) (pw_or1 (pt_cmpR ((op_neD hu64)) (pe_pr CT (pv 0) BC.cl (hr.mono (by decide)) (by rfl)) (pe_tup (pa_cons (pe_tup (pa_cons pe_int (pa_cons pe_int pa_nil))) (pa_cons (pe_tup (pa_cons pe_int (pa_cons pe_int pa_nil))) (pa_cons (pe_tup (pa_cons pe_int (pa_cons pe_int pa_nil))) (pa_cons (pe_tup (pa_cons pe_int (pa_cons pe_int pa_nil))) pa_nil))))) (nomark _))))) (pss_one (ps_ret pe_bl)) pss_nil) (pss_one (ps_ret (pe_and (pe_cmpR ((op_eqD hu64)) (pe_told (t := fun E => tMeth C "undo" (spUndo K C CL) [] E (tVar 0) (tCons (tC (.int 5)) tNil)) TD DT TB hmT hu hr7 (LamX.lamS_by (sc := defScope (top 70)) (by decide +kernel)) (fun A outer s H E f c' hr2 => pe_cm CU.m (pv 0) BC.cl (hr2.mono (by decide)) (passes_call (takes_of rfl rfl rfl rfl) (fun _ _ _ _ h => h)) (pa_cons (pe_int) pa_nil))) (pe_tup (pa_cons pe_str (pa_cons pe_int pa_nil))) (nomark _)) (pe_one (pe_cmpR op_eq (pe_callB ((call_lenO (E := L2.E0) CLn (hr.mono (by decide)) pass0')) (by rfl) Z.len PySem.boot_len (pa_cons (pv 0) pa_nil)) pe_int (nomark _))))))))))))))))), ?_⟩
  refine fun b dx hb hdx nbd => ⟨b, dx, 2, rfl, upd_same, by decide, by decide, fun H2 hbk bt kt => ⟨rfl, ?_⟩⟩
  have sm : Same H (upd (upd H dx (.own b)) b (.ins C dx [])) := (same_new hdx).trans (same_new (by rw [upd_ne nbd.symm]; exact hb))
  have hT2 : LamX.Tabs T H2 := tabs_bt (hT.ext sm) bt fun x hx => by
    rcases List.mem_cons.mp hx with e | hx
    · rw [e]; exact ⟨_, upd_same, NoT.ins⟩
    · cases hx
  have h2 : Hd K T C H2 b (hsL.take 1) := ⟨hbk, hT2⟩
  refine ⟨by show 2 ≤ sizeLine; decide, fun p1 h1 => ⟨by show 2 ≤ sizeLine; decide, fun p2 h2' => ⟨by show 2 ≤ sizeLine; decide, fun p3 h3 => ⟨by show 2 ≤ sizeLine; decide, fun p4 h4 => ⟨by show 4 ≤ sizeLine; decide, fun pi hpi => ?_⟩⟩⟩⟩⟩
  have t1 := same_new (o := .tup [.int 1, .int 0]) h1
  have t2 := same_new (o := .tup [.int 0, .int 5]) h2'
  have t3 := same_new (o := .tup [.int 1, .int 0]) h3
  have t4 := same_new (o := .tup [.int 0, .int 2]) h4
  have t5 := same_new (o := .tup [.ref p1, .ref p2, .ref p3, .ref p4]) hpi
  have s3 := (((t1.trans t2).trans t3).trans t4).trans t5
  have q1 := t5 _ _ (t4 _ _ (t3 _ _ (t2 _ _ upd_same)))
  have q2 := t5 _ _ (t4 _ _ (t3 _ _ upd_same))
  have q3 := t5 _ _ (t4 _ _ upd_same)
  have q4 := t5 _ _ upd_same
  have q5 : upd (upd (upd (upd (upd H2 p1 (.tup [.int 1, .int 0])) p2 (.tup [.int 0, .int 5])) p3 (.tup [.int 1, .int 0])) p4 (.tup [.int 0, .int 2])) pi (.tup [.ref p1, .ref p2, .ref p3, .ref p4]) pi = some (.tup [.ref p1, .ref p2, .ref p3, .ref p4]) := upd_same
  generalize upd (upd (upd (upd (upd H2 p1 (.tup [.int 1, .int 0])) p2 (.tup [.int 0, .int 5])) p3 (.tup [.int 1, .int 0])) p4 (.tup [.int 0, .int 2])) pi (.tup [.ref p1, .ref p2, .ref p3, .ref p4]) = H3 at s3 q1 q2 q3 q4 q5
  have hqi : SqT K H3 pi [.ref p1, .ref p2, .ref p3, .ref p4] := SqT.of q5
  have hdi : DpAll K H3 [.ref p1, .ref p2, .ref p3, .ref p4] (rowsL.map dL) := .cons (.tup (SqT.of q1) (.cons (.int _) (.cons (.int _) .nil))) (.cons (.tup (SqT.of q2) (.cons (.int _) (.cons (.int _) .nil))) (.cons (.tup (SqT.of q3) (.cons (.int _) (.cons (.int _) .nil))) (.cons (.tup (SqT.of q4) (.cons (.int _) (.cons (.int _) .nil))) .nil)))
  generalize exi : [V.ref p1, V.ref p2, V.ref p3, V.ref p4] = xi at hqi hdi
  have leni : xi.length = 4 := by rw [← exi]; rfl
  refine ⟨pi, rfl, ⟨_, hqi⟩, for_tup (K := K) (a := pi) (xs := xi) (fun i σ H' => ∃ rv : Option V, σ = [some (.ref b), rv, none] ∧ KT H3 H' ∧ Hd K T C H' b (hsL.take (i + 1))) ⟨none, rfl, KT.refl _, h2.same s3⟩ (fun i σ H' _ ⟨_, _, k, _⟩ => SqT.kt k hqi) ?_ ?_⟩
  · rintro i v σ H' hv ⟨rv, rfl, k, hh⟩
    have hi : i < 4 := by rw [← leni]; exact (List.getElem?_eq_some_iff.mp hv).1
    obtain ⟨hs, s, r, e1, e2, e3, l4, elots, l4r, ok, rl⟩ := stepL i hi
    obtain ⟨d, h3, h4⟩ := dpAll_get (dpAll_kt k _ _ (tonly_all tonly_dL rowsL) hdi) hv
    obtain ⟨r', h5, rfl⟩ := map_at (l := rowsL) h3
    obtain rfl : r = r' := Option.some.inj (e2.symm.trans h5)
    rw [e1] at hh
    obtain ⟨dx, past, eb⟩ := hh.bkE
    refine ⟨_, rfl, b, dx, _, rfl, eb, rfl, _, rfl, b, 2, hs, s, v, r, rfl, hh.bk, by omega, ok, by decide, by omega, h4, rl, fun k hk => (by rw [elots] at hk; cases hk), fun hb0 H6 hbk bt kt => ?_⟩
    exact ⟨_, rfl, k.trans kt, by rw [e3]; exact hh.book bt hbk⟩
  rintro σ H4 ⟨rv, rfl, k4, hh⟩
  rw [leni] at hh
  have h4 : Hd K T C H4 b ([snap0, sA, sB, sC] ++ [sD]) := hh
  obtain ⟨dx4, past4, e4⟩ := h4.bkE
  refine ⟨_, rfl, b, dx4, _, rfl, e4, b, 2, _, sD, rfl, h4.bk, fun v hv => ?_⟩
  refine disp4 (K := K) _ _ _ fun v2 H5 s5 hv2 => ?_
  refine ⟨dR sD.rows, _, dp_ext s5 _ _ hv, hv2, shaped_dR _, shaped_dR _, _, rfl, ?_⟩
  rw [eqv_dR]
  refine itF (by decide +kernel) ?_
  have h5 := h4.same s5
  refine ⟨h5.tb, fun H6 eN T6 => ?_⟩
  have h6 := h5.ext eN T6
  obtain ⟨dx6, past6, e6⟩ := h6.bkE
  refine ⟨_, rfl, b, dx6, _, rfl, e6, rfl, ?_⟩
  refine dispA1 (disp1 (K := K)) _ _ _ fun v6 H7 s7 hv6 => ?_
  have h7 := h6.same s7
  refine ⟨b, 2, [snap0, sA, sB, sC], sD, v6, [0], rfl, h7.bk, by decide, by decide, by decide, by decide, rows2 (by decide +kernel), hv6, lot2a, .inr (by decide), fun _ _ Ha d sa hd => toldB fun p1 hp1 => ?_, fun h => (by cases h), fun _ h => (by rw [kD] at h; cases h)⟩
  have sd := same_new (o := .xd [("given", v6)]) hd
  have se := same_new (o := .tup [.str "broken", v6]) hp1
  have ske := (sa.trans sd).trans se
  have hp1' : Dp K _ (.ref p1) (.tuple [.str "broken", dL [0]]) := .tup (SqT.of (upd_same (H := upd Ha d (.xd [("given", v6)])) (a := p1) (o := .tup [.str "broken", v6]))) (.cons (.str _) (.cons (dp_ext ske _ _ hv6) .nil))
  refine dispW1 (K := K) _ _ _ fun v8 H8 s8 hv8 => ?_
  have h8 := h7.same (ske.trans s8)
  refine ⟨_, _, dp_ext s8 _ _ hp1', hv8, by decide +kernel, by decide +kernel, _, rfl, ?_⟩
  refine itF (by decide +kernel) ?_
  -- remove((1, 0))
  obtain ⟨dx8, past8, e8⟩ := h8.bkE
  refine ⟨_, rfl, b, dx8, _, rfl, e8, rfl, ?_⟩
  refine dispA1 (disp2 (K := K)) _ _ _ fun v9 H9 s9 hv9 => ?_
  have h9 := h8.same s9
  refine ⟨b, 2, [snap0, sA, sB, sC], sD, v9, [1, 0], rfl, h9.bk, by decide, by decide, by decide, hv9, rfl, fun h => absurd (show [1, 0] ∈ sD.rows by decide +kernel) h, fun _ Ha hbk bt kt => ?_⟩
  rw [rE] at hbk
  have ha := h9.book bt hbk
  -- claim((1,))
  obtain ⟨dxa, pasta, ea⟩ := ha.bkE
  refine ⟨_, rfl, b, dxa, _, rfl, ea, rfl, ?_⟩
  refine dispA1 (disp1 (K := K)) _ _ _ fun vb Hb sb hvb => ?_
  have hb' := ha.same sb
  refine ⟨b, 2, [snap0, sA, sB, sC] ++ [sD], sE, vb, [1], rfl, hb'.bk, by decide, by decide, by decide, by decide, rows2 (by decide +kernel), hvb, lot2b, .inr (by decide), fun _ h => (by rw [kE] at h; cases h), fun h => (by cases h), fun _ _ Hc hbk bt kt => ?_⟩
  rw [rF] at hbk
  have hc := hb'.book bt hbk
  -- claim((0, 1))
  obtain ⟨dxc, pastc, ec⟩ := hc.bkE
  refine ⟨_, rfl, b, dxc, _, rfl, ec, rfl, ?_⟩
  refine dispA1 (disp2 (K := K)) _ _ _ fun vd Hd' sd' hvd => ?_
  have hd' := hc.same sd'
  refine ⟨b, 2, [snap0, sA, sB, sC] ++ [sD] ++ [sE], sF, vd, [0, 1], rfl, hd'.bk, by decide, by decide, by decide, by decide, rows2 (by decide +kernel), hvd, lot2c, .inr (by decide), fun _ h => (by rw [kF] at h; cases h), fun h => absurd h (by decide +kernel), fun _ _ He hbk bt kt => ?_⟩
  rw [rG] at hbk
  have he := hd'.book bt hbk
  -- claim((1,)) once more
  obtain ⟨dxe, paste, ee⟩ := he.bkE
  refine ⟨_, rfl, b, dxe, _, rfl, ee, rfl, ?_⟩
  refine dispA1 (disp1 (K := K)) _ _ _ fun vf Hf sf hvf => ?_
  have hf := he.same sf
  refine ⟨b, 2, [snap0, sA, sB, sC] ++ [sD] ++ [sE] ++ [sF], sG, vf, [1], rfl, hf.bk, by decide, by decide, by decide, by decide, rows2 (by decide +kernel), hvf, lot2b, .inl (by decide +kernel), fun h => absurd (show [1] ∈ sG.lots by decide +kernel) h, fun _ Hg sg => ?_, fun h => absurd (show [1] ∈ sG.lots by decide +kernel) h⟩
  have hg := hf.same sg
  -- held_keys, len
  obtain ⟨dxg, pastg, eg⟩ := hg.bkE
  refine ⟨_, rfl, b, dxg, _, rfl, eg, b, 2, [snap0, sA, sB, sC] ++ [sD] ++ [sE] ++ [sF], sG, rfl, hg.bk, fun vh hvh => ?_⟩
  refine disp21 (K := K) _ _ _ fun vi Hi si hvi => ?_
  have hi := hg.same si
  refine ⟨dR sG.lots, _, dp_ext si _ _ hvh, hvi, shaped_dR _, shaped_dR _, _, rfl, ?_⟩
  rw [eqv_dR]
  refine itF (by decide +kernel) ?_
  obtain ⟨dxi, pasti, ei⟩ := hi.bkE
  refine ⟨_, rfl, b, dxi, _, rfl, ei, b, 2, [snap0, sA, sB, sC] ++ [sD] ++ [sE] ++ [sF], sG, rfl, hi.bk, fun Hj sj => ⟨_, rfl, by decide, rfl, _, rfl, itF (by decide) ?_⟩⟩
  have hj := hi.same sj
  -- told twice
  refine ⟨hj.tb, fun Hk eN Tk => ?_⟩
  have hk := hj.ext eN Tk
  obtain ⟨dxk, pastk, ek⟩ := hk.bkE
  refine ⟨_, rfl, b, dxk, _, rfl, ek, rfl, ?_⟩
  refine dispA1 (disp2 (K := K)) _ _ _ fun vl Hl sl hvl => ?_
  have hl := hk.same sl
  refine ⟨b, 2, [snap0, sA, sB, sC] ++ [sD] ++ [sE] ++ [sF], sG, vl, [0, 2], rfl, hl.bk, by decide, okG, by decide, by decide, hvl, rfl, fun k hk2 Hm d2 x2 sm2 hd2 hx2 => toldB fun p2 hp2 => ?_, fun h => (by rw [b1] at h; cases h)⟩
  rw [b1] at hk2
  obtain rfl := Option.some.inj hk2
  have sn := same_new (o := .xd [("given", x2)]) hd2
  have so := same_new (o := .tup [.str "broken", x2]) hp2
  have sno := (sm2.trans sn).trans so
  have hP2 : Dp K _ (.ref p2) (.tuple [.str "broken", dL [0, 1]]) := .tup (SqT.of (upd_same (H := upd Hm d2 (.xd [("given", x2)])) (a := p2) (o := .tup [.str "broken", x2]))) (.cons (.str _) (.cons (dp_ext (sn.trans so) _ _ hx2) .nil))
  have hn := hl.same sno
  generalize upd (upd Hm d2 (.xd [("given", x2)])) p2 (.tup [.str "broken", x2]) = Hn at hn hP2
  refine ⟨hn.tb, fun Ho eO To => ?_⟩
  have ho := hn.ext eO To
  have hP3 := dp_kt (kt_ext eO) _ _ (by decide +kernel) hP2
  obtain ⟨dxo, pasto, eo⟩ := ho.bkE
  refine ⟨_, rfl, b, dxo, _, rfl, eo, rfl, ?_⟩
  refine dispA1 (disp2 (K := K)) _ _ _ fun vq Hq sq hvq => ?_
  have hq := ho.same sq
  refine ⟨b, 2, [snap0, sA, sB, sC] ++ [sD] ++ [sE] ++ [sF], sG, vq, [9, 5], rfl, hq.bk, by decide, okG, by decide, by decide, hvq, rfl, fun k hk2 Hr d3 x3 sm3 hd3 hx3 => toldB fun p3 hp3 => ?_, fun h => (by rw [b2] at h; cases h)⟩
  rw [b2] at hk2
  obtain rfl := Option.some.inj hk2
  have sr := same_new (o := .xd [("given", x3)]) hd3
  have ss := same_new (o := .tup [.str "broken", x3]) hp3
  have srs := (sm3.trans sr).trans ss
  have hP4 : Dp K _ (.ref p3) (.tuple [.str "broken", dL [1]]) := .tup (SqT.of (upd_same (H := upd Hr d3 (.xd [("given", x3)])) (a := p3) (o := .tup [.str "broken", x3]))) (.cons (.str _) (.cons (dp_ext (sr.trans ss) _ _ hx3) .nil))
  have hP5 := dp_ext (sq.trans srs) _ _ hP3
  have hs := hq.same srs
  generalize upd (upd Hr d3 (.xd [("given", x3)])) p3 (.tup [.str "broken", x3]) = Hs at hs hP4 hP5
  refine ⟨by show 2 ≤ sizeLine; decide, fun p4 hp4 => ?_⟩
  have st' := same_new (o := .lst [.ref p2, .ref p3]) hp4
  have ht := hs.same st'
  have hP6 : Dp K _ (.ref p4) (.list [.tuple [.str "broken", dL [0, 1]], .tuple [.str "broken", dL [1]]]) := .lst (SqL.of (upd_same (H := Hs) (a := p4) (o := .lst [.ref p2, .ref p3]))) (.cons (dp_ext st' _ _ hP5) (.cons (dp_ext st' _ _ hP4) .nil))
  refine ⟨_, rfl, ?_⟩
  refine dispLL (K := K) _ _ _ fun vu Hu su hvu => ?_
  have hu' := ht.same su
  refine ⟨_, _, dp_ext su _ _ hP6, hvu, by decide +kernel, by decide +kernel, _, rfl, ?_⟩
  refine itF (by decide +kernel) ?_
  -- undo(3)
  obtain ⟨dxu, pastu, eu⟩ := hu'.bkE
  refine ⟨_, rfl, b, dxu, _, rfl, eu, rfl, b, 2, [snap0, sA, sB, sC] ++ [sD] ++ [sE] ++ [sF] ++ [sG], 3, rfl, hu'.bk, by decide, by decide, by decide, fun h => absurd h (by decide), fun _ Hv hbk bt kt => ?_⟩
  have hv' : Hd K T C Hv b ([snap0, sA, sB, sC] ++ [sD]) := hu'.book bt hbk
  -- held_keys, table
  obtain ⟨dxv, pastv, ev⟩ := hv'.bkE
  refine ⟨_, rfl, b, dxv, _, rfl, ev, b, 2, [snap0, sA, sB, sC], sD, rfl, hv'.bk, fun vw hvw => ?_⟩
  refine disp0 (K := K) _ _ _ fun vx Hx sx hvx => ?_
  have hx := hv'.same sx
  refine ⟨dR sD.lots, _, dp_ext sx _ _ hvw, hvx, shaped_dR _, shaped_dR _, _, rfl, ?_⟩
  rw [eqv_dR]
  refine itF (by decide +kernel) ?_
  obtain ⟨dxx, pastx, ex⟩ := hx.bkE
  refine ⟨_, rfl, b, dxx, _, rfl, ex, b, 2, [snap0, sA, sB, sC], sD, rfl, hx.bk, fun vy hvy => ?_⟩
  refine disp4 (K := K) _ _ _ fun vz Hz sz hvz => ?_
  have hz := hx.same sz
  refine ⟨dR sD.rows, _, dp_ext sz _ _ hvy, hvz, shaped_dR _, shaped_dR _, _, rfl, ?_⟩
  rw [eqv_dR]
  refine itF (by decide +kernel) ?_
  -- undo(5)
  refine ⟨hz.tb, fun H10 e10 T10 => ?_⟩
  have h10 := hz.ext e10 T10
  obtain ⟨dx10, past10, eb10⟩ := h10.bkE
  refine ⟨_, rfl, b, dx10, _, rfl, eb10, rfl, b, 2, [snap0, sA, sB, sC] ++ [sD], 5, rfl, h10.bk, by decide, by decide, by decide, fun _ d5 hd5 => toldL fun p5 hp5 => ?_, fun h => absurd h (by decide)⟩
  have s11 := same_new (o := .xd [("many", .int (5 : Nat))]) hd5
  have s12 := same_new (o := .tup [.str "left", .int (5 : Nat)]) hp5
  have hP7 : Dp K _ (.ref p5) (.tuple [.str "left", .int 5]) := .tup (SqT.of (upd_same (H := upd H10 d5 (.xd [("many", .int (5 : Nat))])) (a := p5) (o := .tup [.str "left", .int (5 : Nat)]))) (.cons (.str _) (.cons (.int _) .nil))
  have h12 := h10.same (s11.trans s12)
  refine dispWi (K := K) _ _ _ fun v13 H13 s13 hv13 => ?_
  have h13 := h12.same s13
  refine ⟨_, _, dp_ext s13 _ _ hP7, hv13, by decide +kernel, by decide +kernel, true, by decide +kernel, itT rfl ?_⟩
  obtain ⟨dx13, past13, e13⟩ := h13.bkE
  refine ⟨_, rfl, b, dx13, _, rfl, e13, b, 2, [snap0, sA, sB, sC], sD, rfl, h13.bk, fun H14 s14 => ⟨_, rfl, by decide, rfl, ?_⟩⟩
  exact q H14
end
end K25
end

section
-- BLaw
set_option Elab.async false
set_option linter.all false
set_option maxRecDepth 100000
set_option maxHeartbeats 4000000
set_option autoImplicit false
/-! law -/
namespace K25
open PySem PySem.Spec PyProof.Rows L2
section
variable {P : Program} {w : World} {K : PySem.W.Frag} {mg : Str → Option Value} {base : Heap} {T : List (Addr × Str)}
theorem sc71 : FnScope ["_law_script", "_law_state", "_law_turn"] ["_law_script"] (defScope (top 71)) := ⟨rfl, rfl, rfl, by decide +kernel, rfl, by decide +kernel, by decide +kernel⟩
def spLaw (K : PySem.W.Frag) (T : List (Addr × Str)) : Sp := fun vs H Q _ => ∃ (a : Addr) (ns : List Int), vs = [.ref a] ∧ SqL K H a (ns.map V.int) ∧ ns.length ≤ 63 ∧ LamX.Tabs T H ∧ ∀ H', Q (.bl true) H'
theorem fn_law {f0 : Addr} {fd : FuncData} (D : FunD K "law" "law" (defArgs (top 71)) (defBody (top 71)) (defScope (top 71)) [] [] f0 fd) (Z : Fre mg) (CB : Cal P w K mg base Nx0 1 "_law_begin" ["_law_script"] (spBegin K)) (CR : CalG P w K mg base Nx0 12 "_law_right" ["_law_state"] (spRight T)) (CH : Cal P w K mg base Nx0 10 "_law_hand_right" [] (spHand T)) :
    FnG P w K mg base Nx0 13 f0 fd ["_law_script"] (spLaw K T) := by
  refine fnG_of D sc71 (fun vs H Q E ⟨_, _, h, _⟩ => by rw [h]; rfl) fun f cdv A outer s0 H vs Q E hG hr h => ?_
  obtain ⟨a, ns, rfl, hS, hl, hT, q⟩ := h
  have nd := sc71.nd
  have hr1 : Room 1 _ := hr.mono (by decide)
  have hr10 : Room 10 _ := hr.mono (by decide)
  refine ⟨_, pss_cons (ps_set (i := 1) nd rfl (.inl rfl) (pe_cn CB hr1 (pa_cons (pv 0) pa_nil))) (pss_cons (ps_for PassesOwn.never rfl (pi_range1 (by rfl) Z.range (pa_cons (pe_op op_add pe_int (pe_callB ((call_min2 rfl)) (by rfl) Z.min (by decide +kernel) (pa_cons (pe_callB call_len_seq (by rfl) Z.len PySem.boot_len (pa_cons (pv 0) pa_nil)) (pa_cons pe_int pa_nil)))) pa_nil)) (pg_name (i := 2) nd rfl (.inl rfl)) (pss_one (ps_if (pt_not (pt_val (pe_cg CR hG hr (pa_cons (pv 1) pa_nil)))) (pss_one (ps_ret pe_bl)) pss_nil))) (pss_one (ps_ret (pe_cn0 CH hr10)))), ?_⟩
  refine ⟨_, rfl, a, ns, rfl, hS, hl, fun H1 st cl ll so s1 _ _ => ?_⟩
  have hT1 := hT.ext s1
  have hm : (min (ns.length : Int) 6) ≤ 6 ∧ 0 ≤ min (ns.length : Int) 6 := by omega
  refine ⟨_, rfl, a, _, rfl, .inl (sql_same hS s1), _, _, rfl, _, _, rfl, rfl, ?_⟩
  refine ⟨_, rfl, ?_, ?_, for_range (lo := 0) (fun i σ H' => ∃ kv : Option V, σ = [some (.ref a), some (.ref st), kv] ∧ StOk H' st cl ll (282 * i) ∧ LamX.Tabs T H') ⟨none, rfl, so, hT1⟩ ?_ ?_⟩
  · split <;> omega
  · split <;> omega
  · rintro i σ H' hi ⟨kv, rfl, so', hT'⟩
    have hi9 : i < 9 := by
      have hi : i < (3 + (if (6 : Int) < (ns.map V.int).length then 6 else ((ns.map V.int).length : Int))).toNat := hi
      split at hi <;> omega
    refine ⟨_, rfl, st, cl, ll, 282 * i, rfl, so', hT', by omega, fun H2 so2 hT2 => ⟨true, rfl, itF rfl ⟨_, rfl, so2, hT2⟩⟩⟩
  · rintro σ H' ⟨kv, rfl, so', hT'⟩
    exact ⟨rfl, hT', q⟩
end
end K25
end

section
-- XEnd
set_option Elab.async false
set_option linter.all false
set_option maxRecDepth 100000
set_option maxHeartbeats 4000000
/-! The law's row ends: the law's def is called where no repr is under way. -/
namespace K25
open PySem PySem.Spec PyProof.Rows L2 LamX
/-- what the caller of the law finds: the script at a, the tables empty -/
structure AtCall (K : PySem.W.Frag) (mg mb : Str → Option Value) (cs : List (Addr × Addr)) (a : Addr) (vs : List Value) (ns : List Int) (s : Shared) : Prop where
  kin : K.In s.heap
  g : s.heap.Ns mainGlobals mg
  b : s.heap.Ns builtinsNs mb
  bb : ∀ x : Str, x ≠ "__name__" → mb x = bootBuiltins x
  lim : s.heap.NoLimit
  gen : s.gens = #[]
  tab : ∀ p ∈ cs, s.heap.get? p.2 = some { cls := .none, data := .fields #[] }
  out : ∀ p ∈ cs, K.lookup p.2 = none
  hd : ∀ p ∈ cs, PySem.W.CodeHd s.heap p.1 p.2
  bm : ∃ (bm : Addr) (ob : Obj), mg "__builtins__" = some (.ref bm) ∧ bm ≠ builtinsNs ∧ s.heap.get? bm = some ob ∧ ob.cls = .type "module" ∧ ob.dict = some builtinsNs ∧ ob.data = .plain
  ls : s.heap.get? a = some { cls := .type "list", data := .seq vs.toArray }
  inn : IntsAre vs ns
/-- the tracked heap at the call: the tables; the script, if the written part does not hold it -/
structure Trk (K : PySem.W.Frag) (P : Program) (w : World) (cs : List (Addr × Addr)) (a : Addr) (ns : List Int) (s : Shared) (H : Hp) : Prop where
  tbl : ∀ p ∈ cs, H p.2 = some (.tbl #[])
  all : ∀ b u, H b = some u → (b ∈ cs.map (·.2) ∧ u = .tbl #[]) ∨ (b = a ∧ K.lookup a = none ∧ ∃ o xs, u = .frz o (.lst xs))
  sq : SqL K H a (ns.map V.int)
  ok : HOk P w H s.heap
section
variable {P : Program} {w : World} {K : PySem.W.Frag} {mg mb : Str → Option Value} {cs : List (Addr × Addr)} {a : Addr} {vs : List Value} {ns : List Int} {s : Shared} {H : Hp}
theorem AtCall.isTab (c : AtCall K mg mb cs a vs ns s) {b : Addr} (h : b ∈ cs.map (·.2)) : s.heap.get? b = some { cls := .none, data := .fields #[] } ∧ K.lookup b = none := by
  obtain ⟨p, hp, e⟩ := List.mem_map.mp h
  subst e
  exact ⟨c.tab p hp, c.out p hp⟩
theorem AtCall.noTab (c : AtCall K mg mb cs a vs ns s) : a ∉ cs.map (·.2) := fun z => by
  have q := (c.isTab z).1.symm.trans c.ls
  injection q with q
  injection q with _ _ q _
  cases q
/-- some such heap there is -/
theorem AtCall.trk (c : AtCall K mg mb cs a vs ns s) (hl : ns.length ≤ sizeLine) : ∃ H, Trk K P w cs a ns s H := by
  have rv := vals_ints c.inn
  have lv := c.inn.length
  have mem : ∀ p ∈ cs, p.2 ∈ cs.map (·.2) := fun p hp => List.mem_map.mpr ⟨p, hp, rfl⟩
  cases hk : K.lookup a with
  | some o =>
    have e : o = { cls := .type "list", data := .seq vs.toArray } := Option.some.inj ((c.kin a o hk).symm.trans c.ls)
    subst e
    refine ⟨fun b => if b ∈ cs.map (·.2) then some (.tbl #[]) else none, fun p hp => if_pos (mem p hp), fun b u z => ?_, .inr ⟨_, vs.toArray, _, hk, rfl, rfl, rfl, by rw [List.size_toArray, lv]; exact hl, by simpa using rv⟩, fun b u z => ?_⟩
    · by_cases hb : b ∈ cs.map (·.2)
      · simp only [hb, if_true] at z
        exact .inl ⟨hb, (Option.some.inj z).symm⟩
      · simp only [hb, if_false] at z
        cases z
    · by_cases hb : b ∈ cs.map (·.2)
      · simp only [hb, if_true] at z
        rw [← Option.some.inj z]
        exact (c.isTab hb).1
      · simp only [hb, if_false] at z
        cases z
  | none =>
    refine ⟨fun b => if b = a then some (.frz { cls := .type "list", data := .seq vs.toArray } (.lst (ns.map V.int))) else if b ∈ cs.map (·.2) then some (.tbl #[]) else none, fun p hp => ?_, fun b u z => ?_, .inl (.inr ⟨_, if_pos rfl⟩), fun b u z => ?_⟩
    · have n : ¬ p.2 = a := fun z => c.noTab (by rw [← z]; exact mem p hp)
      show (if p.2 = a then _ else _) = _
      rw [if_neg n, if_pos (mem p hp)]
    · by_cases hb : b = a
      · simp only [hb, if_true] at z
        exact .inr ⟨hb, hk, _, _, (Option.some.inj z).symm⟩
      · by_cases ht : b ∈ cs.map (·.2)
        · simp only [hb, ht, if_true, if_false] at z
          exact .inl ⟨ht, (Option.some.inj z).symm⟩
        · simp only [hb, ht, if_false] at z
          cases z
    · by_cases hb : b = a
      · simp only [hb, if_true] at z
        rw [← Option.some.inj z, hb]
        exact ⟨c.ls, by rw [List.length_map]; exact hl, vs, _, rv, c.ls⟩
      · by_cases ht : b ∈ cs.map (·.2)
        · simp only [hb, ht, if_true, if_false] at z
          rw [← Option.some.inj z]
          exact (c.isTab ht).1
        · simp only [hb, ht, if_false] at z
          cases z
/-- what stands and is neither a list nor an empty table is not tracked -/
theorem Trk.free (t : Trk K P w cs a ns s H) (c : AtCall K mg mb cs a vs ns s) {b : Addr} {o : Obj} (e : s.heap.get? b = some o) (h1 : ∀ xs n, o.data ≠ .seq xs n) (h2 : o.data ≠ .fields #[]) : H b = none := by
  cases q : H b with
  | none => rfl
  | some u =>
    rcases t.all b u q with ⟨hb, _⟩ | ⟨hb, _⟩
    · rw [(c.isTab hb).1] at e
      exact absurd (by rw [← Option.some.inj e]) h2
    · rw [hb, c.ls] at e
      exact absurd (by rw [← Option.some.inj e]) (h1 vs.toArray _)
theorem Trk.low (t : Trk K P w cs a ns s H) (c : AtCall K mg mb cs a vs ns s) {b : Addr} {o : Obj} (e : s.heap.get? b = some o) (h1 : ∀ xs n, o.data ≠ .seq xs n) (h2 : o.data ≠ .fields #[]) : (hidT s.heap H).get? b = some o := hidT_get e (t.free c e h1 h2)
theorem Trk.kin (t : Trk K P w cs a ns s H) (c : AtCall K mg mb cs a vs ns s) : K.In (hidT s.heap H) := fun b o e => hidT_get (c.kin b o e) (by
  cases q : H b with
  | none => rfl
  | some u =>
    rcases t.all b u q with ⟨hb, _⟩ | ⟨hb, hk, _⟩
    · rw [(c.isTab hb).2] at e; cases e
    · rw [hb, hk] at e; cases e)
theorem Trk.nsp (t : Trk K P w cs a ns s H) (c : AtCall K mg mb cs a vs ns s) {b : Addr} {m : Str → Option Value} (h : s.heap.Ns b m) : (hidT s.heap H).Ns b m := by
  obtain ⟨o, es, ep, e, d, r⟩ := h
  exact ⟨o, es, ep, t.low c e (fun xs n z => by rw [d] at z; cases z) (fun z => by rw [d] at z; cases z), d, r⟩
theorem AtCall.notDict (c : AtCall K mg mb cs a vs ns s) {b : Addr} {m : Str → Option Value} (h : s.heap.Ns b m) {o : Obj} (e : s.heap.get? b = some o) : ∃ es ep, o.data = .dict es ep := by
  obtain ⟨o', es, ep, e', d, _⟩ := h
  rw [e] at e'
  rw [Option.some.inj e']
  exact ⟨es, ep, d⟩
theorem Trk.tabB (t : Trk K P w cs a ns s H) (c : AtCall K mg mb cs a vs ns s) : ∀ p ∈ cs, TabB (hidT s.heap H) mg p.1 p.2 := fun p hp => by
  have hT := c.tab p hp
  refine ⟨?_, ?_, fun z => ?_⟩
  · obtain ⟨o, us, file, tf, flags, tg, inF, text, tt, e1, r1, r2, r3, r⟩ := c.hd p hp
    refine ⟨o, us, file, tf, flags, tg, inF, text, tt, t.low c e1 (fun xs n z => by rw [r2] at z; cases z) (fun z => ?_), r1, r2, r3, r⟩
    rw [r2] at z
    injection z with z
    rw [z] at r3
    simp at r3
  · obtain ⟨bm, ob, b1, b2, b3, b4, b5, b6⟩ := c.bm
    refine ⟨bm, ob, b1, b2, fun q => ?_, fun q => ?_, t.low c b3 (fun xs n z => by rw [b6] at z; cases z) (fun z => by rw [b6] at z; cases z), b4, b5, b6⟩
    · rw [q] at b3
      obtain ⟨es, ep, d⟩ := c.notDict c.g b3
      rw [b6] at d
      cases d
    · rw [q, hT] at b3
      rw [← Option.some.inj b3] at b4
      cases b4
  · rw [← z] at hT
    obtain ⟨es, ep, d⟩ := c.notDict c.g hT
    cases d
theorem call_end {CX : CXT} {k : Nat} {fa : Addr} {fd : FuncData} {x : Str} {sp : Sp} (c : AtCall K mg mb cs a vs ns s) (hl : ns.length ≤ sizeLine) (hr : Room k callerA)
    (F : ∀ base : Heap, K.In base → base.Ns mainGlobals mg → (∀ p ∈ cs, TabB base mg p.1 p.2) → FnG P w K mg base CX k fa fd [x] sp) (hbind : ∀ (s : Shared) (u : Value), BindsTo s fd ⟨[u], []⟩ [(x, u)])
    (hsp : ∀ H : Hp, (∀ p ∈ cs, H p.2 = some (.tbl #[])) → SqL K H a (ns.map V.int) → sp [.ref a] H (fun v _ => v = .bl true) fun _ _ _ => False)
    (hCX : ∀ H e s', CX [] H s (fun _ _ _ => False) e s' → False) :
    codeAny (model P w) callerA (.call (.ref fa) ⟨[.ref a], []⟩) (fun r s' => r = .ok (.ret (.bool true)) ∧ OldK s.heap s'.heap ∧ s'.os = s.os ∧ AllBare s'.gens) s := by
  obtain ⟨H, t⟩ := c.trk (P := P) (w := w) hl
  have md : L2.Mod K mg (hidT s.heap H) := ⟨t.kin c, t.nsp c c.g, ⟨mb, t.nsp c c.b, c.bb⟩, let ⟨mc, h1, h2⟩ := c.lim; ⟨mc, t.nsp c h1, h2⟩⟩
  have e0 : Env0 P w K mg (hidT s.heap H) callerA [] s H := ⟨rfl, md, fun b o e => of_hidT e, Nat.le_of_eq (hidT_size _ _), trivial, fun b hb => absurd (show b ∈ ([] : List Addr) from hb) (by simp), t.ok, .of_eq c.gen⟩
  refine codeAny_mono ((F _ (t.kin c) (t.nsp c c.g) (t.tabB c)).run callerA [] s H ⟨[.ref a], []⟩ [.ref a] [.ref a] _ _ rfl hr e0 (hbind s (.ref a)) (.cons rfl .nil) (hsp H t.tbl t.sq)) fun r s' h => ?_
  cases r with
  | error e => exact (hCX H e s' h).elim
  | ok fl =>
    cases fl with
    | ret u =>
      obtain ⟨v, H', os, bare, un, hok', r', q⟩ := h
      have q' : v = .bl true := q
      subst q'
      obtain rfl : u = Value.bool true := r'
      -- all but the tables stands as before
      have old : ∀ b o, b ∉ cs.map (·.2) → s.heap.get? b = some o → s'.heap.get? b = some o := fun b o nb e => by
        cases q : H b with
        | none => exact un.keep b o e q (by intro z; exact absurd (show b ∈ ([] : List Addr) from z) (by simp)) (by simp)
        | some u =>
          rcases t.all b u q with ⟨hb, _⟩ | ⟨_, _, ob, xs, eu⟩
          · exact absurd hb nb
          · subst eu
            have e1 := (t.ok b _ q).1
            have e2 := (hok' b _ (un.frzs b ob _ q)).1
            rw [e] at e1
            rw [Option.some.inj e1]
            exact e2
      have grown : ∀ p ∈ cs, ∃ more : Array Value, s'.heap.get? p.2 = some { cls := .none, data := .fields more } := fun p hp => by
        obtain ⟨more, z⟩ := un.tbls p.2 #[] (t.tbl p hp)
        exact ⟨_, hok' p.2 _ z⟩
      refine ⟨rfl, ⟨fun b o e => ?_, fun b o e => ?_⟩, os, bare⟩
      · by_cases hb : b ∈ cs.map (·.2)
        · obtain ⟨p, hp, ep⟩ := List.mem_map.mp hb
          subst ep
          obtain ⟨more, hm⟩ := grown p hp
          have eo := Option.some.inj (e.symm.trans (c.tab p hp))
          subst eo
          exact .inr (.inl ⟨((c.hd p hp).tab (c.tab p hp)).isCodeTable, rfl, #[], more, rfl, by rw [Array.empty_append]; exact hm⟩)
        · exact .inl (old b o hb e)
      · by_cases hb : b ∈ cs.map (·.2)
        · obtain ⟨p, hp, ep⟩ := List.mem_map.mp hb
          subst ep
          obtain ⟨more, hm⟩ := grown p hp
          exact ⟨_, hm⟩
        · exact ⟨o, old b o hb e⟩
    | next => exact False.elim h
    | brk => exact False.elim h
    | cont => exact False.elim h
end
/-- what the head's heap h gives -/
structure HeadG (l : PySem.W.OpenLaw) (w : World) (CX : CXT) (k n : Nat) (x : Str) (mg : Str → Option Value) (fa : Addr) (h : Heap) : Prop where
  ex : ∃ (K : PySem.W.Frag) (fd : FuncData) (cs : List (Addr × Addr)) (sp : Sp), K.In h ∧ (∀ p ∈ cs, h.get? p.2 = some { cls := .none, data := .fields #[] }) ∧ (∀ p ∈ cs, K.lookup p.2 = none) ∧ (∀ p ∈ cs, PySem.W.CodeHd h p.1 p.2) ∧ (∀ (s : Shared) (u : Value), BindsTo s fd ⟨[u], []⟩ [(x, u)]) ∧
    (∀ (H : Hp) (a : Addr) (ns : List Int), ns.length ≤ n → (∀ p ∈ cs, H p.2 = some (.tbl #[])) → SqL K H a (ns.map V.int) → sp [.ref a] H (fun v _ => v = .bl true) fun _ _ _ => False) ∧
    ∀ base : Heap, K.In base → base.Ns mainGlobals mg → (∀ p ∈ cs, TabB base mg p.1 p.2) → FnG l.prog w K mg base CX k fa fd [x] sp
theorem walk_G {l : PySem.W.OpenLaw} {n k : Nat} {q : Program} {loose : List Str} {XP : (Str → Option Value) → Heap → Prop} {YP : World → Heap → Prop} {d : DefRec} {CX : World → CXT} {x : Str}
    (hn : l.most = some n) (hn2 : n ≤ sizeLine) (hdf : d.params.defaults = []) (hr : Room k callerA)
    (F : ∀ (w : World) (mg : Str → Option Value) (fa : Addr) (h : Heap), YP w h → h.Ns mainGlobals mg → mg d.name = some (.ref fa) → HeadG l w (CX w) k n x mg fa h)
    (hCX : ∀ (w : World) (H : Hp) (s : Shared) (e : Value) (s' : Shared), CX w [] H s (fun _ _ _ => False) e s' → False) :
    PySem.W.WalkO q loose XP YP l.row.toRowW d [] (fun f vs => PySem.call f vs) :=
  Att.attach_callB hn hdf fun w s₀ s₁ mg mb fa o pm cd doc a vs ns G Y ho hd hcd hmg hobj hints hlen hbits hg => by
    obtain ⟨K, fd, cs, sp, KX, hT, nT, C, hb, hsp, hF⟩ := (F w mg fa _ Y G.T.g hmg).ex
    exact call_end ⟨KX, G.T.g, G.T.b, G.T.builtins, G.T.nolimit, hg, hT, nT, C, G.T.bmain, hobj, hints⟩ (Nat.le_trans hlen hn2) hr hF hb (fun H hH hS => hsp H a ns hlen hH hS) fun H e s' => hCX w H s₁ e s'
end K25
end

section
-- XFacts
set_option Elab.async false
set_option linter.all false
set_option maxRecDepth 100000
set_option maxHeartbeats 4000000
/-! What the top leaves, told by one look at the heap. -/
namespace K25
open PySem PySem.Spec PyProof.Rows L2 He
/-! ### the objects looked at -/
/-- a list, forced -/
def frL {α β : Type} : List α → (List α → β) → β
  | [], k => k []
  | x :: r, k => frL r fun r' => k (x :: r')
theorem frL_eq {α β : Type} : ∀ (l : List α) (k : List α → β), frL l k = k l
  | [], _ => rfl
  | x :: r, k => frL_eq r fun r' => k (x :: r')
def memN (a : Nat) : List Nat → Bool
  | [] => false
  | b :: r => match Nat.beq a b with
    | true => true
    | false => memN a r
/-- what is new of l -/
def newOf (seen : List Nat) : List Nat → List Nat → List Nat
  | [], acc => acc
  | a :: l, acc => match memN a seen with
    | true => newOf seen l acc
    | false => match memN a acc with
      | true => newOf seen l acc
      | false => newOf seen l (a :: acc)
def refsY (g : Addr → Option Obj) : List Addr → List Addr
  | [] => []
  | a :: r => (match g a with
    | some o => refsD o
    | none => []) ++ refsY g r
def bfs (g : Addr → Option Obj) : Nat → List Addr → List Addr → List Addr
  | 0, seen, _ => seen
  | n + 1, seen, fr => frL (newOf seen (refsY g fr) []) fun new => frL (new ++ seen) fun seen' => bfs g n seen' new
def asY (g : Addr → Option Obj) (n : Nat) : List Addr := bfs g n [mainGlobals, cStatics] [mainGlobals]
/-! ### defs -/
structure DD where
  ad : PySem.W.Frag → Addr
  name : Str
  qual : Str
  params : Arguments
  body : List Stmt
  scope : Scope
  clo : List Str := []
  dfl : List V := []
abbrev FnY : Type := Option (Str × Str × Arguments × FuncBody × Scope × Addr × List Str × Addr)
def fnY (K : PySem.W.Frag) (a : Addr) : FnY := match K.lookup a with
  | some ⟨_, _, .func fd, _⟩ => some (fd.name, fd.qualname, fd.params, fd.body, fd.scope, fd.globals, fd.closure.map (·.1), fd.builtins)
  | _ => none
def DD.val (d : DD) : FnY := some (d.name, d.qual, d.params, .stmts d.body, d.scope, mainGlobals, d.clo, builtinsNs)
def DD.ok (K : PySem.W.Frag) (d : DD) : Bool := PySem.W.keepIn K (.ref (d.ad K)) && (match K.lookup (d.ad K) with
  | some ⟨_, _, .func fd, _⟩ => PySem.W.codeIn K fd.code d.qual && dflB K fd.defaults d.dfl
  | _ => false)
structure DDat (K : PySem.W.Frag) (d : DD) (oc : Value) (od : Option Addr) (osl : Array (Option Value)) (clo : List (Str × Addr)) (dV kV doc pm : Value) (an : Option Addr) (cdv ct : Value) : Prop where
  lk : K.lookup (d.ad K) = some ⟨oc, od, .func { name := d.name, qualname := d.qual, params := d.params, body := .stmts d.body, scope := d.scope, globals := mainGlobals, closure := clo, defaults := dV, kwdefaults := kV, doc, pyModule := pm, annotations := an, code := cdv, closureTuple := ct, builtins := builtinsNs }, osl⟩
  cl : clo.map (·.1) = d.clo
  cd : PySem.W.codeIn K cdv d.qual = true
  df : DflV K dV d.dfl
  kp : PySem.W.keepIn K (.ref (d.ad K)) = true
theorem DD.get {K : PySem.W.Frag} {d : DD} (e : fnY K (d.ad K) = d.val) (c : d.ok K = true) : ∃ oc od osl clo dV kV doc pm an cdv ct, DDat K d oc od osl clo dV kV doc pm an cdv ct := by
  obtain ⟨kp, c2⟩ := ba c
  unfold fnY at e
  cases q : K.lookup (d.ad K) with
  | none =>
    rw [q] at c2
    cases c2
  | some o =>
    obtain ⟨oc, od, dt, osl⟩ := o
    rw [q] at c2 e
    cases dt with
    | func fd =>
      obtain ⟨n1, n2, n3, n4, n5, n6, n7, n8, n9, n10, n11, n12, n13, n14, n15⟩ := fd
      have e2 : (some (n1, n2, n3, n4, n5, n6, n7.map (·.1), n15) : FnY) = some (d.name, d.qual, d.params, .stmts d.body, d.scope, mainGlobals, d.clo, builtinsNs) := e
      simp only [Option.some.injEq, Prod.mk.injEq] at e2
      obtain ⟨h1, h2, h3, h4, h5, h6, h7, h8⟩ := e2
      subst h1 h2 h3 h4 h5 h6 h8
      obtain ⟨k1, k2⟩ := ba (show (PySem.W.codeIn K n13 d.qual && dflB K n8 d.dfl) = true from c2)
      exact ⟨oc, od, osl, n7, n8, n9, n10, n11, n12, n13, n14, q, h7, k1, dflB_ok k2, kp⟩
    | _ => cases c2
/-- such a def without closure, as FunD -/
theorem DDat.funD {K : PySem.W.Frag} {d : DD} {oc : Value} {od : Option Addr} {osl : Array (Option Value)} {clo : List (Str × Addr)} {dV kV doc pm : Value} {an : Option Addr} {cdv ct : Value} (h : DDat K d oc od osl clo dV kV doc pm an cdv ct) (hc : d.clo = []) :
    ∃ fd, FunD K d.name d.qual d.params d.body d.scope d.dfl [] (d.ad K) fd := by
  have e : clo = [] := by
    have := h.cl
    rw [hc] at this
    exact List.map_eq_nil_iff.mp this
  subst e
  exact ⟨_, ⟨oc, od, dV, kV, doc, pm, an, cdv, ct, osl, rfl, h.lk, h.cd, h.df, .inl rfl⟩, h.kp⟩
/-! ### code objects and their tables -/
def codeA (K : PySem.W.Frag) (a : Addr) : Addr := match K.lookup a with
  | some ⟨_, _, .func fd, _⟩ => (match fd.code with
    | .ref c => c
    | _ => 0)
  | _ => 0
def cTa (K : PySem.W.Frag) (a : Addr) : Addr × Addr := (codeA K a, tabOf K (codeA K a))
/-! ### the look -/
abbrev AlY : Type := Bool × List FnY
def tabsY (g : Addr → Option Obj) (tf : List (PySem.W.Frag → Addr)) (K : PySem.W.Frag) : Bool := tf.all fun p => PySem.W.codeHdIn K (cTa K (p K)).1 (cTa K (p K)).2 && (match g (cTa K (p K)).2 with
  | some o => emptyTab o
  | none => false)
def obsK (ds : List DD) (tf : List (PySem.W.Frag → Addr)) (ex : PySem.W.Frag → Bool) (g : Addr → Option Obj) (K : PySem.W.Frag) : AlY := (ex K && ((ds.all fun d => d.ok K) && tabsY g tf K), ds.map fun d => fnY K (d.ad K))
def obsY (n : Nat) (ds : List DD) (tf : List (PySem.W.Frag → Addr)) (ex : PySem.W.Frag → Bool) (g : Addr → Option Obj) : AlY := frL (asY g n) fun as => frL (frT g as) fun K => obsK ds tf ex g K
def valY (ds : List DD) : AlY := (true, ds.map DD.val)
structure SaysY (ds : List DD) (tf : List (PySem.W.Frag → Addr)) (ex : PySem.W.Frag → Bool) (h : Heap) (K : PySem.W.Frag) : Prop where
  more : ex K = true
  ok : ∀ d ∈ ds, d.ok K = true
  fn : (ds.map fun d => fnY K (d.ad K)) = ds.map DD.val
  hd : ∀ p ∈ tf, PySem.W.codeHdIn K (cTa K (p K)).1 (cTa K (p K)).2 = true
  out : ∀ p ∈ tf, K.lookup (cTa K (p K)).2 = none
  empty : ∀ p ∈ tf, h.get? (cTa K (p K)).2 = some { cls := .none, data := .fields #[] }
theorem saysY_of {n : Nat} {ds : List DD} {tf : List (PySem.W.Frag → Addr)} {ex : PySem.W.Frag → Bool} {h : Heap} (e : obsY n ds tf ex h.get? = valY ds) : SaysY ds tf ex h (frT h.get? (asY h.get? n)) := by
  unfold obsY at e
  rw [frL_eq, frL_eq] at e
  generalize hK : frT h.get? (asY h.get? n) = K at e
  have e1 : (ex K && ((ds.all fun d => d.ok K) && tabsY h.get? tf K)) = true := congrArg (fun z : AlY => z.1) e
  obtain ⟨h1, h2⟩ := ba e1
  obtain ⟨h3, h4⟩ := ba h2
  have key : ∀ p ∈ tf, PySem.W.codeHdIn K (cTa K (p K)).1 (cTa K (p K)).2 = true ∧ ∃ o, h.get? (cTa K (p K)).2 = some o ∧ emptyTab o = true := fun p hp => by
    obtain ⟨h5, h6⟩ := ba (List.all_eq_true.mp h4 p hp)
    refine ⟨h5, ?_⟩
    cases q : h.get? (cTa K (p K)).2 with
    | none =>
      rw [q] at h6
      cases h6
    | some o =>
      rw [q] at h6
      exact ⟨o, rfl, h6⟩
  exact ⟨h1, fun d hd => List.all_eq_true.mp h3 d hd, congrArg (fun z : AlY => z.2) e, fun p hp => (key p hp).1, fun p hp => by
    obtain ⟨_, o, q, z⟩ := key p hp
    rw [← hK] at q ⊢
    exact frT_none q z, fun p hp => by
    obtain ⟨_, o, q, z⟩ := key p hp
    rw [q, emptyTab_eq z]⟩
def hookY (n : Nat) (ds : List DD) (tf : List (PySem.W.Frag → Addr)) (ex : PySem.W.Frag → Bool) : PySem.W.Hook where
  α := AlY
  obs := fun s => obsY n ds tf ex s.heap.get?
  val := fun _ => valY ds
  says := fun _ h => ∃ K : PySem.W.Frag, K.In h ∧ SaysY ds tf ex h K
  of := fun _ _ e => ⟨_, frT_in, saysY_of e⟩
  keeps := fun _ _ _ ⟨K, hK, c⟩ k => ⟨K, PySem.W.Frag.In.keeps hK k, ⟨c.more, c.ok, c.fn, c.hd, c.out, fun p hp => k _ _ (c.empty p hp)⟩⟩
theorem obsY_eq {n : Nat} {ds : List DD} {tf : List (PySem.W.Frag → Addr)} {ex : PySem.W.Frag → Bool} {g : Addr → Option Obj} {s : Shared} (h : ∀ a, g a = s.heap.get? a) : obsY n ds tf ex g = (hookY n ds tf ex).obs s := by
  have e : g = s.heap.get? := funext h
  rw [e] <;> rfl
theorem SaysY.get {ds : List DD} {tf : List (PySem.W.Frag → Addr)} {ex : PySem.W.Frag → Bool} {h : Heap} {K : PySem.W.Frag} (c : SaysY ds tf ex h K) {d : DD} (hd : d ∈ ds) : ∃ oc od osl clo dV kV doc pm an cdv ct, DDat K d oc od osl clo dV kV doc pm an cdv ct := by
  refine DD.get ?_ (c.ok d hd)
  obtain ⟨i, hi, e⟩ := List.mem_iff_getElem.mp hd
  have e2 : (ds.map fun d => fnY K (d.ad K))[i]? = (ds.map DD.val)[i]? := by rw [c.fn]
  rw [List.getElem?_map, List.getElem?_map, List.getElem?_eq_getElem hi, e] at e2
  exact Option.some.inj e2
/-! ### a property -/
def pA (x : Str) (m : Str) (K : PySem.W.Frag) : Addr := match PySem.W.recIn K (ma K (ga K x) m) "property" with
  | some (.ref g :: _) => g
  | _ => 0
def propB (K : PySem.W.Frag) (x m : Str) : Bool := eqO (PySem.W.findIn K (.ref (ga K x)) m) (some (some (.ref (ma K (ga K x) m)))) && (eqO (PySem.W.specialIn K (.ref (ma K (ga K x) m)) "__get__") (some (some (.builtin "property.__get__"))) &&
  (decide (PySem.W.takesIn K (.ref (ma K (ga K x) m)) = some true) && (match PySem.W.recIn K (ma K (ga K x) m) "property" with
    | some (.ref _ :: _) => true
    | _ => false)))
theorem propB_ok {K : PySem.W.Frag} {x m : Str} (h : propB K x m = true) : PropOf K (ga K x) m (ma K (ga K x) m) (pA x m K) := by
  obtain ⟨h1, h⟩ := ba h
  obtain ⟨h2, h⟩ := ba h
  obtain ⟨h3, h4⟩ := ba h
  refine ⟨eqO_ok h1, eqO_ok h2, of_decide_eq_true h3, ?_⟩
  unfold pA
  split at h4
  · rename_i g rest e
    rw [e]
    exact ⟨rest, rfl⟩
  · cases h4
/-! ### an own exception -/
def tailB : List Value → List Value → Bool
  | [], bm => decide (bm = [])
  | .ref a :: r, bm => tailB r bm || decide (Value.ref a :: r = bm)
  | v :: r, bm => decide (v :: r = bm)
theorem tailB_ok : ∀ {l bm : List Value}, tailB l bm = true → ∃ rs : List Addr, l = rs.map Value.ref ++ bm
  | [], bm, h => ⟨[], by rw [of_decide_eq_true h]; rfl⟩
  | v :: r, bm, h => by
    cases v with
    | ref a =>
      have h2 : (tailB r bm || decide (Value.ref a :: r = bm)) = true := h
      rcases Bool.or_eq_true_iff.mp h2 with h3 | h3
      · obtain ⟨rs, e⟩ := tailB_ok h3
        exact ⟨a :: rs, by rw [e]; rfl⟩
      · exact ⟨[], of_decide_eq_true h3⟩
    | _ => exact ⟨[], of_decide_eq_true h⟩
def clsE (K : PySem.W.Frag) (C : Addr) (newId : String) (bmB : List Value) : Bool := match K.lookup C with
  | some ⟨.type t, _, .cls cd, sl⟩ => decide (t = "type") && (cd.hasDict && (!cd.hasDel && ((match cd.mro with
    | .ref C' :: r => decide (C' = C) && tailB r bmB
    | _ => false) && (match sl.toList with
    | [_, _, _, _, some (.builtin n), _] => decide (n = newId)
    | _ => false))))
  | _ => false
theorem clsE_ok {K : PySem.W.Frag} {C : Addr} {newId : String} {bmB : List Value} (h : clsE K C newId bmB = true) :
    ∃ nm q N bs rs sn sub ab col dd k0 k1 k2 k3 k5, K.lookup C = some (excClassObj nm q C N bs (List.map Value.ref rs ++ bmB) true sn sub ab col dd k0 k1 k2 k3 k5 newId) := by
  unfold clsE at h
  split at h
  · rename_i t od cd sl ho
    obtain ⟨h1, h⟩ := ba h
    obtain ⟨h2, h⟩ := ba h
    obtain ⟨h3, h⟩ := ba h
    obtain ⟨h4, h5⟩ := ba h
    obtain ⟨nm, bs, mro, ns, qn, hd, sn, sub, ab, col, del⟩ := cd
    dsimp only at h2 h3 h4
    have h3 : del = false := by cases del <;> simp_all
    subst h2 h3
    have e1 := of_decide_eq_true h1
    subst e1
    split at h4
    · rename_i C' r
      obtain ⟨h6, h7⟩ := ba h4
      have e2 := of_decide_eq_true h6
      subst e2
      obtain ⟨rs, e3⟩ := tailB_ok h7
      subst e3
      split at h5
      · rename_i k0 k1 k2 k3 n k5 hs
        have e4 := of_decide_eq_true h5
        subst e4
        have hsl : sl = #[k0, k1, k2, k3, some (.builtin n), k5] := by
          obtain ⟨l⟩ := sl
          simp only at hs
          rw [hs]
        subst hsl
        exact ⟨nm, qn, ns, bs, rs, sn, sub, ab, col, od, k0, k1, k2, k3, k5, ho⟩
      · cases h5
    · cases h4
  · cases h
def iniB (K : PySem.W.Frag) (C f : Addr) : Bool := match K.lookup f with
  | some ⟨_, _, .func fd, _⟩ => (match fd.closure with
    | [(_, cc)] => (match K.lookup cc with
      | some ⟨_, _, .cell (some v), _⟩ => decide (v = .ref C)
      | _ => false)
    | _ => false) && (match fd.code with
    | .ref cda => (match K.lookup cda with
      | some ⟨_, _, .fields vs, _⟩ => (match (vs[2]? : Option Value) with
        | some (.str file _) => (PR.main.file : Str) == file
        | _ => false)
      | _ => false)
    | _ => false)
  | _ => false
theorem iniB_ok {K : PySem.W.Frag} {C f : Addr} (h : iniB K C f = true) {oc : Value} {od : Option Addr} {osl : Array (Option Value)} {fd : FuncData} (lk : K.lookup f = some ⟨oc, od, .func fd, osl⟩) :
    ∃ n cc cda, fd.closure = [(n, cc)] ∧ fd.code = .ref cda ∧ (∃ (cl : Value) (cld : Option Addr) (csl : Array (Option Value)), K.lookup cc = some ⟨cl, cld, .cell (some (.ref C)), csl⟩) ∧
      ∃ (ccl : Value) (cdd : Option Addr) (vs : Array Value) (ccs : Array (Option Value)) (file : Str) (tf : Tok), K.lookup cda = some ⟨ccl, cdd, .fields vs, ccs⟩ ∧ vs[2]? = some (.str file tf) ∧ ((PR.main.file : Str) == file) = true := by
  unfold iniB at h
  rw [lk] at h
  obtain ⟨h1, h2⟩ := ba h
  split at h1
  · rename_i n cc e1
    split at h1
    · rename_i cl cld v csl e2
      split at h2
      · rename_i cda e3
        split at h2
        · rename_i ccl cdd vs ccs e4
          split at h2
          · rename_i file tf e5
            rw [of_decide_eq_true h1] at e2
            exact ⟨n, cc, cda, e1, e3, ⟨_, _, _, e2⟩, ⟨_, _, vs, _, file, tf, e4, e5, h2⟩⟩
          · cases h2
        · cases h2
      · cases h2
    · cases h1
  · cases h1
def ownB (K : PySem.W.Frag) (x fld : Str) (B newId initId : String) (bmB : List Value) : Bool :=
  clsE K (ga K x) newId bmB && (eqO (PySem.W.findIn K (.ref (ga K x)) "__setattr__") (some (some (.builtin "object.__setattr__"))) && (eqO (PySem.W.findIn K (.ref (ga K x)) fld) (some none) && (eqO (PySem.W.findIn K (.ref (ga K x)) "__init__") (some (some (.ref (ma K (ga K x) "__init__")))) &&
  (decide (PySem.W.typeIn K (.ref (ma K (ga K x) "__init__")) = some (.type "function")) && (PySem.W.keepIn K (.ref (ga K x)) && (decide (PySem.W.subIn K (.ref (ga K x)) (.type "BaseException") = some true) && (decide (PySem.W.typeIn K (.ref (ga K x)) = some (.type "type")) &&
  (decide (PySem.W.subIn K (.ref (ga K x)) (.type B) = some true) && (eqO (PySem.W.ks_superIn K (ga K x) (ga K x) "__init__") (some (some (.builtin initId))) && (iniB K (ga K x) (ma K (ga K x) "__init__") && xfB K (ga K x)))))))))))
theorem ownB_ok {K : PySem.W.Frag} {mg : Str → Option Value} {x fld : Str} {B Nn newId initId : String} {bmB : List Value} (F : EF B Nn newId initId bmB) (h : ownB K x fld B newId initId bmB = true) (tp : PySem.W.nsIn K cStatics "thirdparty.any" = some none) (noSup : mg "super" = none)
    {d : DD} {oc : Value} {od : Option Addr} {osl : Array (Option Value)} {clo : List (Str × Addr)} {dV kV doc pm : Value} {an : Option Addr} {cdv ct : Value} (D : DDat K d oc od osl clo dV kV doc pm an cdv ct) (hd : d.ad K = ma K (ga K x) "__init__") (hn : d.name = "__init__") (hc : d.clo = [("__class__" : Str)]) (hdf : d.dfl = [])
    {txt : Str} {k : Nat} {p1 p2 q1 q2 q3 q4 q5 q6 q7 q8 q9 q10 : Pos} (hA : d.params = iA fld p1 p2) (hB : d.body = iB fld txt k q1 q2 q3 q4 q5 q6 q7 q8 q9 q10) (hS : d.scope = iS fld) (hh : SupHe txt k q1 q2 q3 q4 q5) :
    OwnE PR K mg (ga K x) (ma K (ga K x) "__init__") fld B Nn newId initId bmB ∧ XfC K (ga K x) ∧ PySem.W.findIn K (.ref (ga K x)) fld = some none := by
  obtain ⟨h1, h⟩ := ba h
  obtain ⟨h2, h⟩ := ba h
  obtain ⟨h3, h⟩ := ba h
  obtain ⟨h4, h⟩ := ba h
  obtain ⟨h5, h⟩ := ba h
  obtain ⟨h6, h⟩ := ba h
  obtain ⟨h7, h⟩ := ba h
  obtain ⟨h8, h⟩ := ba h
  obtain ⟨h9, h⟩ := ba h
  obtain ⟨h10, h⟩ := ba h
  obtain ⟨h11, h12⟩ := ba h
  have lk := D.lk
  rw [hd] at lk
  obtain ⟨n, cc, cda, e1, e2, e3, e4⟩ := iniB_ok h11 lk
  dsimp only at e1 e2
  subst e1 e2
  have hcl := D.cl
  rw [hc] at hcl
  have en : n = "__class__" := by simpa using hcl
  subst en
  have edV : dV = .none := by
    rcases D.df with ⟨_, e⟩ | ⟨e, _⟩
    · exact e
    · exact absurd hdf e
  subst edV
  rw [hn, hA, hB, hS] at lk
  have cd := D.cd
  exact ⟨⟨F, clsE_ok h1, eqO_ok h2, eqO_ok h3, eqO_ok h4, of_decide_eq_true h5, h6, of_decide_eq_true h7, of_decide_eq_true h8, of_decide_eq_true h9, eqO_ok h10, tp, noSup, by rfl, ⟨oc, od, kV, doc, pm, an, ct, osl, d.qual, cc, cda, txt, k, p1, p2, q1, q2, q3, q4, q5, q6, q7, q8, q9, q10, lk, cd, e4, e3, hh⟩⟩, xfB_ok h12, eqO_ok h3⟩
end K25
end

section
-- XHead
set_option Elab.async false
set_option linter.all false
set_option maxRecDepth 100000
set_option maxHeartbeats 0
/-! The head: what the top leaves. Written by mkhead.py. -/
namespace K25
open PySem PySem.Spec PyProof.Rows L2 He
def dT (i : Nat) (x : Str) : DD := ⟨fun K => ga K x, x, x, defArgs (top i), defBody (top i), defScope (top i), [], []⟩
def dM (j : Nat) (m q : Str) (dfl : List V) : DD := ⟨fun K => ma K (ga K "Book") m, m, q, defArgs (mth 50 j), defBody (mth 50 j), defScope (mth 50 j), [], dfl⟩
def dP (j : Nat) (m q : Str) : DD := ⟨pA "Book" m, m, q, defArgs (mth 50 j), defBody (mth 50 j), defScope (mth 50 j), [], []⟩
def dI (i : Nat) (x q : Str) : DD := ⟨fun K => ma K (ga K x) "__init__", "__init__", q, defArgs (mth i 0), defBody (mth i 0), defScope (mth i 0), ["__class__"], []⟩
def dsT : List DD := [dT 21 "is_integer", dT 22 "is_between", dT 23 "is_rising", dT 24 "is_lot", dT 25 "is_step", dT 26 "are_steps", dT 28 "is_index", dT 29 "need_columns", dT 31 "need_index_of", dT 38 "is_row", dT 44 "values_at", dT 49 "is_key_of", dT 52 "_law_mixed", dT 53 "_law_begin", dT 54 "_law_draw", dT 55 "_law_of", dT 56 "_law_steps", dT 57 "_law_index", dT 58 "_law_at_lot", dT 59 "_law_is_key", dT 60 "_law_lot", dT 61 "_law_row", dT 62 "_law_told", dT 63 "_law_rows_deed", dT 64 "_law_stock_deed", dT 65 "_law_keys_deed", dT 66 "_law_back", dT 67 "_law_deed", dT 68 "_law_stands", dT 69 "_law_right", dT 70 "_law_hand_right", dT 71 "law"]
def dsM : List DD := [dM 0 "__init__" "Book.__init__" [], dM 4 "go_on" "Book.go_on" [], dM 5 "need_row" "Book.need_row" [], dM 6 "add" "Book.add" [], dM 7 "remove" "Book.remove" [], dM 8 "make" "Book.make" [], dM 9 "drop" "Book.drop" [], dM 10 "need_key" "Book.need_key" [], dM 11 "claim" "Book.claim" [], dM 12 "waive" "Book.waive" [], dM 18 "__len__" "Book.__len__" [], dM 15 "undo" "Book.undo" [.int 1]]
def dsP : List DD := [dP 1 "table" "Book.table", dP 2 "indexes" "Book.indexes", dP 3 "held_keys" "Book.held_keys"]
def dsI : List DD := [dI 3 "BadNumber" "BadNumber.__init__", dI 10 "Broken" "Broken.__init__", dI 12 "Missing" "Missing.__init__", dI 13 "NothingLeft" "NothingLeft.__init__"]
def ds : List DD := dsT ++ (dsM ++ (dsP ++ dsI))
def tf : List (PySem.W.Frag → Addr) := [fun K => ga K "_law_rows_deed", fun K => ga K "_law_stock_deed", fun K => ga K "_law_keys_deed", fun K => ga K "_law_back", fun K => ga K "_law_hand_right"]
def fa0 : List Fa := [.glo "is_integer", .glo "is_between", .glo "is_rising", .glo "is_lot", .glo "is_step", .glo "are_steps", .glo "is_index", .glo "need_columns", .glo "need_index_of", .glo "is_row", .glo "values_at", .glo "is_key_of", .glo "_law_mixed", .glo "_law_begin", .glo "_law_draw", .glo "_law_of", .glo "_law_steps", .glo "_law_index", .glo "_law_at_lot", .glo "_law_is_key", .glo "_law_lot", .glo "_law_row", .glo "_law_told", .glo "_law_rows_deed", .glo "_law_stock_deed", .glo "_law_keys_deed", .glo "_law_back", .glo "_law_deed", .glo "_law_stands", .glo "_law_right", .glo "_law_hand_right", .glo "law", .glo "Book"]
def fa1 : List Fa := [.glo "WAYS", .glo "BadRow", .glo "BadKey", .glo "BadNumber", .glo "BadIndex", .glo "Broken", .glo "Missing", .glo "NothingLeft", .free "isinstance", .free "int", .free "bool", .free "all", .free "zip", .free "tuple", .free "len", .free "str", .free "sorted", .free "range", .free "list", .free "min", .free "dict", .free "repr", .free "super", .int "MOST_COLUMNS" 8, .int "MOST_ROWS" 30, .int "MOST_STOCK" 12, .int "MOST_KEYS" 8, .cls "Book", .noat "Book" "own_columns", .noat "Book" "own_past", .mkr "Book", .meth "Book" "__init__", .meth "Book" "go_on"]
def fa2 : List Fa := [.meth "Book" "need_row", .meth "Book" "add", .meth "Book" "remove", .meth "Book" "make", .meth "Book" "drop", .meth "Book" "need_key", .meth "Book" "claim", .meth "Book" "waive", .meth "Book" "__len__", .meth "Book" "undo", .exm "BadNumber" "BadRow" false, .exm "BadNumber" "BadKey" false, .exm "BadNumber" "BadNumber" true, .exm "Broken" "BadRow" false, .exm "Broken" "BadKey" false, .exm "Broken" "BadNumber" false, .exm "Broken" "BadIndex" false, .exm "Broken" "Broken" true, .exm "Missing" "BadRow" false, .exm "Missing" "BadKey" false, .exm "Missing" "BadNumber" false, .exm "Missing" "BadIndex" false, .exm "Missing" "Broken" false, .exm "Missing" "Missing" true, .exm "NothingLeft" "BadRow" false, .exm "NothingLeft" "BadKey" false, .exm "NothingLeft" "BadNumber" false, .exm "NothingLeft" "BadIndex" false, .exm "NothingLeft" "Broken" false, .exm "NothingLeft" "Missing" false, .exm "NothingLeft" "NothingLeft" true]
def fas : List Fa := fa0 ++ (fa1 ++ fa2)
def veB : List Value := [.type "ValueError", .type "Exception", .type "BaseException", .type "object"]
def reB : List Value := [.type "RuntimeError", .type "Exception", .type "BaseException", .type "object"]
def distB : List Nat → Bool
  | [] => true
  | a :: r => !memN a r && distB r
def exK (K : PySem.W.Frag) : Bool := (fas.all fun f => f.ok K) && (tupB K "WAYS" [.str "up", .str "down"] && (propB K "Book" "table" && (propB K "Book" "indexes" && (propB K "Book" "held_keys" &&
  (ownB K "BadNumber" "given" "ValueError" "ValueError.__new__" "ValueError.__init__" veB && (ownB K "Broken" "given" "ValueError" "ValueError.__new__" "ValueError.__init__" veB && (ownB K "Missing" "given" "KeyError" "LookupError.__new__" "KeyError.__init__" keMro &&
  (ownB K "NothingLeft" "many" "RuntimeError" "RuntimeError.__new__" "RuntimeError.__init__" reB && (eqO (PySem.W.nsIn K cStatics "thirdparty.any") (some none) && distB (tf.map fun p => (cTa K (p K)).2))))))))))
abbrev R : PySem.W.OpenRow := PySem.W.OpenLaw.row PySem.Challenge.rw_fewindexes_k25_whole_books_led
abbrev qv : Program := PySem.W.view R.prog [71]
def names : List Str := (["_wall", "__name__", "FewError", "BadNumber", "BadLookup", "BadIndex", "BadTable", "BadValues", "BadRow", "BadKey", "Broken", "TooMany", "Missing", "NothingLeft", "MOST_COLUMNS", "UP", "DOWN", "FORWARD", "BACKWARD", "WAYS", "is_integer", "is_between", "is_rising", "is_lot", "is_step", "are_steps", "is_lookup", "is_index", "need_columns", "need_lookup_of"] : List Str) ++ ((["need_index_of", "sets_in", "beginnings_in", "likeness", "way_in", "MOST_ROWS", "is_row", "is_table", "need_table_of", "need_table", "key_by", "sorted_by", "values_at", "rows_for", "MOST_STOCK", "MOST_KEYS", "is_key_of", "Book", "_law_mixed", "_law_begin", "_law_draw", "_law_of", "_law_steps", "_law_index", "_law_at_lot", "_law_is_key", "_law_lot", "_law_row", "_law_told", "_law_rows_deed"] : List Str) ++ (["_law_stock_deed", "_law_keys_deed", "_law_back", "_law_deed", "_law_stands", "_law_right", "_law_hand_right"] : List Str))
abbrev hk : PySem.W.Hook := hookY 6 ds tf exK
def ob (s : PySem.W.SharedT) : AlY := obsY 6 ds tf exK (HandSHeadRun.getT s)
theorem ob_eq (s : PySem.W.SharedT) : ob s = hk.obs s.abs := obsY_eq (HandSHeadRun.getT_eq s)
theorem run (w : World) : HandSHeadRun.RunEq R qv hk ob 10000 names w := by
  intro os
  kernel_rfl
end K25
end

section
-- XAsm
set_option Elab.async false
set_option linter.all false
set_option maxRecDepth 100000
set_option maxHeartbeats 4000000
/-! The parts put together. Written by mkasm.py. -/
namespace K25
open PySem PySem.Spec PyProof.Rows L2 He
section
variable {K : PySem.W.Frag} {mg : Str → Option Value} {h : Heap} (KX : K.In h) (G : h.Ns mainGlobals mg) (c : SaysY ds tf exK h K)
include c
theorem exF {f : Fa} (n : Nat) (hn : fas[n]? = some f) : f.ok K = true := List.all_eq_true.mp (ba c.more).1 f (List.mem_of_getElem? hn)
theorem exD {d : DD} (n : Nat) (hn : ds[n]? = some d) : ∃ oc od osl clo dV kV doc pm an cdv ct, DDat K d oc od osl clo dV kV doc pm an cdv ct := c.get (List.mem_of_getElem? hn)
include KX G
theorem exG {x : Str} (n : Nat) (hn : fas[n]? = some (.glo x)) : mg x = some (.ref (ga K x)) := glo_ok KX G (exF c n hn)
theorem dfn_of {i : Nat} {x : Str} (n m : Nat) (hn : ds[n]? = some (dT i x)) (hm : fas[m]? = some (.glo x)) : Dfn K mg (top i) x := by
  obtain ⟨oc, od, osl, clo, dV, kV, doc, pm, an, cdv, ct, D⟩ := exD c n hn
  obtain ⟨fd, F⟩ := D.funD rfl
  exact ⟨_, fd, F, exG KX G c m hm⟩
theorem dfnC_of {i : Nat} {x : Str} (n m : Nat) (hn : ds[n]? = some (dT i x)) (hm : fas[m]? = some (.glo x)) : DfnC K mg (top i) x (codeA K (ga K x)) := by
  obtain ⟨oc, od, osl, clo, dV, kV, doc, pm, an, cdv, ct, D⟩ := exD c n hn
  have e : clo = [] := List.map_eq_nil_iff.mp D.cl
  subst e
  obtain ⟨cd, rfl⟩ := codeIn_ref D.cd
  have edV : dV = .none := by
    rcases D.df with ⟨_, e⟩ | ⟨e, _⟩
    · exact e
    · exact absurd rfl e
  subst edV
  have lk : K.lookup (ga K x) = _ := D.lk
  have ec : codeA K (ga K x) = cd := by
    unfold codeA
    rw [lk]
  rw [ec]
  exact ⟨ga K x, oc, od, kV, doc, pm, an, ct, osl, lk, D.cd, D.kp, exG KX G c m hm⟩
omit KX G
theorem dfnM_of {j : Nat} {m q : Str} (n k : Nat) (hn : ds[n]? = some (dM j m q [])) (hm : fas[k]? = some (.meth "Book" m)) : DfnM K (ga K "Book") (mth 50 j) m q := by
  obtain ⟨oc, od, osl, clo, dV, kV, doc, pm, an, cdv, ct, D⟩ := exD c n hn
  obtain ⟨fd, F⟩ := D.funD rfl
  exact ⟨_, fd, F, meth_ok (exF c k hm)⟩
theorem dfnU_of {j : Nat} {m q : Str} (n k : Nat) (hn : ds[n]? = some (dM j m q [.int 1])) (hm : fas[k]? = some (.meth "Book" m)) : DfnU K (ga K "Book") (mth 50 j) m q := by
  obtain ⟨oc, od, osl, clo, dV, kV, doc, pm, an, cdv, ct, D⟩ := exD c n hn
  obtain ⟨fd, F⟩ := D.funD rfl
  exact ⟨_, fd, F, meth_ok (exF c k hm)⟩
theorem dfnP_of {j : Nat} {m q : Str} (n : Nat) (hn : ds[n]? = some (dP j m q)) (hp : propB K "Book" m = true) : DfnP K (ga K "Book") (mth 50 j) m q := by
  obtain ⟨oc, od, osl, clo, dV, kV, doc, pm, an, cdv, ct, D⟩ := exD c n hn
  obtain ⟨fd, F⟩ := D.funD rfl
  exact ⟨_, _, fd, F, propB_ok hp⟩
end
/-- all that is had of the top -/
structure GotK (K : PySem.W.Frag) (mg : Str → Option Value) : Prop where
  d21 : Dfn K mg (top 21) "is_integer"
  d22 : Dfn K mg (top 22) "is_between"
  d23 : Dfn K mg (top 23) "is_rising"
  d24 : Dfn K mg (top 24) "is_lot"
  d25 : Dfn K mg (top 25) "is_step"
  d26 : Dfn K mg (top 26) "are_steps"
  d28 : Dfn K mg (top 28) "is_index"
  d29 : Dfn K mg (top 29) "need_columns"
  d31 : Dfn K mg (top 31) "need_index_of"
  d38 : Dfn K mg (top 38) "is_row"
  d44 : Dfn K mg (top 44) "values_at"
  d49 : Dfn K mg (top 49) "is_key_of"
  d52 : Dfn K mg (top 52) "_law_mixed"
  d53 : Dfn K mg (top 53) "_law_begin"
  d54 : Dfn K mg (top 54) "_law_draw"
  d55 : Dfn K mg (top 55) "_law_of"
  d56 : Dfn K mg (top 56) "_law_steps"
  d57 : Dfn K mg (top 57) "_law_index"
  d58 : Dfn K mg (top 58) "_law_at_lot"
  d59 : Dfn K mg (top 59) "_law_is_key"
  d60 : Dfn K mg (top 60) "_law_lot"
  d61 : Dfn K mg (top 61) "_law_row"
  d62 : DfnC K mg (top 62) "_law_told" (codeA K (ga K "_law_told"))
  d63 : DfnC K mg (top 63) "_law_rows_deed" (codeA K (ga K "_law_rows_deed"))
  d64 : DfnC K mg (top 64) "_law_stock_deed" (codeA K (ga K "_law_stock_deed"))
  d65 : DfnC K mg (top 65) "_law_keys_deed" (codeA K (ga K "_law_keys_deed"))
  d66 : DfnC K mg (top 66) "_law_back" (codeA K (ga K "_law_back"))
  d67 : Dfn K mg (top 67) "_law_deed"
  d68 : Dfn K mg (top 68) "_law_stands"
  d69 : Dfn K mg (top 69) "_law_right"
  d70 : DfnC K mg (top 70) "_law_hand_right" (codeA K (ga K "_law_hand_right"))
  m0 : DfnM K (ga K "Book") (mth 50 0) "__init__" "Book.__init__"
  m4 : DfnM K (ga K "Book") (mth 50 4) "go_on" "Book.go_on"
  m5 : DfnM K (ga K "Book") (mth 50 5) "need_row" "Book.need_row"
  m6 : DfnM K (ga K "Book") (mth 50 6) "add" "Book.add"
  m7 : DfnM K (ga K "Book") (mth 50 7) "remove" "Book.remove"
  m8 : DfnM K (ga K "Book") (mth 50 8) "make" "Book.make"
  m9 : DfnM K (ga K "Book") (mth 50 9) "drop" "Book.drop"
  m10 : DfnM K (ga K "Book") (mth 50 10) "need_key" "Book.need_key"
  m11 : DfnM K (ga K "Book") (mth 50 11) "claim" "Book.claim"
  m12 : DfnM K (ga K "Book") (mth 50 12) "waive" "Book.waive"
  m18 : DfnM K (ga K "Book") (mth 50 18) "__len__" "Book.__len__"
  m15 : DfnU K (ga K "Book") (mth 50 15) "undo" "Book.undo"
  p1 : DfnP K (ga K "Book") (mth 50 1) "table" "Book.table"
  p2 : DfnP K (ga K "Book") (mth 50 2) "indexes" "Book.indexes"
  p3 : DfnP K (ga K "Book") (mth 50 3) "held_keys" "Book.held_keys"
  Z : Fre mg
  W : Ways K mg
  BC : BkC K (ga K "Book")
  BM : BkMk K mg (ga K "Book")
  TD : ToldC K mg (ga K "BadRow") (ga K "BadKey") (ga K "BadNumber") (ga K "BadIndex") (ga K "Broken") (ga K "Missing") (ga K "NothingLeft")
  eN : ExnC PR K mg "BadNumber" "given" (ga K "BadNumber")
  eB : ExnC PR K mg "Broken" "given" (ga K "Broken")
  eM : ExnC PR K mg "Missing" "given" (ga K "Missing")
  eL : ExnC PR K mg "NothingLeft" "many" (ga K "NothingLeft")
  mc : MostC mg
  mr : IntC mg "MOST_ROWS" 30
  ms : IntC mg "MOST_STOCK" 12
  mq : IntC mg "MOST_KEYS" 8
theorem own_of {K : PySem.W.Frag} {mg : Str → Option Value} {i : Nat} {x q fld : Str} {B Nn newId initId : String} {bmB : List Value} (F : EF B Nn newId initId bmB) (hb : ownB K x fld B newId initId bmB = true) (tp : PySem.W.nsIn K cStatics "thirdparty.any" = some none) (noSup : mg "super" = none) (hg : mg x = some (.ref (ga K x))) (hf : fld = "given" ∨ fld = "many")
    (D : ∃ oc od osl clo dV kV doc pm an cdv ct, DDat K (dI i x q) oc od osl clo dV kV doc pm an cdv ct) {txt : Str} {k : Nat} {p1 p2 q1 q2 q3 q4 q5 q6 q7 q8 q9 q10 : Pos} (hA : defArgs (mth i 0) = iA fld p1 p2) (hB : defBody (mth i 0) = iB fld txt k q1 q2 q3 q4 q5 q6 q7 q8 q9 q10) (hS : defScope (mth i 0) = iS fld) (hh : SupHe txt k q1 q2 q3 q4 q5) :
    ExnC PR K mg x fld (ga K x) ∧ XfC K (ga K x) ∧ PySem.W.findIn K (.ref (ga K x)) fld = some none := by
  obtain ⟨oc, od, osl, clo, dV, kV, doc, pm, an, cdv, ct, D⟩ := D
  obtain ⟨h1, h2, h3⟩ := ownB_ok (mg := mg) F hb tp noSup D rfl rfl rfl rfl hA hB hS hh
  exact ⟨⟨_, _, _, _, _, _, h1, hg, hf⟩, h2, h3⟩
theorem got_of {K : PySem.W.Frag} {mg : Str → Option Value} {h : Heap} (KX : K.In h) (G : h.Ns mainGlobals mg) (c : SaysY ds tf exK h K) : GotK K mg := by
  obtain ⟨_, hx⟩ := ba c.more
  obtain ⟨xW, hx⟩ := ba hx
  obtain ⟨xP1, hx⟩ := ba hx
  obtain ⟨xP2, hx⟩ := ba hx
  obtain ⟨xP3, hx⟩ := ba hx
  obtain ⟨xN, hx⟩ := ba hx
  obtain ⟨xB, hx⟩ := ba hx
  obtain ⟨xM, hx⟩ := ba hx
  obtain ⟨xL, hx⟩ := ba hx
  obtain ⟨xT, _⟩ := ba hx
  have tp := eqO_ok xT
  have noSup := free_ok KX G (exF c 55 rfl)
  obtain ⟨eN, xNf, xNn⟩ := own_of (i := 3) ef_VE xN tp noSup (exG KX G c 36 rfl) (.inl rfl) (exD c 47 rfl) rfl rfl rfl ⟨_, fun _ => rfl⟩
  obtain ⟨eB, xBf, xBn⟩ := own_of (i := 10) ef_VE xB tp noSup (exG KX G c 38 rfl) (.inl rfl) (exD c 48 rfl) rfl rfl rfl ⟨_, fun _ => rfl⟩
  obtain ⟨eM, xMf, xMn⟩ := own_of (i := 12) ef_KE xM tp noSup (exG KX G c 39 rfl) (.inl rfl) (exD c 49 rfl) rfl rfl rfl ⟨_, fun _ => rfl⟩
  obtain ⟨eL, xLf, xLn⟩ := own_of (i := 13) ef_RE xL tp noSup (exG KX G c 40 rfl) (.inr rfl) (exD c 50 rfl) rfl rfl rfl ⟨_, fun _ => rfl⟩
  have mk := mkr_ok (exF c 63 rfl)
  exact {
    d21 := dfn_of KX G c 0 0 rfl rfl
    d22 := dfn_of KX G c 1 1 rfl rfl
    d23 := dfn_of KX G c 2 2 rfl rfl
    d24 := dfn_of KX G c 3 3 rfl rfl
    d25 := dfn_of KX G c 4 4 rfl rfl
    d26 := dfn_of KX G c 5 5 rfl rfl
    d28 := dfn_of KX G c 6 6 rfl rfl
    d29 := dfn_of KX G c 7 7 rfl rfl
    d31 := dfn_of KX G c 8 8 rfl rfl
    d38 := dfn_of KX G c 9 9 rfl rfl
    d44 := dfn_of KX G c 10 10 rfl rfl
    d49 := dfn_of KX G c 11 11 rfl rfl
    d52 := dfn_of KX G c 12 12 rfl rfl
    d53 := dfn_of KX G c 13 13 rfl rfl
    d54 := dfn_of KX G c 14 14 rfl rfl
    d55 := dfn_of KX G c 15 15 rfl rfl
    d56 := dfn_of KX G c 16 16 rfl rfl
    d57 := dfn_of KX G c 17 17 rfl rfl
    d58 := dfn_of KX G c 18 18 rfl rfl
    d59 := dfn_of KX G c 19 19 rfl rfl
    d60 := dfn_of KX G c 20 20 rfl rfl
    d61 := dfn_of KX G c 21 21 rfl rfl
    d62 := dfnC_of KX G c 22 22 rfl rfl
    d63 := dfnC_of KX G c 23 23 rfl rfl
    d64 := dfnC_of KX G c 24 24 rfl rfl
    d65 := dfnC_of KX G c 25 25 rfl rfl
    d66 := dfnC_of KX G c 26 26 rfl rfl
    d67 := dfn_of KX G c 27 27 rfl rfl
    d68 := dfn_of KX G c 28 28 rfl rfl
    d69 := dfn_of KX G c 29 29 rfl rfl
    d70 := dfnC_of KX G c 30 30 rfl rfl
    m0 := dfnM_of c 32 64 rfl rfl
    m4 := dfnM_of c 33 65 rfl rfl
    m5 := dfnM_of c 34 66 rfl rfl
    m6 := dfnM_of c 35 67 rfl rfl
    m7 := dfnM_of c 36 68 rfl rfl
    m8 := dfnM_of c 37 69 rfl rfl
    m9 := dfnM_of c 38 70 rfl rfl
    m10 := dfnM_of c 39 71 rfl rfl
    m11 := dfnM_of c 40 72 rfl rfl
    m12 := dfnM_of c 41 73 rfl rfl
    m18 := dfnM_of c 42 74 rfl rfl
    m15 := dfnU_of c 43 75 rfl rfl
    p1 := dfnP_of c 44 rfl xP1
    p2 := dfnP_of c 45 rfl xP2
    p3 := dfnP_of c 46 rfl xP3
    Z := ⟨free_ok KX G (exF c 41 rfl), free_ok KX G (exF c 42 rfl), free_ok KX G (exF c 43 rfl), free_ok KX G (exF c 44 rfl), free_ok KX G (exF c 45 rfl), free_ok KX G (exF c 46 rfl), free_ok KX G (exF c 47 rfl), free_ok KX G (exF c 48 rfl), free_ok KX G (exF c 49 rfl), free_ok KX G (exF c 50 rfl), free_ok KX G (exF c 51 rfl), free_ok KX G (exF c 52 rfl), free_ok KX G (exF c 53 rfl), free_ok KX G (exF c 54 rfl)⟩
    W := ⟨_, exG KX G c 33 rfl, fun H => tupB_ok xW H⟩
    BC := ⟨cls_ok (exF c 60 rfl), noat_ok (exF c 61 rfl), noat_ok (exF c 62 rfl)⟩
    BM := ⟨mk.makes, mk.kp, exG KX G c 32 rfl⟩
    TD := {
      gR := exG KX G c 34 rfl
      gK := exG KX G c 35 rfl
      gN := exG KX G c 36 rfl
      gI := exG KX G c 37 rfl
      gB := exG KX G c 38 rfl
      gM := exG KX G c 39 rfl
      gL := exG KX G c 40 rfl
      xN := xNf
      nN := xNn
      xB := xBf
      nB := xBn
      xM := xMf
      nM := xMn
      xL := xLf
      nL := xLn
      eN := ⟨exm_ok (exF c 76 rfl), exm_ok (exF c 77 rfl), exm_ok (exF c 78 rfl)⟩
      eB := ⟨exm_ok (exF c 79 rfl), exm_ok (exF c 80 rfl), exm_ok (exF c 81 rfl), exm_ok (exF c 82 rfl), exm_ok (exF c 83 rfl)⟩
      eM := ⟨exm_ok (exF c 84 rfl), exm_ok (exF c 85 rfl), exm_ok (exF c 86 rfl), exm_ok (exF c 87 rfl), exm_ok (exF c 88 rfl), exm_ok (exF c 89 rfl)⟩
      eL := ⟨exm_ok (exF c 90 rfl), exm_ok (exF c 91 rfl), exm_ok (exF c 92 rfl), exm_ok (exF c 93 rfl), exm_ok (exF c 94 rfl), exm_ok (exF c 95 rfl), exm_ok (exF c 96 rfl)⟩ }
    eN := eN
    eB := eB
    eM := eM
    eL := eL
    mc := int_ok KX G (exF c 56 rfl)
    mr := int_ok KX G (exF c 57 rfl)
    ms := int_ok KX G (exF c 58 rfl)
    mq := int_ok KX G (exF c 59 rfl) }
def csOf (K : PySem.W.Frag) : List (Addr × Addr) := [cTa K (ga K "_law_rows_deed"), cTa K (ga K "_law_stock_deed"), cTa K (ga K "_law_keys_deed"), cTa K (ga K "_law_back"), cTa K (ga K "_law_hand_right")]
def TOf (K : PySem.W.Frag) : List (Addr × Str) := [((cTa K (ga K "_law_rows_deed")).2, "_law_rows_deed.<locals>.<lambda>"), ((cTa K (ga K "_law_stock_deed")).2, "_law_stock_deed.<locals>.<lambda>"), ((cTa K (ga K "_law_keys_deed")).2, "_law_keys_deed.<locals>.<lambda>"), ((cTa K (ga K "_law_back")).2, "_law_back.<locals>.<lambda>"), ((cTa K (ga K "_law_hand_right")).2, "_law_hand_right.<locals>.<lambda>")]
theorem dist_mem {l : List Nat} (h : distB l = true) : l.Nodup := by
  induction l with
  | nil => exact .nil
  | cons a r ih =>
    obtain ⟨h1, h2⟩ := ba h
    refine List.nodup_cons.mpr ⟨fun hm => ?_, ih h2⟩
    have key : ∀ {l : List Nat}, a ∈ l → memN a l = true := fun {l} => by
      induction l with
      | nil => intro z; cases z
      | cons b l ih2 =>
        intro z
        unfold memN
        cases e : Nat.beq a b with
        | true => rfl
        | false =>
          rcases List.mem_cons.mp z with q | q
          · rw [q, Nat.beq_refl] at e; cases e
          · exact ih2 q
    rw [key hm] at h1
    cases h1
theorem inj_nd {α β : Type} {f : α → β} {p q : α} : ∀ {l : List α}, (l.map f).Nodup → p ∈ l → q ∈ l → f q = f p → q = p
  | [], _, hp, _, _ => by cases hp
  | x :: l, hn, hp, hq, e => by
    rw [List.map_cons] at hn
    obtain ⟨h1, h2⟩ := List.nodup_cons.mp hn
    rcases List.mem_cons.mp hp with a | a
    · rcases List.mem_cons.mp hq with b | b
      · rw [a, b]
      · exact absurd (List.mem_map.mpr ⟨q, b, by rw [e, a]⟩) h1
    · rcases List.mem_cons.mp hq with b | b
      · exact absurd (List.mem_map.mpr ⟨p, a, by rw [← e, b]⟩) h1
      · exact inj_nd h2 a b e
theorem T_one {K : PySem.W.Frag} (hd : distB (tf.map fun p => (cTa K (p K)).2) = true) : ∀ p ∈ TOf K, ∀ q ∈ TOf K, q.1 = p.1 → q.2 = p.2 := by
  have hn := dist_mem hd
  have e : tf.map (fun p => (cTa K (p K)).2) = (TOf K).map (·.1) := rfl
  rw [e] at hn
  intro p hp q hq he
  rw [inj_nd hn hp hq he]
section
variable {w : World} {K : PySem.W.Frag} {mg : Str → Option Value} {base : Heap}
theorem law_runs {f0 : Addr} {fd : FuncData} (g : GotK K mg) (D : FunD K "law" "law" (defArgs (top 71)) (defBody (top 71)) (defScope (top 71)) [] [] f0 fd) (TB : ∀ p ∈ csOf K, LamX.TabB base mg p.1 p.2) (hd : distB (tf.map fun p => (cTa K (p K)).2) = true) : FnG PR w K mg base Nx0 13 f0 fd ["_law_script"] (spLaw K (TOf K)) := by
  have c21 := cal_int (P := PR) (w := w) (base := base) g.d21 g.Z
  have c22 := cal_btw g.d22 c21
  have c23 := cal_ris (P := PR) (w := w) (base := base) g.d23 g.Z
  have c24 := cal_islot g.d24 g.Z c22 c23
  have c25 := cal_step g.d25 g.Z g.W c22
  have c26 := cal_steps26 g.d26 g.Z c25 c23
  have c28 := cal_ix28 g.d28 c26
  have c31 := cal_needix g.d31 c28
  have c29 := cal_needc g.d29 g.mc c22
  have c38 := cal_isrow g.d38 g.Z c21
  have c44 := cal_at44 (P := PR) (w := w) (base := base) g.d44 g.Z
  have c58 := cal_at58 (P := PR) (w := w) (base := base) g.d58 g.Z
  have c49 := cal_key49 g.d49 g.Z c44
  have c59 := cal_key59 g.d59 g.Z c58
  have c52 := cal_mix (P := PR) (w := w) (K := K) (base := base) g.d52 g.Z
  have c53 := cal_begin (P := PR) (w := w) (base := base) g.d53 g.Z
  have c54 := cal_draw g.d54 g.Z c52
  have c55 := cal_of g.d55 g.Z c54
  have c56 := cal_steps g.d56 g.Z c54
  have c57 := cal_index g.d57 g.Z c54 c56
  have c60 := cal_lot g.d60 g.Z c54
  have c61 := cal_row g.d61 g.Z c54
  have m0 := cal_initB g.m0 g.BC c29
  have m4 := cal_go (P := PR) (w := w) (mg := mg) (base := base) g.m4 g.BC
  have m5 := cal_needrow g.m5 g.BC c38
  have m10 := cal_needkey g.m10 g.BC c24
  have m6 := cal_add g.m6 g.Z g.BC g.mr g.eB m5 c49 m4
  have m7 := cal_remove g.m7 g.BC g.eM m5 m4
  have m8 := cal_make g.m8 g.Z g.BC g.ms c31 m4
  have m9 := cal_drop g.m9 g.Z g.BC g.eN c22 m4
  have m11 := cal_claim g.m11 g.Z g.BC g.mq g.eB m10 c49 m4
  have m12 := cal_waive g.m12 g.Z g.BC g.eM m10 m4
  have p1 := cal_table (P := PR) (w := w) (mg := mg) (base := base) g.p1 g.BC
  have p2 := cal_indexes (P := PR) (w := w) (mg := mg) (base := base) g.p2 g.BC
  have p3 := cal_held (P := PR) (w := w) (mg := mg) (base := base) g.p3 g.BC
  have m18 := cal_lenB (P := PR) (w := w) (base := base) g.m18 g.Z g.BC
  have m15 := cal_undo g.m15 g.Z g.BC g.eL c21
  have one := T_one hd
  have t63 : ((cTa K (ga K "_law_rows_deed")).2, ("_law_rows_deed.<locals>.<lambda>" : Str)) ∈ TOf K := List.mem_cons_self
  have b63 := TB (cTa K (ga K "_law_rows_deed")) (List.mem_cons_self)
  have t64 : ((cTa K (ga K "_law_stock_deed")).2, ("_law_stock_deed.<locals>.<lambda>" : Str)) ∈ TOf K := List.mem_cons_of_mem _ List.mem_cons_self
  have b64 := TB (cTa K (ga K "_law_stock_deed")) (List.mem_cons_of_mem _ List.mem_cons_self)
  have t65 : ((cTa K (ga K "_law_keys_deed")).2, ("_law_keys_deed.<locals>.<lambda>" : Str)) ∈ TOf K := List.mem_cons_of_mem _ (List.mem_cons_of_mem _ List.mem_cons_self)
  have b65 := TB (cTa K (ga K "_law_keys_deed")) (List.mem_cons_of_mem _ (List.mem_cons_of_mem _ List.mem_cons_self))
  have t66 : ((cTa K (ga K "_law_back")).2, ("_law_back.<locals>.<lambda>" : Str)) ∈ TOf K := List.mem_cons_of_mem _ (List.mem_cons_of_mem _ (List.mem_cons_of_mem _ List.mem_cons_self))
  have b66 := TB (cTa K (ga K "_law_back")) (List.mem_cons_of_mem _ (List.mem_cons_of_mem _ (List.mem_cons_of_mem _ List.mem_cons_self)))
  have t70 : ((cTa K (ga K "_law_hand_right")).2, ("_law_hand_right.<locals>.<lambda>" : Str)) ∈ TOf K := List.mem_cons_of_mem _ (List.mem_cons_of_mem _ (List.mem_cons_of_mem _ (List.mem_cons_of_mem _ List.mem_cons_self)))
  have b70 := TB (cTa K (ga K "_law_hand_right")) (List.mem_cons_of_mem _ (List.mem_cons_of_mem _ (List.mem_cons_of_mem _ (List.mem_cons_of_mem _ List.mem_cons_self))))
  have c63 := cal_deed63 g.d63 g.Z g.BC g.TD g.d62 b63 t63 (fun q hq e => one _ t63 q hq e) c54 c55 c61 c59 m6 m7
  have c64 := cal_deed64 g.d64 g.Z g.BC g.TD g.d62 b64 t64 (fun q hq e => one _ t64 q hq e) c54 c57 m8 m9
  have c65 := cal_deed65 g.d65 g.Z g.BC g.TD g.d62 b65 t65 (fun q hq e => one _ t65 q hq e) c54 c60 c59 m11 m12
  have c66 := cal_back66 g.d66 g.Z g.BC g.TD g.d62 b66 t66 (fun q hq e => one _ t66 q hq e) c54 m15
  have c67 := cal_deed67 g.d67 c54 c63 c64 c65 c66
  have c68 := cal_stands g.d68 g.Z g.BC p1 p2 p3 m18
  have c69 := cal_right g.d69 g.Z g.BC g.BM c54 m0 c67 c68
  have c70 := cal_hand g.d70 g.Z g.BC g.BM g.TD g.d62 b70 t70 (fun q hq e => one _ t70 q hq e) m0 m6 m7 m11 m15 p1 p3 m18
  exact fn_law D g.Z c53 c69 c70
end
theorem head_of {w : World} {mg : Str → Option Value} {fa : Addr} {h : Heap} (Y : hk.says w h) (G : h.Ns mainGlobals mg) (hfa : mg "law" = some (.ref fa)) : HeadG PySem.Challenge.rw_fewindexes_k25_whole_books_led w Nx0 13 63 "_law_script" mg fa h := by
  obtain ⟨K, KX, c⟩ := Y
  have g := got_of KX G c
  obtain ⟨oc, od, osl, clo, dV, kV, doc, pm, an, cdv, ct, D⟩ := exD c 31 (d := dT 71 "law") rfl
  obtain ⟨fd, F⟩ := D.funD rfl
  have e : fa = ga K "law" := by
    have := hfa.symm.trans (exG KX G c 31 rfl)
    cases this
    rfl
  subst e
  obtain ⟨_, hx⟩ := ba c.more
  have hd : distB (tf.map fun p => (cTa K (p K)).2) = true := (ba (ba (ba (ba (ba (ba (ba (ba (ba hx).2).2).2).2).2).2).2).2).2
  have b := FunD.bindsA (ps := ["_law_script"]) F fun _ _ _ _ _ _ us hl => match us, hl with | [_], _ => rfl
  have key : ∀ p ∈ csOf K, ∃ q ∈ tf, p = cTa K (q K) := fun p hp => by
    have e : csOf K = tf.map fun q => cTa K (q K) := rfl
    rw [e] at hp
    obtain ⟨q, hq, e⟩ := List.mem_map.mp hp
    exact ⟨q, hq, e.symm⟩
  refine ⟨K, fd, csOf K, spLaw K (TOf K), KX, fun p hp => ?_, fun p hp => ?_, fun p hp => ?_, fun s v => b s [v] rfl, fun H a ns hl hH hS => ⟨a, ns, rfl, hS, hl, fun p hp => ?_, fun _ => rfl⟩, fun base _ _ TB => law_runs g F TB hd⟩
  · obtain ⟨q, hq, rfl⟩ := key p hp
    exact c.empty q hq
  · obtain ⟨q, hq, rfl⟩ := key p hp
    exact c.out q hq
  · obtain ⟨q, hq, rfl⟩ := key p hp
    exact PySem.W.codeHd_of_K KX (c.hd q hq)
  · have e : (TOf K).map (·.1) = (csOf K).map (·.2) := rfl
    have hm : p.1 ∈ (csOf K).map (·.2) := by rw [← e]; exact List.mem_map.mpr ⟨p, hp, rfl⟩
    obtain ⟨z, hz, ez⟩ := List.mem_map.mp hm
    have := hH z hz
    rw [ez] at this
    exact LamX.TabS.nil this
end K25
end

section
-- XFin
set_option Elab.async false
set_option linter.all false
set_option maxRecDepth 100000
set_option maxHeartbeats 0
open PySem PySem.W PySem.Calls PyProof.Rows
theorem PySem.Challenge.cw_fewindexes_k25_whole_books_led_holds : PySem.Challenge.rw_fewindexes_k25_whole_books_led.Holds := by
  w_on; o_law
  refine HandSHeadRun.head_any (r := OpenLaw.row PySem.Challenge.rw_fewindexes_k25_whole_books_led) (q := K25.qv) (H := K25.hk) (ob := K25.ob) (M := 10000) (loose := K25.names) (d := HandSHeadRun.topDef (OpenLaw.row PySem.Challenge.rw_fewindexes_k25_whole_books_led).prog 71) (kwd := []) K25.ob_eq
    (by kernel_rfl) (fun s => by kernel_rfl) K25.run (by kernel_rfl) (by kernel_rfl) (by kernel_rfl) (by rfl) (by first | assumption | decide +kernel) (by decide +kernel) ⟨rfl, rfl, rfl, rfl, rfl, by decide +kernel⟩ ?hw ?hc
  case hw => w_witness2
  case hc =>
    refine K25.walk_G (l := PySem.Challenge.rw_fewindexes_k25_whole_books_led) (n := 63) (k := 13) (x := "_law_script") (CX := fun _ => K25.Nx0) rfl (by decide) (by kernel_rfl) ⟨rfl, by decide, by decide⟩ ?F (fun _ _ _ _ _ z => z)
    intro w mg fa h Y G hmg0
    have hmg : mg ("law" : PySem.Str) = some (.ref fa) := by
      have e : (HandSHeadRun.topDef (OpenLaw.row PySem.Challenge.rw_fewindexes_k25_whole_books_led).prog 71).name = ("law" : PySem.Str) := by kernel_rfl
      rw [← e]
      exact hmg0
    exact K25.head_of Y G hmg
end
