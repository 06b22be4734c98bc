import PyProof.Rows.All
import Wide.All
import OpenK.AllK
import Wide.FinOn
import KE.SortKeyed
import KE.DataEq
import KE.DataCmp
import HandS.ForMost
import HandS.Wide
import HandS.Gcd
import HandS.Walk
import HandS.IsInst
import KE.KDictKeyed
import KE.KDictCopyH
import HandS.ExcCtx
import KE.KStateDown
import HandS.More
import HandS.WordsExc
import HandS.Defaults
import HandS.Head0
import HandS.Head1
import HandS.Head2
import HandS.HeadEnd
import HandS.HeadHook1
import HandS.HeadHook2
import KE.DataMinMax
import KE.DataFind
import HandS.Deep
import HandS.TupAny
import HandS.Text
import HandS.Zip
import HandS.Conv
import HandS.Iter
import HandS.TupSets
import PyProof.StrOps2
import HandS.Strs
import HandS.TupLen
import HandS.WordsDict
import HandS.DictComp
import HandS.SetKeys
import HandS.Star
import HandS.WideBits
import Flt.RightSqrt
import KE.GoesEnum
import HandS.IterVal
import HandS.ExcInit
import HandS.ExcInitHot
import HandS.ExcField
import HandS.HotCalls
import KE.KExcIs
import HandS.Head3
import PySem.Challenge.RW_everygain_k01_names_and_dials_checked
set_option Elab.async false
set_option linter.all false
set_option maxRecDepth 100000
set_option maxHeartbeats 4000000
/-! DLW: order of data that differ in make behind the first place that differs -/
namespace PySem.SeqAt
open AutoSeq1 (wpAny_loadPart')
open MeetsSeq MeetsSeq2 MeetsSeq3 SeqRoads2
theorem tuple_ltF (l b : Addr) (items items2 : Array Value) (n n2 : Nat) (dd dd2 : Option Addr) (sl sl2 : Array (Option Value)) (e r : Nat → Bool) :
    Meets (Builtin.«tuple.__lt__» ⟨[.ref l, .ref b], []⟩)
      (fun A R s => s.heap.get? l = some { cls := .type "tuple", dict := dd, data := .seq items n, slots := sl } ∧ s.heap.get? b = some { cls := .type "tuple", dict := dd2, data := .seq items2 n2, slots := sl2 } ∧
        (∀ j (h1 : j < items.size) (h2 : j < items2.size), EqAt A.in1 s items[j] items2[j] (e j)) ∧ (∀ j (h1 : j < items.size) (h2 : j < items2.size), e j = false → (∀ i, i < j → e i = true) → RcLt A.in1 s items[j] items2[j] (r j)) ∧
        R (.ok (.ret (.bool (firstLt e r (decide (items.size < items2.size)) (List.range (min items.size items2.size)))))) s) :=
  .of_wp fun prog w A R s h => by
    obtain ⟨hp, g, d, tk, os⟩ := s; obtain ⟨hl, hb, he, hr, h⟩ := h
    have f2 := AutoSeq1.sub_tuple_tuple
    have hZ : (items.toList.zip items2.toList).length = min items.size items2.size := by simp
    wp_walk using wpAny_loadPart' hl, wpAny_loadPart' hb, wpAny_forIn_list _ (fun rest b s' => b.1 = none ∧ s' = ⟨hp, g, d, tk, os⟩ ∧ ∃ i, rest = (items.toList.zip items2.toList).drop i ∧ (∀ k, k < i → e k = true) ∧
      R (.ok (.ret (.bool (firstLt e r (decide (items.size < items2.size)) ((List.range (min items.size items2.size)).drop i))))) ⟨hp, g, d, tk, os⟩) _
    case turn =>
      rintro ⟨y, x⟩ rest b s' ⟨hb', rfl, i, hz, hk, hR⟩
      have hlt : i < (items.toList.zip items2.toList).length := by
        rcases Nat.lt_or_ge i (items.toList.zip items2.toList).length with h' | h'
        · exact h'
        · rw [List.drop_of_length_le h'] at hz; cases hz
      have hm : i < min items.size items2.size := hZ ▸ hlt
      have h1 : i < items.size := Nat.lt_of_lt_of_le hm (Nat.min_le_left _ _)
      have h2 : i < items2.size := Nat.lt_of_lt_of_le hm (Nat.min_le_right _ _)
      rw [List.drop_eq_getElem_cons hlt] at hz
      injection hz with hyx hrest
      have hy : y = items[i] := by have := congrArg Prod.fst hyx; simpa using this
      have hx : x = items2[i] := by have := congrArg Prod.snd hyx; simpa using this
      subst hy hx
      have hd : (List.range (min items.size items2.size)).drop i = i :: (List.range (min items.size items2.size)).drop (i + 1) := by simp [List.drop_eq_getElem_cons, hm]
      rw [hd] at hR
      refine wpAny_bind (he i h1 h2 prog w _ _ ?_)
      cases hy : e i with
      | true =>
        rw [firstLt_yes hy] at hR
        wp_walk
        refine ⟨rfl, rfl, i + 1, hrest, fun k hk' => ?_, hR⟩
        by_cases hki : k = i
        · subst hki; exact hy
        · exact hk k (by omega)
      | false =>
        rw [firstLt_no hy] at hR
        show wpAny _ _ (rule "tuple.compare.by-the-first-pair-that-differs" >>= fun _ => richCompare CmpOp.Lt items[i] items2[i] >>= fun v => ret v >>= fun r => pure (ForInStep.done (some r, ()))) _ _ _
        refine wpAny_bind (wpAny_rule ?_)
        refine wpAny_bind (hr i h1 h2 hy hk prog w _ _ ?_)
        wp_walk
        exact ⟨_, rfl, hR⟩
    case fin =>
      rintro ⟨b1, b2⟩ s' ⟨hb', rfl, i, hz, _, hR⟩
      simp only at hb'
      subst hb'
      have hge : min items.size items2.size ≤ i := by
        rcases Nat.lt_or_ge i (items.toList.zip items2.toList).length with h' | h'
        · rw [List.drop_eq_getElem_cons h'] at hz; cases hz
        · exact hZ ▸ h'
      rw [List.drop_of_length_le (by simpa using hge)] at hR
      wp_walk
      exact ⟨_, rfl, by simpa [Builtin.Tuple.tupleCompareSizes, firstLt] using hR⟩
    case h =>
      exact ⟨rfl, rfl, 0, rfl, fun _ h => absurd h (Nat.not_lt_zero _), by simpa using h⟩
theorem RcLt.tuplesF {A : Around} {s : Shared} {l b : Addr} {items items2 : Array Value} {e r : Nat → Bool} (hl : s.heap.IsTuple l items) (hb : s.heap.IsTuple b items2) (hu : A.units < cLine)
    (he : ∀ j (h1 : j < items.size) (h2 : j < items2.size), EqAt A.in1 s items[j] items2[j] (e j)) (hr : ∀ j (h1 : j < items.size) (h2 : j < items2.size), e j = false → (∀ i, i < j → e i = true) → RcLt A.in1 s items[j] items2[j] (r j)) :
    RcLt A s (.ref l) (.ref b) (firstLt e r (decide (items.size < items2.size)) (List.range (min items.size items2.size))) := fun prog w E Q h => by
  obtain ⟨⟨cls, dd, data, sl⟩, ho, hc, n, hd⟩ := id hl
  obtain ⟨⟨cls2, dd2, data2, sl2⟩, ho2, hc2, n2, hd2⟩ := id hb
  simp only at hc hd hc2 hd2
  subst hc hd hc2 hd2
  exact richCompare_meets_room (op := .Lt) ⟨_, ho, rfl⟩ ⟨_, ho2, rfl⟩ F.slot_tuple_lt F.entry_tuple_lt (F.args_tuple_lt_2 _ _) (tuple_ltF l b items items2 n n2 dd dd2 sl sl2 e r)
    ⟨ho, ho2, he, hr, show Value.bool (firstLt e r (decide (items.size < items2.size)) (List.range (min items.size items2.size))) ≠ Value.notImplemented ∧ Q (.bool (firstLt e r (decide (items.size < items2.size)) (List.range (min items.size items2.size)))) s from ⟨(fun x => nomatch x), h⟩⟩ hu
end PySem.SeqAt
namespace PySem.W
open PySem PySem.SeqAt PyProof.Rows
mutual
/-- the two can be compared, up to the first place that differs -/
def alikeW : PyData → PyData → Bool
  | .none, .none => true
  | .bool _, .bool _ => true
  | .int _, .int _ => true
  | .str _, .str _ => true
  | .list xs, .list ys => alikeAll xs ys
  | .tuple xs, .tuple ys => alikeAllW xs ys
  | _, _ => false
def alikeAllW : List PyData → List PyData → Bool
  | x :: xs, y :: ys => alikeW x y && (!PyData.eqv x y || alikeAllW xs ys)
  | [], _ => true
  | _ :: _, [] => true
end
theorem alikeW_cons {x y : PyData} {xs ys : List PyData} (h : alikeAllW (x :: xs) (y :: ys) = true) : alikeW x y = true ∧ (PyData.eqv x y = true → alikeAllW xs ys = true) := by
  rw [alikeAllW, Bool.and_eq_true, Bool.or_eq_true] at h
  refine ⟨h.1, fun e => ?_⟩
  rcases h.2 with h | h
  · rw [e] at h; cases h
  · exact h
mutual
theorem alikeW_of : ∀ (x y : PyData), alike x y = true → alikeW x y = true
  | .none, y, h => by cases y <;> first | rfl | exact absurd h (by simp [alike])
  | .bool _, y, h => by cases y <;> first | rfl | exact absurd h (by simp [alike])
  | .int _, y, h => by cases y <;> first | rfl | exact absurd h (by simp [alike])
  | .str _, y, h => by cases y <;> first | rfl | exact absurd h (by simp [alike])
  | .list xs, y, h => by cases y <;> first | (simpa [alike, alikeW] using h) | exact absurd h (by simp [alike])
  | .tuple xs, y, h => by
    cases y with
    | tuple ys => rw [alikeW]; exact alikeAllW_of xs ys (by simpa [alike] using h)
    | _ => exact absurd h (by simp [alike])
  | .dict _, y, h => absurd h (by cases y <;> simp [alike])
theorem alikeAllW_of : ∀ (xs ys : List PyData), alikeAll xs ys = true → alikeAllW xs ys = true
  | [], _, _ => by rw [alikeAllW]
  | _ :: _, [], _ => by rw [alikeAllW]
  | x :: xs, y :: ys, h => by
    obtain ⟨h1, h2⟩ := alike_all_cons h
    rw [alikeAllW, alikeW_of x y h1, alikeAllW_of xs ys h2]
    simp
end
/-- no tuples: as before -/
theorem alike_ofW {x y : PyData} (h : alikeW x y = true) (hx : ∀ xs, x ≠ .tuple xs) : alike x y = true := by
  cases x with
  | tuple xs => exact absurd rfl (hx xs)
  | list xs => cases y <;> first | (simpa [alike, alikeW] using h) | exact absurd h (by simp [alikeW])
  | _ => cases y <;> first | rfl | exact absurd h (by simp [alikeW])
mutual
theorem toks_eqvW : ∀ (x y : PyData), alikeW x y = true → (PyData.eqv x y = true → keyToks x = keyToks y) ∧ (PyData.eqv x y = false → ∀ l m, PyProof.Rows.lexLt itemOrd (keyToks x ++ l) (keyToks y ++ m) = PyProof.Rows.lexLt itemOrd (keyToks x) (keyToks y))
  | .tuple xs, y, h => by
    cases y with
    | tuple ys =>
      have t := toksAll_eqvW xs ys (by simpa [alikeW] using h)
      simp only [keyToks, PyData.eqv]
      exact t
    | _ => exact absurd h (by simp [alikeW])
  | .none, y, h => toks_eqv _ _ (alike_ofW h (by simp))
  | .bool _, y, h => toks_eqv _ _ (alike_ofW h (by simp))
  | .int _, y, h => toks_eqv _ _ (alike_ofW h (by simp))
  | .str _, y, h => toks_eqv _ _ (alike_ofW h (by simp))
  | .list _, y, h => toks_eqv _ _ (alike_ofW h (by simp))
  | .dict _, y, h => absurd h (by cases y <;> simp [alikeW])
theorem toksAll_eqvW : ∀ (xs ys : List PyData), alikeAllW xs ys = true → (PyData.eqvAll xs ys = true → keyToksAll xs = keyToksAll ys) ∧ (PyData.eqvAll xs ys = false → ∀ l m, PyProof.Rows.lexLt itemOrd (keyToksAll xs ++ l) (keyToksAll ys ++ m) = PyProof.Rows.lexLt itemOrd (keyToksAll xs) (keyToksAll ys))
  | [], [], _ => ⟨fun _ => rfl, fun e => absurd e (by simp [PyData.eqvAll])⟩
  | [], y :: ys, _ => ⟨fun e => absurd e (by simp [PyData.eqvAll]), fun _ l m => by
      simp only [keyToksAll, List.cons_append, List.nil_append]
      exact (lex_atom (by simp) _ _).trans (lex_atom (by simp) _ _).symm⟩
  | x :: xs, [], _ => ⟨fun e => absurd e (by simp [PyData.eqvAll]), fun _ l m => by
      simp only [keyToksAll, List.cons_append, List.nil_append]
      exact (lex_atom (by simp) _ _).trans (lex_atom (by simp) _ _).symm⟩
  | x :: xs, y :: ys, h => by
    obtain ⟨a1, a2⟩ := toks_eqvW x y (alikeW_cons h).1
    rw [eqv_all_cons, toks_all_cons, toks_all_cons]
    cases hx : PyData.eqv x y with
    | true =>
      obtain ⟨b1, b2⟩ := toksAll_eqvW xs ys ((alikeW_cons h).2 hx)
      rw [a1 hx, Bool.true_and]
      refine ⟨fun e => by rw [b1 e], fun e l m => ?_⟩
      simp only [List.cons_append, List.append_assoc]
      exact (lex_self (O := itemOrd) _ _ _).trans ((lex_pre _ _ _).trans ((b2 e l m).trans ((lex_pre _ _ _).symm.trans (lex_self (O := itemOrd) _ _ _).symm)))
    | false =>
      rw [Bool.false_and]
      refine ⟨fun e => absurd e Bool.false_ne_true, fun _ l m => ?_⟩
      simp only [List.cons_append, List.append_assoc]
      exact (lex_self (O := itemOrd) _ _ _).trans ((a2 hx _ _).trans ((a2 hx _ _).symm.trans (lex_self (O := itemOrd) _ _ _).symm))
end
theorem dataLt_all_yesW {x y : PyData} {xs ys : List PyData} (h : alikeW x y = true) (e : PyData.eqv x y = true) : PyProof.Rows.lexLt itemOrd (keyToksAll (x :: xs)) (keyToksAll (y :: ys)) = PyProof.Rows.lexLt itemOrd (keyToksAll xs) (keyToksAll ys) := by
  rw [toks_all_cons, toks_all_cons, (toks_eqvW x y h).1 e]
  exact (lex_self (O := itemOrd) _ _ _).trans (lex_pre _ _ _)
theorem dataLt_all_noW {x y : PyData} {xs ys : List PyData} (h : alikeW x y = true) (e : PyData.eqv x y = false) : PyProof.Rows.lexLt itemOrd (keyToksAll (x :: xs)) (keyToksAll (y :: ys)) = dataLt x y := by
  rw [toks_all_cons, toks_all_cons]
  exact (lex_self (O := itemOrd) _ _ _).trans ((toks_eqvW x y h).2 e _ _)
theorem firstLt_toksW : ∀ (xs ys : List PyData), alikeAllW xs ys = true →
    firstLt (pairEq xs ys) (fun j => dataLt (xs.getD j .none) (ys.getD j .none)) (decide (xs.length < ys.length)) (List.range (min xs.length ys.length)) = PyProof.Rows.lexLt itemOrd (keyToksAll xs) (keyToksAll ys)
  | [], [], _ => by simp [firstLt, keyToksAll, lex_irrefl]
  | [], y :: ys, _ => by
    rw [toks_all_cons]
    simp only [keyToksAll]
    rw [lex_diff (O := itemOrd) (by simp)]
    simp [firstLt, itemLt]
  | x :: xs, [], _ => by
    rw [toks_all_cons]
    simp only [keyToksAll]
    rw [lex_diff (O := itemOrd) (by simp)]
    simp [firstLt, itemLt]
  | x :: xs, y :: ys, h => by
    obtain ⟨h1, h2⟩ := alikeW_cons h
    have em : min (x :: xs).length (y :: ys).length = min xs.length ys.length + 1 := by
      rw [List.length_cons, List.length_cons]
      omega
    have ed : decide ((x :: xs).length < (y :: ys).length) = decide (xs.length < ys.length) := by
      rw [List.length_cons, List.length_cons]
      exact decide_eq_decide.mpr (by omega)
    rw [em, ed, List.range_succ_eq_map]
    cases hx : PyData.eqv x y with
    | true =>
      have ih := firstLt_toksW xs ys (h2 hx)
      rw [firstLt_yes (show pairEq (x :: xs) (y :: ys) 0 = true from hx), firstLt_map, dataLt_all_yesW h1 hx, ← ih]
      rfl
    | false =>
      rw [firstLt_no (show pairEq (x :: xs) (y :: ys) 0 = false from hx), dataLt_all_noW h1 hx]
      rfl
theorem ne_none_ofW {x y : PyData} (h : alikeW x y = true) (e : PyData.eqv x y = false) : x ≠ .none := by
  rintro rfl
  cases y with
  | none => exact absurd e (by simp [PyData.eqv])
  | _ => exact absurd h (by simp [alikeW])
theorem eqAt_plainAll' : ∀ (xs ys : List PyData) (A : Around) (s : Shared) (vs ws : List Value) (as bs : List Addr), ReadsAll s.heap vs xs as → ReadsAll s.heap ws ys bs → PyData.plainAll xs = true → PyData.plainAll ys = true →
    A.units + min (PyData.depthAll xs) (PyData.depthAll ys) < cLine → ∀ j (h1 : j < vs.length) (h2 : j < ws.length), EqAt A s vs[j] ws[j] (pairEq xs ys j)
  | [], _, _, _, _, _, _, _, ra, _, _, _, _, j, h1, _ => by cases ra; exact absurd h1 (Nat.not_lt_zero _)
  | _ :: _, [], _, _, _, _, _, _, _, rb, _, _, _, j, _, h2 => by cases rb; exact absurd h2 (Nat.not_lt_zero _)
  | x :: xs, y :: ys, A, s, _, _, _, _, ra, rb, p1, p2, hu, j, h1, h2 => by
    have p1' : x.plain = true ∧ PyData.plainAll xs = true := by simpa [PyData.plainAll] using p1
    have p2' : y.plain = true ∧ PyData.plainAll ys = true := by simpa [PyData.plainAll] using p2
    cases ra with
    | cons r rs =>
      cases rb with
      | cons r' rs' =>
        cases j with
        | zero => exact eqAt_plain x y A s _ _ _ _ r r' p1'.1 p2'.1 (room_head hu)
        | succ j => exact eqAt_plainAll' xs ys A s _ _ _ _ rs rs' p1'.2 p2'.2 (room_tail hu) j (Nat.lt_of_succ_lt_succ h1) (Nat.lt_of_succ_lt_succ h2)
mutual
/-- a < b -/
theorem rcLt_alikeW : ∀ (da db : PyData) (A : Around) (s : Shared) (a b : Value) (as bs : List Addr), Reads s.heap a da as → Reads s.heap b db bs → alikeW da db = true → da.plain = true → db.plain = true → da ≠ .none → A.units + min da.depth db.depth < cLine → RcLt A s a b (dataLt da db)
  | .none, db, A, s, a, b, as, bs, ra, rb, h, _, _, hn, _ => absurd rfl hn
  | .bool _, db, A, s, a, b, as, bs, ra, rb, h, _, _, hn, hu => rcLt_alike _ _ A s a b as bs ra rb (alike_ofW h (by simp)) hn hu
  | .int _, db, A, s, a, b, as, bs, ra, rb, h, _, _, hn, hu => rcLt_alike _ _ A s a b as bs ra rb (alike_ofW h (by simp)) hn hu
  | .str _, db, A, s, a, b, as, bs, ra, rb, h, _, _, hn, hu => rcLt_alike _ _ A s a b as bs ra rb (alike_ofW h (by simp)) hn hu
  | .list _, db, A, s, a, b, as, bs, ra, rb, h, _, _, hn, hu => rcLt_alike _ _ A s a b as bs ra rb (alike_ofW h (by simp)) hn hu
  | .tuple xs, db, A, s, a, b, as, bs, ra, rb, h, p1, p2, e, hu => by
    cases db with
    | tuple ys =>
      have hal : alikeAllW xs ys = true := by simpa [alikeW] using h
      have q1 : PyData.plainAll xs = true := by simpa [PyData.plain] using p1
      have q2 : PyData.plainAll ys = true := by simpa [PyData.plain] using p2
      cases ra with
      | @tuple l o vs n _ as₁ h1 h2 h3 h4 =>
        cases rb with
        | @tuple l' o' vs' n' _ bs₁ k1 k2 k3 k4 =>
          have n1 : vs.size = xs.length := by simpa using ReadsAll.length _ _ _ h4
          have n2 : vs'.size = ys.length := by simpa using ReadsAll.length _ _ _ k4
          rw [dataLt_tuple, ← firstLt_toksW xs ys hal, ← n1, ← n2]
          refine RcLt.tuplesF ⟨_, h1, h2, _, h3⟩ ⟨_, k1, k2, _, k3⟩ (room_here hu) (fun j j1 j2 => ?_) fun j j1 j2 hj hk => ?_
          · have := eqAt_plainAll' xs ys A.in1 s vs.toList vs'.toList _ _ h4 k4 q1 q2 (room_in hu) j (by simpa using j1) (by simpa using j2)
            simpa using this
          · have := rcLt_alikeAllW xs ys A.in1 s vs.toList vs'.toList _ _ h4 k4 hal q1 q2 (room_in hu) j (by simpa using j1) (by simpa using j2) hj hk
            simpa using this
    | _ => exact absurd h (by simp [alikeW])
  | .dict _, db, _, _, _, _, _, _, _, _, h, _, _, _, _ => absurd h (by cases db <;> simp [alikeW])
theorem rcLt_alikeAllW : ∀ (xs ys : List PyData) (A : Around) (s : Shared) (vs ws : List Value) (as bs : List Addr), ReadsAll s.heap vs xs as → ReadsAll s.heap ws ys bs → alikeAllW xs ys = true → PyData.plainAll xs = true → PyData.plainAll ys = true →
    A.units + min (PyData.depthAll xs) (PyData.depthAll ys) < cLine → ∀ j (h1 : j < vs.length) (h2 : j < ws.length), pairEq xs ys j = false → (∀ i, i < j → pairEq xs ys i = true) → RcLt A s vs[j] ws[j] (dataLt (xs.getD j .none) (ys.getD j .none))
  | [], _, _, _, _, _, _, _, ra, _, _, _, _, _, j, h1, _, _, _ => by cases ra; exact absurd h1 (Nat.not_lt_zero _)
  | _ :: _, [], _, _, _, _, _, _, _, rb, _, _, _, _, j, _, h2, _, _ => by cases rb; exact absurd h2 (Nat.not_lt_zero _)
  | x :: xs, y :: ys, A, s, _, _, _, _, ra, rb, h, p1, p2, hu, j, h1, h2, hj, hk => by
    have p1' : x.plain = true ∧ PyData.plainAll xs = true := by simpa [PyData.plainAll] using p1
    have p2' : y.plain = true ∧ PyData.plainAll ys = true := by simpa [PyData.plainAll] using p2
    cases ra with
    | cons r rs =>
      cases rb with
      | cons r' rs' =>
        cases j with
        | zero => exact rcLt_alikeW x y A s _ _ _ _ r r' (alikeW_cons h).1 p1'.1 p2'.1 (ne_none_ofW (alikeW_cons h).1 hj) (room_head hu)
        | succ j => exact rcLt_alikeAllW xs ys A s _ _ _ _ rs rs' ((alikeW_cons h).2 (hk 0 (Nat.succ_pos _))) p1'.2 p2'.2 (room_tail hu) j (Nat.lt_of_succ_lt_succ h1) (Nat.lt_of_succ_lt_succ h2) hj (fun i hi => hk (i + 1) (Nat.succ_lt_succ hi))
end
section
variable {prog : Program} {w : World} {A : Around} {E : Value → Shared → Prop} {s : Shared}
theorem oneLt_alikeW {f : Bool} {da db : PyData} {a b : Value} {as bs : List Addr} {Q : Bool → Shared → Prop} (hf : f = true → ∀ xs, da ≠ .tuple xs) (ra : Reads s.heap a da as) (rb : Reads s.heap b db bs) (h : alikeW da db = true) (p1 : da.plain = true) (p2 : db.plain = true) (hn : da ≠ .none)
    (hu : A.units + min da.depth db.depth < cLine) (hq : Q (dataLt da db) s) : wpAny (model prog w) A (oneLt' f a b) Q E s := by
  cases f with
  | false =>
    rw [oneLt'_eq]
    simp only [Bool.false_eq_true, if_false]
    exact wpAny_bind (rcLt_alikeW da db A s a b as bs ra rb h p1 p2 hn hu prog w E _ (wpAny_truthy_bool hq))
  | true => exact oneLt_alike hf ra rb (alike_ofW h (hf rfl)) hn hu hq
theorem katLex_alikeW {b fin : Bool} {Q : Bool → Shared → Prop} : ∀ (xs ys : List PyData) (i : Nat) (vs ws : List Value) (as bs : List Addr), ReadsAll s.heap vs xs as → ReadsAll s.heap ws ys bs → alikeAllW xs ys = true → PyData.plainAll xs = true → PyData.plainAll ys = true →
    A.units + min (PyData.depthAll xs) (PyData.depthAll ys) < cLine → (b = true → i = 0 → ∀ x r t, xs = x :: r → x ≠ .tuple t) → fin = decide (xs.length < ys.length) → Q (PyProof.Rows.lexLt itemOrd (keyToksAll xs) (keyToksAll ys)) s → KatLex prog w A b fin Q (vs.zip ws) i s
  | [], [], i, _, _, _, _, ra, rb, _, _, _, _, _, hf, hq => by
    cases ra
    cases rb
    have e : fin = false := by rw [hf]; rfl
    subst e
    rw [lex_irrefl] at hq
    exact kat_nil hq
  | [], y :: ys, i, _, _, _, _, ra, rb, _, _, _, _, _, hf, hq => by
    cases ra
    have e : fin = true := by rw [hf]; exact decide_eq_true (Nat.succ_pos _)
    subst e
    rw [toks_all_cons] at hq
    simp only [keyToksAll] at hq
    rw [lex_diff (O := itemOrd) (by simp)] at hq
    rw [List.zip_nil_left]
    exact kat_nil (by simpa [itemLt] using hq)
  | x :: xs, [], i, _, _, _, _, ra, rb, _, _, _, _, _, hf, hq => by
    cases rb
    have e : fin = false := by rw [hf]; exact decide_eq_false (Nat.not_lt_zero _)
    subst e
    rw [toks_all_cons] at hq
    simp only [keyToksAll] at hq
    rw [lex_diff (O := itemOrd) (by simp)] at hq
    rw [List.zip_nil_right]
    exact kat_nil (by simpa [itemLt] using hq)
  | x :: xs, y :: ys, i, _, _, _, _, ra, rb, h, p1, p2, hu, hb, hf, hq => by
    obtain ⟨h1, h2⟩ := alikeW_cons h
    have p1' : x.plain = true ∧ PyData.plainAll xs = true := by simpa [PyData.plainAll] using p1
    have p2' : y.plain = true ∧ PyData.plainAll ys = true := by simpa [PyData.plainAll] using p2
    have hf' : fin = decide (xs.length < ys.length) := by
      rw [hf]
      simp only [List.length_cons, Nat.add_lt_add_iff_right]
    cases ra with
    | cons r rs =>
      cases rb with
      | cons r' rs' =>
        rw [List.zip_cons_cons]
        refine kat_cons (eqAt_plain x y A s _ _ _ _ r r' p1'.1 p2'.1 (room_head hu) prog w _ _ ?_)
        cases hx : PyData.eqv x y with
        | true =>
          rw [dataLt_all_yesW h1 hx] at hq
          exact kat_yes (katLex_alikeW xs ys (i + 1) _ _ _ _ rs rs' (h2 hx) p1'.2 p2'.2 (room_tail hu) (fun _ hi => absurd hi (Nat.succ_ne_zero i)) hf' hq)
        | false =>
          rw [dataLt_all_noW h1 hx] at hq
          refine kat_no (oneLt_alikeW (fun hbi t => ?_) r r' h1 p1'.1 p2'.1 (ne_none_ofW h1 hx) (room_head hu) hq)
          rw [Bool.and_eq_true] at hbi
          exact hb hbi.1 (by simpa using hbi.2) x xs t rfl
end
/-! sorting -/
def AllAlikeW (ds : List PyData) : Prop := (∀ d, d ∈ ds → ∀ d', d' ∈ ds → alikeW d d' = true) ∧ ∀ d, d ∈ ds → d.plain = true
theorem dataKind_someW {h : Heap} {ds : List PyData} (hal : AllAlikeW ds) {v : Value} {d : PyData} {as : List Addr} (hd : d ∈ ds) (r : Reads h v d as) : (dataKind h ds).keyOf v = some (keyToks d) := by
  have q : ∃ d, d ∈ ds ∧ ∃ as, Reads h v d as := ⟨d, hd, as, r⟩
  have e : (dataKind h ds).keyOf v = some (keyToks q.choose) := by
    show (open Classical in if q : ∃ d, d ∈ ds ∧ ∃ as, Reads h v d as then some (keyToks q.choose) else none) = _
    rw [dif_pos q]
  obtain ⟨h1, as', h2⟩ := q.choose_spec
  rw [e, plain_unique _ _ _ _ _ (hal.2 _ h1) h2 r]
theorem dataType_alikeW {x y : PyData} (h : alikeW x y = true) : dataType x = dataType y := by
  cases x <;> cases y <;> first | rfl | exact absurd h (by simp [alikeW])
section
variable {prog : Program} {w : World} {A : Around} {s : Shared}
theorem SortsAt.dataW {vs : List Value} {ds : List PyData} (e : EachIs (fun v d => ∃ as, Reads s.heap v d as) vs ds) (hal : AllAlikeW ds) (hk : Sortable ds) (hu : ∀ d, d ∈ ds → A.units + d.depth < cLine) : SortsAt prog w A s (dataKind s.heap ds) vs := by
  have room : ∀ {d d' : PyData}, d ∈ ds → A.units + min d.depth d'.depth < cLine := fun {d d'} hd => Nat.lt_of_le_of_lt (Nat.add_le_add_left (Nat.min_le_left _ _) _) (hu d hd)
  refine ⟨fun v hv => ?_, ?_⟩
  · obtain ⟨d, hd, as, r⟩ := e.left v hv
    exact ⟨_, dataKind_someW hal hd r⟩
  · rcases hk with ht | hn
    · cases ds with
      | nil =>
        cases e
        exact ⟨general', fun E x y a b Q ha _ _ => (by
          obtain ⟨d, _, hd, _⟩ := dataKind_inv ha
          exact absurd hd (by simp)), fun h2 => absurd h2 (by simp)⟩
      | cons d₀ ds₀ =>
        obtain ⟨x₀, r₀, e₀⟩ := ht d₀ (List.mem_cons_self ..)
        have hfirst : ∀ x r, PyData.tuple (x :: r) ∈ d₀ :: ds₀ → alikeW x x₀ = true := by
          intro x r hm
          have q := hal.1 _ hm d₀ (List.mem_cons_self ..)
          rw [e₀] at q
          exact (alikeW_cons (by simpa [alikeW] using q)).1
        refine ⟨tuples' (dataType x₀ != Value.type "tuple"), ?_, fun h2 E Q hq => ?_⟩
        · intro E x y a b Q ha hb hq
          obtain ⟨d, as, hd, ra, rfl⟩ := dataKind_inv ha
          obtain ⟨d', as', hd', rb, rfl⟩ := dataKind_inv hb
          have hdd := hal.1 d hd d' hd'
          have pl1 := hal.2 d hd
          have pl2 := hal.2 d' hd'
          have hroom := room (d' := d') hd
          obtain ⟨x1, r1, rfl⟩ := ht d hd
          obtain ⟨x2, r2, rfl⟩ := ht d' hd'
          have hq' : Q (dataLt (.tuple (x1 :: r1)) (.tuple (x2 :: r2))) s := hq
          rw [dataLt_tuple] at hq'
          cases ra with
          | @tuple l o xs n _ _ h1 h2 h3 h4 =>
            cases rb with
            | @tuple l' o' xs' n' _ _ k1 k2 k3 k4 =>
              have n1 : xs.size = (x1 :: r1).length := by simpa using SeqAt.ReadsAll.length _ _ _ h4
              have n2 : xs'.size = (x2 :: r2).length := by simpa using SeqAt.ReadsAll.length _ _ _ k4
              refine kat_lt h1 h3 k1 k3 (katLex_alikeW (x1 :: r1) (x2 :: r2) 0 _ _ _ _ h4 k4 (by simpa [alikeW] using hdd) pl1 pl2 (by have q := SeqAt.room_in hroom; omega) (fun hb _ x r t ex => ?_) (by rw [n1, n2]) hq')
              obtain ⟨rfl, rfl⟩ := List.cons.inj ex
              have q := dataType_alikeW (hfirst _ _ hd)
              rw [← q] at hb
              exact dataType_tuple hb t
        · obtain ⟨fs, t1, t2, t3⟩ := each_katTups e ht
          refine kat_kind (T := dataType x₀) t1 (by omega) (fun f hf => ?_) (beq_self_eq_true _) hq
          obtain ⟨x, r, as, m1, m2⟩ := t3 f hf
          rw [← dataType_alikeW (hfirst x r m1)]
          exact looks_reads m2
    · refine ⟨oneType', ?_, fun h2 E Q hq => ?_⟩
      · intro E x y a b Q ha hb hq
        obtain ⟨d, as, hd, ra, rfl⟩ := dataKind_inv ha
        obtain ⟨d', as', hd', rb, rfl⟩ := dataKind_inv hb
        rw [keyLt'_oneType]
        exact oneLt_alikeW (fun _ => (hn d hd).2) ra rb (hal.1 d hd d' hd') (hal.2 d hd) (hal.2 d' hd') (hn d hd).1 (room hd) hq
      · cases ds with
        | nil =>
          cases e
          exact absurd h2 (by simp)
        | cons d₀ ds₀ =>
          refine kas_kind (T := dataType d₀) h2 (fun v hv => ?_) (dataType_other (hn d₀ (List.mem_cons_self ..)).2) (beq_self_eq_true _) hq
          obtain ⟨d, hd, as, r⟩ := e.left v hv
          rw [← dataType_alikeW (hal.1 d hd d₀ (List.mem_cons_self ..))]
          exact looks_reads r
end
def KeyedOutW (rev : Bool) (kz : List PyData) (vs out : List Value) : Prop := ∃ h ks, AllAlikeW kz ∧ out = sortVals (dataKind h kz) rev ks vs ∧ EachIs (fun v k => ∃ as, Reads h v k as) ks kz
theorem each_keysW {h : Heap} {ds : List PyData} (hal : AllAlikeW ds) {vs : List Value} (e : EachIs (fun v d => ∃ as, Reads h v d as) vs ds) : EachIs (fun v d => (dataKind h ds).keyOf v = some (keyToks d)) vs ds :=
  (each_mem e).mono fun _ _ ⟨⟨_, r⟩, hd⟩ => dataKind_someW hal hd r
theorem keyedOut_eachW {rev : Bool} {β : Type} {R : Value → β → Prop} {bs : List β} {vs out : List Value} (k : β → PyData) (h : KeyedOutW rev (bs.map k) vs out) (hR : EachIs R vs bs) : EachIs R out (bs.mergeSort (dataLe rev k)) := by
  obtain ⟨hp, ks, hal, rfl, hk⟩ := h
  exact sortVals_each (κ := dataKind hp (bs.map k)) (fun b => keyToks (k b)) hR (each_of_map k (each_keysW hal hk))
theorem AllAlikeW.of {ds : List PyData} (h : AllAlike ds) (p : ∀ d, d ∈ ds → d.plain = true) : AllAlikeW ds := ⟨fun d hd d' hd' => alikeW_of _ _ (h d hd d' hd'), p⟩
end PySem.W

set_option maxHeartbeats 4000000
/-! DL: a data layer over HandS: values by content, a store of own mutable lists, readings that compute. -/
namespace DL
open PySem PySem.Spec PyProof.Rows L2

/-- a value by content; ref n: the n-th object of the store -/
inductive D where
  | non | bl (b : Bool) | int (i : Int) | str (s : Str) | tup (ds : List D) | lst (ds : List D) | ref (n : Nat) | exc (a : Addr) (d : Option Addr) (ns : List Str) (ds : List D)

inductive Ob where
  | lst (ds : List D)
  | gone
  | dA (kvs : List (Key × D))
  | dT (kvs : List (D × D))
  | fA (o : Obj) (u : HO) (kvs : List (Key × D))
  | fT (o : Obj) (u : HO) (kvs : List (D × D))
abbrev Store := List Ob
abbrev Env := List (Option D)
/-- where the store's objects stand; what else is kept apart -/
structure Mu where
  sl : List (Option Addr)
  rs : List Addr
def Mu.has (μ : Mu) (a : Addr) : Prop := some a ∈ μ.sl ∨ a ∈ μ.rs
def Mu.add (μ : Mu) (p : Addr) : Mu := ⟨μ.sl ++ [some p], μ.rs⟩

/-- a list of the written part -/
def KL (K : PySem.W.Frag) (a : Addr) (xs : List V) : Prop :=
  ∃ (o : Obj) (its : Array Value) (n : Nat), K.lookup a = some o ∧ o.cls = .type "list" ∧ o.dict = none ∧ o.data = .seq its n ∧ its.size ≤ sizeLine ∧ Vals xs its.toList
def KT (K : PySem.W.Frag) (a : Addr) (xs : List V) : Prop :=
  ∃ (o : Obj) (its : Array Value) (n : Nat), K.lookup a = some o ∧ o.cls = .type "tuple" ∧ o.data = .seq its n ∧ its.size ≤ sizeLine ∧ Vals xs its.toList

/-- the fields of a caught exception: its dict is kept apart -/
def ExcAt (μ : Mu) (H : Hp) (d : Option Addr) (ns : List Str) (vs : List V) : Prop :=
  ∃ (dd : Addr) (fs : List (Str × V)), d = some dd ∧ dd ∈ μ.rs ∧ H dd = some (.xd fs) ∧ ∀ (i : Nat) (n : Str) (v : V), ns[i]? = some n → vs[i]? = some v → fs.lookup n = some v
mutual
inductive Rep (K : PySem.W.Frag) (μ : Mu) (H : Hp) : D → V → Prop
  | non : Rep K μ H .non .non
  | bl (b : Bool) : Rep K μ H (.bl b) (.bl b)
  | int (i : Int) : Rep K μ H (.int i) (.int i)
  | str (x : Str) : Rep K μ H (.str x) (.str x)
  | tup {a : Addr} {xs : List V} {ds : List D} : Rd H a (.tup xs) ∨ KT K a xs → RepAll K μ H ds xs → Rep K μ H (.tup ds) (.ref a)
  | lst {a : Addr} {xs : List V} {ds : List D} : (Rd H a (.lst xs) ∧ ¬ μ.has a) ∨ KL K a xs → RepAll K μ H ds xs → Rep K μ H (.lst ds) (.ref a)
  | ref {n : Nat} {a : Addr} : μ.sl[n]? = some (some a) → Rep K μ H (.ref n) (.ref a)
  | exc {a : Addr} {d : Option Addr} {ns : List Str} {ds : List D} {vs : List V} : ExcAt μ H d ns vs → RepAll K μ H ds vs → Rep K μ H (.exc a d ns ds) (.ref a)
inductive RepAll (K : PySem.W.Frag) (μ : Mu) (H : Hp) : List D → List V → Prop
  | nil : RepAll K μ H [] []
  | cons {d : D} {ds : List D} {v : V} {vs : List V} : Rep K μ H d v → RepAll K μ H ds vs → RepAll K μ H (d :: ds) (v :: vs)
end

structure Grow (μ : Mu) (H : Hp) (μ' : Mu) (H' : Hp) : Prop where
  tup : ∀ (a : Addr) (xs : List V), Rd H a (.tup xs) → Rd H' a (.tup xs)
  lst : ∀ (a : Addr) (xs : List V), Rd H a (.lst xs) → ¬ μ.has a → Rd H' a (.lst xs) ∧ ¬ μ'.has a
  ref : ∀ (n : Nat) (a : Addr), μ.sl[n]? = some (some a) → μ'.sl[n]? = some (some a)
  rs : ∀ (a : Addr), a ∈ μ.rs → a ∈ μ'.rs ∧ ∀ o, H a = some o → H' a = some o

section
variable {K : PySem.W.Frag} {μ μ' μ1 μ2 : Mu} {H H' H1 H2 : Hp}
theorem Grow.refl : Grow μ H μ H := ⟨fun _ _ h => h, fun _ _ h n => ⟨h, n⟩, fun _ _ h => h, fun _ h => ⟨h, fun _ h => h⟩⟩
theorem Grow.trans (g : Grow μ H μ1 H1) (k : Grow μ1 H1 μ2 H2) : Grow μ H μ2 H2 :=
  ⟨fun a xs h => k.tup a xs (g.tup a xs h), fun a xs h n => let ⟨h1, n1⟩ := g.lst a xs h n; k.lst a xs h1 n1, fun n a h => k.ref n a (g.ref n a h), fun a h => let ⟨h1, e1⟩ := g.rs a h; let ⟨h2, e2⟩ := k.rs a h1; ⟨h2, fun o z => e2 o (e1 o z)⟩⟩
theorem ExcAt.grow {d : Option Addr} {ns : List Str} {vs : List V} (g : Grow μ H μ' H') (h : ExcAt μ H d ns vs) : ExcAt μ' H' d ns vs :=
  let ⟨dd, fs, h1, h2, h3, h4⟩ := h; ⟨dd, fs, h1, (g.rs dd h2).1, (g.rs dd h2).2 _ h3, h4⟩
mutual
theorem Rep.grow (g : Grow μ H μ' H') : ∀ {d : D} {v : V}, Rep K μ H d v → Rep K μ' H' d v
  | _, _, .non => .non
  | _, _, .bl b => .bl b
  | _, _, .int i => .int i
  | _, _, .str x => .str x
  | _, _, .tup h r => .tup (h.imp (g.tup _ _) id) (RepAll.grow g r)
  | _, _, .lst h r => .lst (h.imp (fun z => g.lst _ _ z.1 z.2) id) (RepAll.grow g r)
  | _, _, .ref h => .ref (g.ref _ _ h)
  | _, _, .exc h r => .exc (h.grow g) (RepAll.grow g r)
theorem RepAll.grow (g : Grow μ H μ' H') : ∀ {ds : List D} {vs : List V}, RepAll K μ H ds vs → RepAll K μ' H' ds vs
  | _, _, .nil => .nil
  | _, _, .cons r t => .cons (Rep.grow g r) (RepAll.grow g t)
end
theorem RepAll.length : ∀ {ds : List D} {vs : List V}, RepAll K μ H ds vs → ds.length = vs.length
  | _, _, .nil => rfl
  | _, _, .cons _ t => congrArg (· + 1) (RepAll.length t)
theorem RepAll.get : ∀ {ds : List D} {vs : List V} {i : Nat} {d : D}, RepAll K μ H ds vs → ds[i]? = some d → ∃ v, vs[i]? = some v ∧ Rep K μ H d v
  | _, _, _, _, .nil, e => by simp at e
  | _, _, 0, _, .cons r _, e => by simp at e; subst e; exact ⟨_, rfl, r⟩
  | _, _, i + 1, d, .cons _ t, e => by
    obtain ⟨v, h1, h2⟩ := RepAll.get (i := i) (d := d) t (by simpa using e)
    exact ⟨v, by simpa using h1, h2⟩
theorem RepAll.getV : ∀ {ds : List D} {vs : List V} {i : Nat} {v : V}, RepAll K μ H ds vs → vs[i]? = some v → ∃ d, ds[i]? = some d ∧ Rep K μ H d v
  | _, _, _, _, .nil, e => by simp at e
  | _, _, 0, _, .cons r _, e => by simp at e; subst e; exact ⟨_, rfl, r⟩
  | _, _, i + 1, v, .cons _ t, e => by
    obtain ⟨d, h1, h2⟩ := RepAll.getV (i := i) (v := v) t (by simpa using e)
    exact ⟨d, by simpa using h1, h2⟩
theorem RepAll.append : ∀ {ds es : List D} {vs ws : List V}, RepAll K μ H ds vs → RepAll K μ H es ws → RepAll K μ H (ds ++ es) (vs ++ ws)
  | _, _, _, _, .nil, s => s
  | _, _, _, _, .cons r t, s => .cons r (RepAll.append t s)
theorem RepAll.one {d : D} {v : V} (h : Rep K μ H d v) : RepAll K μ H [d] [v] := .cons h .nil
theorem RepAll.set {d : D} {v : V} (r : Rep K μ H d v) : ∀ {ds : List D} {vs : List V} (i : Nat), RepAll K μ H ds vs → RepAll K μ H (ds.set i d) (vs.set i v)
  | _, _, _, .nil => .nil
  | _, _, 0, .cons _ t => .cons r t
  | _, _, i + 1, .cons q t => .cons q (RepAll.set r i t)
theorem RepAll.take : ∀ {ds : List D} {vs : List V} (n : Nat), RepAll K μ H ds vs → RepAll K μ H (ds.take n) (vs.take n)
  | _, _, 0, _ => .nil
  | _, _, _ + 1, .nil => .nil
  | _, _, n + 1, .cons r t => .cons r (RepAll.take n t)
theorem RepAll.drop : ∀ {ds : List D} {vs : List V} (n : Nat), RepAll K μ H ds vs → RepAll K μ H (ds.drop n) (vs.drop n)
  | _, _, 0, r => r
  | _, _, _ + 1, .nil => .nil
  | _, _, n + 1, .cons _ t => RepAll.drop n t
theorem RepAll.eraseIdx : ∀ {ds : List D} {vs : List V} (i : Nat), RepAll K μ H ds vs → RepAll K μ H (ds.eraseIdx i) (vs.eraseIdx i)
  | _, _, _, .nil => .nil
  | _, _, 0, .cons _ t => t
  | _, _, i + 1, .cons r t => .cons r (RepAll.eraseIdx i t)
theorem RepAll.dropLast {ds : List D} {vs : List V} (r : RepAll K μ H ds vs) : RepAll K μ H ds.dropLast vs.dropLast := by
  rw [List.dropLast_eq_take, List.dropLast_eq_take, r.length]
  exact r.take _
theorem RepAll.reverse : ∀ {ds : List D} {vs : List V}, RepAll K μ H ds vs → RepAll K μ H ds.reverse vs.reverse
  | _, _, .nil => .nil
  | _, _, .cons r t => by
    rw [List.reverse_cons, List.reverse_cons]
    exact RepAll.append (RepAll.reverse t) (.one r)
theorem RepAll.snoc {ds : List D} {d : D} {vs : List V} (h : RepAll K μ H (ds ++ [d]) vs) : ∃ ws v, vs = ws ++ [v] ∧ RepAll K μ H ds ws ∧ Rep K μ H d v := by
  have e := h.length
  rw [List.length_append, List.length_singleton] at e
  obtain ⟨v, hv, rv⟩ := h.get (i := ds.length) (d := d) (by simp)
  refine ⟨vs.take ds.length, v, ?_, ?_, rv⟩
  · have : vs = vs.take ds.length ++ vs.drop ds.length := (List.take_append_drop _ _).symm
    rw [List.drop_eq_getElem_cons (by omega), List.drop_of_length_le (by omega)] at this
    rw [List.getElem?_eq_getElem (by omega)] at hv
    rw [Option.some.inj hv] at this
    exact this
  · have := h.take ds.length
    rwa [List.take_left] at this
theorem RepAll.sub : ∀ {ds : List D} {vs : List V} (k : List V), k.Sublist vs → RepAll K μ H ds vs → ∃ es : List D, RepAll K μ H es k ∧ es.Sublist ds
  | _, _, _, .slnil, .nil => ⟨[], .nil, .slnil⟩
  | _, _, _, .cons _ s, .cons _ t => let ⟨es, r, q⟩ := RepAll.sub _ s t; ⟨es, r, .cons _ q⟩
  | _, _, _, .cons₂ _ s, .cons h t => let ⟨es, r, q⟩ := RepAll.sub _ s t; ⟨_ :: es, .cons h r, .cons₂ _ q⟩
theorem Rep.int_inv {i : Int} {v : V} (h : Rep K μ H (.int i) v) : v = .int i := by cases h; rfl
theorem Rep.bl_inv {b : Bool} {v : V} (h : Rep K μ H (.bl b) v) : v = .bl b := by cases h; rfl
theorem Rep.str_inv {b : Str} {v : V} (h : Rep K μ H (.str b) v) : v = .str b := by cases h; rfl
theorem Rep.tupS {ds : List D} {v : V} (h : Rep K μ H (.tup ds) v) : ∃ a xs, v = .ref a ∧ SqT K H a xs ∧ RepAll K μ H ds xs := by
  cases h with
  | tup h r => exact ⟨_, _, rfl, h, r⟩
theorem Rep.lstS {ds : List D} {v : V} (h : Rep K μ H (.lst ds) v) : ∃ a xs, v = .ref a ∧ SqL K H a xs ∧ RepAll K μ H ds xs := by
  cases h with
  | lst h r => exact ⟨_, _, rfl, h.imp And.left id, r⟩
theorem RepAll.ints : ∀ {ns : List Int} {vs : List V}, RepAll K μ H (ns.map D.int) vs → vs = ns.map V.int
  | [], _, h => by cases h; rfl
  | n :: ns, _, h => by
    cases h with
    | cons r t =>
      cases r
      rw [RepAll.ints t]
      rfl
theorem repInts : ∀ (ns : List Int), RepAll K μ H (ns.map D.int) (ns.map V.int)
  | [] => .nil
  | n :: ns => .cons (.int n) (repInts ns)
end

/-! ### dicts -/
/-- the world: its hashes are a dict's -/
class WW where
  w : World
  /-- where the classes of the exceptions stand -/
  ca : Str → Option Addr := fun _ => none
mutual
def keyD : D → Option NestedKey
  | .non => some .none
  | .bl b => some (.num (if b = true then 1 else 0))
  | .int i => some (.num i)
  | .str x => some (.text x)
  | .tup ds => (keyDs ds).map .tup
  | _ => none
def keyDs : List D → Option (List NestedKey)
  | [] => some []
  | d :: ds => match keyD d, keyDs ds with | some k, some ks => some (k :: ks) | _, _ => none
end
def tupK : NestedKey → Bool
  | .tup _ => true
  | _ => false
/-- a key of a dict of tuple keys -/
def goodK (k : NestedKey) : Prop := tupK k = true ∧ k.depth ≤ 8
/-- the dict of tuple keys at a: its rows (hash, key, value) -/
def DicR (w : World) (xs : List (NestedKey × V × V)) (a : Addr) (h : Heap) : Prop := ∃ (o : Obj) (es : Array DictEntry) (ep : Nat) (ys : List (NestedKey × Addr × Value)), h.get? a = some o ∧ o.ExactDict ∧ o.data = .dict es ep ∧
  es.toList = ys.map (fun y => (⟨y.1.hash w, .ref y.2.1, y.2.2⟩ : DictEntry)) ∧ Paired (fun (x : NestedKey × V × V) (y : NestedKey × Addr × Value) => x.1 = y.1 ∧ x.2.1 = .ref y.2.1 ∧ RelV x.2.2 y.2.2) xs ys ∧
  (xs.map (·.1)).Nodup ∧ (a == sysModules) = false ∧ xs.length ≤ sizeLine ∧ ∀ x ∈ xs, goodK x.1
def DicO (w : World) (a : Addr) (xs : List (NestedKey × V × V)) : HO := .ext (DicR w xs a)
theorem DicR.stay {w : World} {xs : List (NestedKey × V × V)} {a : Addr} {h h' : Heap} (x : DicR w xs a h) (k : ∀ o, h.get? a = some o → h'.get? a = some o) : DicR w xs a h' := by
  obtain ⟨o, es, ep, ys, ho, r⟩ := x
  exact ⟨o, es, ep, ys, k o ho, r⟩
theorem dicO_ok {P : Program} {w : World} {H : Hp} {h : Heap} {a : Addr} {xs : List (NestedKey × V × V)} (R : DicR w xs a h) : ObjOk P w H h a (DicO w a xs) := by
  have ⟨o, _, _, _, ho, _⟩ := R
  exact ⟨R, ⟨o, ho⟩, fun h1 h2 p k => DicR.stay p k⟩
inductive RepKV (K : PySem.W.Frag) (μ : Mu) (H : Hp) : List (D × D) → List (NestedKey × V × V) → Prop
  | nil : RepKV K μ H [] []
  | cons {d e : D} {k : NestedKey} {v u : V} {kvs : List (D × D)} {xs : List (NestedKey × V × V)} : keyD d = some k → Rep K μ H d v → Rep K μ H e u → RepKV K μ H kvs xs → RepKV K μ H ((d, e) :: kvs) ((k, v, u) :: xs)
theorem RepKV.grow {K : PySem.W.Frag} {μ μ' : Mu} {H H' : Hp} (g : Grow μ H μ' H') : ∀ {kvs : List (D × D)} {xs : List (NestedKey × V × V)}, RepKV K μ H kvs xs → RepKV K μ' H' kvs xs
  | _, _, .nil => .nil
  | _, _, .cons a b c t => .cons a (b.grow g) (c.grow g) (RepKV.grow g t)
/-- .. keys that are ints, texts -/
inductive RepK (K : PySem.W.Frag) (μ : Mu) (H : Hp) : List (Key × D) → List (Key × V) → Prop
  | nil : RepK K μ H [] []
  | cons {k : Key} {e : D} {u : V} {kvs : List (Key × D)} {xs : List (Key × V)} : Rep K μ H e u → RepK K μ H kvs xs → RepK K μ H ((k, e) :: kvs) ((k, u) :: xs)
theorem RepK.mapR {K : PySem.W.Frag} {μ μ' : Mu} {H H' : Hp} (f : ∀ d v, Rep K μ H d v → Rep K μ' H' d v) : ∀ {kvs : List (Key × D)} {xs : List (Key × V)}, RepK K μ H kvs xs → RepK K μ' H' kvs xs
  | _, _, .nil => .nil
  | _, _, .cons a t => .cons (f _ _ a) (RepK.mapR f t)
/-- what stands for an object of the store -/
def ObR (w : World) (K : PySem.W.Frag) (μ : Mu) (H : Hp) (a : Addr) : Ob → HO → Prop
  | .lst ds, u => ∃ xs, u = .lst xs ∧ RepAll K μ H ds xs
  | .dA kvs, u => ∃ xs, u = .dK xs ∧ RepK K μ H kvs xs
  | .dT kvs, u => ∃ xs, u = DicO w a xs ∧ RepKV K μ H kvs xs
  | .fA o u0 kvs, u => u = .frz o u0 ∧ ∃ xs, u0 = .dK xs ∧ RepK K μ H kvs xs
  | .fT o u0 kvs, u => u = .frz o u0 ∧ ∃ xs, u0 = DicO w a xs ∧ RepKV K μ H kvs xs
  | .gone, _ => True
theorem ObR.grow {w : World} {K : PySem.W.Frag} {μ μ' : Mu} {H H' : Hp} {a : Addr} (g : Grow μ H μ' H') : ∀ {o : Ob} {u : HO}, ObR w K μ H a o u → ObR w K μ' H' a o u
  | .lst _, _, ⟨xs, e, r⟩ => ⟨xs, e, r.grow g⟩
  | .dA _, _, ⟨xs, e, r⟩ => ⟨xs, e, r.mapR fun _ _ z => z.grow g⟩
  | .dT _, _, ⟨xs, e, r⟩ => ⟨xs, e, r.grow g⟩
  | .fA _ _ _, _, ⟨z, xs, e, r⟩ => ⟨z, xs, e, r.mapR fun _ _ z => z.grow g⟩
  | .fT _ _ _, _, ⟨z, xs, e, r⟩ => ⟨z, xs, e, r.grow g⟩
  | .gone, _, _ => True.intro
theorem RepAll.mapR {K : PySem.W.Frag} {μ μ' : Mu} {H H' : Hp} (f : ∀ d v, Rep K μ H d v → Rep K μ' H' d v) : ∀ {ds : List D} {vs : List V}, RepAll K μ H ds vs → RepAll K μ' H' ds vs
  | _, _, .nil => .nil
  | _, _, .cons r t => .cons (f _ _ r) (RepAll.mapR f t)
theorem RepKV.mapR {K : PySem.W.Frag} {μ μ' : Mu} {H H' : Hp} (f : ∀ d v, Rep K μ H d v → Rep K μ' H' d v) : ∀ {kvs : List (D × D)} {xs : List (NestedKey × V × V)}, RepKV K μ H kvs xs → RepKV K μ' H' kvs xs
  | _, _, .nil => .nil
  | _, _, .cons a b c t => .cons a (f _ _ b) (f _ _ c) (RepKV.mapR f t)
theorem ObR.mapR {w : World} {K : PySem.W.Frag} {μ μ' : Mu} {H H' : Hp} {a : Addr} (f : ∀ d v, Rep K μ H d v → Rep K μ' H' d v) : ∀ {o : Ob} {u : HO}, ObR w K μ H a o u → ObR w K μ' H' a o u
  | .lst _, _, ⟨xs, e, r⟩ => ⟨xs, e, r.mapR f⟩
  | .dA _, _, ⟨xs, e, r⟩ => ⟨xs, e, r.mapR f⟩
  | .dT _, _, ⟨xs, e, r⟩ => ⟨xs, e, r.mapR f⟩
  | .fA _ _ _, _, ⟨z, xs, e, r⟩ => ⟨z, xs, e, r.mapR f⟩
  | .fT _ _ _, _, ⟨z, xs, e, r⟩ => ⟨z, xs, e, r.mapR f⟩
  | .gone, _, _ => True.intro
variable [WW]
/-! ### the store -/
structure Sim (K : PySem.W.Frag) (μ : Mu) (S : Store) (H : Hp) : Prop where
  len : μ.sl.length = S.length
  inj : ∀ (i j : Nat) (a : Addr), μ.sl[i]? = some (some a) → μ.sl[j]? = some (some a) → i = j
  trk : ∀ (n : Nat) (a : Addr), μ.sl[n]? = some (some a) → (∃ o, H a = some o) ∧ a ∉ μ.rs
  trs : ∀ (a : Addr), a ∈ μ.rs → ∃ o, H a = some o
  obj : ∀ (n : Nat) (o : Ob), S[n]? = some o → o ≠ .gone → ∃ a u, μ.sl[n]? = some (some a) ∧ H a = some u ∧ ObR WW.w K μ H a o u
theorem Sim.ob {K : PySem.W.Frag} {μ : Mu} {S : Store} {H : Hp} (m : Sim K μ S H) (n : Nat) (ds : List D) (h : S[n]? = some (.lst ds)) : ∃ a xs, μ.sl[n]? = some (some a) ∧ H a = some (.lst xs) ∧ RepAll K μ H ds xs := by
  obtain ⟨a, u, h1, h2, xs, rfl, h3⟩ := m.obj n _ h (by simp)
  exact ⟨a, xs, h1, h2, h3⟩
theorem Sim.dT {K : PySem.W.Frag} {μ : Mu} {S : Store} {H : Hp} (m : Sim K μ S H) (n : Nat) (kvs : List (D × D)) (h : S[n]? = some (.dT kvs)) : ∃ a xs, μ.sl[n]? = some (some a) ∧ H a = some (DicO WW.w a xs) ∧ RepKV K μ H kvs xs := by
  obtain ⟨a, u, h1, h2, xs, rfl, h3⟩ := m.obj n _ h (by simp)
  exact ⟨a, xs, h1, h2, h3⟩
theorem Sim.fT {K : PySem.W.Frag} {μ : Mu} {S : Store} {H : Hp} (m : Sim K μ S H) (n : Nat) (o : Obj) (u0 : HO) (kvs : List (D × D)) (h : S[n]? = some (.fT o u0 kvs)) : ∃ a xs, μ.sl[n]? = some (some a) ∧ H a = some (.frz o u0) ∧ u0 = DicO WW.w a xs ∧ RepKV K μ H kvs xs := by
  obtain ⟨a, u, h1, h2, rfl, xs, e, h3⟩ := m.obj n _ h (by simp)
  exact ⟨a, xs, h1, h2, e, h3⟩
theorem Sim.fA {K : PySem.W.Frag} {μ : Mu} {S : Store} {H : Hp} (m : Sim K μ S H) (n : Nat) (o : Obj) (u0 : HO) (kvs : List (Key × D)) (h : S[n]? = some (.fA o u0 kvs)) : ∃ a xs, μ.sl[n]? = some (some a) ∧ H a = some (.frz o u0) ∧ u0 = .dK xs ∧ RepK K μ H kvs xs := by
  obtain ⟨a, u, h1, h2, rfl, xs, e, h3⟩ := m.obj n _ h (by simp)
  exact ⟨a, xs, h1, h2, e, h3⟩
theorem Sim.dA {K : PySem.W.Frag} {μ : Mu} {S : Store} {H : Hp} (m : Sim K μ S H) (n : Nat) (kvs : List (Key × D)) (h : S[n]? = some (.dA kvs)) : ∃ a xs, μ.sl[n]? = some (some a) ∧ H a = some (.dK xs) ∧ RepK K μ H kvs xs := by
  obtain ⟨a, u, h1, h2, xs, rfl, h3⟩ := m.obj n _ h (by simp)
  exact ⟨a, xs, h1, h2, h3⟩

def EnvR (K : PySem.W.Frag) (μ : Mu) (H : Hp) (ρ : Env) (σ : L2.St) : Prop :=
  ρ.length = σ.length ∧ ∀ (i : Nat) (d : D), ρ[i]? = some (some d) → ∃ v, σ[i]? = some (some v) ∧ Rep K μ H d v

section
variable {K : PySem.W.Frag} {μ μ' μ1 μ2 : Mu} {H H' H1 H2 : Hp} {S S' : Store} {ρ : Env} {σ : L2.St}
theorem EnvR.grow (g : Grow μ H μ' H') (h : EnvR K μ H ρ σ) : EnvR K μ' H' ρ σ :=
  ⟨h.1, fun i d e => let ⟨v, h1, h2⟩ := h.2 i d e; ⟨v, h1, h2.grow g⟩⟩
theorem EnvR.set {i : Nat} {d : D} {v : V} (h : EnvR K μ H ρ σ) (r : Rep K μ H d v) : EnvR K μ H (ρ.set i (some d)) (σ.set i (some v)) := by
  refine ⟨by simpa using h.1, fun j e q => ?_⟩
  by_cases hj : i = j
  · subst hj
    by_cases hi : i < ρ.length
    · rw [List.getElem?_set_self hi] at q
      cases q
      exact ⟨v, List.getElem?_set_self (by rw [← h.1]; exact hi), r⟩
    · rw [List.getElem?_eq_none (by simpa using hi)] at q
      cases q
  · rw [List.getElem?_set_ne hj] at q
    rw [List.getElem?_set_ne hj]
    exact h.2 j e q
theorem Sim.notin (m : Sim K μ S H) {a : Addr} (h : H a = none) : ¬ μ.has a := fun hm => by
  rcases hm with hm | hm
  · obtain ⟨n, hn⟩ := List.getElem?_of_mem hm
    obtain ⟨⟨o, ho⟩, _⟩ := m.trk n a hn
    rw [h] at ho; cases ho
  · obtain ⟨o, ho⟩ := m.trs a hm
    rw [h] at ho; cases ho
/-- the tracked objects of the store as they were -/
theorem Sim.grow (m : Sim K μ S H) (g : Grow μ H μ H') (k : ∀ (n : Nat) (a : Addr), μ.sl[n]? = some (some a) → H' a = H a) : Sim K μ S H' :=
  ⟨m.len, m.inj, fun n a h => let ⟨⟨o, ho⟩, hr⟩ := m.trk n a h; ⟨⟨o, by rw [k n a h]; exact ho⟩, hr⟩, fun a h => let ⟨o, ho⟩ := m.trs a h; ⟨o, (g.rs a h).2 o ho⟩,
    fun n o h ho => let ⟨a, u, h1, h2, h3⟩ := m.obj n o h ho; ⟨a, u, h1, by rw [k n a h1]; exact h2, h3.grow g⟩⟩
omit [WW] in
theorem rd_new {a p : Addr} {o u : HO} (h : Rd H a u) (hp : H p = none) : Rd (upd H p o) a u := by
  rcases h with h | ⟨ob, h⟩
  · exact .inl (by rw [upd_ne (ne_of_none h hp)]; exact h)
  · exact .inr ⟨ob, by rw [upd_ne (ne_of_none h hp)]; exact h⟩
omit [WW] in
theorem rd_ne {a p : Addr} {u : HO} (h : Rd H a u) (hp : H p = none) : a ≠ p := by
  rcases h with h | ⟨ob, h⟩
  · exact ne_of_none h hp
  · exact ne_of_none h hp
theorem Grow.new {p : Addr} {o : HO} (hp : H p = none) : Grow μ H μ (upd H p o) :=
  ⟨fun _ _ h => rd_new h hp, fun _ _ h n => ⟨rd_new h hp, n⟩, fun _ _ h => h, fun a h => ⟨h, fun u z => by rw [upd_ne (ne_of_none z hp)]; exact z⟩⟩
theorem Sim.new {p : Addr} {o : HO} (m : Sim K μ S H) (hp : H p = none) : Sim K μ S (upd H p o) :=
  m.grow (.new hp) fun n a h => by
    obtain ⟨⟨u, hu⟩, _⟩ := m.trk n a h
    exact upd_ne (ne_of_none hu hp)
/-- a new object of the store -/
theorem Grow.alloc {p : Addr} {o : HO} (hp : H p = none) : Grow μ H (μ.add p) (upd H p o) :=
  ⟨fun _ _ h => rd_new h hp, fun a xs h n => ⟨rd_new h hp, fun hm => by
    rcases hm with z | z
    · rcases List.mem_append.mp z with z | z
      · exact n (.inl z)
      · have e : a = p := by simpa using z
        exact rd_ne h hp e
    · exact n (.inr z)⟩,
    fun n a h => by
      have hn : n < μ.sl.length := (List.getElem?_eq_some_iff.mp h).1
      show (μ.sl ++ [some p])[n]? = _
      rw [List.getElem?_append_left hn]
      exact h,
    fun a h => ⟨h, fun u z => by rw [upd_ne (ne_of_none z hp)]; exact z⟩⟩
theorem Sim.allocO {p : Addr} {o : Ob} {u : HO} (m : Sim K μ S H) (hp : H p = none) (r : ObR WW.w K μ H p o u) : Sim K (μ.add p) (S ++ [o]) (upd H p u) := by
  have nin := m.notin hp
  have back : ∀ i a, (μ.sl ++ [some p])[i]? = some (some a) → (μ.sl[i]? = some (some a) ∧ a ≠ p) ∨ (i = μ.sl.length ∧ a = p) := fun i a h => by
    by_cases hi : i < μ.sl.length
    · rw [List.getElem?_append_left hi] at h
      refine .inl ⟨h, fun e => ?_⟩
      subst e
      exact nin (.inl (List.mem_of_getElem? h))
    · rw [List.getElem?_append_right (by omega)] at h
      have e := (List.getElem?_eq_some_iff.mp h)
      obtain ⟨hl, e⟩ := e
      have : i - μ.sl.length = 0 := by simp at hl; omega
      refine .inr ⟨by omega, ?_⟩
      simp [this] at e
      exact e.symm
  refine ⟨by simp [Mu.add, m.len], fun i j a h1 h2 => ?_, fun n a h => ?_, fun a h => ?_, fun n es h hne => ?_⟩
  · rcases back i a h1 with ⟨x, nx⟩ | ⟨x, nx⟩ <;> rcases back j a h2 with ⟨y, ny⟩ | ⟨y, ny⟩
    · exact m.inj i j a x y
    · exact absurd ny nx
    · exact absurd nx ny
    · omega
  · rcases back n a h with ⟨x, nx⟩ | ⟨_, nx⟩
    · obtain ⟨⟨o, ho⟩, hr⟩ := m.trk n a x
      exact ⟨⟨o, by rw [upd_ne nx]; exact ho⟩, hr⟩
    · subst nx
      exact ⟨⟨_, upd_same⟩, fun z => nin (.inr z)⟩
  · obtain ⟨o, ho⟩ := m.trs a h
    exact ⟨o, by rw [upd_ne (ne_of_none ho hp)]; exact ho⟩
  · by_cases hn : n < S.length
    · rw [List.getElem?_append_left hn] at h
      obtain ⟨a, ys, h1, h2, h3⟩ := m.obj n es h hne
      refine ⟨a, ys, ?_, ?_, h3.grow (.alloc hp)⟩
      · show (μ.sl ++ [some p])[n]? = _
        rw [List.getElem?_append_left (by rw [m.len]; exact hn)]
        exact h1
      · rw [upd_ne (ne_of_none h2 hp)]
        exact h2
    · rw [List.getElem?_append_right (by omega)] at h
      have e := (List.getElem?_eq_some_iff.mp h)
      obtain ⟨hl, e⟩ := e
      have q : n - S.length = 0 := by simp at hl; omega
      simp [q] at e
      subst e
      refine ⟨p, u, ?_, upd_same, r.grow (.alloc hp)⟩
      show (μ.sl ++ [some p])[n]? = _
      rw [List.getElem?_append_right (by rw [m.len]; omega)]
      have q' : n - μ.sl.length = 0 := by rw [m.len]; omega
      rw [q']
      rfl
theorem Sim.alloc {p : Addr} {ds : List D} {xs : List V} (m : Sim K μ S H) (hp : H p = none) (r : RepAll K μ H ds xs) : Sim K (μ.add p) (S ++ [.lst ds]) (upd H p (.lst xs)) := m.allocO hp ⟨xs, rfl, r⟩
/-- an object that may be written: no tuple, no thing that is read only -/
def Wr : HO → Prop
  | .lst _ => True
  | .dK _ => True
  | .ext _ => True
  | .frz _ u => Wr u
  | _ => False
/-- the n-th object is written -/
theorem Grow.putO {n : Nat} {a : Addr} {o u : HO} (m : Sim K μ S H) (h : μ.sl[n]? = some (some a)) (ha : H a = some o) (hw : Wr o) : Grow μ H μ (upd H a u) :=
  ⟨fun b zs hb => by
    have nb : b ≠ a := fun e => by
      subst e
      rcases hb with hb | ⟨ob, hb⟩ <;> rw [ha] at hb <;> cases hb <;> exact hw
    rcases hb with hb | ⟨ob, hb⟩
    · exact .inl (by rw [upd_ne nb]; exact hb)
    · exact .inr ⟨ob, by rw [upd_ne nb]; exact hb⟩,
   fun b zs hb hn => by
    have nb : b ≠ a := fun e => by
      subst e
      exact hn (.inl (List.mem_of_getElem? h))
    rcases hb with hb | ⟨ob, hb⟩
    · exact ⟨.inl (by rw [upd_ne nb]; exact hb), hn⟩
    · exact ⟨.inr ⟨ob, by rw [upd_ne nb]; exact hb⟩, hn⟩, fun _ _ h => h,
   fun b hb => ⟨hb, fun o z => by rw [upd_ne (fun e => (m.trk n a h).2 (by rw [← e]; exact hb))]; exact z⟩⟩
theorem Grow.put {n : Nat} {a : Addr} {xs ys : List V} (m : Sim K μ S H) (h : μ.sl[n]? = some (some a)) (ha : H a = some (.lst xs)) : Grow μ H μ (upd H a (.lst ys)) := .putO m h ha True.intro
theorem Sim.putO {n : Nat} {a : Addr} {o : HO} {u : HO} {e : Ob} (m : Sim K μ S H) (h : μ.sl[n]? = some (some a)) (ha : H a = some o) (hw : Wr o) (r : ObR WW.w K μ H a e u) : Sim K μ (S.set n e) (upd H a u) := by
  refine ⟨by simp [m.len], m.inj, fun i b hb => ?_, fun b hb => ?_, fun i fs hi hne => ?_⟩
  · obtain ⟨⟨o, ho⟩, hr⟩ := m.trk i b hb
    by_cases e : b = a
    · subst e
      exact ⟨⟨_, upd_same⟩, hr⟩
    · exact ⟨⟨o, by rw [upd_ne e]; exact ho⟩, hr⟩
  · obtain ⟨o, ho⟩ := m.trs b hb
    exact ⟨o, by rw [upd_ne (fun e => (m.trk n a h).2 (by rw [← e]; exact hb))]; exact ho⟩
  · by_cases e : n = i
    · subst e
      have hn : n < S.length := by rw [← m.len]; exact (List.getElem?_eq_some_iff.mp h).1
      rw [List.getElem?_set_self hn] at hi
      cases hi
      exact ⟨a, u, h, upd_same, r.grow (.putO m h ha hw)⟩
    · rw [List.getElem?_set_ne e] at hi
      obtain ⟨b, zs, h1, h2, h3⟩ := m.obj i fs hi hne
      refine ⟨b, zs, h1, ?_, h3.grow (.putO m h ha hw)⟩
      rw [upd_ne (fun z => e (m.inj n i a h (by rw [← z]; exact h1)))]
      exact h2
theorem Sim.put {n : Nat} {a : Addr} {xs ys : List V} {es : List D} (m : Sim K μ S H) (h : μ.sl[n]? = some (some a)) (ha : H a = some (.lst xs)) (r : RepAll K μ H es ys) : Sim K μ (S.set n (.lst es)) (upd H a (.lst ys)) := m.putO h ha True.intro ⟨ys, rfl, r⟩
theorem Sim.at (m : Sim K μ S H) {n : Nat} {ds : List D} {v : V} (h : S[n]? = some (.lst ds)) (r : Rep K μ H (.ref n) v) : ∃ a xs, v = .ref a ∧ μ.sl[n]? = some (some a) ∧ H a = some (.lst xs) ∧ RepAll K μ H ds xs := by
  cases r with
  | ref e =>
    obtain ⟨a, xs, h1, h2, h3⟩ := m.ob n ds h
    rw [e] at h1
    cases h1
    exact ⟨_, xs, rfl, e, h2, h3⟩
end
end DL

set_option maxHeartbeats 4000000
namespace DL
open PySem PySem.Spec PyProof.Rows L2
variable [WW]

/-! ### readings by content -/
omit [WW] in
abbrev WE := Env → Store → (D → Store → Prop) → Prop
omit [WW] in
abbrev WT := Env → Store → (Bool → Store → Prop) → Prop
omit [WW] in
abbrev WA := Env → Store → (List D → Store → Prop) → Prop
omit [WW] in
/-- an exception that is let out: its class, its fields -/
structure XD where
  c : Str
  ns : List Str
  ds : List D
omit [WW] in
structure EndsD where
  nx : Env → Store → Prop
  rt : D → Store → Prop
  bk : Env → Store → Prop := fun _ _ => False
  ct : Env → Store → Prop := fun _ _ => False
  ex : XD → Env → Store → Prop := fun _ _ _ => False
omit [WW] in
abbrev WS := EndsD → Env → Store → Prop

def Post (K : PySem.W.Frag) (μ : Mu) (H : Hp) (Q0 : D → Store → Prop) (Q : VK) : Prop := ∀ d S', Q0 d S' → ∀ μ' v H', Grow μ H μ' H' → Sim K μ' S' H' → Rep K μ' H' d v → Q v H'
def PostT (K : PySem.W.Frag) (μ : Mu) (H : Hp) (Q0 : Bool → Store → Prop) (Q : Bool → Hp → Prop) : Prop := ∀ b S', Q0 b S' → ∀ μ' H', Grow μ H μ' H' → Sim K μ' S' H' → Q b H'
def PostA (K : PySem.W.Frag) (μ : Mu) (H : Hp) (Q0 : List D → Store → Prop) (Q : List V → Hp → Prop) : Prop := ∀ ds S', Q0 ds S' → ∀ μ' vs H', Grow μ H μ' H' → Sim K μ' S' H' → RepAll K μ' H' ds vs → Q vs H'
def LE (K : PySem.W.Frag) (w : WE) : TE := fun σ H Q => ∃ μ S ρ Q0, Sim K μ S H ∧ EnvR K μ H ρ σ ∧ w ρ S Q0 ∧ Post K μ H Q0 Q
def LT (K : PySem.W.Frag) (w : WT) : TT := fun σ H Q => ∃ μ S ρ Q0, Sim K μ S H ∧ EnvR K μ H ρ σ ∧ w ρ S Q0 ∧ PostT K μ H Q0 Q
def LA (K : PySem.W.Frag) (w : WA) : TA := fun σ H Q => ∃ μ S ρ Q0, Sim K μ S H ∧ EnvR K μ H ρ σ ∧ w ρ S Q0 ∧ PostA K μ H Q0 Q
abbrev SE (X : Cx) (e : Expr) (w : WE) : Prop := PE X e (LE X.K w)
abbrev ST (X : Cx) (e : Expr) (w : WT) : Prop := PT X e (LT X.K w)
abbrev SW (X : Cx) (e : Expr) (w : WT) : Prop := PW X e (LT X.K w)
abbrev SA (X : Cx) (es : List Expr) (w : WA) : Prop := PA X es (LA X.K w)

section
variable {X : Cx} {e a b : Expr}
theorem pe_weak {t t' : TE} (h : PE X e t) (hw : ∀ σ H Q, t' σ H Q → t σ H Q) : PE X e t' := ⟨fun pins s σ H Q I q => h.run pins s σ H Q I (hw _ _ _ q)⟩
theorem pt_weak {t t' : TT} (h : PT X e t) (hw : ∀ σ H Q, t' σ H Q → t σ H Q) : PT X e t' := ⟨fun pins s σ H Q I q => h.run pins s σ H Q I (hw _ _ _ q)⟩
theorem pw_weak {t t' : TT} (h : PW X e t) (hw : ∀ σ H Q, t' σ H Q → t σ H Q) : PW X e t' := ⟨fun wh pins s σ H Q I q => h.run wh pins s σ H Q I (hw _ _ _ q)⟩
theorem pa_weak {es : List Expr} {t t' : TA} (h : PA X es t) (hw : ∀ σ H Q, t' σ H Q → t σ H Q) : PA X es t' := ⟨fun pos pins s σ H Q I q => h.run pos pins s σ H Q I (hw _ _ _ q)⟩
end

theorem Post.go {K : PySem.W.Frag} {μ μ' : Mu} {H H' : Hp} {Q0 : D → Store → Prop} {Q : VK} (h : Post K μ H Q0 Q) (g : Grow μ H μ' H') : Post K μ' H' Q0 Q :=
  fun d S' q μ2 v H2 g2 m r => h d S' q μ2 v H2 (g.trans g2) m r
theorem Post.now {K : PySem.W.Frag} {μ : Mu} {H : Hp} {S : Store} {d : D} {v : V} {Q0 : D → Store → Prop} {Q : VK} (h : Post K μ H Q0 Q) (m : Sim K μ S H) (r : Rep K μ H d v) (q : Q0 d S) : Q v H :=
  h d S q μ v H .refl m r
theorem PostT.go {K : PySem.W.Frag} {μ μ' : Mu} {H H' : Hp} {Q0 : Bool → Store → Prop} {Q : Bool → Hp → Prop} (h : PostT K μ H Q0 Q) (g : Grow μ H μ' H') : PostT K μ' H' Q0 Q :=
  fun d S' q μ2 H2 g2 m => h d S' q μ2 H2 (g.trans g2) m
theorem PostA.go {K : PySem.W.Frag} {μ μ' : Mu} {H H' : Hp} {Q0 : List D → Store → Prop} {Q : List V → Hp → Prop} (h : PostA K μ H Q0 Q) (g : Grow μ H μ' H') : PostA K μ' H' Q0 Q :=
  fun d S' q μ2 v H2 g2 m r => h d S' q μ2 v H2 (g.trans g2) m r

/-- run a part, go on behind it -/
theorem LE.run {K : PySem.W.Frag} {w : WE} {μ : Mu} {S : Store} {ρ : Env} {σ : L2.St} {H : Hp} {Q0 : D → Store → Prop} {Q : VK} (m : Sim K μ S H) (e : EnvR K μ H ρ σ) (h : w ρ S Q0)
    (k : ∀ d S' μ' v H', Q0 d S' → Grow μ H μ' H' → Sim K μ' S' H' → EnvR K μ' H' ρ σ → Rep K μ' H' d v → Q v H') : LE K w σ H Q :=
  ⟨μ, S, ρ, Q0, m, e, h, fun d S' q μ' v H' g m' r => k d S' μ' v H' q g m' (e.grow g) r⟩
theorem LT.run {K : PySem.W.Frag} {w : WT} {μ : Mu} {S : Store} {ρ : Env} {σ : L2.St} {H : Hp} {Q0 : Bool → Store → Prop} {Q : Bool → Hp → Prop} (m : Sim K μ S H) (e : EnvR K μ H ρ σ) (h : w ρ S Q0)
    (k : ∀ d S' μ' H', Q0 d S' → Grow μ H μ' H' → Sim K μ' S' H' → EnvR K μ' H' ρ σ → Q d H') : LT K w σ H Q :=
  ⟨μ, S, ρ, Q0, m, e, h, fun d S' q μ' H' g m' => k d S' μ' H' q g m' (e.grow g)⟩
theorem LA.run {K : PySem.W.Frag} {w : WA} {μ : Mu} {S : Store} {ρ : Env} {σ : L2.St} {H : Hp} {Q0 : List D → Store → Prop} {Q : List V → Hp → Prop} (m : Sim K μ S H) (e : EnvR K μ H ρ σ) (h : w ρ S Q0)
    (k : ∀ ds S' μ' vs H', Q0 ds S' → Grow μ H μ' H' → Sim K μ' S' H' → EnvR K μ' H' ρ σ → RepAll K μ' H' ds vs → Q vs H') : LA K w σ H Q :=
  ⟨μ, S, ρ, Q0, m, e, h, fun d S' q μ' v H' g m' r => k d S' μ' v H' q g m' (e.grow g) r⟩

/-! ### names, constants -/
section
variable {X : Cx} {e a b c : Expr} {wa wb wc : WE} {pos : Pos}
omit [WW] in
def wVar (i : Nat) : WE := fun ρ S Q => match ρ[i]? with | some (some d) => Q d S | _ => False
omit [WW] in
def wC (d : D) : WE := fun _ S Q => Q d S
theorem se_weak {w w' : WE} (h : SE X e w) (hw : ∀ ρ S Q, w' ρ S Q → w ρ S Q) : SE X e w' := pe_weak h fun σ H Q ⟨μ, S, ρ, Q0, m, en, q, p⟩ => ⟨μ, S, ρ, Q0, m, en, hw _ _ _ q, p⟩
theorem se_var (i : Nat) {x : Str} {pos : Pos} (hN : X.N[i]? = some x := by rfl) (hv : Vis X.env.scope x := by first | exact Or.inl rfl | exact Or.inr (Or.inl rfl) | exact Or.inr (Or.inr rfl)) (hd : (x == ("__debug__" : Str)) = false := by decide)
    (hcd : (x == ("__classdict__" : Str)) = false := by decide) : SE X (.Name x pos) (wVar i) := pe_weak (pe_var (i := i) hN hv hd hcd) fun σ H Q ⟨μ, S, ρ, Q0, m, en, q, p⟩ => by
  have q' : (match ρ[i]? with | some (some d) => Q0 d S | _ => False) := q
  split at q'
  · rename_i d hd
    obtain ⟨v, h1, h2⟩ := en.2 i d hd
    exact ⟨v, h1, p.now m h2 q'⟩
  · exact q'.elim
theorem se_c {d : D} {v : V} (h : PE X e (tC v)) (r : ∀ μ H, Rep X.K μ H d v) : SE X e (wC d) := pe_weak h fun σ H Q ⟨μ, S, ρ, Q0, m, en, q, p⟩ => p.now m (r _ _) q
theorem se_int {i j pos} : SE X (.Constant (.int i) j pos) (wC (.int i)) := se_c pe_int fun _ _ => .int i
theorem se_bl {i j pos} : SE X (.Constant (.bool i) j pos) (wC (.bl i)) := se_c pe_bl fun _ _ => .bl i
theorem se_non {j pos} : SE X (.Constant .none j pos) (wC .non) := se_c pe_non fun _ _ => .non
theorem se_str {i j pos} : SE X (.Constant (.str i) j pos) (wC (.str i)) := se_c pe_str fun _ _ => .str i
theorem se_glob {x : Str} {d : D} {v : V} {u : Value} {pos : Pos} (hg : Gl X x) (hm : X.mg x = some u) (r : RelV v u) (rp : ∀ μ H, Rep X.K μ H d v) (hd : (x == ("__debug__" : Str)) = false := by decide) : SE X (.Name x pos) (wC d) :=
  se_c (pe_glob hg hm r hd) rp

/-! ### two operands -/
omit [WW] in
abbrev RD := D → D → Store → (D → Store → Prop) → Prop
omit [WW] in
def wOp (R : RD) (wa wb : WE) : WE := fun ρ S Q => wa ρ S fun x S1 => wb ρ S1 fun y S2 => R x y S2 Q
def OpD (K : PySem.W.Frag) (r : R2) (R : RD) : Prop := ∀ (μ : Mu) (S : Store) (H : Hp) (x y : D) (vx vy : V) (Q0 : D → Store → Prop) (Q : VK), Sim K μ S H → Rep K μ H x vx → Rep K μ H y vy → R x y S Q0 → Post K μ H Q0 Q → r vx vy H Q
theorem se_bin {r : R2} {R : RD} (hc : OpD X.K r R) (ha : SE X a wa) (hb : SE X b wb) (hpe : PE X e (tOp r (LE X.K wa) (LE X.K wb))) : SE X e (wOp R wa wb) := pe_weak hpe fun σ H Q ⟨μ, S, ρ, Q0, m, en, q, p⟩ => by
  refine LE.run m en q fun x S1 μ1 vx H1 q1 g1 m1 e1 r1 => ?_
  refine LE.run m1 e1 q1 fun y S2 μ2 vy H2 q2 g2 m2 e2 r2 => ?_
  exact hc μ2 S2 H2 x y vx vy Q0 Q m2 (r1.grow g2) r2 q2 (p.go (g1.trans g2))
theorem se_op {op : Operator} {r : R2} {R : RD} (hc : OpD X.K r R) (ho : OpR X (binaryOp op) r) (ha : SE X a wa) (hb : SE X b wb) : SE X (.BinOp a op b pos) (wOp R wa wb) := se_bin hc ha hb (pe_op ho ha hb)
theorem se_cmpR {op : CmpOp} {r : R2} {R : RD} (hc : OpD X.K r R) (ho : OpR X (compareOp op) r) (ha : SE X a wa) (hb : SE X b wb) (hm : behindInMarks op b = false) : SE X (.Compare a [op] [b] pos) (wOp R wa wb) := se_bin hc ha hb (pe_cmpR ho ha hb hm)
omit [WW] in
def wTest (w : WE) : WT := fun ρ S Q => w ρ S fun d S1 => match d with | .bl k => Q k S1 | _ => False
theorem st_cmpR {op : CmpOp} {r : R2} {R : RD} (hc : OpD X.K r R) (ho : OpR X (compareOp op) r) (ha : SE X a wa) (hb : SE X b wb) (hm : behindInMarks op b = false) : ST X (.Compare a [op] [b] pos) (wTest (wOp R wa wb)) :=
  pt_weak (pt_cmpR ho ha hb hm) fun σ H Q ⟨μ, S, ρ, Q0, m, en, q, p⟩ => by
    refine LE.run m en q fun x S1 μ1 vx H1 q1 g1 m1 e1 r1 => ?_
    refine LE.run m1 e1 q1 fun y S2 μ2 vy H2 q2 g2 m2 e2 r2 => ?_
    refine hc μ2 S2 H2 x y vx vy _ _ m2 (r1.grow g2) r2 q2 fun d S3 q3 μ3 v H3 g3 m3 r3 => ?_
    cases r3 with
    | bl k => exact ⟨k, rfl, p k S3 q3 μ3 H3 ((g1.trans g2).trans g3) m3⟩
    | _ => exact q3.elim
end

/-! ### the operators by content -/
omit [WW] in
def MulOk (i j : Int) : Prop := IntMulOk i j
omit [WW] in
def DivOk (j : Int) : Prop := 0 < j ∧ j.natAbs.log2 < 9000
omit [WW] in
theorem MulOk.l {i j : Int} (h1 : -(2 ^ 64) < i) (h2 : i < 2 ^ 64) : MulOk i j := CMul.ok (.inl ⟨h1, h2⟩)
omit [WW] in
theorem MulOk.r {i j : Int} (h1 : -(2 ^ 64) < j) (h2 : j < 2 ^ 64) : MulOk i j := CMul.ok (.inr ⟨h1, h2⟩)
omit [WW] in
theorem MulOk.w {i j : Int} (h : i.natAbs.log2 + j.natAbs.log2 < 1000000) : MulOk i j := CMulW.ok h
omit [WW] in
theorem DivOk.of {j : Int} (h : 0 < j) (h2 : j < 2 ^ 200) : DivOk j := ⟨h, (wide_div (i := 0) (b := 200) h (by omega) (by decide) (by decide)).2⟩
omit [WW] in
def rAdd : RD
  | .int i, .int j, S, Q => Q (.int (i + j)) S
  | .str a, .str b, S, Q => a.length + b.length ≤ sizeLine ∧ Q (.str (a ++ b)) S
  | .tup a, .tup b, S, Q => a ≠ [] ∧ a.length + b.length ≤ sizeLine ∧ Q (.tup (a ++ b)) S
  | _, _, _, _ => False
omit [WW] in
def rSub : RD
  | .int i, .int j, S, Q => Q (.int (i - j)) S
  | _, _, _, _ => False
omit [WW] in
def rMul : RD
  | .int i, .int j, S, Q => MulOk i j ∧ Q (.int (i * j)) S
  | _, _, _, _ => False
omit [WW] in
def rDiv : RD
  | .int i, .int j, S, Q => DivOk j ∧ Q (.int (i / j)) S
  | _, _, _, _ => False
omit [WW] in
def rMod : RD
  | .int i, .int j, S, Q => 0 < j ∧ Q (.int (i % j)) S
  | _, _, _, _ => False
omit [WW] in
def rPow : RD
  | .int i, .int j, S, Q => CPow i j ∧ Q (.int (i ^ j.toNat)) S
  | _, _, _, _ => False
omit [WW] in
def rLt : RD
  | .int i, .int j, S, Q => Q (.bl (decide (i < j))) S
  | _, _, _, _ => False
omit [WW] in
def rLe : RD
  | .int i, .int j, S, Q => Q (.bl (decide (i ≤ j))) S
  | _, _, _, _ => False
omit [WW] in
def rGt : RD
  | .int i, .int j, S, Q => Q (.bl (decide (j < i))) S
  | _, _, _, _ => False
omit [WW] in
def rGe : RD
  | .int i, .int j, S, Q => Q (.bl (decide (j ≤ i))) S
  | _, _, _, _ => False

section
variable {K : PySem.W.Frag}
/-- ints alone -/
theorem opd_I {R : RD} {g : Int → Int → D} {gv : Int → Int → V} {C : Int → Int → Prop} {C' : Int → Int → Prop} (h : ∀ i j S Q, R (.int i) (.int j) S Q = (C i j ∧ Q (g i j) S)) (hr : ∀ μ H i j, Rep K μ H (g i j) (gv i j)) (hC : ∀ i j, C i j → C' i j)
    (hn : ∀ x y S Q, R x y S Q → ∃ i j, x = .int i ∧ y = .int j) : OpD K (rI C' gv) R := by
  intro μ S H x y vx vy Q0 Q m rx ry q p
  obtain ⟨i, j, rfl, rfl⟩ := hn x y S Q0 q
  rw [h] at q
  exact ⟨i, j, rx.int_inv, ry.int_inv, hC _ _ q.1, p.now m (hr _ _ _ _) q.2⟩
theorem opd_I0 {R : RD} {g : Int → Int → D} {gv : Int → Int → V} (h : ∀ i j S Q, R (.int i) (.int j) S Q = Q (g i j) S) (hr : ∀ μ H i j, Rep K μ H (g i j) (gv i j))
    (hn : ∀ x y S Q, R x y S Q → ∃ i j, x = .int i ∧ y = .int j) : OpD K (rI0 gv) R := by
  intro μ S H x y vx vy Q0 Q m rx ry q p
  obtain ⟨i, j, rfl, rfl⟩ := hn x y S Q0 q
  rw [h] at q
  exact ⟨i, j, rx.int_inv, ry.int_inv, p.now m (hr _ _ _ _) q⟩
theorem opd_sub : OpD K (rI0 fun i j => .int (i - j)) rSub := opd_I0 (fun _ _ _ _ => rfl) (fun _ _ _ _ => .int _) fun x y S Q h => by
  unfold rSub at h; split at h <;> first | exact ⟨_, _, rfl, rfl⟩ | exact h.elim
theorem opd_mul : OpD K (rI MulOk fun i j => .int (i * j)) rMul := opd_I (fun _ _ _ _ => rfl) (fun _ _ _ _ => .int _) (fun _ _ h => h) fun x y S Q h => by
  unfold rMul at h; split at h <;> first | exact ⟨_, _, rfl, rfl⟩ | exact h.elim
theorem opd_div : OpD K (rI CDivW fun i j => .int (i / j)) rDiv := opd_I (C := fun _ j => DivOk j) (fun _ _ _ _ => rfl) (fun _ _ _ _ => .int _) (fun _ _ h => h) fun x y S Q h => by
  unfold rDiv at h; split at h <;> first | exact ⟨_, _, rfl, rfl⟩ | exact h.elim
theorem opd_mod : OpD K (rI (fun _ j => 0 < j) fun i j => .int (i % j)) rMod := opd_I (C := fun _ j => 0 < j) (fun _ _ _ _ => rfl) (fun _ _ _ _ => .int _) (fun _ _ h => h) fun x y S Q h => by
  unfold rMod at h; split at h <;> first | exact ⟨_, _, rfl, rfl⟩ | exact h.elim
theorem opd_pow : OpD K (rI CPow fun i j => .int (i ^ j.toNat)) rPow := opd_I (fun _ _ _ _ => rfl) (fun _ _ _ _ => .int _) (fun _ _ h => h) fun x y S Q h => by
  unfold rPow at h; split at h <;> first | exact ⟨_, _, rfl, rfl⟩ | exact h.elim
theorem opd_lt : OpD K (rI0 fun i j => .bl (decide (i < j))) rLt := opd_I0 (fun _ _ _ _ => rfl) (fun _ _ _ _ => .bl _) fun x y S Q h => by
  unfold rLt at h; split at h <;> first | exact ⟨_, _, rfl, rfl⟩ | exact h.elim
theorem opd_le : OpD K (rI0 fun i j => .bl (decide (i ≤ j))) rLe := opd_I0 (fun _ _ _ _ => rfl) (fun _ _ _ _ => .bl _) fun x y S Q h => by
  unfold rLe at h; split at h <;> first | exact ⟨_, _, rfl, rfl⟩ | exact h.elim
theorem opd_gt : OpD K (rI0 fun i j => .bl (decide (j < i))) rGt := opd_I0 (fun _ _ _ _ => rfl) (fun _ _ _ _ => .bl _) fun x y S Q h => by
  unfold rGt at h; split at h <;> first | exact ⟨_, _, rfl, rfl⟩ | exact h.elim
theorem opd_ge : OpD K (rI0 fun i j => .bl (decide (j ≤ i))) rGe := opd_I0 (fun _ _ _ _ => rfl) (fun _ _ _ _ => .bl _) fun x y S Q h => by
  unfold rGe at h; split at h <;> first | exact ⟨_, _, rfl, rfl⟩ | exact h.elim
def rAddS : R2 := fun x y H Q => ∃ i j, x = .str i ∧ y = .str j ∧ i.length + j.length ≤ sizeLine ∧ Q (.str (i ++ j)) H
def rAddV (K : PySem.W.Frag) : R2 := fun x y H Q => rI0 (fun i j => .int (i + j)) x y H Q ∨ (rAddS x y H Q ∨ rCatT K x y H Q)
theorem op_addV {X : Cx} : OpR X (binaryOp .Add) (rAddV X.K) := op_add.or (op_add_str.or op_catT)
theorem Sim.newT {μ : Mu} {S : Store} {H : Hp} {p : Addr} {ds : List D} {xs : List V} (hp : H p = none) (r : RepAll K μ H ds xs) : Rep K μ (upd H p (.tup xs)) (.tup ds) (.ref p) :=
  .tup (.inl (.inl upd_same)) (r.grow (.new hp))
theorem Sim.newL {μ : Mu} {S : Store} {H : Hp} {p : Addr} {ds : List D} {xs : List V} (m : Sim K μ S H) (hp : H p = none) (r : RepAll K μ H ds xs) : Rep K μ (upd H p (.lst xs)) (.lst ds) (.ref p) :=
  .lst (.inl ⟨.inl upd_same, m.notin hp⟩) (r.grow (.new hp))
theorem opd_add : OpD K (rAddV K) rAdd := by
  intro μ S H x y vx vy Q0 Q m rx ry q p
  unfold rAdd at q
  split at q
  · exact .inl ⟨_, _, rx.int_inv, ry.int_inv, p.now m (.int _) q⟩
  · exact .inr (.inl ⟨_, _, rx.str_inv, ry.str_inv, q.1, p.now m (.str _) q.2⟩)
  · rename_i a b
    obtain ⟨a1, xs, rfl, h1, r1⟩ := rx.tupS
    obtain ⟨a2, ys, rfl, h2, r2⟩ := ry.tupS
    obtain ⟨q1, q2, q3⟩ := q
    refine .inr (.inr ⟨a1, a2, xs, ys, rfl, rfl, h1, h2, ?_, by rw [← r1.length, ← r2.length]; exact q2, ?_⟩)
    · intro e
      subst e
      exact q1 (List.length_eq_zero_iff.mp r1.length)
    · refine ⟨fun e => ?_, fun e t ht => ?_⟩
      · subst e
        have : b = [] := List.length_eq_zero_iff.mp r2.length
        subst this
        rw [List.append_nil] at q3
        exact p.now m rx q3
      · exact p _ _ q3 _ _ _ (.new ht) (m.new ht) (Sim.newT (S := S) ht (r1.append r2))
  · exact q.elim
end
section
variable {X : Cx} {a b : Expr} {wa wb : WE} {pos : Pos}
theorem se_add (ha : SE X a wa) (hb : SE X b wb) : SE X (.BinOp a .Add b pos) (wOp rAdd wa wb) := se_op opd_add op_addV ha hb
theorem se_sub (ha : SE X a wa) (hb : SE X b wb) : SE X (.BinOp a .Sub b pos) (wOp rSub wa wb) := se_op opd_sub op_sub ha hb
theorem op_mulOk : OpR X (binaryOp .Mult) (rI MulOk fun i j => .int (i * j)) := opI fun _ _ _ _ _ _ _ hc q => mul_int q hc
theorem se_mul (ha : SE X a wa) (hb : SE X b wb) : SE X (.BinOp a .Mult b pos) (wOp rMul wa wb) := se_op opd_mul op_mulOk ha hb
theorem se_div (ha : SE X a wa) (hb : SE X b wb) : SE X (.BinOp a .FloorDiv b pos) (wOp rDiv wa wb) := se_op opd_div op_fdivW ha hb
theorem se_mod (ha : SE X a wa) (hb : SE X b wb) : SE X (.BinOp a .Mod b pos) (wOp rMod wa wb) := se_op opd_mod op_mod ha hb
theorem se_pow (ha : SE X a wa) (hb : SE X b wb) : SE X (.BinOp a .Pow b pos) (wOp rPow wa wb) := se_op opd_pow op_pow ha hb
theorem se_lt (ha : SE X a wa) (hb : SE X b wb) : SE X (.Compare a [.Lt] [b] pos) (wOp rLt wa wb) := se_cmpR opd_lt op_lt ha hb (nomark _)
theorem se_le (ha : SE X a wa) (hb : SE X b wb) : SE X (.Compare a [.LtE] [b] pos) (wOp rLe wa wb) := se_cmpR opd_le op_le ha hb (nomark _)
theorem se_gt (ha : SE X a wa) (hb : SE X b wb) : SE X (.Compare a [.Gt] [b] pos) (wOp rGt wa wb) := se_cmpR opd_gt op_gt ha hb (nomark _)
theorem se_ge (ha : SE X a wa) (hb : SE X b wb) : SE X (.Compare a [.GtE] [b] pos) (wOp rGe wa wb) := se_cmpR opd_ge op_ge ha hb (nomark _)
theorem st_lt (ha : SE X a wa) (hb : SE X b wb) : ST X (.Compare a [.Lt] [b] pos) (wTest (wOp rLt wa wb)) := st_cmpR opd_lt op_lt ha hb (nomark _)
theorem st_le (ha : SE X a wa) (hb : SE X b wb) : ST X (.Compare a [.LtE] [b] pos) (wTest (wOp rLe wa wb)) := st_cmpR opd_le op_le ha hb (nomark _)
theorem st_gt (ha : SE X a wa) (hb : SE X b wb) : ST X (.Compare a [.Gt] [b] pos) (wTest (wOp rGt wa wb)) := st_cmpR opd_gt op_gt ha hb (nomark _)
theorem st_ge (ha : SE X a wa) (hb : SE X b wb) : ST X (.Compare a [.GtE] [b] pos) (wTest (wOp rGe wa wb)) := st_cmpR opd_ge op_ge ha hb (nomark _)
end
end DL

set_option maxHeartbeats 4000000
namespace DL
open PySem PySem.Spec PyProof.Rows L2
variable [WW]

/-! ### equality by content -/
omit [WW] in
mutual
def D.py : D → PyData
  | .non => .none
  | .bl b => .bool b
  | .int i => .int i
  | .str s => .str s
  | .tup ds => .tuple (pyAll ds)
  | .lst ds => .list (pyAll ds)
  | .ref _ => .dict []
  | .exc _ _ _ _ => .dict []
def pyAll : List D → List PyData
  | [] => []
  | d :: ds => D.py d :: pyAll ds
end
section
variable {K : PySem.W.Frag} {μ : Mu} {H : Hp}
mutual
theorem Rep.dp : ∀ {d : D} {v : V}, Rep K μ H d v → d.py.canLay0 = true → Dp K H v d.py
  | _, _, .non, _ => .non
  | _, _, .bl b, _ => .bl b
  | _, _, .int i, _ => .int i
  | _, _, .str x, _ => .str x
  | .tup ds, _, .tup h r, c => .tup h (RepAll.dp r (by simpa [D.py, PyData.canLay0] using c))
  | .lst ds, _, .lst h r, c => .lst (h.imp And.left id) (RepAll.dp r (by simpa [D.py, PyData.canLay0] using c))
  | .ref n, _, .ref h, c => by simp [D.py, PyData.canLay0] at c
  | .exc _ _ _ _, _, .exc _ _, c => by simp [D.py, PyData.canLay0] at c
theorem RepAll.dp : ∀ {ds : List D} {vs : List V}, RepAll K μ H ds vs → PyData.canLayAll0 (pyAll ds) = true → DpAll K H vs (pyAll ds)
  | _, _, .nil, _ => .nil
  | d :: ds, _, .cons r t, c => by
    have c' : d.py.canLay0 = true ∧ PyData.canLayAll0 (pyAll ds) = true := by simpa [pyAll, PyData.canLayAll0] using c
    exact .cons (Rep.dp r c'.1) (RepAll.dp t c'.2)
end
end
omit [WW] in
/-- comparable by content -/
def okD (d : D) : Prop := SeqAt.shaped d.py = true
omit [WW] in
def eqv (x y : D) : Bool := PyData.eqv x.py y.py
omit [WW] in
def rEq : RD
  | .int i, .int j, S, Q => Q (.bl (decide (i = j))) S
  | .bl i, .bl j, S, Q => Q (.bl (decide (i = j))) S
  | .str i, .str j, S, Q => Q (.bl (decide (i = j))) S
  | x, y, S, Q => okD x ∧ okD y ∧ Q (.bl (eqv x y)) S
omit [WW] in
def rNe : RD
  | .int i, .int j, S, Q => Q (.bl (!decide (i = j))) S
  | .bl i, .bl j, S, Q => Q (.bl (!decide (i = j))) S
  | .str i, .str j, S, Q => Q (.bl (!decide (i = j))) S
  | x, y, S, Q => okD x ∧ okD y ∧ Q (.bl (!eqv x y)) S
def rEqV (K : PySem.W.Frag) : R2 := fun x y H Q => L2.rEq x y H Q ∨ rEqD K x y H Q
def rNeV (K : PySem.W.Frag) : R2 := fun x y H Q => L2.rNe x y H Q ∨ rNeD K x y H Q
omit [WW] in
theorem shaped_lay {d : PyData} (h : SeqAt.shaped d = true) : d.canLay0 = true := SeqAt.canLay_of_shaped h
omit [WW] in
theorem dec_vint {i j : Int} : decide (V.int i = V.int j) = decide (i = j) := by simp
omit [WW] in
theorem dec_vbl {i j : Bool} : decide (V.bl i = V.bl j) = decide (i = j) := by simp
omit [WW] in
theorem dec_vstr {i j : Str} : decide (V.str i = V.str j) = decide (i = j) := by simp
section
variable {K : PySem.W.Frag}
theorem opd_eq : OpD K (rEqV K) rEq := by
  intro μ S H x y vx vy Q0 Q m rx ry q p
  unfold rEq at q
  split at q
  · rw [rx.int_inv, ry.int_inv]
    exact .inl ⟨rfl, by rw [dec_vint]; exact p.now m (.bl _) q⟩
  · rw [rx.bl_inv, ry.bl_inv]
    exact .inl ⟨rfl, by rw [dec_vbl]; exact p.now m (.bl _) q⟩
  · rw [rx.str_inv, ry.str_inv]
    exact .inl ⟨rfl, by rw [dec_vstr]; exact p.now m (.bl _) q⟩
  · obtain ⟨q1, q2, q3⟩ := q
    exact .inr ⟨_, _, rx.dp (shaped_lay q1), ry.dp (shaped_lay q2), q1, q2, p.now m (.bl _) q3⟩
theorem opd_ne : OpD K (rNeV K) rNe := by
  intro μ S H x y vx vy Q0 Q m rx ry q p
  unfold rNe at q
  split at q
  · rw [rx.int_inv, ry.int_inv]
    exact .inl ⟨rfl, by rw [dec_vint]; exact p.now m (.bl _) q⟩
  · rw [rx.bl_inv, ry.bl_inv]
    exact .inl ⟨rfl, by rw [dec_vbl]; exact p.now m (.bl _) q⟩
  · rw [rx.str_inv, ry.str_inv]
    exact .inl ⟨rfl, by rw [dec_vstr]; exact p.now m (.bl _) q⟩
  · obtain ⟨q1, q2, q3⟩ := q
    exact .inr ⟨_, _, rx.dp (shaped_lay q1), ry.dp (shaped_lay q2), q1, q2, p.now m (.bl _) q3⟩
end
/-! ### is -/
omit [WW] in
def isC : D → D → Option Bool
  | .non, .non => some true
  | _, .non => some false
  | .bl a, .bl b => some (a == b)
  | .ref _, .bl _ => some false
  | .int _, .bl _ => some false
  | .str _, .bl _ => some false
  | .non, .bl _ => some false
  | .tup _, .bl _ => some false
  | .lst _, .bl _ => some false
  | _, _ => none
omit [WW] in
def rIs : RD := fun x y S Q => match isC x y with | some b => Q (.bl b) S | none => False
omit [WW] in
def rIsNot : RD := fun x y S Q => match isC x y with | some b => Q (.bl (!b)) S | none => False
omit [WW] in
def isV : V → V → Option Bool
  | .non, .non => some true
  | _, .non => some false
  | .bl a, .bl b => some (a == b)
  | .ref _, .bl _ => some false
  | .int _, .bl _ => some false
  | .str _, .bl _ => some false
  | .non, .bl _ => some false
  | _, _ => none
def rIsV : R2 := fun x y H Q => ∃ b, isV x y = some b ∧ Q (.bl b) H
def rIsNotV : R2 := fun x y H Q => ∃ b, isV x y = some b ∧ Q (.bl (!b)) H
section
variable {X : Cx}
theorem op_isV : OpR X (compareOp .Is) rIsV := by
  intro pins s σ H x y v u Q I rx ry h
  obtain ⟨b, e, q⟩ := h
  cases y with
  | non =>
    cases ry
    refine op_isN pins s σ H x .non v Value.none Q I rx rfl ⟨rfl, ?_⟩
    cases x <;> (cases e; exact q)
  | bl k =>
    cases ry
    cases x with
    | non => cases rx; cases e; exact wpAny_is_other rfl (fun z => nomatch z) ⟨.bl false, H, I, rfl, q⟩
    | bl a =>
      cases rx; cases e
      by_cases hk : a = k
      · subst hk; exact wpAny_is_self rfl ⟨.bl true, H, I, rfl, by simpa using q⟩
      · exact wpAny_is_other rfl (fun z => hk (Value.bool.inj z)) ⟨.bl false, H, I, rfl, by rw [beq_eq_false_iff_ne.mpr hk] at q; exact q⟩
    | int i => obtain ⟨t, rfl⟩ := rx; cases e; exact wpAny_is_other rfl (fun z => nomatch z) ⟨.bl false, H, I, rfl, q⟩
    | str i => obtain ⟨t, rfl⟩ := rx; cases e; exact wpAny_is_other rfl (fun z => nomatch z) ⟨.bl false, H, I, rfl, q⟩
    | ref a => cases rx; cases e; exact wpAny_is_other rfl (fun z => nomatch z) ⟨.bl false, H, I, rfl, q⟩
    | byt _ => cases e
    | flt _ => cases e
    | ty _ => cases e
  | _ => cases x <;> cases e
theorem op_isNotV : OpR X (compareOp .IsNot) rIsNotV := by
  intro pins s σ H x y v u Q I rx ry h
  obtain ⟨b, e, q⟩ := h
  cases y with
  | non =>
    cases ry
    refine op_notN pins s σ H x .non v Value.none Q I rx rfl ⟨rfl, ?_⟩
    cases x <;> (cases e; exact q)
  | bl k =>
    cases ry
    cases x with
    | non => cases rx; cases e; exact wpAny_isNot_other rfl (fun z => nomatch z) ⟨.bl true, H, I, rfl, q⟩
    | bl a =>
      cases rx; cases e
      by_cases hk : a = k
      · subst hk; exact wpAny_isNot_self rfl ⟨.bl false, H, I, rfl, by simpa using q⟩
      · exact wpAny_isNot_other rfl (fun z => hk (Value.bool.inj z)) ⟨.bl true, H, I, rfl, by rw [beq_eq_false_iff_ne.mpr hk] at q; exact q⟩
    | int i => obtain ⟨t, rfl⟩ := rx; cases e; exact wpAny_isNot_other rfl (fun z => nomatch z) ⟨.bl true, H, I, rfl, q⟩
    | str i => obtain ⟨t, rfl⟩ := rx; cases e; exact wpAny_isNot_other rfl (fun z => nomatch z) ⟨.bl true, H, I, rfl, q⟩
    | ref a => cases rx; cases e; exact wpAny_isNot_other rfl (fun z => nomatch z) ⟨.bl true, H, I, rfl, q⟩
    | byt _ => cases e
    | flt _ => cases e
    | ty _ => cases e
  | _ => cases x <;> cases e
end
theorem is_vd {K : PySem.W.Frag} {μ : Mu} {H : Hp} {x y : D} {vx vy : V} {b : Bool} (rx : Rep K μ H x vx) (ry : Rep K μ H y vy) (h : isC x y = some b) : isV vx vy = some b := by
  cases rx <;> cases ry <;> first | exact h | cases h
theorem opd_is {K : PySem.W.Frag} : OpD K rIsV rIs := by
  intro μ S H x y vx vy Q0 Q m rx ry q p
  unfold rIs at q
  cases e : isC x y with
  | none => rw [e] at q; exact q.elim
  | some b => rw [e] at q; exact ⟨b, is_vd rx ry e, p.now m (.bl _) q⟩
theorem opd_isNot {K : PySem.W.Frag} : OpD K rIsNotV rIsNot := by
  intro μ S H x y vx vy Q0 Q m rx ry q p
  unfold rIsNot at q
  cases e : isC x y with
  | none => rw [e] at q; exact q.elim
  | some b => rw [e] at q; exact ⟨b, is_vd rx ry e, p.now m (.bl _) q⟩

section
variable {X : Cx} {e a b c : Expr} {wa wb wc : WE} {pos : Pos} {ta tb tc : WT}
theorem op_eqV (hu : X.A.units + 64 < cLine) : OpR X (compareOp .Eq) (rEqV X.K) := op_eq.or (op_eqD hu)
theorem op_neV (hu : X.A.units + 64 < cLine) : OpR X (compareOp .NotEq) (rNeV X.K) := op_ne.or (op_neD hu)
theorem se_eq (hu : X.A.units + 64 < cLine) (ha : SE X a wa) (hb : SE X b wb) : SE X (.Compare a [.Eq] [b] pos) (wOp rEq wa wb) := se_cmpR opd_eq (op_eqV hu) ha hb (nomark _)
theorem se_ne (hu : X.A.units + 64 < cLine) (ha : SE X a wa) (hb : SE X b wb) : SE X (.Compare a [.NotEq] [b] pos) (wOp rNe wa wb) := se_cmpR opd_ne (op_neV hu) ha hb (nomark _)
theorem se_is (ha : SE X a wa) (hb : SE X b wb) : SE X (.Compare a [.Is] [b] pos) (wOp rIs wa wb) := se_cmpR opd_is op_isV ha hb (nomark _)
theorem se_isNot (ha : SE X a wa) (hb : SE X b wb) : SE X (.Compare a [.IsNot] [b] pos) (wOp rIsNot wa wb) := se_cmpR opd_isNot op_isNotV ha hb (nomark _)
theorem st_eq (hu : X.A.units + 64 < cLine) (ha : SE X a wa) (hb : SE X b wb) : ST X (.Compare a [.Eq] [b] pos) (wTest (wOp rEq wa wb)) := st_cmpR opd_eq (op_eqV hu) ha hb (nomark _)
theorem st_ne (hu : X.A.units + 64 < cLine) (ha : SE X a wa) (hb : SE X b wb) : ST X (.Compare a [.NotEq] [b] pos) (wTest (wOp rNe wa wb)) := st_cmpR opd_ne (op_neV hu) ha hb (nomark _)
theorem st_is (ha : SE X a wa) (hb : SE X b wb) : ST X (.Compare a [.Is] [b] pos) (wTest (wOp rIs wa wb)) := st_cmpR opd_is op_isV ha hb (nomark _)
theorem st_isNot (ha : SE X a wa) (hb : SE X b wb) : ST X (.Compare a [.IsNot] [b] pos) (wTest (wOp rIsNot wa wb)) := st_cmpR opd_isNot op_isNotV ha hb (nomark _)

/-! ### and, or, not, if .. else, truth, minus -/
omit [WW] in
def wAnd (t u : WT) : WT := fun ρ S Q => t ρ S fun k S1 => if k = true then u ρ S1 Q else Q false S1
omit [WW] in
def wOr (t u : WT) : WT := fun ρ S Q => t ρ S fun k S1 => if k = true then Q true S1 else u ρ S1 Q
omit [WW] in
def wNot (t : WT) : WT := fun ρ S Q => t ρ S fun k S1 => Q (!k) S1
variable {rest : List Expr}
theorem sw_and1 (ha : ST X a ta) : SW X (.BoolOp .And [a] pos) ta := pw_and1 ha
theorem sw_or1 (ha : ST X a ta) : SW X (.BoolOp .Or [a] pos) ta := pw_or1 ha
theorem sw_and (ha : ST X a ta) (hb : SW X (.BoolOp .And (b :: rest) pos) tb) : SW X (.BoolOp .And (a :: b :: rest) pos) (wAnd ta tb) := pw_weak (pw_and ha hb) fun σ H Q ⟨μ, S, ρ, Q0, m, en, q, p⟩ => by
  refine LT.run m en q fun k S1 μ1 H1 q1 g1 m1 e1 => ?_
  cases k with
  | true => exact LT.run m1 e1 q1 fun k S2 μ2 H2 q2 g2 m2 e2 => p k S2 q2 μ2 H2 (g1.trans g2) m2
  | false => exact p false S1 q1 μ1 H1 g1 m1
theorem sw_or (ha : ST X a ta) (hb : SW X (.BoolOp .Or (b :: rest) pos) tb) : SW X (.BoolOp .Or (a :: b :: rest) pos) (wOr ta tb) := pw_weak (pw_or ha hb) fun σ H Q ⟨μ, S, ρ, Q0, m, en, q, p⟩ => by
  refine LT.run m en q fun k S1 μ1 H1 q1 g1 m1 e1 => ?_
  cases k with
  | true => exact p true S1 q1 μ1 H1 g1 m1
  | false => exact LT.run m1 e1 q1 fun k S2 μ2 H2 q2 g2 m2 e2 => p k S2 q2 μ2 H2 (g1.trans g2) m2
theorem st_bool (h : SW X e ta) : ST X e ta := h.pt
theorem st_not (ha : ST X a ta) : ST X (.UnaryOp .Not a pos) (wNot ta) := pt_weak (pt_not ha) fun σ H Q ⟨μ, S, ρ, Q0, m, en, q, p⟩ =>
  LT.run m en q fun k S1 μ1 H1 q1 g1 m1 e1 => p (!k) S1 q1 μ1 H1 g1 m1
omit [WW] in
def wIfE (t : WT) (wa wb : WE) : WE := fun ρ S Q => t ρ S fun k S1 => if k = true then wa ρ S1 Q else wb ρ S1 Q
theorem se_if (hc : ST X c tc) (ha : SE X a wa) (hb : SE X b wb) : SE X (.IfExp c a b pos) (wIfE tc wa wb) := pe_weak (pe_ifExp hc ha hb) fun σ H Q ⟨μ, S, ρ, Q0, m, en, q, p⟩ => by
  refine LT.run m en q fun k S1 μ1 H1 q1 g1 m1 e1 => ?_
  cases k with
  | true => exact LE.run m1 e1 q1 fun d S2 μ2 v H2 q2 g2 m2 e2 r2 => p d S2 q2 μ2 v H2 (g1.trans g2) m2 r2
  | false => exact LE.run m1 e1 q1 fun d S2 μ2 v H2 q2 g2 m2 e2 r2 => p d S2 q2 μ2 v H2 (g1.trans g2) m2 r2
omit [WW] in
/-- truth -/
def rTru : D → Store → (Bool → Store → Prop) → Prop
  | .non, S, Q => Q false S
  | .bl b, S, Q => Q b S
  | .int i, S, Q => Q (i != 0) S
  | .str s, S, Q => s.length ≤ sizeLine ∧ Q (s.length != 0) S
  | .tup ds, S, Q => Q (!ds.isEmpty) S
  | .lst ds, S, Q => Q (!ds.isEmpty) S
  | .ref n, S, Q => match S[n]? with | some (.lst ds) => Q (!ds.isEmpty) S | _ => False
  | .exc _ _ _ _, _, _ => False
omit [WW] in
def wTru (w : WE) : WT := fun ρ S Q => w ρ S fun d S1 => rTru d S1 Q
theorem empty_rep {K : PySem.W.Frag} {μ : Mu} {H : Hp} {ds : List D} {vs : List V} (r : RepAll K μ H ds vs) : ds.isEmpty = vs.isEmpty := by cases r <;> rfl
theorem tru_rep {K : PySem.W.Frag} {μ : Mu} {S : Store} {H : Hp} {d : D} {v : V} {Q : Bool → Store → Prop} (m : Sim K μ S H) (r : Rep K μ H d v) (h : rTru d S Q) : ∃ k, TruV K v H k ∧ Q k S := by
  cases r with
  | non => exact ⟨false, rfl, h⟩
  | bl b => exact ⟨b, rfl, h⟩
  | int i => exact ⟨_, rfl, h⟩
  | str x =>
    refine ⟨_, ⟨h.1, rfl⟩, ?_⟩
    have e : (((x.length : Nat) : Int) != 0) = (x.length != 0) := by
      by_cases hx : x.length = 0
      · simp [hx]
      · have hx' : ((x.length : Nat) : Int) ≠ 0 := by omega
        rw [bne, bne, beq_eq_false_iff_ne.mpr hx, beq_eq_false_iff_ne.mpr hx']
    rw [e]
    exact h.2
  | tup hh r => exact ⟨_, .inr (.inl ⟨_, hh, rfl⟩), by rw [← empty_rep r]; exact h⟩
  | lst hh r => exact ⟨_, .inl ⟨_, hh.imp And.left id, rfl⟩, by rw [← empty_rep r]; exact h⟩
  | ref hn =>
    rename_i n a
    have h' : (match S[n]? with | some (.lst ds) => Q (!ds.isEmpty) S | _ => False) := h
    split at h'
    · rename_i ds hd
      obtain ⟨a', xs, e, h1, h2, h3⟩ := m.at hd (.ref hn)
      cases e
      exact ⟨_, .inl ⟨xs, SqL.of h2, rfl⟩, by rw [← empty_rep h3]; exact h'⟩
    · exact h'.elim
  | exc _ _ => exact h.elim
theorem st_tru (ha : SE X a wa) (he : ∀ whole, isTrue a X.env whole = (do let v ← whole; standAt a.pos; holding [v] (truthy v)) := by intro _; rfl) : ST X a (wTru wa) := pt_weak (pt_truth ha he) fun σ H Q ⟨μ, S, ρ, Q0, m, en, q, p⟩ => by
  refine LE.run m en q fun d S1 μ1 v H1 q1 g1 m1 e1 r1 => ?_
  obtain ⟨k, h1, h2⟩ := tru_rep m1 r1 q1
  exact ⟨k, h1, p k S1 h2 μ1 H1 g1 m1⟩
omit [WW] in
/-- and, or, not as values, of bools -/
def wBl (w : WE) (k : Bool → WE) : WE := fun ρ S Q => w ρ S fun d S1 => match d with | .bl b => k b ρ S1 Q | _ => False
omit [WW] in
def wAndV (wa wb : WE) : WE := wBl wa fun k ρ S Q => if k = true then wb ρ S Q else Q (.bl false) S
omit [WW] in
def wOrV (wa wb : WE) : WE := wBl wa fun k ρ S Q => if k = true then Q (.bl true) S else wb ρ S Q
omit [WW] in
def wNotV (wa : WE) : WE := wBl wa fun k ρ S Q => Q (.bl (!k)) S
theorem se_one {op} (h : SE X a wa) : SE X (.BoolOp op [a] pos) wa := pe_one h
theorem se_and (ha : SE X a wa) (hb : SE X (.BoolOp .And (b :: rest) pos) wb) : SE X (.BoolOp .And (a :: b :: rest) pos) (wAndV wa wb) := pe_weak (pe_and ha hb) fun σ H Q ⟨μ, S, ρ, Q0, m, en, q, p⟩ => by
  refine LE.run m en q fun d S1 μ1 v H1 q1 g1 m1 e1 r1 => ?_
  cases r1 with
  | bl k =>
    refine ⟨k, rfl, ?_⟩
    cases k with
    | true => exact LE.run m1 e1 q1 fun d S2 μ2 v H2 q2 g2 m2 e2 r2 => p d S2 q2 μ2 v H2 (g1.trans g2) m2 r2
    | false => exact p _ S1 q1 μ1 _ H1 g1 m1 (.bl false)
  | _ => exact q1.elim
theorem se_or (ha : SE X a wa) (hb : SE X (.BoolOp .Or (b :: rest) pos) wb) : SE X (.BoolOp .Or (a :: b :: rest) pos) (wOrV wa wb) := pe_weak (pe_or ha hb) fun σ H Q ⟨μ, S, ρ, Q0, m, en, q, p⟩ => by
  refine LE.run m en q fun d S1 μ1 v H1 q1 g1 m1 e1 r1 => ?_
  cases r1 with
  | bl k =>
    refine ⟨k, rfl, ?_⟩
    cases k with
    | false => exact LE.run m1 e1 q1 fun d S2 μ2 v H2 q2 g2 m2 e2 r2 => p d S2 q2 μ2 v H2 (g1.trans g2) m2 r2
    | true => exact p _ S1 q1 μ1 _ H1 g1 m1 (.bl true)
  | _ => exact q1.elim
theorem se_not (ha : SE X a wa) : SE X (.UnaryOp .Not a pos) (wNotV wa) := pe_weak (pe_not ha) fun σ H Q ⟨μ, S, ρ, Q0, m, en, q, p⟩ => by
  refine LE.run m en q fun d S1 μ1 v H1 q1 g1 m1 e1 r1 => ?_
  cases r1 with
  | bl k => exact ⟨k, rfl, p _ S1 q1 μ1 _ H1 g1 m1 (.bl _)⟩
  | _ => exact q1.elim
omit [WW] in
def wNeg (w : WE) : WE := fun ρ S Q => w ρ S fun d S1 => match d with | .int i => Q (.int (-i)) S1 | _ => False
theorem se_neg (ha : SE X a wa) : SE X (.UnaryOp .USub a pos) (wNeg wa) := pe_weak (pe_un un_neg ha) fun σ H Q ⟨μ, S, ρ, Q0, m, en, q, p⟩ => by
  refine LE.run m en q fun d S1 μ1 v H1 q1 g1 m1 e1 r1 => ?_
  cases r1 with
  | int i => exact ⟨i, rfl, p _ S1 q1 μ1 _ H1 g1 m1 (.int _)⟩
  | _ => exact q1.elim

/-! ### items -/
omit [WW] in
def atD (ds : List D) : Int → Option D
  | .ofNat n => ds[n]?
  | .negSucc n => if n < ds.length then ds[ds.length - 1 - n]? else none
omit [WW] in
theorem atD_nat {ds : List D} {n : Nat} : atD ds (n : Int) = ds[n]? := rfl
omit [WW] in
theorem atD_lit {ds : List D} {n : Nat} [OfNat Nat n] : atD ds (OfNat.ofNat (OfNat.ofNat n : Nat) : Int) = ds[(OfNat.ofNat n : Nat)]? := rfl
theorem at_rep {K : PySem.W.Frag} {μ : Mu} {H : Hp} {ds : List D} {vs : List V} {i : Int} {d : D} (r : RepAll K μ H ds vs) (h : atD ds i = some d) : ∃ v, atI vs i = some v ∧ Rep K μ H d v := by
  cases i with
  | ofNat n =>
    obtain ⟨v, h1, h2⟩ := r.get (show ds[n]? = some d from h)
    exact ⟨v, atI_nat h1, h2⟩
  | negSucc n =>
    have h' : (if n < ds.length then ds[ds.length - 1 - n]? else none) = some d := h
    split at h'
    · rename_i hn
      obtain ⟨v, h1, h2⟩ := r.get h'
      refine ⟨v, ?_, h2⟩
      rw [r.length] at h1 hn
      unfold atI ixN
      rw [if_neg (by omega), if_pos (by omega)]
      show vs[(Int.negSucc n + (vs.length : Int)).toNat]? = some v
      rw [show (Int.negSucc n + (vs.length : Int)).toNat = vs.length - 1 - n by omega]
      exact h1
    · cases h'
omit [WW] in
def rIx : RD
  | .tup ds, .int i, S, Q => match atD ds i with | some d => Q d S | none => False
  | .lst ds, .int i, S, Q => match atD ds i with | some d => Q d S | none => False
  | .ref n, .int i, S, Q => match S[n]? with | some (.lst ds) => (match atD ds i with | some d => Q d S | none => False) | _ => False
  | _, _, _, _ => False
def rIxV (K : PySem.W.Frag) : R2 := fun x y H Q => rIxL K x y H Q ∨ rIxT K x y H Q
omit [WW] in
theorem ix_V : IxR X (rIxV X.K) := ix_list.or ix_tup
theorem opd_ix {K : PySem.W.Frag} : OpD K (rIxV K) rIx := by
  intro μ S H x y vx vy Q0 Q m rx ry q p
  unfold rIx at q
  split at q
  · rename_i ds i
    obtain ⟨a, xs, rfl, h1, r1⟩ := rx.tupS
    split at q
    · rename_i d hd
      obtain ⟨v, h2, r2⟩ := at_rep r1 hd
      exact .inr ⟨a, xs, i, v, rfl, ry.int_inv, h1, h2, p.now m r2 q⟩
    · exact q.elim
  · rename_i ds i
    obtain ⟨a, xs, rfl, h1, r1⟩ := rx.lstS
    split at q
    · rename_i d hd
      obtain ⟨v, h2, r2⟩ := at_rep r1 hd
      exact .inl ⟨a, xs, i, v, rfl, ry.int_inv, h1, h2, p.now m r2 q⟩
    · exact q.elim
  · rename_i n i
    split at q
    · rename_i ds hn
      obtain ⟨a, xs, rfl, hm, h1, r1⟩ := m.at hn rx
      split at q
      · rename_i d hd
        obtain ⟨v, h2, r2⟩ := at_rep r1 hd
        exact .inl ⟨a, xs, i, v, rfl, ry.int_inv, SqL.of h1, h2, p.now m r2 q⟩
      · exact q.elim
    · exact q.elim
  · exact q.elim
theorem se_ix (ha : SE X a wa) (hb : SE X b wb) (hs : PlainIx b := by exact fun _ _ => rfl) : SE X (.Subscript a b pos) (wOp rIx wa wb) := se_bin opd_ix ha hb (pe_ix ix_V ha hb hs)

/-! ### displays -/
variable {es : List Expr} {wr : WA}
end
section
variable {X : Cx} {e a b c : Expr} {wa wb wc : WE} {pos : Pos} {es : List Expr} {wr : WA}
omit [WW] in
def wNil : WA := fun _ S Q => Q [] S
omit [WW] in
def wCons (w : WE) (wr : WA) : WA := fun ρ S Q => w ρ S fun d S1 => wr ρ S1 fun ds S2 => Q (d :: ds) S2
theorem sa_nil : SA X [] wNil := pa_weak pa_nil fun σ H Q ⟨μ, S, ρ, Q0, m, en, q, p⟩ => p [] S q μ [] H Grow.refl m .nil
theorem sa_cons (ha : SE X a wa) (hr : SA X es wr) (hs : starEach (a :: es) X.env = (false, eval a X.env) :: starEach es X.env := by rfl) : SA X (a :: es) (wCons wa wr) := pa_weak (pa_cons ha hr hs) fun σ H Q ⟨μ, S, ρ, Q0, m, en, q, p⟩ => by
  refine LE.run m en q fun d S1 μ1 v H1 q1 g1 m1 e1 r1 => ?_
  exact LA.run m1 e1 q1 fun ds S2 μ2 vs H2 q2 g2 m2 e2 r2 => p _ S2 q2 μ2 _ H2 (g1.trans g2) m2 (.cons (r1.grow g2) r2)
end
section
variable {X : Cx} {e a b c : Expr} {wa wb wc : WE} {pos : Pos} {es : List Expr} {wr : WA}
omit [WW] in
def wTup (w : WA) : WE := fun ρ S Q => w ρ S fun ds S1 => ds.length ≤ sizeLine ∧ Q (.tup ds) S1
omit [WW] in
/-- a list by content: never changed -/
def wLst (w : WA) : WE := fun ρ S Q => w ρ S fun ds S1 => ds.length ≤ sizeLine ∧ Q (.lst ds) S1
omit [WW] in
/-- a list that may change: an object of the store -/
def wNew (w : WA) : WE := fun ρ S Q => w ρ S fun ds S1 => ds.length ≤ sizeLine ∧ Q (.ref S1.length) (S1 ++ [.lst ds])
theorem se_tup {k} (h : SA X es wr) : SE X (.Tuple es k pos) (wTup wr) := pe_weak (pe_tup h) fun σ H Q ⟨μ, S, ρ, Q0, m, en, q, p⟩ => by
  refine LA.run m en q fun ds S1 μ1 vs H1 q1 g1 m1 e1 r1 => ⟨by rw [← r1.length]; exact q1.1, fun t ht => ?_⟩
  exact p _ S1 q1.2 μ1 _ _ (g1.trans (.new ht)) (m1.new ht) (Sim.newT (S := S) ht r1)
theorem se_lst (h : SA X es wr) : SE X (.List es pos) (wLst wr) := pe_weak (pe_lst h) fun σ H Q ⟨μ, S, ρ, Q0, m, en, q, p⟩ => by
  refine LA.run m en q fun ds S1 μ1 vs H1 q1 g1 m1 e1 r1 => ⟨by rw [← r1.length]; exact q1.1, fun t ht => ?_⟩
  exact p _ S1 q1.2 μ1 _ _ (g1.trans (.new ht)) (m1.new ht) (Sim.newL m1 ht r1)
theorem Sim.newR {K : PySem.W.Frag} {μ : Mu} {S : Store} {H : Hp} {p : Addr} (m : Sim K μ S H) : Rep K (μ.add p) H (.ref S.length) (.ref p) :=
  .ref (by rw [← m.len]; simp [Mu.add])
theorem Rep.refH {K : PySem.W.Frag} {μ : Mu} {H H' : Hp} {n : Nat} {v : V} (r : Rep K μ H (.ref n) v) : Rep K μ H' (.ref n) v := by
  cases r with
  | ref h => exact .ref h
theorem se_new (h : SA X es wr) : SE X (.List es pos) (wNew wr) := pe_weak (pe_lst h) fun σ H Q ⟨μ, S, ρ, Q0, m, en, q, p⟩ => by
  refine LA.run m en q fun ds S1 μ1 vs H1 q1 g1 m1 e1 r1 => ⟨by rw [← r1.length]; exact q1.1, fun t ht => ?_⟩
  exact p _ _ q1.2 _ _ _ (g1.trans (.alloc ht)) (m1.alloc ht r1) m1.newR.refH
end
end DL

set_option maxHeartbeats 4000000
namespace DL
open PySem PySem.Spec PyProof.Rows L2
variable [WW]

/-! ### built-in calls by content -/
omit [WW] in
abbrev RC := List D → Store → (D → Store → Prop) → Prop
def CallD (K : PySem.W.Frag) (r : List V → Hp → VK → Prop) (R : RC) : Prop := ∀ (μ : Mu) (S : Store) (H : Hp) (ds : List D) (vs : List V) (Q0 : D → Store → Prop) (Q : VK), Sim K μ S H → RepAll K μ H ds vs → R ds S Q0 → Post K μ H Q0 Q → r vs H Q
omit [WW] in
def wCall (R : RC) (wr : WA) : WE := fun ρ S Q => wr ρ S fun ds S1 => R ds S1 Q
section
variable {X : Cx} {e a b c : Expr} {wa wb wc : WE} {pos p : Pos} {es : List Expr} {wr : WA} {x : Str} {id T : String} {r : List V → Hp → VK → Prop} {R : RC}
theorem se_callx (hd : CallD X.K r R) (ha : SA X es wr) (hp : PE X e (tCB r (LA X.K wr))) : SE X e (wCall R wr) := pe_weak hp fun σ H Q ⟨μ, S, ρ, Q0, m, en, q, p⟩ =>
  LA.run m en q fun ds S1 μ1 vs H1 q1 g1 m1 e1 r1 => hd μ1 S1 H1 ds vs Q0 Q m1 r1 q1 (p.go g1)
theorem se_callB (hd : CallD X.K r R) (hc : CallR X (.builtin id) r) (hg : Gl X x) (hm : X.mg x = none) (hv : bootBuiltins x = some (.builtin id)) (ha : SA X (a :: es) wr) (hn : x ≠ "__name__" := by decide) (hdb : (x == ("__debug__" : Str)) = false := by decide)
    (he : starEach (a :: es) X.env = (false, eval a X.env) :: starEach es X.env := by rfl) (hpl : (backTo pos (starEach es X.env)).any (·.1) = false := by rfl) : SE X (.Call (.Name x p) (a :: es) [] pos) (wCall R wr) :=
  se_callx hd ha (pe_callB hc hg hm hv ha hn hdb he hpl)
theorem se_callTy (hd : CallD X.K r R) (hc : CallR X (.type T) r) (hg : Gl X x) (hm : X.mg x = none) (hv : bootBuiltins x = some (.type T)) (ha : SA X (a :: es) wr) (hn : x ≠ "__name__" := by decide) (hdb : (x == ("__debug__" : Str)) = false := by decide)
    (he : starEach (a :: es) X.env = (false, eval a X.env) :: starEach es X.env := by rfl) (hpl : (backTo pos (starEach es X.env)).any (·.1) = false := by rfl) : SE X (.Call (.Name x p) (a :: es) [] pos) (wCall R wr) :=
  se_callx hd ha (pe_callTy hc hg hm hv ha hn hdb he hpl)
end
omit [WW] in
/-- len -/
def rLen : RC
  | [.tup ds], S, Q => Q (.int ds.length) S
  | [.lst ds], S, Q => Q (.int ds.length) S
  | [.str s], S, Q => s.length ≤ sizeLine ∧ Q (.int s.length) S
  | [.ref n], S, Q => match S[n]? with | some (.lst ds) => Q (.int ds.length) S | _ => False
  | _, _, _ => False
omit [WW] in
def rInt : RC
  | [.int i], S, Q => Q (.int i) S
  | [.bl b], S, Q => Q (.int (if b = true then 1 else 0)) S
  | _, _, _ => False
omit [WW] in
def rAbs : RC
  | [.int i], S, Q => Q (.int (if i < 0 then -i else i)) S
  | _, _, _ => False
omit [WW] in
def rGcdD : RC
  | [.int i, .int j], S, Q => Q (.int ((Nat.gcd i.natAbs j.natAbs : Nat) : Int)) S
  | _, _, _ => False
omit [WW] in
def rMax2 : RC
  | [.int i, .int j], S, Q => Q (.int (if j > i then j else i)) S
  | _, _, _ => False
omit [WW] in
def rMin2 : RC
  | [.int i, .int j], S, Q => Q (.int (if j < i then j else i)) S
  | _, _, _ => False
omit [WW] in
/-- tuple(x): of a list, a tuple -/
def rTuple : RC
  | [.tup ds], S, Q => Q (.tup ds) S
  | [.lst ds], S, Q => Q (.tup ds) S
  | [.ref n], S, Q => match S[n]? with | some (.lst ds) => Q (.tup ds) S | _ => False
  | _, _, _ => False
omit [WW] in
/-- list(x), by content; as an object of the store -/
def rList : RC
  | [.tup ds], S, Q => Q (.lst ds) S
  | [.lst ds], S, Q => Q (.lst ds) S
  | [.ref n], S, Q => match S[n]? with | some (.lst ds) => Q (.lst ds) S | _ => False
  | _, _, _ => False
omit [WW] in
def rListN : RC
  | [.tup ds], S, Q => Q (.ref S.length) (S ++ [.lst ds])
  | [.lst ds], S, Q => Q (.ref S.length) (S ++ [.lst ds])
  | [.ref n], S, Q => match S[n]? with | some (.lst ds) => Q (.ref S.length) (S ++ [.lst ds]) | _ => False
  | _, _, _ => False
section
variable {K : PySem.W.Frag}
theorem RepAll.one_inv {μ : Mu} {H : Hp} {d : D} {vs : List V} (r : RepAll K μ H [d] vs) : ∃ v, vs = [v] ∧ Rep K μ H d v := by
  cases r with
  | cons r t => cases t; exact ⟨_, rfl, r⟩
theorem RepAll.two_inv {μ : Mu} {H : Hp} {d e : D} {vs : List V} (r : RepAll K μ H [d, e] vs) : ∃ v u, vs = [v, u] ∧ Rep K μ H d v ∧ Rep K μ H e u := by
  cases r with
  | cons r t =>
    obtain ⟨u, rfl, r2⟩ := t.one_inv
    exact ⟨_, _, rfl, r, r2⟩
/-- what holds a row of items: a tuple, a list, an object of the store -/
theorem seq_rep {μ : Mu} {S : Store} {H : Hp} {ds : List D} {v : V} {d : D} (m : Sim K μ S H) (r : Rep K μ H d v) (h : d = .tup ds ∨ d = .lst ds ∨ ∃ n, d = .ref n ∧ S[n]? = some (.lst ds)) :
    ∃ a xs, v = .ref a ∧ (SqL K H a xs ∨ SqT K H a xs) ∧ RepAll K μ H ds xs := by
  rcases h with rfl | rfl | ⟨n, rfl, hn⟩
  · obtain ⟨a, xs, rfl, h1, r1⟩ := r.tupS
    exact ⟨a, xs, rfl, .inr h1, r1⟩
  · obtain ⟨a, xs, rfl, h1, r1⟩ := r.lstS
    exact ⟨a, xs, rfl, .inl h1, r1⟩
  · obtain ⟨a, xs, rfl, hm, h1, r1⟩ := m.at hn r
    exact ⟨a, xs, rfl, .inl (SqL.of h1), r1⟩
def rLenV (K : PySem.W.Frag) : List V → Hp → VK → Prop := fun xs H Q => (∃ p ys, xs = [.ref p] ∧ (SqL K H p ys ∨ SqT K H p ys) ∧ Q (.int ys.length) H) ∨ (∃ z, xs = [.str z] ∧ z.length ≤ sizeLine ∧ Q (.int z.length) H)
theorem cr_lenV {X : Cx} : CallR X (.builtin "len") (rLenV X.K) := call_len_seq.or call_len_str
theorem cd_len : CallD K (rLenV K) rLen := by
  intro μ S H ds vs Q0 Q m r q p
  unfold rLen at q
  split at q
  · rename_i ds
    obtain ⟨v, e1, r'⟩ := r.one_inv
    subst e1
    obtain ⟨a, xs, rfl, h1, r1⟩ := r'.tupS
    exact .inl ⟨a, xs, rfl, .inr h1, by rw [← r1.length]; exact p.now m (.int _) q⟩
  · rename_i ds
    obtain ⟨v, e1, r'⟩ := r.one_inv
    subst e1
    obtain ⟨a, xs, rfl, h1, r1⟩ := r'.lstS
    exact .inl ⟨a, xs, rfl, .inl h1, by rw [← r1.length]; exact p.now m (.int _) q⟩
  · obtain ⟨v, e1, r'⟩ := r.one_inv
    subst e1
    rw [r'.str_inv]
    exact .inr ⟨_, rfl, q.1, p.now m (.int _) q.2⟩
  · obtain ⟨v, e1, r'⟩ := r.one_inv
    subst e1
    split at q
    · rename_i ds hn
      obtain ⟨a, xs, rfl, hm, h1, r1⟩ := m.at hn r'
      exact .inl ⟨a, xs, rfl, .inl (SqL.of h1), by rw [← r1.length]; exact p.now m (.int _) q⟩
    · exact q.elim
  · exact q.elim
theorem cd_int : CallD K (fun xs H Q => (∃ i, xs = [.int i] ∧ Q (.int i) H) ∨ ∃ k, xs = [.bl k] ∧ Q (.int (if k then 1 else 0)) H) rInt := by
  intro μ S H ds vs Q0 Q m r q p
  unfold rInt at q
  split at q
  · obtain ⟨v, e1, r'⟩ := r.one_inv
    subst e1
    rw [r'.int_inv]
    exact .inl ⟨_, rfl, p.now m (.int _) q⟩
  · obtain ⟨v, e1, r'⟩ := r.one_inv
    subst e1
    rw [r'.bl_inv]
    exact .inr ⟨_, rfl, p.now m (.int _) q⟩
  · exact q.elim
theorem cd_abs : CallD K (fun xs H Q => ∃ i, xs = [.int i] ∧ Q (.int (if i < 0 then -i else i)) H) rAbs := by
  intro μ S H ds vs Q0 Q m r q p
  unfold rAbs at q
  split at q
  · obtain ⟨v, e1, r'⟩ := r.one_inv
    subst e1
    rw [r'.int_inv]
    exact ⟨_, rfl, p.now m (.int _) q⟩
  · exact q.elim
theorem cd_gcd : CallD K rGcd rGcdD := by
  intro μ S H ds vs Q0 Q m r q p
  unfold rGcdD at q
  split at q
  · obtain ⟨v, u, e1, r', r2⟩ := r.two_inv
    subst e1
    rw [r'.int_inv, r2.int_inv]
    exact ⟨_, _, rfl, p.now m (.int _) q⟩
  · exact q.elim
theorem cd_max2 : CallD K (fun xs H Q => ∃ i j, xs = [.int i, .int j] ∧ Q (.int (if j > i then j else i)) H) rMax2 := by
  intro μ S H ds vs Q0 Q m r q p
  unfold rMax2 at q
  split at q
  · obtain ⟨v, u, e1, r', r2⟩ := r.two_inv
    subst e1
    rw [r'.int_inv, r2.int_inv]
    exact ⟨_, _, rfl, p.now m (.int _) q⟩
  · exact q.elim
theorem cd_min2 : CallD K (fun xs H Q => ∃ i j, xs = [.int i, .int j] ∧ Q (.int (if j < i then j else i)) H) rMin2 := by
  intro μ S H ds vs Q0 Q m r q p
  unfold rMin2 at q
  split at q
  · obtain ⟨v, u, e1, r', r2⟩ := r.two_inv
    subst e1
    rw [r'.int_inv, r2.int_inv]
    exact ⟨_, _, rfl, p.now m (.int _) q⟩
  · exact q.elim
def rTupleV (K : PySem.W.Frag) : List V → Hp → VK → Prop := fun xs H Q => ∃ p ys, xs = [.ref p] ∧ ((SqL K H p ys ∧ ∀ l, H l = none → Q (.ref l) (upd H l (.tup ys))) ∨ (SqT K H p ys ∧ Q (.ref p) H))
theorem cd_tuple : CallD K (rTupleV K) rTuple := by
  intro μ S H ds vs Q0 Q m r q p
  unfold rTuple at q
  split at q
  · obtain ⟨v, e1, r'⟩ := r.one_inv
    subst e1
    obtain ⟨a, xs, rfl, h1, r1⟩ := r'.tupS
    exact ⟨a, xs, rfl, .inr ⟨h1, p.now m r' q⟩⟩
  · obtain ⟨v, e1, r'⟩ := r.one_inv
    subst e1
    obtain ⟨a, xs, rfl, h1, r1⟩ := r'.lstS
    exact ⟨a, xs, rfl, .inl ⟨h1, fun l hl => p _ _ q _ _ _ (.new hl) (m.new hl) (Sim.newT (S := S) hl r1)⟩⟩
  · obtain ⟨v, e1, r'⟩ := r.one_inv
    subst e1
    split at q
    · rename_i ds hn
      obtain ⟨a, xs, rfl, hm, h1, r1⟩ := m.at hn r'
      exact ⟨a, xs, rfl, .inl ⟨SqL.of h1, fun l hl => p _ _ q _ _ _ (.new hl) (m.new hl) (Sim.newT (S := S) hl r1)⟩⟩
    · exact q.elim
  · exact q.elim
def rListV (K : PySem.W.Frag) : List V → Hp → VK → Prop := fun xs H Q => ∃ p ys, xs = [.ref p] ∧ (SqL K H p ys ∨ SqT K H p ys) ∧ ∀ l, H l = none → Q (.ref l) (upd H l (.lst ys))
theorem cd_list : CallD K (rListV K) rList := by
  intro μ S H ds vs Q0 Q m r q p
  have key : ∀ d ds, Q0 (.lst ds) S → (∃ v, vs = [v] ∧ Rep K μ H d v) → (d = .tup ds ∨ d = .lst ds ∨ ∃ n, d = .ref n ∧ S[n]? = some (.lst ds)) → rListV K vs H Q := fun d ds q ⟨v, e, rv⟩ h => by
    subst e
    obtain ⟨a, xs, rfl, h1, r1⟩ := seq_rep m rv h
    exact ⟨a, xs, rfl, h1, fun l hl => p _ _ q _ _ _ (.new hl) (m.new hl) (Sim.newL m hl r1)⟩
  unfold rList at q
  split at q
  · exact key _ _ q r.one_inv (.inl rfl)
  · exact key _ _ q r.one_inv (.inr (.inl rfl))
  · split at q
    · rename_i ds hn
      exact key _ _ q r.one_inv (.inr (.inr ⟨_, rfl, hn⟩))
    · exact q.elim
  · exact q.elim
theorem cd_listN : CallD K (rListV K) rListN := by
  intro μ S H ds vs Q0 Q m r q p
  have key : ∀ d ds, Q0 (.ref S.length) (S ++ [.lst ds]) → (∃ v, vs = [v] ∧ Rep K μ H d v) → (d = .tup ds ∨ d = .lst ds ∨ ∃ n, d = .ref n ∧ S[n]? = some (.lst ds)) → rListV K vs H Q := fun d ds q ⟨v, e, rv⟩ h => by
    subst e
    obtain ⟨a, xs, rfl, h1, r1⟩ := seq_rep m rv h
    exact ⟨a, xs, rfl, h1, fun l hl => p _ _ q _ _ _ (.alloc hl) (m.alloc hl r1) m.newR.refH⟩
  unfold rListN at q
  split at q
  · exact key _ _ q r.one_inv (.inl rfl)
  · exact key _ _ q r.one_inv (.inr (.inl rfl))
  · split at q
    · rename_i ds hn
      exact key _ _ q r.one_inv (.inr (.inr ⟨_, rfl, hn⟩))
    · exact q.elim
  · exact q.elim
end
section
variable {X : Cx} {e a b c : Expr} {wa wb wc : WE} {pos p p1 p2 : Pos} {es : List Expr} {wr : WA} {x : Str}
theorem se_len (hg : Gl X "len") (hm : X.mg "len" = none) (ha : SA X (a :: es) wr) (he : starEach (a :: es) X.env = (false, eval a X.env) :: starEach es X.env := by rfl) (hpl : (backTo pos (starEach es X.env)).any (·.1) = false := by rfl) : SE X (.Call (.Name "len" p) (a :: es) [] pos) (wCall rLen wr) := se_callB cd_len cr_lenV hg hm (by decide +kernel) ha (by decide) (by decide) he hpl
theorem se_cint (hg : Gl X "int") (hm : X.mg "int" = none) (ha : SA X (a :: es) wr) (he : starEach (a :: es) X.env = (false, eval a X.env) :: starEach es X.env := by rfl) (hpl : (backTo pos (starEach es X.env)).any (·.1) = false := by rfl) : SE X (.Call (.Name "int" p) (a :: es) [] pos) (wCall rInt wr) := se_callTy cd_int call_int1 hg hm (by decide +kernel) ha (by decide) (by decide) he hpl
theorem se_abs (hg : Gl X "abs") (hm : X.mg "abs" = none) (ha : SA X (a :: es) wr) (he : starEach (a :: es) X.env = (false, eval a X.env) :: starEach es X.env := by rfl) (hpl : (backTo pos (starEach es X.env)).any (·.1) = false := by rfl) : SE X (.Call (.Name "abs" p) (a :: es) [] pos) (wCall rAbs wr) := se_callB cd_abs call_abs hg hm (by decide +kernel) ha (by decide) (by decide) he hpl
theorem se_tuple (hg : Gl X "tuple") (hm : X.mg "tuple" = none) (ha : SA X (a :: es) wr) (he : starEach (a :: es) X.env = (false, eval a X.env) :: starEach es X.env := by rfl) (hpl : (backTo pos (starEach es X.env)).any (·.1) = false := by rfl) : SE X (.Call (.Name "tuple" p) (a :: es) [] pos) (wCall rTuple wr) := se_callTy cd_tuple call_tuple_of hg hm (by decide +kernel) ha (by decide) (by decide) he hpl
theorem se_list (hg : Gl X "list") (hm : X.mg "list" = none) (ha : SA X (a :: es) wr) (he : starEach (a :: es) X.env = (false, eval a X.env) :: starEach es X.env := by rfl) (hpl : (backTo pos (starEach es X.env)).any (·.1) = false := by rfl) : SE X (.Call (.Name "list" p) (a :: es) [] pos) (wCall rList wr) := se_callTy cd_list call_list_of hg hm (by decide +kernel) ha (by decide) (by decide) he hpl
theorem se_listN (hg : Gl X "list") (hm : X.mg "list" = none) (ha : SA X (a :: es) wr) (he : starEach (a :: es) X.env = (false, eval a X.env) :: starEach es X.env := by rfl) (hpl : (backTo pos (starEach es X.env)).any (·.1) = false := by rfl) : SE X (.Call (.Name "list" p) (a :: es) [] pos) (wCall rListN wr) := se_callTy cd_listN call_list_of hg hm (by decide +kernel) ha (by decide) (by decide) he hpl
theorem se_max2 (hc : X.calm = true) (hg : Gl X "max") (hm : X.mg "max" = none) (ha : SA X (a :: es) wr) (he : starEach (a :: es) X.env = (false, eval a X.env) :: starEach es X.env := by rfl) (hpl : (backTo pos (starEach es X.env)).any (·.1) = false := by rfl) : SE X (.Call (.Name "max" p) (a :: es) [] pos) (wCall rMax2 wr) := se_callB cd_max2 (call_max2 hc) hg hm (by decide +kernel) ha (by decide) (by decide) he hpl
theorem se_min2 (hc : X.calm = true) (hg : Gl X "min") (hm : X.mg "min" = none) (ha : SA X (a :: es) wr) (he : starEach (a :: es) X.env = (false, eval a X.env) :: starEach es X.env := by rfl) (hpl : (backTo pos (starEach es X.env)).any (·.1) = false := by rfl) : SE X (.Call (.Name "min" p) (a :: es) [] pos) (wCall rMin2 wr) := se_callB cd_min2 (call_min2 hc) hg hm (by decide +kernel) ha (by decide) (by decide) he hpl
/-- from math import gcd -/
theorem se_gcd (hg : Gl X x) (hm : X.mg x = some (.builtin "math.gcd")) (ha : SA X (a :: es) wr) (hdb : (x == ("__debug__" : Str)) = false := by decide)
    (he : starEach (a :: es) X.env = (false, eval a X.env) :: starEach es X.env := by rfl) (hpl : (backTo pos (starEach es X.env)).any (·.1) = false := by rfl) : SE X (.Call (.Name x p) (a :: es) [] pos) (wCall rGcdD wr) :=
  se_callx cd_gcd ha (pe_callBfun cr_gcd hg hm ha hdb he hpl)

/-! ### isinstance(x, T), T a built-in class -/
omit [WW] in
def tyName : D → Store → Option String
  | .non, _ => some "NoneType"
  | .bl _, _ => some "bool"
  | .int _, _ => some "int"
  | .str _, _ => some "str"
  | .tup _, _ => some "tuple"
  | .lst _, _ => some "list"
  | .ref n, S => match S[n]? with | some (.lst _) => some "list" | _ => none
  | .exc _ _ _ _, _ => none
omit [WW] in
def isT : D → Store → String → Option Bool
  | .bl _, _, "int" => some true
  | d, S, T => if ["int", "bool", "str", "tuple", "list"].contains T then (tyName d S).map (· == T) else none
omit [WW] in
def wIsT (w : WE) (T : String) : WE := fun ρ S Q => w ρ S fun d S1 => match isT d S1 T with | some b => Q (.bl b) S1 | none => False
omit [WW] in
theorem kitB_all : ∀ a ∈ ["NoneType", "bool", "int", "str", "tuple", "list"], ∀ b ∈ ["int", "bool", "str", "tuple", "list"], kitB a b = some (if a = "bool" ∧ b = "int" then true else a == b) := by decide +kernel
theorem ty_rep {K : PySem.W.Frag} {μ : Mu} {S : Store} {H : Hp} {d : D} {v : V} {t : String} (m : Sim K μ S H) (r : Rep K μ H d v) (h : tyName d S = some t) : TyX K H v (.type t) ∧ t ∈ ["NoneType", "bool", "int", "str", "tuple", "list"] := by
  cases r with
  | non => cases h; exact ⟨.base .non, by decide⟩
  | bl b => cases h; exact ⟨.base (.bl b), by decide⟩
  | int b => cases h; exact ⟨.base (.int b), by decide⟩
  | str b => cases h; exact ⟨.base (.str b), by decide⟩
  | tup hh r =>
    cases h
    refine ⟨?_, by decide⟩
    rcases hh with (hh | ⟨o, hh⟩) | ⟨o, its, n, h1, h2, _⟩
    · exact .base (.tup hh)
    · exact .fTuple hh
    · exact .kTuple h1 h2
  | lst hh r =>
    cases h
    refine ⟨?_, by decide⟩
    rcases hh with ⟨hh | ⟨o, hh⟩, _⟩ | ⟨o, its, n, h1, h2, _⟩
    · exact .base (.lst hh)
    · exact .base (.frz hh)
    · exact .kList h1 h2
  | ref hn =>
    rename_i n a
    have h' : (match S[n]? with | some (.lst _) => some "list" | _ => none) = some t := h
    split at h'
    · rename_i ds hd
      cases h'
      obtain ⟨a', xs, e, h1, h2, h3⟩ := m.at hd (.ref hn)
      cases e
      exact ⟨.base (.lst h2), by decide⟩
    · cases h'
  | exc _ _ => cases h
omit [WW] in
theorem isT_ty {d : D} {S : Store} {T : String} {b : Bool} (h : isT d S T = some b) : ∃ t, tyName d S = some t ∧ T ∈ ["int", "bool", "str", "tuple", "list"] ∧ b = (if t = "bool" ∧ T = "int" then true else t == T) := by
  unfold isT at h
  split at h
  · cases h
    exact ⟨"bool", rfl, by decide, rfl⟩
  · rename_i hne
    split at h
    · rename_i hc
      cases ht : tyName d S with
      | none => rw [ht] at h; cases h
      | some t =>
        rw [ht] at h
        have h' : some (t == T) = some b := h
        cases h'
        refine ⟨t, rfl, by simpa using hc, ?_⟩
        rw [if_neg]
        rintro ⟨rfl, rfl⟩
        cases d with
        | bl k => exact hne k rfl rfl
        | ref n =>
          have h2 : (match S[n]? with | some (.lst _) => some "list" | _ => none) = some "bool" := ht
          split at h2 <;> simp at h2
        | _ => simp [tyName] at ht
    · cases h
theorem se_isT {T : Str} {Tn : String} (hg : Gl X "isinstance") (hm : X.mg "isinstance" = none) (hgT : Gl X T) (hmT : X.mg T = none) (hT : bootBuiltins T = some (.type Tn)) (ha : SE X a wa) (hn : T ≠ "__name__" := by decide) (hd : (T == ("__debug__" : Str)) = false := by decide)
    (he : starEach [a, .Name T p2] X.env = (false, eval a X.env) :: starEach [.Name T p2] X.env := by rfl) :
    SE X (.Call (.Name "isinstance" p) [a, .Name T p2] [] pos) (wIsT wa Tn) :=
  pe_weak (pe_callB call_isi hg hm (by decide +kernel) (pa_cons ha (pa_cons (pe_bltn (v := .ty Tn) hgT hmT hT rfl hn hd) pa_nil) he) (by decide) (by decide) he) fun σ H Q ⟨μ, S, ρ, Q0, m, en, q, p⟩ => by
    refine LE.run m en q fun d S1 μ1 v H1 q1 g1 m1 e1 r1 => ?_
    split at q1
    · rename_i b hb
      obtain ⟨t, ht, hTm, hb2⟩ := isT_ty hb
      obtain ⟨ty, htm⟩ := ty_rep m1 r1 ht
      refine ⟨v, .ty Tn, .type t, .type Tn, b, rfl, .ty Tn, ty, kit_ty ?_, p _ S1 q1 μ1 _ H1 g1 m1 (.bl b)⟩
      rw [kitB_all t htm Tn hTm, hb2]
    · exact q1.elim
end
end DL

set_option maxHeartbeats 4000000
namespace DL
open PySem PySem.Spec PyProof.Rows L2
variable [WW]

/-! ### statements by content -/
/-- the weakest wish that X takes about an exception -/
def wxOf (X : Cx) : WX := fun cls d σ H => ∀ u s', L2N.XE X (fun c' d' σ' H' => c' = cls ∧ d' = d ∧ σ' = σ ∧ H' = H) u s' → X.xe u s'
theorem takes_wx (X : Cx) : L2N.Takes X (wxOf X) := fun u s' ⟨a, B, sI, pins, σ, H, cls, d, e, I, nb, up, sky, na, os, ag, w⟩ => w u s' ⟨a, B, sI, pins, σ, H, cls, d, e, I, nb, up, sky, na, os, ag, rfl, rfl, rfl, rfl⟩
theorem wx_of_takes {X : Cx} {W : WX} (tk : L2N.Takes X W) {cls : Value} {d : Option Addr} {σ : L2.St} {H : Hp} (w : W cls d σ H) : wxOf X cls d σ H := fun u s' ⟨a, B, sI, pins, σ1, H1, c1, d1, e, I, nb, up, sky, na, os, ag, e1, e2, e3, e4⟩ => by
  subst e1 e2 e3 e4
  exact tk u s' ⟨a, B, sI, pins, _, _, _, _, e, I, nb, up, sky, na, os, ag, w⟩
def PostX (K : PySem.W.Frag) (W : WX) (μ : Mu) (H : Hp) (E : XD → Env → Store → Prop) : Prop := ∀ x ρ' S', E x ρ' S' → ∀ μ' σ' H' C d vs, Grow μ H μ' H' → Sim K μ' S' H' → EnvR K μ' H' ρ' σ' →
  WW.ca x.c = some C → ExcAt μ' H' d x.ns vs → RepAll K μ' H' x.ds vs → W (.ref C) d σ' H'
structure PostS (K : PySem.W.Frag) (W : WX) (μ : Mu) (H : Hp) (D0 : EndsD) (D : Ends) : Prop where
  nx : ∀ ρ' S', D0.nx ρ' S' → ∀ μ' σ' H', Grow μ H μ' H' → Sim K μ' S' H' → EnvR K μ' H' ρ' σ' → D.nx σ' H'
  rt : Post K μ H D0.rt D.rt
  bk : ∀ ρ' S', D0.bk ρ' S' → ∀ μ' σ' H', Grow μ H μ' H' → Sim K μ' S' H' → EnvR K μ' H' ρ' σ' → D.bk σ' H'
  ct : ∀ ρ' S', D0.ct ρ' S' → ∀ μ' σ' H', Grow μ H μ' H' → Sim K μ' S' H' → EnvR K μ' H' ρ' σ' → D.ct σ' H'
  ex : PostX K W μ H D0.ex
def LS (K : PySem.W.Frag) (W : WX) (w : WS) : TS := fun D σ H => ∃ μ S ρ D0, Sim K μ S H ∧ EnvR K μ H ρ σ ∧ w D0 ρ S ∧ PostS K W μ H D0 D
abbrev SS (X : Cx) (st : Stmt) (w : WS) : Prop := PS X st (LS X.K (wxOf X) w)
abbrev SSs (X : Cx) (sts : List Stmt) (w : WS) : Prop := PSs X sts (LS X.K (wxOf X) w)
theorem PostX.go {K : PySem.W.Frag} {W : WX} {μ μ' : Mu} {H H' : Hp} {E : XD → Env → Store → Prop} (h : PostX K W μ H E) (g : Grow μ H μ' H') : PostX K W μ' H' E := fun x r s q m2 σ2 H2 C d vs g2 => h x r s q m2 σ2 H2 C d vs (g.trans g2)
theorem PostX.none {K : PySem.W.Frag} {W : WX} {μ : Mu} {H : Hp} : PostX K W μ H (fun _ _ _ => False) := fun _ _ _ q => q.elim
theorem PostS.go {K : PySem.W.Frag} {W : WX} {μ μ' : Mu} {H H' : Hp} {D0 : EndsD} {D : Ends} (h : PostS K W μ H D0 D) (g : Grow μ H μ' H') : PostS K W μ' H' D0 D :=
  ⟨fun r s q m2 σ2 H2 g2 => h.nx r s q m2 σ2 H2 (g.trans g2), h.rt.go g, fun r s q m2 σ2 H2 g2 => h.bk r s q m2 σ2 H2 (g.trans g2), fun r s q m2 σ2 H2 g2 => h.ct r s q m2 σ2 H2 (g.trans g2), h.ex.go g⟩
section
variable {X : Cx} {st : Stmt} {sts : List Stmt}
theorem ps_weak {t t' : TS} (h : PS X st t) (hw : ∀ D σ H, t' D σ H → t D σ H) : PS X st t' := ⟨fun pins s σ H D I q => h.run pins s σ H D I (hw _ _ _ q)⟩
theorem pss_weak {t t' : TS} (h : PSs X sts t) (hw : ∀ D σ H, t' D σ H → t D σ H) : PSs X sts t' := ⟨fun pins s σ H D I q => h.run pins s σ H D I (hw _ _ _ q)⟩
end
section
variable {X : Cx} {st : Stmt} {rest : List Stmt} {t u : WS} {e a b c : Expr} {wa wb wc : WE} {wt : WT} {pos : Pos}
omit [WW] in
def wNext : WS := fun D ρ S => D.nx ρ S
omit [WW] in
def wSeq (t u : WS) : WS := fun D ρ S => t { D with nx := u D } ρ S
theorem ls_run {K : PySem.W.Frag} {W : WX} {w : WS} {D : Ends} {D0 D1 : EndsD} {μ : Mu} {S : Store} {ρ : Env} {σ : L2.St} {H : Hp} (m : Sim K μ S H) (en : EnvR K μ H ρ σ) (h : w D0 ρ S) (p : PostS K W μ H D0 D) : LS K W w D σ H := ⟨μ, S, ρ, D0, m, en, h, p⟩
theorem ls_seq {K : PySem.W.Frag} {W : WX} {D : Ends} {σ : L2.St} {H : Hp} (h : LS K W (wSeq t u) D σ H) : tSeq (LS K W t) (LS K W u) D σ H := by
  obtain ⟨μ, S, ρ, D0, m, en, q, p⟩ := h
  exact ⟨μ, S, ρ, { D0 with nx := u D0 }, m, en, q, fun ρ' S' q' μ' σ' H' g m' e' => ⟨μ', S', ρ', D0, m', e', q', p.go g⟩, p.rt, p.bk, p.ct, p.ex⟩
theorem ss_nil : SSs X [] wNext := pss_weak pss_nil fun D σ H ⟨μ, S, ρ, D0, m, en, q, p⟩ => p.nx ρ S q μ σ H .refl m en
theorem ss_cons (h1 : SS X st t) (h2 : SSs X rest u) : SSs X (st :: rest) (wSeq t u) := pss_weak (pss_cons h1 h2) fun D σ H h => ls_seq h
theorem ss_one (h1 : SS X st t) : SSs X [st] t := pss_one h1
theorem ss_pass : SS X (.Pass pos) wNext := ps_weak ps_pass fun D σ H ⟨μ, S, ρ, D0, m, en, q, p⟩ => p.nx ρ S q μ σ H .refl m en
omit [WW] in
def wBreak : WS := fun D ρ S => D.bk ρ S
omit [WW] in
def wCont : WS := fun D ρ S => D.ct ρ S
theorem ss_break : SS X (.Break pos) wBreak := ps_weak ps_break fun D σ H ⟨μ, S, ρ, D0, m, en, q, p⟩ => p.bk ρ S q μ σ H .refl m en
theorem ss_continue : SS X (.Continue pos) wCont := ps_weak ps_continue fun D σ H ⟨μ, S, ρ, D0, m, en, q, p⟩ => p.ct ρ S q μ σ H .refl m en
omit [WW] in
def wDrop (w : WE) : WS := fun D ρ S => w ρ S fun _ S1 => D.nx ρ S1
theorem ss_expr (he : SE X e wa) (hs : swapsWith e none pos.line X.env = pure false := by rfl) : SS X (.Expr e pos) (wDrop wa) := ps_weak (ps_expr he hs) fun D σ H ⟨μ, S, ρ, D0, m, en, q, p⟩ =>
  LE.run m en q fun d S1 μ1 v H1 q1 g1 m1 e1 r1 => p.nx ρ S1 q1 μ1 σ H1 g1 m1 e1
omit [WW] in
def wRet (w : WE) : WS := fun D ρ S => w ρ S D.rt
theorem ss_ret (he : SE X e wa) : SS X (.Return (some e) pos) (wRet wa) := ps_weak (ps_ret he) fun D σ H ⟨μ, S, ρ, D0, m, en, q, p⟩ => ⟨μ, S, ρ, D0.rt, m, en, q, p.rt⟩
omit [WW] in
def wRetN : WS := fun D _ S => D.rt .non S
theorem ss_retN : SS X (.Return none pos) wRetN := ps_weak ps_retN fun D σ H ⟨μ, S, ρ, D0, m, en, q, p⟩ => p.rt .non S q μ _ H .refl m .non
omit [WW] in
def wIf (c : WT) (t u : WS) : WS := fun D ρ S => c ρ S fun k S1 => if k = true then t D ρ S1 else u D ρ S1
theorem ss_if {xs ys : List Stmt} (hc : ST X c wt) (ha : SSs X xs t) (hb : SSs X ys u) : SS X (.If c xs ys pos) (wIf wt t u) := ps_weak (ps_if hc ha hb) fun D σ H ⟨μ, S, ρ, D0, m, en, q, p⟩ => by
  refine LT.run m en q fun k S1 μ1 H1 q1 g1 m1 e1 => ?_
  cases k with
  | true => exact ⟨μ1, S1, ρ, D0, m1, e1, q1, p.go g1⟩
  | false => exact ⟨μ1, S1, ρ, D0, m1, e1, q1, p.go g1⟩
end

/-! ### targets -/
omit [WW] in
inductive Tg where
  | name (i : Nat)
  | tup (ts : List Tg)
mutual
def Tg.toV (K : PySem.W.Frag) : Tg → TG
  | .name i => gName i
  | .tup ts => gTup K ts.length (Tg.toVs K ts)
def Tg.toVs (K : PySem.W.Frag) : List Tg → TGs
  | [] => gNil
  | t :: ts => gCons (Tg.toV K t) (Tg.toVs K ts)
end
omit [WW] in
mutual
def bindT : Tg → D → Env → Option Env
  | .name i, d, ρ => some (ρ.set i (some d))
  | .tup ts, .tup ds, ρ => bindTs ts ds ρ
  | .tup _, _, _ => none
def bindTs : List Tg → List D → Env → Option Env
  | [], [], ρ => some ρ
  | t :: ts, d :: ds, ρ => match bindT t d ρ with | some ρ1 => bindTs ts ds ρ1 | none => none
  | _, _, _ => none
end
omit [WW] in
mutual
def Tg.slots : Tg → List Nat
  | .name i => [i]
  | .tup ts => Tg.slotsL ts
def Tg.slotsL : List Tg → List Nat
  | [] => []
  | t :: ts => Tg.slots t ++ Tg.slotsL ts
end
section
variable {K : PySem.W.Frag} {μ : Mu} {H : Hp}
omit [WW] in
theorem wipe_set {σ : L2.St} {i : Nat} {v : V} : ∀ {vs : List Nat}, i ∈ vs → wipe (σ.set i (some v)) vs = wipe σ vs := by
  intro vs h
  apply List.ext_getElem?
  intro j
  have key : ∀ (σ : L2.St) (vs : List Nat), (wipe σ vs)[j]? = if j ∈ vs then (σ[j]?).map (fun _ => none) else σ[j]? := by
    intro σ vs
    induction vs with
    | nil => simp [wipe]
    | cons w ws ih =>
      unfold wipe
      by_cases hw : w = j
      · subst hw
        rw [List.getElem?_set]
        simp only [List.mem_cons, true_or, if_true, wipe_length]
        by_cases hl : w < σ.length
        · simp [hl]
        · simp [hl]
      · rw [List.getElem?_set_ne hw, ih]
        have e1 : (j ∈ w :: ws) ↔ j ∈ ws := by simp [Ne.symm hw]
        simp only [e1]
  rw [key, key]
  by_cases hj : j ∈ vs
  · rw [if_pos hj, if_pos hj, List.getElem?_set]
    by_cases hij : i = j
    · subst hij
      by_cases hl : i < σ.length
      · simp [hl]
      · simp [hl]
    · simp [hij]
  · rw [if_neg hj, if_neg hj, List.getElem?_set_ne (fun e => hj (by rw [← e]; exact h))]
mutual
/-- binding: the frame behind, and which slots it wrote -/
theorem bind_ok (vs : List Nat) : ∀ (t : Tg) (d : D) (ρ ρ' : Env) (v : V) (σ : L2.St) (Q : L2.St → Hp → Prop), bindT t d ρ = some ρ' → Rep K μ H d v → EnvR K μ H ρ σ →
    (∀ σ', EnvR K μ H ρ' σ' → ((∀ i ∈ t.slots, i ∈ vs) → wipe σ' vs = wipe σ vs) → Q σ' H) → t.toV K v σ H Q
  | .name i, d, ρ, ρ', v, σ, Q, h, r, en, k => by
    have e : ρ.set i (some d) = ρ' := Option.some.inj (by simpa [bindT] using h)
    subst e
    show gName i v σ H Q
    exact k _ (en.set r) fun hs => wipe_set (hs i (by simp [Tg.slots]))
  | .tup ts, .tup ds, ρ, ρ', v, σ, Q, h, r, en, k => by
    cases r with
    | tup hh r =>
      have h' : bindTs ts ds ρ = some ρ' := by simpa [bindT] using h
      show gTup K ts.length (Tg.toVs K ts) _ σ H Q
      have hl := bindTs_len ts ds ρ ρ' h'
      refine ⟨_, _, rfl, hh, by rw [← r.length]; exact hl.symm, ?_⟩
      exact binds_ok vs ts ds ρ ρ' _ σ Q h' r en fun σ' e' hs => k σ' e' (by simpa [Tg.slots] using hs)
  | .tup ts, .non, ρ, ρ', v, σ, Q, h, r, en, k => by simp [bindT] at h
  | .tup ts, .bl _, ρ, ρ', v, σ, Q, h, r, en, k => by simp [bindT] at h
  | .tup ts, .int _, ρ, ρ', v, σ, Q, h, r, en, k => by simp [bindT] at h
  | .tup ts, .str _, ρ, ρ', v, σ, Q, h, r, en, k => by simp [bindT] at h
  | .tup ts, .lst _, ρ, ρ', v, σ, Q, h, r, en, k => by simp [bindT] at h
  | .tup ts, .ref _, ρ, ρ', v, σ, Q, h, r, en, k => by simp [bindT] at h
theorem bindTs_len : ∀ (ts : List Tg) (ds : List D) (ρ ρ' : Env), bindTs ts ds ρ = some ρ' → ts.length = ds.length
  | [], [], _, _, _ => rfl
  | t :: ts, d :: ds, ρ, ρ', h => by
    simp only [bindTs] at h
    split at h
    · rename_i ρ1 h1
      have := bindTs_len ts ds ρ1 ρ' h
      simp [this]
    · cases h
  | [], _ :: _, _, _, h => by simp [bindTs] at h
  | _ :: _, [], _, _, h => by simp [bindTs] at h
theorem binds_ok (vs : List Nat) : ∀ (ts : List Tg) (ds : List D) (ρ ρ' : Env) (us : List V) (σ : L2.St) (Q : L2.St → Hp → Prop), bindTs ts ds ρ = some ρ' → RepAll K μ H ds us → EnvR K μ H ρ σ →
    (∀ σ', EnvR K μ H ρ' σ' → ((∀ i ∈ Tg.slotsL ts, i ∈ vs) → wipe σ' vs = wipe σ vs) → Q σ' H) → Tg.toVs K ts us σ H Q
  | [], [], ρ, ρ', us, σ, Q, h, r, en, k => by
    have e : ρ = ρ' := Option.some.inj (by simpa [bindTs] using h)
    subst e
    cases r
    show gNil [] σ H Q
    exact ⟨rfl, k σ en fun _ => rfl⟩
  | t :: ts, d :: ds, ρ, ρ', us, σ, Q, h, r, en, k => by
    simp only [bindTs] at h
    split at h
    · rename_i ρ1 h1
      cases r with
      | cons r rr =>
        show gCons (Tg.toV K t) (Tg.toVs K ts) _ σ H Q
        refine ⟨_, _, rfl, ?_⟩
        refine bind_ok vs t d ρ ρ1 _ σ _ h1 r en fun σ1 e1 w1 => ?_
        refine binds_ok vs ts ds ρ1 ρ' _ σ1 Q h rr e1 fun σ2 e2 w2 => ?_
        refine k σ2 e2 fun hs => ?_
        rw [w2 fun i hi => hs i (by simp [Tg.slotsL, hi]), w1 fun i hi => hs i (by simp [Tg.slotsL, hi])]
    · cases h
  | [], _ :: _, _, _, _, _, _, h, _, _, _ => by simp [bindTs] at h
  | _ :: _, [], _, _, _, _, _, h, _, _, _ => by simp [bindTs] at h
end
omit [WW] in
theorem bind_len : ∀ (t : Tg) (d : D) (ρ ρ' : Env), bindT t d ρ = some ρ' → True := fun _ _ _ _ _ => True.intro
end
abbrev SG (X : Cx) (e : Expr) (t : Tg) : Prop := PG X e (t.toV X.K)
abbrev SGs (X : Cx) (es : List Expr) (ts : List Tg) : Prop := PGs X es (Tg.toVs X.K ts)
section
variable {X : Cx} {st : Stmt} {rest : List Stmt} {t u : WS} {e a b c : Expr} {wa wb wc : WE} {wt : WT} {pos p : Pos} {es : List Expr} {g : Tg} {gs : List Tg}
theorem sg_name {i : Nat} {x : Str} (hN : X.N.Nodup) (hi : X.N[i]? = some x := by rfl) (hx : Loc X.env.scope x := by first | exact Or.inl rfl | exact Or.inr rfl) (hf : X.fn x = true ∨ X.env.scope.names.lookup x = some .local := by first | exact .inl rfl | exact .inr rfl | assumption) : SG X (.Name x pos) (.name i) := pg_name hN hi hx hf
theorem sg_tup {k : Nat} (hc : X.calm = true) (h : SGs X es gs) (hn : (assignEach es X.env).length = gs.length := by rfl) (hst : (assignEach es X.env).findIdx? (·.1) = none := by rfl) : SG X (.Tuple es k pos) (.tup gs) := pg_tup hc h hn hst
theorem sgs_nil : SGs X [] [] := pgs_nil
theorem sgs_cons (h1 : SG X e g) (h2 : SGs X es gs) (hs : (assignEach (e :: es) X.env).map (·.2) = assign e X.env :: (assignEach es X.env).map (·.2) := by rfl) : SGs X (e :: es) (g :: gs) := pgs_cons h1 h2 hs
omit [WW] in
def wAsg (w : WE) (g : Tg) : WS := fun D ρ S => w ρ S fun d S1 => match bindT g d ρ with | some ρ' => D.nx ρ' S1 | none => False
theorem las_ok {K : PySem.W.Frag} {W : WX} {D : Ends} {σ : L2.St} {H : Hp} (h : LS K W (wAsg wa g) D σ H) : tAsg (LE K wa) (g.toV K) D σ H := by
  obtain ⟨μ, S, ρ, D0, m, en, q, p⟩ := h
  refine LE.run m en q fun d S1 μ1 v H1 q1 g1 m1 e1 r1 => ?_
  split at q1
  · rename_i ρ' hb
    exact bind_ok [] g d ρ ρ' v σ _ hb r1 e1 fun σ' e' _ => p.nx ρ' S1 q1 μ1 σ' H1 g1 m1 e'
  · exact q1.elim
theorem ss_asg {tg : Expr} (he : SE X e wa) (hg : SG X tg g) (hs : swapsWithSole [tg] e pos.line X.env = pure false := by rfl) (hw : swappedStores [tg] e X.env = pure none := by rfl)
    (h1 : (assignEach [tg] X.env).map (·.2) = [assign tg X.env] := by rfl) : SS X (.Assign [tg] e pos) (wAsg wa g) := ps_weak (ps_asg he hg hs hw h1) fun D σ H h => las_ok h
theorem ss_set {i : Nat} {x : Str} {pos' : Pos} (hN : X.N.Nodup) (he : SE X e wa) (hi : X.N[i]? = some x := by rfl) (hx : Loc X.env.scope x := by first | exact Or.inl rfl | exact Or.inr rfl) (hs : swapsWith e (some (.Name x pos')) pos.line X.env = pure false := by rfl) (hf : X.fn x = true ∨ X.env.scope.names.lookup x = some .local := by first | exact .inl rfl | exact .inr rfl | assumption) :
    SS X (.Assign [.Name x pos'] e pos) (wAsg wa (.name i)) := ps_weak (ps_set hN hi hx he hs hf) fun D σ H h => las_ok h
omit [WW] in
/-- o[i] = e, a list of the store -/
def putAt (n : Nat) (k : Int) (d : D) (S : Store) (Q : Store → Prop) : Prop := match S[n]? with
  | some (.lst xs) => (match k with | .ofNat j => j < xs.length ∧ Q (S.set n (.lst (xs.set j d))) | .negSucc j => j < xs.length ∧ Q (S.set n (.lst (xs.set (xs.length - 1 - j) d))))
  | _ => False
omit [WW] in
def wPut (we wo wi : WE) : WS := fun D ρ S => we ρ S fun d S1 => wo ρ S1 fun o S2 => wi ρ S2 fun i S3 => match o, i with
  | .ref n, .int k => putAt n k d S3 (D.nx ρ)
  | _, _ => False
theorem ss_put {o i : Expr} {p1 : Pos} (he : SE X e wa) (ho : SE X o wb) (hi : SE X i wc)
    (ha : ∀ v, assign (.Subscript o i p1) X.env v = (do
      let ov ← holding [v] (eval o X.env)
      let iv ← holding [v, ov] (eval i X.env)
      standAt p1
      holding [v, ov, iv] (setItem ov iv v)
      release [v, ov, iv] []) := by intro _; rfl)
    (hs : swapsWithSole [.Subscript o i p1] e pos.line X.env = pure false := by rfl) (hw : swappedStores [.Subscript o i p1] e X.env = pure none := by rfl)
    (h1 : (assignEach [.Subscript o i p1] X.env).map (·.2) = [assign (.Subscript o i p1) X.env] := by rfl) : SS X (.Assign [.Subscript o i p1] e pos) (wPut wa wb wc) :=
  ps_weak (ps_asg he (pg_sub ho hi set_list ha) hs hw h1) fun D σ H ⟨μ, S, ρ, D0, m, en, q, p⟩ => by
    refine LE.run m en q fun d S1 μ1 v H1 q1 g1 m1 e1 r1 => ?_
    refine LE.run m1 e1 q1 fun o S2 μ2 vo H2 q2 g2 m2 e2 r2 => ?_
    refine LE.run m2 e2 q2 fun i S3 μ3 vi H3 q3 g3 m3 e3 r3 => ?_
    split at q3
    · rename_i n k
      unfold putAt at q3
      split at q3
      · rename_i xs hn
        obtain ⟨a, ys, rfl, h1, h2, h3⟩ := m3.at hn (r2.grow g3)
        have rv : Rep X.K μ3 H3 d v := r1.grow (g2.trans g3)
        have fin : ∀ j, j < xs.length → ixN ys.length k = some j → D0.nx ρ (S3.set n (.lst (xs.set j d))) → rSetL (.ref a) vi v H3 fun H4 => D.nx σ H4 := fun j hj hk q =>
          ⟨a, ys, k, j, rfl, r3.int_inv, h2, hk, p.nx _ _ q μ3 σ _ ((g1.trans g2).trans (g3.trans (.put m3 h1 h2))) (m3.put h1 h2 (h3.set rv j)) (e3.grow (.put m3 h1 h2))⟩
        have hl := h3.length
        cases k with
        | ofNat j => exact fin j q3.1 (by unfold ixN; rw [if_pos (by show (0 : Int) ≤ (j : Int); omega), if_pos (by have := q3.1; show (j : Int) < _; omega)]; rfl) q3.2
        | negSucc j =>
          refine fin _ (by have := q3.1; omega) ?_ q3.2
          have := q3.1
          unfold ixN
          rw [if_neg (by omega), if_pos (by omega)]
          congr 1
          omega
      · exact q3.elim
    · exact q3.elim
end
end DL

set_option maxHeartbeats 4000000
namespace DL
open PySem PySem.Spec PyProof.Rows L2
variable [WW]

/-! ### what is walked -/
/-- J walks the items xs while G holds of the store -/
structure IsW (K : PySem.W.Frag) (μ : Mu) (H : Hp) (J : It) (xs : List D) (G : Store → Prop) : Prop where
  go : ∀ i μ2 H2 S2, i < xs.length → Grow μ H μ2 H2 → Sim K μ2 S2 H2 → G S2 → J.go i H2
  stop : ∀ μ2 H2 S2, Grow μ H μ2 H2 → Sim K μ2 S2 H2 → G S2 → J.stop xs.length H2
  yld : ∀ i μ2 H2 S2 x H3, i < xs.length → Grow μ H μ2 H2 → Sim K μ2 S2 H2 → G S2 → J.yld i H2 x H3 → ∃ d, xs[i]? = some d ∧ Grow μ2 H2 μ2 H3 ∧ Sim K μ2 S2 H3 ∧ Rep K μ2 H3 d x
omit [WW] in
abbrev WI := Env → Store → (List D → (Store → Prop) → Store → Prop) → Prop
def LI (K : PySem.W.Frag) (w : WI) : TI := fun σ H R => ∃ μ S ρ Q0, Sim K μ S H ∧ EnvR K μ H ρ σ ∧ w ρ S Q0 ∧ ∀ xs G S', Q0 xs G S' → ∀ μ' J H', Grow μ H μ' H' → Sim K μ' S' H' → IsW K μ' H' J xs G → R J H'
abbrev SI (X : Cx) (tg iter : Expr) (w : WI) : Prop := PI X tg iter (LI X.K w)
omit [WW] in
def wSeqI (w : WE) : WI := fun ρ S Q => w ρ S fun d S1 => match d with
  | .tup ds => Q ds (fun _ => True) S1
  | .lst ds => Q ds (fun _ => True) S1
  | .ref n => (match S1[n]? with | some (.lst ds) => Q ds (fun S => S[n]? = some (.lst ds)) S1 | _ => False)
  | _ => False
section
variable {K : PySem.W.Frag} {μ : Mu} {H : Hp} {a : Addr} {xs : List D} {vs : List V}
theorem isw_tup (h : Rd H a (.tup vs) ∨ KT K a vs) (r : RepAll K μ H xs vs) : IsW K μ H (Itt K a) xs (fun _ => True) where
  go := fun i μ2 H2 S2 hi g m _ => by
    have hi' : i < vs.length := by rw [← r.length]; exact hi
    exact ⟨vs, vs[i], h.imp (g.tup _ _) id, by simp [hi']⟩
  stop := fun μ2 H2 S2 g m _ => ⟨vs, h.imp (g.tup _ _) id, by rw [r.length]; exact Nat.le_refl _⟩
  yld := fun i μ2 H2 S2 x H3 hi g m _ y => by
    obtain ⟨rfl, y⟩ := y
    obtain ⟨d, h1, h2⟩ := r.getV (y vs (h.imp (g.tup _ _) id))
    exact ⟨d, h1, .refl, m, h2.grow g⟩
theorem isw_lst (h : (Rd H a (.lst vs) ∧ ¬ μ.has a) ∨ KL K a vs) (r : RepAll K μ H xs vs) : IsW K μ H (Itl K a) xs (fun _ => True) where
  go := fun i μ2 H2 S2 hi g m _ => by
    have hi' : i < vs.length := by rw [← r.length]; exact hi
    exact ⟨vs, vs[i], h.imp (fun z => (g.lst _ _ z.1 z.2).1) id, by simp [hi']⟩
  stop := fun μ2 H2 S2 g m _ => ⟨vs, h.imp (fun z => (g.lst _ _ z.1 z.2).1) id, by rw [r.length]; exact Nat.le_refl _⟩
  yld := fun i μ2 H2 S2 x H3 hi g m _ y => by
    obtain ⟨rfl, y⟩ := y
    obtain ⟨d, h1, h2⟩ := r.getV (y vs (h.imp (fun z => (g.lst _ _ z.1 z.2).1) id))
    exact ⟨d, h1, .refl, m, h2.grow g⟩
theorem isw_ref {n : Nat} (h : μ.sl[n]? = some (some a)) : IsW K μ H (Itl K a) xs (fun S => S[n]? = some (.lst xs)) where
  go := fun i μ2 H2 S2 hi g m hS => by
    obtain ⟨b, ws, h1, h2, h3⟩ := m.ob n xs hS
    rw [g.ref n a h] at h1
    cases h1
    have hi' : i < ws.length := by rw [← h3.length]; exact hi
    exact ⟨ws, ws[i], SqL.of h2, by simp [hi']⟩
  stop := fun μ2 H2 S2 g m hS => by
    obtain ⟨b, ws, h1, h2, h3⟩ := m.ob n xs hS
    rw [g.ref n a h] at h1
    cases h1
    exact ⟨ws, SqL.of h2, by rw [h3.length]; exact Nat.le_refl _⟩
  yld := fun i μ2 H2 S2 x H3 hi g m hS y => by
    obtain ⟨rfl, y⟩ := y
    obtain ⟨b, ws, h1, h2, h3⟩ := m.ob n xs hS
    rw [g.ref n a h] at h1
    cases h1
    obtain ⟨d, e1, e2⟩ := h3.getV (y ws (SqL.of h2))
    exact ⟨d, e1, .refl, m, e2⟩
theorem isw_range {lo : Int} {n : Nat} : IsW K μ H (Itr lo n) ((List.range n).map fun i => .int (lo + (i : Nat))) (fun _ => True) where
  go := fun i μ2 H2 S2 hi g m _ => by show i < n; simpa using hi
  stop := fun μ2 H2 S2 g m _ => by show n ≤ _; simp
  yld := fun i μ2 H2 S2 x H3 hi g m _ y => by
    obtain ⟨rfl, rfl⟩ := y
    have hi' : i < n := by simpa using hi
    exact ⟨.int (lo + i), by simp [hi'], .refl, m, .int _⟩
end
section
variable {X : Cx} {tg : Expr} {e l a b c : Expr} {wa wb wc : WE} {wr : WA} {es : List Expr} {pos p : Pos}
def iSeq (K : PySem.W.Frag) (tl : TE) : TI := fun σ H R => tl σ H fun x H1 => ∃ a, x = .ref a ∧ (((∃ xs, SqL K H1 a xs) ∧ R (Itl K a) H1) ∨ ((∃ xs, SqT K H1 a xs) ∧ R (Itt K a) H1))
theorem pi_seq {tl : TE} (hl : PE X l tl) : PI X tg l (iSeq X.K tl) := by
  refine ⟨fun pins s σ H R I h => ?_⟩
  refine thn (hl.run pins s σ H _ I h) fun v s1 ⟨x, H1, I1, r1, q1⟩ => ?_
  obtain ⟨a, e, q⟩ := q1
  subst e
  cases r1
  rcases q with ⟨⟨xs, hq⟩, q⟩ | ⟨⟨xs, hq⟩, q⟩
  · obtain ⟨its, rv, p, hz⟩ := I1.list hq
    refine wpAny_pyIter_list p.isList ?_
    refine ⟨s1.heap.objs.size, [s1.heap.objs.size], _, _, H1, rfl, I1.kept (t' := s1.toks) fun b o e => Heap.get?_push_of_some _ e, turn_list a _, ⟨_, Heap.get?_push_size _ rfl, rfl, rfl⟩, fun b hb => ?_, q⟩
    have e : b = s1.heap.objs.size := by simpa using hb
    subst e
    exact I1.fpOk (Nat.le_refl _) (I1.hok.fresh (Nat.le_refl _))
  · obtain ⟨its, rv, p, hz⟩ := I1.tuple hq
    refine wpAny_pyIter_tuple (show s1.heap.IsTuple a its.toArray from p) ?_
    refine ⟨s1.heap.objs.size, [s1.heap.objs.size], _, _, H1, rfl, I1.kept (t' := s1.toks) fun b o e => Heap.get?_push_of_some _ e, turn_tuple a _, ⟨_, Heap.get?_push_size _ rfl, rfl, rfl⟩, fun b hb => ?_, q⟩
    have e : b = s1.heap.objs.size := by simpa using hb
    subst e
    exact I1.fpOk (Nat.le_refl _) (I1.hok.fresh (Nat.le_refl _))
theorem pi_weak {t t' : TI} (h : PI X tg e t) (hw : ∀ σ H Q, t' σ H Q → t σ H Q) : PI X tg e t' := ⟨fun pins s σ H Q I q => h.run pins s σ H Q I (hw _ _ _ q)⟩
theorem si_seq (ha : SE X l wa) : SI X tg l (wSeqI wa) := pi_weak (pi_seq ha) fun σ H R ⟨μ, S, ρ, Q0, m, en, q, p⟩ => by
  refine LE.run m en q fun d S1 μ1 v H1 q1 g1 m1 e1 r1 => ?_
  split at q1
  · cases r1 with
    | tup hh r => exact ⟨_, rfl, .inr ⟨⟨_, hh⟩, p _ _ S1 q1 μ1 _ H1 g1 m1 (isw_tup hh r)⟩⟩
  · cases r1 with
    | lst hh r => exact ⟨_, rfl, .inl ⟨⟨_, hh.imp And.left id⟩, p _ _ S1 q1 μ1 _ H1 g1 m1 (isw_lst hh r)⟩⟩
  · split at q1
    · rename_i n _ ds hn
      obtain ⟨a, ys, rfl, h1, h2, h3⟩ := m1.at hn r1
      exact ⟨_, rfl, .inl ⟨⟨_, SqL.of h2⟩, p _ _ S1 q1 μ1 _ H1 g1 m1 (isw_ref h1)⟩⟩
    · exact q1.elim
  · exact q1.elim
omit [WW] in
def intsD (lo : Int) (n : Nat) : List D := (List.range n).map fun i => .int (lo + (i : Nat))
omit [WW] in
def wRange1 (w : WA) : WI := fun ρ S Q => w ρ S fun ds S1 => match ds with | [.int n] => (-(2 ^ 62) ≤ n ∧ n < 2 ^ 62) ∧ Q (intsD 0 n.toNat) (fun _ => True) S1 | _ => False
omit [WW] in
def wRange2 (w : WA) : WI := fun ρ S Q => w ρ S fun ds S1 => match ds with | [.int i, .int j] => (-(2 ^ 62) ≤ i ∧ i < 2 ^ 62 ∧ -(2 ^ 62) ≤ j ∧ j < 2 ^ 62) ∧ Q (intsD i (j - i).toNat) (fun _ => True) S1 | _ => False
theorem si_range1 (hg : Gl X "range") (hm : X.mg "range" = none) (ha : SA X [a] wr) (hs : starEach [a] X.env = [(false, eval a X.env)] := by rfl) : SI X tg (.Call (.Name "range" p) [a] [] pos) (wRange1 wr) :=
  pi_weak (pi_range1 hg hm ha hs) fun σ H R ⟨μ, S, ρ, Q0, m, en, q, p⟩ => by
    refine LA.run m en q fun ds S1 μ1 vs H1 q1 g1 m1 e1 r1 => ?_
    split at q1
    · obtain ⟨v, rfl, r⟩ := r1.one_inv
      rw [r.int_inv]
      exact ⟨_, rfl, q1.1.1, q1.1.2, p _ _ S1 q1.2 μ1 _ H1 g1 m1 isw_range⟩
    · exact q1.elim
theorem si_range2 (hg : Gl X "range") (hm : X.mg "range" = none) (ha : SA X [a, b] wr) (hs : starEach [a, b] X.env = [(false, eval a X.env), (false, eval b X.env)] := by rfl) (hs2 : starEach [b] X.env = [(false, eval b X.env)] := by rfl) : SI X tg (.Call (.Name "range" p) [a, b] [] pos) (wRange2 wr) :=
  pi_weak (pi_range2 hg hm ha hs hs2) fun σ H R ⟨μ, S, ρ, Q0, m, en, q, p⟩ => by
    refine LA.run m en q fun ds S1 μ1 vs H1 q1 g1 m1 e1 r1 => ?_
    split at q1
    · obtain ⟨v, u, rfl, r, r2⟩ := r1.two_inv
      rw [r.int_inv, r2.int_inv]
      exact ⟨_, _, rfl, q1.1, p _ _ S1 q1.2 μ1 _ H1 g1 m1 isw_range⟩
    · exact q1.elim

/-! ### for -/
omit [WW] in
def forR (g : Tg) (wb : WS) (G : Store → Prop) (D0 : EndsD) : List D → Env → Store → Prop
  | [], ρ, S => G S ∧ D0.nx ρ S
  | x :: r, ρ, S => G S ∧ match bindT g x ρ with
    | some ρ' => wb { D0 with nx := fun ρ S => forR g wb G D0 r ρ S, ct := fun ρ S => forR g wb G D0 r ρ S, bk := D0.nx } ρ' S
    | none => False
omit [WW] in
def wFor (wi : WI) (g : Tg) (wb : WS) : WS := fun D ρ S => wi ρ S fun xs G S1 => forR g wb G D xs ρ S1
omit [WW] in
theorem forR_G {g : Tg} {wb : WS} {G : Store → Prop} {D0 : EndsD} {xs : List D} {ρ : Env} {S : Store} (h : forR g wb G D0 xs ρ S) : G S := by
  cases xs with
  | nil => exact h.1
  | cons x r => exact h.1
omit [WW] in
theorem drop_cons {xs : List D} {i : Nat} {d : D} (h : xs[i]? = some d) : xs.drop i = d :: xs.drop (i + 1) := by
  obtain ⟨hi, e⟩ := List.getElem?_eq_some_iff.mp h
  rw [List.drop_eq_getElem_cons hi, e]
theorem ss_for {iter : Expr} {body : List Stmt} {wi : WI} {g : Tg} {wb : WS} (hp : PassesOwn (model X.prog X.w) X.A X.env X.xe) (hc : X.calm = true) (hi : SI X tg iter wi) (hg : SG X tg g) (hb : SSs X body wb)
    (hs : ∀ x, foldedSetIterable iter X.env x = pure x := by intro _; rfl) : SS X (.For tg iter body [] pos) (wFor wi g wb) := ps_weak (ps_for hp hc hi hg hb hs) fun D σ H ⟨μ, S, ρ, D0, m, en, q, p⟩ => by
  refine ⟨μ, S, ρ, _, m, en, q, fun xs G S1 q1 μ1 J H1 g1 m1 w1 => ?_⟩
  refine ⟨fun i n σ' H' => n = xs.length - i ∧ i ≤ xs.length ∧ ∃ μ' S' ρ', Grow μ1 H1 μ' H' ∧ Sim X.K μ' S' H' ∧ EnvR X.K μ' H' ρ' σ' ∧ forR g wb G D0 (xs.drop i) ρ' S', ⟨xs.length, by simp, Nat.zero_le _, μ1, S1, ρ, .refl, m1, en.grow g1, by simpa using q1⟩, ?_⟩
  rintro i n σ' H' ⟨rfl, hi, μ', S', ρ', g2, m2, e2, f⟩
  have hG := forR_G f
  by_cases hlt : i < xs.length
  · refine .inr ⟨w1.go i μ' H' S' hlt g2 m2 hG, fun σ2 H2 => ∃ μ2 S2 ρ2, Grow μ1 H1 μ2 H2 ∧ Sim X.K μ2 S2 H2 ∧ EnvR X.K μ2 H2 ρ2 σ2 ∧ forR g wb G D0 (xs.drop (i + 1)) ρ2 S2, fun σ2 H2 h => ⟨xs.length - (i + 1), by omega, rfl, hlt, h⟩, fun x H3 y => ?_⟩
    obtain ⟨d, hd, g3, m3, r3⟩ := w1.yld i μ' H' S' x H3 hlt g2 m2 hG y
    rw [drop_cons hd] at f
    obtain ⟨_, f⟩ := f
    split at f
    · rename_i ρ3 hb3
      refine bind_ok [] g d ρ' ρ3 x σ' _ hb3 r3 (e2.grow g3) fun σ3 e3 _ => ?_
      refine ⟨μ', S', ρ3, _, m3, e3, f, fun ρ4 S4 q4 μ4 σ4 H4 g4 m4 e4 => ⟨μ4, S4, ρ4, g2.trans (g3.trans g4), m4, e4, q4⟩, p.rt.go (g1.trans (g2.trans g3)), fun ρ4 S4 q4 μ4 σ4 H4 g4 m4 e4 => p.nx ρ4 S4 q4 μ4 σ4 H4 (g1.trans (g2.trans (g3.trans g4))) m4 e4,
        fun ρ4 S4 q4 μ4 σ4 H4 g4 m4 e4 => ⟨μ4, S4, ρ4, g2.trans (g3.trans g4), m4, e4, q4⟩, p.ex.go (g1.trans (g2.trans g3))⟩
    · exact f.elim
  · have e : i = xs.length := by omega
    subst e
    rw [List.drop_of_length_le (Nat.le_refl _)] at f
    exact .inl ⟨w1.stop μ' H' S' g2 m2 hG, p.nx ρ' S' f.2 μ' σ' H' (g1.trans g2) m2 e2⟩

/-! ### while -/
omit [WW] in
def wWhile (c : WT) (wb : WS) : WS := fun D ρ S => ∃ W : Nat → Env → Store → Prop, (∃ n, W n ρ S) ∧ ∀ n ρ S, W n ρ S →
  c ρ S fun k S1 => if k = true then wb { D with nx := fun ρ' S' => ∃ n', n' < n ∧ W n' ρ' S', ct := fun ρ' S' => ∃ n', n' < n ∧ W n' ρ' S', bk := D.nx } ρ S1 else D.nx ρ S1
theorem ss_while {body : List Stmt} {wt : WT} {wb : WS} (hp : PassesOwn (model X.prog X.w) X.A X.env X.xe) (hc : ST X c wt) (hb : SSs X body wb) : SS X (.While c body [] pos) (wWhile wt wb) := ps_weak (ps_while hp hc hb) fun D σ H ⟨μ, S, ρ, D0, m, en, q, p⟩ => by
  obtain ⟨W, ⟨n0, w0⟩, turn⟩ := q
  refine ⟨fun n σ' H' => ∃ μ' S' ρ', Grow μ H μ' H' ∧ Sim X.K μ' S' H' ∧ EnvR X.K μ' H' ρ' σ' ∧ W n ρ' S', ⟨n0, μ, S, ρ, .refl, m, en, w0⟩, ?_⟩
  rintro n σ' H' ⟨μ', S', ρ', g, m', e', w⟩
  refine LT.run m' e' (turn n ρ' S' w) fun k S1 μ1 H1 q1 g1 m1 e1 => ?_
  cases k with
  | true =>
    refine ⟨fun σ2 H2 => ∃ n', n' < n ∧ ∃ μ2 S2 ρ2, Grow μ H μ2 H2 ∧ Sim X.K μ2 S2 H2 ∧ EnvR X.K μ2 H2 ρ2 σ2 ∧ W n' ρ2 S2, fun σ2 H2 h => h, ?_⟩
    exact ⟨μ1, S1, ρ', _, m1, e1, q1, fun ρ4 S4 ⟨n', hn, q4⟩ μ4 σ4 H4 g4 m4 e4 => ⟨n', hn, μ4, S4, ρ4, g.trans (g1.trans g4), m4, e4, q4⟩, p.rt.go (g.trans g1),
      fun ρ4 S4 q4 μ4 σ4 H4 g4 m4 e4 => p.nx ρ4 S4 q4 μ4 σ4 H4 (g.trans (g1.trans g4)) m4 e4, fun ρ4 S4 ⟨n', hn, q4⟩ μ4 σ4 H4 g4 m4 e4 => ⟨n', hn, μ4, S4, ρ4, g.trans (g1.trans g4), m4, e4, q4⟩, p.ex.go (g.trans g1)⟩
  | false => exact p.nx ρ' S1 q1 μ1 σ' H1 (g.trans g1) m1 e1

/-! ### methods of lists of the store -/
omit [WW] in
abbrev RM := D → List D → Store → (D → Store → Prop) → Prop
omit [WW] in
def isL (x : D) (S : Store) : Prop := match x with | .lst _ => True | .ref n => (match S[n]? with | some (.lst _) => True | _ => False) | _ => False
omit [WW] in
def wMeth (R : RM) (wo : WE) (wr : WA) : WE := fun ρ S Q => wo ρ S fun x S1 => isL x S1 ∧ wr ρ S1 fun ds S2 => R x ds S2 Q
omit [WW] in
def wMeth0 (R : RM) (wo : WE) : WE := fun ρ S Q => wo ρ S fun x S1 => isL x S1 ∧ R x [] S1 Q
def MethD (K : PySem.W.Frag) (r : V → List V → Hp → VK → Prop) (R : RM) : Prop := ∀ (μ : Mu) (S : Store) (H : Hp) (x : D) (v : V) (ds : List D) (vs : List V) (Q0 : D → Store → Prop) (Q : VK), Sim K μ S H → Rep K μ H x v → RepAll K μ H ds vs → R x ds S Q0 → Post K μ H Q0 Q → r v vs H Q
theorem isL_ty {K : PySem.W.Frag} {μ : Mu} {S : Store} {H : Hp} {x : D} {v : V} (m : Sim K μ S H) (r : Rep K μ H x v) (h : isL x S) : tyV K "list" v H := by
  cases r with
  | lst hh r => exact .inl ⟨rfl, _, hh.imp And.left id⟩
  | ref hn =>
    rename_i n a
    have h' : (match S[n]? with | some (.lst _) => True | _ => False) := h
    split at h'
    · rename_i ds hd
      obtain ⟨a', xs, e, h1, h2, h3⟩ := m.at hd (.ref hn)
      cases e
      exact .inl ⟨rfl, _, SqL.of h2⟩
    · exact h'.elim
  | _ => exact h.elim
theorem se_meth {r : V → List V → Hp → VK → Prop} {R : RM} (hd : MethD X.K r R) (hp : PE X e (tBM X.K "list" r (LE X.K wa) (LA X.K wr))) : SE X e (wMeth R wa wr) := pe_weak hp fun σ H Q ⟨μ, S, ρ, Q0, m, en, q, p⟩ => by
  refine LE.run m en q fun x S1 μ1 v H1 q1 g1 m1 e1 r1 => ⟨isL_ty m1 r1 q1.1, ?_⟩
  refine LA.run m1 e1 q1.2 fun ds S2 μ2 vs H2 q2 g2 m2 e2 r2 => ?_
  exact hd μ2 S2 H2 x v ds vs Q0 Q m2 (r1.grow g2) r2 q2 (p.go (g1.trans g2))
theorem se_meth0 {r : V → List V → Hp → VK → Prop} {R : RM} (hd : MethD X.K r R) (hp : PE X e (tBM0 X.K "list" r (LE X.K wa))) : SE X e (wMeth0 R wa) := pe_weak hp fun σ H Q ⟨μ, S, ρ, Q0, m, en, q, p⟩ => by
  refine LE.run m en q fun x S1 μ1 v H1 q1 g1 m1 e1 r1 => ⟨isL_ty m1 r1 q1.1, ?_⟩
  exact hd μ1 S1 H1 x v [] [] Q0 Q m1 r1 .nil q1.2 (p.go g1)
omit [WW] in
def mAppend : RM
  | .ref n, [d], S, Q => match S[n]? with | some (.lst xs) => xs.length < sizeLine ∧ Q .non (S.set n (.lst (xs ++ [d]))) | _ => False
  | _, _, _, _ => False
omit [WW] in
/-- pop(k), k from 0 on -/
def mPopAt : RM
  | .ref n, [.int i], S, Q => match S[n]? with
    | some (.lst xs) => (match i with | .ofNat k => (match xs[k]? with | some y => k < 2 ^ 62 ∧ Q y (S.set n (.lst (xs.eraseIdx k))) | none => False) | .negSucc _ => False)
    | _ => False
  | _, _, _, _ => False
omit [WW] in
def mPop : RM
  | .ref n, [], S, Q => match S[n]? with
    | some (.lst xs) => (match xs[xs.length - 1]? with | some y => Q y (S.set n (.lst xs.dropLast)) | none => False)
    | _ => False
  | _, _, _, _ => False
theorem md_append {K : PySem.W.Frag} : MethD K rAppend mAppend := by
  intro μ S H x v ds vs Q0 Q m rx r q p
  unfold mAppend at q
  split at q
  · rename_i n d
    split at q
    · rename_i xs hn
      obtain ⟨a, ys, rfl, h1, h2, h3⟩ := m.at hn rx
      obtain ⟨v, rfl, rd⟩ := r.one_inv
      exact ⟨a, ys, v, rfl, rfl, h2, by rw [← h3.length]; exact q.1, p _ _ q.2 _ _ _ (.put m h1 h2) (m.put h1 h2 (h3.append (.one rd))) .non⟩
    · exact q.elim
  · exact q.elim
theorem md_popAt {K : PySem.W.Frag} : MethD K rPopAt mPopAt := by
  intro μ S H x v ds vs Q0 Q m rx r q p
  unfold mPopAt at q
  split at q
  · rename_i n i
    split at q
    · rename_i xs hn
      obtain ⟨a, ys, rfl, h1, h2, h3⟩ := m.at hn rx
      obtain ⟨v, rfl, rd⟩ := r.one_inv
      rw [rd.int_inv]
      split at q
      · rename_i k
        split at q
        · rename_i y hy
          obtain ⟨w, hw, rw'⟩ := h3.get hy
          have hk : k < ys.length := (List.getElem?_eq_some_iff.mp hw).1
          have q1 := q.1
          have hix : ixN ys.length (Int.ofNat k) = some k := by unfold ixN; rw [if_pos (by show (0 : Int) ≤ (k : Int); omega), if_pos (by show (k : Int) < _; omega)]; rfl
          exact ⟨a, ys, Int.ofNat k, k, w, rfl, rfl, h2, by show -(2 ^ 63) ≤ (k : Int); omega, by show (k : Int) < 2 ^ 63; omega, (ixN_seq hix).1, hw, p _ _ q.2 _ _ _ (.put m h1 h2) (m.put h1 h2 (h3.eraseIdx k)) (rw'.grow (.put m h1 h2))⟩
        · exact q.elim
      · exact q.elim
    · exact q.elim
  · exact q.elim
theorem md_pop {K : PySem.W.Frag} : MethD K rPop mPop := by
  intro μ S H x v ds vs Q0 Q m rx r q p
  unfold mPop at q
  split at q
  · rename_i n
    split at q
    · rename_i xs hn
      obtain ⟨a, ys, rfl, h1, h2, h3⟩ := m.at hn rx
      cases r
      split at q
      · rename_i y hy
        obtain ⟨w, hw, rw'⟩ := h3.get hy
        rw [h3.length] at hw
        exact ⟨a, ys, w, rfl, rfl, h2, hw, p _ _ q _ _ _ (.put m h1 h2) (m.put h1 h2 h3.dropLast) (rw'.grow (.put m h1 h2))⟩
      · exact q.elim
    · exact q.elim
  · exact q.elim
end
end DL

set_option maxHeartbeats 4000000
namespace DL
open PySem PySem.Spec PyProof.Rows L2
variable [WW]

/-! ### comprehensions -/
omit [WW] in
def wipeD (ρ : Env) : List Nat → Env
  | [] => ρ
  | v :: vs => (wipeD ρ vs).set v none
theorem wipe_R {K : PySem.W.Frag} {μ : Mu} {H : Hp} {ρ : Env} {σ : L2.St} (h : EnvR K μ H ρ σ) : ∀ vs : List Nat, EnvR K μ H (wipeD ρ vs) (wipe σ vs)
  | [] => h
  | v :: vs => by
    have ih := wipe_R h vs
    refine ⟨by simpa [wipeD, wipe] using ih.1, fun i d e => ?_⟩
    unfold wipeD at e
    unfold wipe
    by_cases hi : v = i
    · subst hi
      rw [List.getElem?_set] at e
      simp only [if_true] at e
      split at e
      · cases e
      · cases e
    · rw [List.getElem?_set_ne hi] at e
      rw [List.getElem?_set_ne hi]
      exact ih.2 i d e
abbrev STs (X : Cx) (ifs : List Expr) (w : WT) : Prop := PTs X ifs (LT X.K w)
omit [WW] in
def wYes : WT := fun _ S Q => Q true S
section
variable {X : Cx} {ifs : List Expr} {c : Expr} {w : WT}
theorem sts_nil : STs X [] wYes := ⟨fun pins s σ H Q I ⟨μ, S, ρ, Q0, m, en, q, p⟩ => pts_nil.run pins s σ H Q I (p true S q μ H .refl m)⟩
theorem sts_one (h : ST X c w) : STs X [c] w := pts_one h
end
omit [WW] in
def compR (g : Tg) (wt : WT) (we : WE) (G : Store → Prop) (ρ0 : Env) (Q : D → Store → Prop) : List D → List D → Store → Prop
  | [], acc, S => G S ∧ Q (.lst acc) S
  | x :: r, acc, S => G S ∧ match bindT g x ρ0 with
    | some ρ2 => wt ρ2 S fun k S1 => if k = true then we ρ2 S1 fun d S2 => acc.length < sizeLine ∧ compR g wt we G ρ0 Q r (acc ++ [d]) S2 else compR g wt we G ρ0 Q r acc S1
    | none => False
omit [WW] in
def wComp (wi : WI) (g : Tg) (wt : WT) (we : WE) (vs : List Nat) : WE := fun ρ S Q => wi ρ S fun xs G S1 => compR g wt we G (wipeD ρ vs) Q xs [] S1
omit [WW] in
theorem compR_G {g : Tg} {wt : WT} {we : WE} {G : Store → Prop} {ρ0 : Env} {Q : D → Store → Prop} {xs acc : List D} {S : Store} (h : compR g wt we G ρ0 Q xs acc S) : G S := by
  cases xs with
  | nil => exact h.1
  | cons x r => exact h.1
/-- a list that is being made: kept apart -/
def Mu.res (μ : Mu) (a : Addr) : Mu := ⟨μ.sl, a :: μ.rs⟩
def Mu.unres (μ : Mu) (a : Addr) : Mu := ⟨μ.sl, μ.rs.filter (· != a)⟩
section
variable {K : PySem.W.Frag} {μ μ1 : Mu} {H H1 : Hp} {S S1 : Store} {p : Addr}
theorem Grow.res {o : HO} (hp : H p = none) : Grow μ H (μ.res p) (upd H p o) :=
  ⟨fun _ _ h => rd_new h hp, fun a xs h n => ⟨rd_new h hp, fun z => by
    rcases z with z | z
    · exact n (.inl z)
    · rcases List.mem_cons.mp z with z | z
      · exact rd_ne h hp z
      · exact n (.inr z)⟩, fun _ _ h => h, fun a h => ⟨List.mem_cons_of_mem _ h, fun u z => by rw [upd_ne (ne_of_none z hp)]; exact z⟩⟩
theorem Sim.res {o : HO} (m : Sim K μ S H) (hp : H p = none) : Sim K (μ.res p) S (upd H p o) :=
  ⟨m.len, m.inj, fun n a h => by
    obtain ⟨⟨u, hu⟩, hr⟩ := m.trk n a h
    have na := ne_of_none hu hp
    refine ⟨⟨u, by rw [upd_ne na]; exact hu⟩, fun z => ?_⟩
    rcases List.mem_cons.mp z with z | z
    · exact na z
    · exact hr z,
   fun a h => by
    rcases List.mem_cons.mp h with z | z
    · subst z; exact ⟨_, upd_same⟩
    · obtain ⟨u, hu⟩ := m.trs a z
      exact ⟨u, by rw [upd_ne (ne_of_none hu hp)]; exact hu⟩,
   fun n ds h hne => by
    obtain ⟨a, xs, h1, h2, h3⟩ := m.obj n ds h hne
    exact ⟨a, xs, h1, by rw [upd_ne (ne_of_none h2 hp)]; exact h2, h3.grow (.res hp)⟩⟩
/-- the kept list is written -/
theorem Grow.wr {xs ys : List V} (hp : p ∈ μ.rs) (ha : H p = some (.lst xs)) (g : Grow μ1 H1 μ H) (h1 : p ∉ μ1.rs) (hn : H1 p = none) : Grow μ1 H1 μ (upd H p (.lst ys)) :=
  ⟨fun a zs h => by
    have na : a ≠ p := rd_ne h hn
    rcases g.tup a zs h with h | ⟨o, h⟩
    · exact .inl (by rw [upd_ne na]; exact h)
    · exact .inr ⟨o, by rw [upd_ne na]; exact h⟩,
   fun a zs h n => by
    have na : a ≠ p := rd_ne h hn
    obtain ⟨h2, n2⟩ := g.lst a zs h n
    refine ⟨?_, n2⟩
    rcases h2 with h | ⟨o, h⟩
    · exact .inl (by rw [upd_ne na]; exact h)
    · exact .inr ⟨o, by rw [upd_ne na]; exact h⟩,
   g.ref, fun a h => by
    have na : a ≠ p := fun e => h1 (by rw [← e]; exact h)
    obtain ⟨h2, e2⟩ := g.rs a h
    exact ⟨h2, fun o z => by rw [upd_ne na]; exact e2 o z⟩⟩
theorem Rep.wr {xs ys : List V} (hp : p ∈ μ.rs) (ha : H p = some (.lst xs)) : Grow μ H μ (upd H p (.lst xs)) := by
  have e : upd H p (.lst xs) = H := by
    funext b
    by_cases hb : b = p
    · subst hb; rw [upd_same, ha]
    · rw [upd_ne hb]
  rw [e]
  exact .refl
end
section
variable {K : PySem.W.Frag} {μ : Mu} {H : Hp} {p : Addr} {xs ys : List V}
theorem nxd {a : Addr} {zs : List V} (h : H a = some (.lst zs)) : ∀ fs, H a ≠ some (.xd fs) := fun fs e => by rw [h] at e; cases e
theorem ExcAt.keep {μ' : Mu} {H' : Hp} {d : Option Addr} {ns : List Str} {vs : List V} (h : ExcAt μ H d ns vs) (h1 : ∀ b fs, b ∈ μ.rs → H b = some (.xd fs) → b ∈ μ'.rs ∧ H' b = some (.xd fs)) : ExcAt μ' H' d ns vs :=
  let ⟨dd, fs, a1, a2, a3, a4⟩ := h; ⟨dd, fs, a1, (h1 dd fs a2 a3).1, (h1 dd fs a2 a3).2, a4⟩
mutual
theorem Rep.wrA (hp : p ∈ μ.rs) (ha : H p = some (.lst xs)) : ∀ {d : D} {v : V}, Rep K μ H d v → Rep K μ (upd H p (.lst ys)) d v
  | _, _, .non => .non
  | _, _, .bl b => .bl b
  | _, _, .int i => .int i
  | _, _, .str x => .str x
  | _, _, .tup h r => .tup (h.imp (fun z => by
      rcases z with z | ⟨o, z⟩
      · exact .inl (by rw [upd_ne (ne_of z ha (by intro q; cases q))]; exact z)
      · exact .inr ⟨o, by rw [upd_ne (ne_of z ha (by intro q; cases q))]; exact z⟩) id) (RepAll.wrA hp ha r)
  | _, _, .lst h r => .lst (h.imp (fun z => by
      obtain ⟨z, n⟩ := z
      have na := (fun (b : Addr) (n : ¬ μ.has b) (e : b = p) => n (.inr (by rw [e]; exact hp)) : ∀ b, ¬ μ.has b → b ≠ p) _ n
      refine ⟨?_, n⟩
      rcases z with z | ⟨o, z⟩
      · exact .inl (by rw [upd_ne na]; exact z)
      · exact .inr ⟨o, by rw [upd_ne na]; exact z⟩) id) (RepAll.wrA hp ha r)
  | _, _, .ref h => .ref h
  | _, _, .exc h r => .exc (h.keep fun b fs b1 b2 => ⟨b1, by rw [upd_ne (fun e => nxd ha fs (by rw [← e]; exact b2))]; exact b2⟩) (RepAll.wrA hp ha r)
theorem RepAll.wrA (hp : p ∈ μ.rs) (ha : H p = some (.lst xs)) : ∀ {ds : List D} {vs : List V}, RepAll K μ H ds vs → RepAll K μ (upd H p (.lst ys)) ds vs
  | _, _, .nil => .nil
  | _, _, .cons r t => .cons (Rep.wrA hp ha r) (RepAll.wrA hp ha t)
end
theorem Sim.wr {S : Store} (m : Sim K μ S H) (hp : p ∈ μ.rs) (ha : H p = some (.lst xs)) : Sim K μ S (upd H p (.lst ys)) :=
  ⟨m.len, m.inj, fun n a h => by
    obtain ⟨⟨u, hu⟩, hr⟩ := m.trk n a h
    exact ⟨⟨u, by rw [upd_ne (fun e => hr (by rw [e]; exact hp))]; exact hu⟩, hr⟩,
   fun a h => by
    obtain ⟨u, hu⟩ := m.trs a h
    by_cases e : a = p
    · subst e; exact ⟨_, upd_same⟩
    · exact ⟨u, by rw [upd_ne e]; exact hu⟩,
   fun n ds h hne => by
    obtain ⟨a, xs, h1, h2, h3⟩ := m.obj n ds h hne
    exact ⟨a, xs, h1, by rw [upd_ne (fun e => (m.trk n a h1).2 (by rw [e]; exact hp))]; exact h2, h3.mapR fun d v r => Rep.wrA hp ha r⟩⟩
/-- the list is done: it is kept apart no more -/
theorem Grow.unres {μ1 : Mu} {H1 : Hp} (g : Grow μ1 H1 μ H) (h1 : p ∉ μ1.rs) : Grow μ1 H1 (μ.unres p) H :=
  ⟨g.tup, fun a xs h n => by
    obtain ⟨h2, n2⟩ := g.lst a xs h n
    refine ⟨h2, fun z => n2 ?_⟩
    rcases z with z | z
    · exact .inl z
    · exact .inr (List.mem_filter.mp z).1,
   g.ref, fun a h => by
    obtain ⟨h2, e2⟩ := g.rs a h
    exact ⟨List.mem_filter.mpr ⟨h2, by simp; exact fun e => h1 (by rw [← e]; exact h)⟩, e2⟩⟩
mutual
theorem Rep.unres (hn : ∀ fs, H p ≠ some (.xd fs)) : ∀ {d : D} {v : V}, Rep K μ H d v → Rep K (μ.unres p) H d v
  | _, _, .non => .non
  | _, _, .bl b => .bl b
  | _, _, .int i => .int i
  | _, _, .str x => .str x
  | _, _, .tup h r => .tup h (RepAll.unres hn r)
  | _, _, .lst h r => .lst (h.imp (fun z => ⟨z.1, fun q => z.2 (q.imp id fun q => (List.mem_filter.mp q).1)⟩) id) (RepAll.unres hn r)
  | _, _, .exc h r => .exc (h.keep fun b fs b1 b2 => ⟨List.mem_filter.mpr ⟨b1, by simp; exact fun e => hn fs (by rw [← e]; exact b2)⟩, b2⟩) (RepAll.unres hn r)
  | _, _, .ref h => .ref h
theorem RepAll.unres (hn : ∀ fs, H p ≠ some (.xd fs)) : ∀ {ds : List D} {vs : List V}, RepAll K μ H ds vs → RepAll K (μ.unres p) H ds vs
  | _, _, .nil => .nil
  | _, _, .cons r t => .cons (Rep.unres hn r) (RepAll.unres hn t)
end
theorem Sim.unres {S : Store} (hn : ∀ fs, H p ≠ some (.xd fs)) (m : Sim K μ S H) : Sim K (μ.unres p) S H :=
  ⟨m.len, m.inj, fun n a h => let ⟨h1, h2⟩ := m.trk n a h; ⟨h1, fun q => h2 (List.mem_filter.mp q).1⟩, fun a h => m.trs a (List.mem_filter.mp h).1,
    fun n ds h hne => let ⟨a, xs, h1, h2, h3⟩ := m.obj n ds h hne; ⟨a, xs, h1, h2, h3.mapR fun d v r => Rep.unres hn r⟩⟩
end

section
variable {X : Cx} {elt tg iter : Expr} {ifs : List Expr} {scope : Scope} {own : List (Str × Nat)} {pos spos : Pos} {wi : WI} {g : Tg} {wt : WT} {we : WE}
/-- the reading of a comprehension, whatever is done with the new list -/
theorem comp_gen {K : PySem.W.Frag} {vs : List Nat} (hsl : ∀ i ∈ g.slots, i ∈ vs) {σ : L2.St} {H : Hp} {Q : VK} {μ : Mu} {S : Store} {ρ : Env} {Q0 : D → Store → Prop} (m : Sim K μ S H) (en : EnvR K μ H ρ σ) (q : wComp wi g wt we vs ρ S Q0)
    (fin : ∀ μ1 H1 Dl acc S' μ' H' ys, Grow μ H μ1 H1 → H1 Dl = none → Dl ∉ μ1.rs → Q0 (.lst acc) S' → Grow μ1 H1 μ' H' → Sim K μ' S' H' → Dl ∈ μ'.rs → H' Dl = some (.lst ys) → RepAll K μ' H' acc ys → Q (.ref Dl) H') : tLc (LI K wi) (g.toV K) (LT K wt) (LE K we) vs σ H Q := by
  refine ⟨μ, S, ρ, _, m, en, q, fun xs G S1 q1 μ1 J H1 g1 m1 w1 => fun Dl hD => ?_⟩
  have nD : Dl ∉ μ1.rs := fun z => m1.notin hD (.inr z)
  have nDs : ¬ μ1.has Dl := m1.notin hD
  refine ⟨fun i n H' => n = xs.length - i ∧ i ≤ xs.length ∧ ∃ μ' S' acc ys, Grow μ1 H1 μ' H' ∧ Sim K μ' S' H' ∧ Dl ∈ μ'.rs ∧ H' Dl = some (.lst ys) ∧ RepAll K μ' H' acc ys ∧ compR g wt we G (wipeD ρ vs) Q0 (xs.drop i) acc S',
    ⟨xs.length, by simp, Nat.zero_le _, μ1.res Dl, S1, [], [], .res hD, m1.res hD, List.mem_cons_self, upd_same, .nil, by simpa using q1⟩, ?_⟩
  rintro i n H' ⟨rfl, hi, μ', S', acc, ys, g2, m2, hDl, hH, r2, f⟩
  have hG := compR_G f
  by_cases hlt : i < xs.length
  · refine .inr ⟨w1.go i μ' H' S' hlt g2 m2 hG, fun H2 => ∃ μ2 S2 acc2 ys2, Grow μ1 H1 μ2 H2 ∧ Sim K μ2 S2 H2 ∧ Dl ∈ μ2.rs ∧ H2 Dl = some (.lst ys2) ∧ RepAll K μ2 H2 acc2 ys2 ∧ compR g wt we G (wipeD ρ vs) Q0 (xs.drop (i + 1)) acc2 S2, fun H2 h => ⟨xs.length - (i + 1), by omega, rfl, hlt, h⟩, fun x H3 y => ?_⟩
    obtain ⟨d, hd, g3, m3, r3⟩ := w1.yld i μ' H' S' x H3 hlt g2 m2 hG y
    rw [drop_cons hd] at f
    obtain ⟨_, f⟩ := f
    split at f
    · rename_i ρ3 hb3
      have en1 := wipe_R (en.grow (g1.trans (g2.trans g3))) vs
      refine bind_ok vs g d (wipeD ρ vs) ρ3 x (wipe σ vs) _ hb3 r3 en1 fun σ3 e3 hw3 => ⟨?_, ?_⟩
      · have e : wipe σ3 vs = wipe (wipe σ vs) vs := hw3 hsl
        rw [e]
        apply List.ext_getElem?
        intro j
        by_cases hj : ∃ z, (wipe (wipe σ vs) vs)[j]? = some (some z)
        · obtain ⟨z, hz⟩ := hj
          rw [hz, (wipe_some hz).1]
        · by_cases hj2 : ∃ z, (wipe σ vs)[j]? = some (some z)
          · obtain ⟨z, hz⟩ := hj2
            have hn := (wipe_some hz).2
            exact absurd ⟨z, by rw [wipe_out hn]; exact hz⟩ hj
          · have l1 := wipe_length (wipe σ vs) vs
            rcases h1 : (wipe (wipe σ vs) vs)[j]? with _ | (_ | z)
            · have : (wipe σ vs).length ≤ j := by rw [← l1]; exact List.getElem?_eq_none_iff.mp h1
              rw [List.getElem?_eq_none this]
            · rcases h2 : (wipe σ vs)[j]? with _ | (_ | z)
              · have : (wipe σ vs).length ≤ j := List.getElem?_eq_none_iff.mp h2
                rw [List.getElem?_eq_none (by rw [l1]; exact this)] at h1
                cases h1
              · rfl
              · exact absurd ⟨z, h2⟩ hj2
            · exact absurd ⟨z, h1⟩ hj
      · have hH3 : H3 Dl = some (.lst ys) := (g3.rs Dl hDl).2 _ hH
        refine LT.run m3 e3 f fun k S4 μ4 H4 q4 g4 m4 e4 => ?_
        obtain ⟨hDl4, hk4⟩ := g4.rs Dl hDl
        have hH4 := hk4 _ hH3
        have r4 := r2.grow (g3.trans g4)
        cases k with
        | true =>
          refine LE.run m4 e4 q4 fun dd S5 μ5 v H5 q5 g5 m5 e5 r5 => ?_
          obtain ⟨hDl5, hk5⟩ := g5.rs Dl hDl4
          have hH5 := hk5 _ hH4
          have ra := (r4.grow g5).append (.one r5)
          exact ⟨ys, hH5, by rw [← r2.length]; exact q5.1, μ5, S5, acc ++ [dd], ys ++ [v], (g2.trans (g3.trans (g4.trans g5))).wr hDl5 hH5 nD hD, m5.wr hDl5 hH5, hDl5, upd_same, ra.wrA hDl5 hH5, q5.2⟩
        | false => exact ⟨μ4, S4, acc, ys, g2.trans (g3.trans g4), m4, hDl4, hH4, r4, q4⟩
    · exact f.elim
  · have e : i = xs.length := by omega
    subst e
    rw [List.drop_of_length_le (Nat.le_refl _)] at f
    exact .inl ⟨w1.stop μ' H' S' g2 m2 hG, fin μ1 H1 Dl acc S' μ' H' ys g1 hD nD f.2 g2 m2 hDl hH r2⟩
theorem comp_ok {K : PySem.W.Frag} {vs : List Nat} (hsl : ∀ i ∈ g.slots, i ∈ vs) {σ : L2.St} {H : Hp} {Q : VK} (h : LE K (wComp wi g wt we vs) σ H Q) : tLc (LI K wi) (g.toV K) (LT K wt) (LE K we) vs σ H Q := by
  obtain ⟨μ, S, ρ, Q0, m, en, q, p⟩ := h
  refine comp_gen hsl m en q fun μ1 H1 Dl acc S' μ' H' ys g1 hD nD q' g2 m2 hDl hH r2 => ?_
  refine p _ S' q' (μ'.unres Dl) _ H' (g1.trans (g2.unres nD)) (m2.unres (nxd hH)) (.lst (.inl ⟨.inl hH, fun z => ?_⟩) (r2.unres (nxd hH)))
  rcases z with z | z
  · obtain ⟨n, hn⟩ := List.getElem?_of_mem z
    exact (m2.trk n Dl hn).2 hDl
  · have := (List.mem_filter.mp z).2
    simp at this
omit [WW] in
/-- a comprehension whose list is an object of the store -/
def wCompN (wi : WI) (g : Tg) (wt : WT) (we : WE) (vs : List Nat) : WE := fun ρ S Q => wComp wi g wt we vs ρ S fun d S1 => match d with | .lst ds => ds.length ≤ sizeLine ∧ Q (.ref S1.length) (S1 ++ [.lst ds]) | _ => False
def Mu.join (μ : Mu) (p : Addr) : Mu := (μ.unres p).add p
theorem join_has {μ : Mu} {p a : Addr} (n : ¬ μ.has a) (hp : p ∈ μ.rs) : ¬ (μ.join p).has a := fun z => by
  rcases z with z | z
  · rcases List.mem_append.mp (show some a ∈ μ.sl ++ [some p] from z) with z | z
    · exact n (.inl z)
    · have e : a = p := by simpa using z
      exact n (.inr (by rw [e]; exact hp))
  · exact n (.inr (List.mem_filter.mp z).1)
theorem join_get {μ : Mu} {p a : Addr} {n : Nat} (h : μ.sl[n]? = some (some a)) : (μ.join p).sl[n]? = some (some a) := by
  show (μ.sl ++ [some p])[n]? = _
  rw [List.getElem?_append_left (List.getElem?_eq_some_iff.mp h).1]
  exact h
mutual
theorem Rep.join {K : PySem.W.Frag} {μ : Mu} {H : Hp} {p : Addr} (hn : ∀ fs, H p ≠ some (.xd fs)) (hp : p ∈ μ.rs) : ∀ {d : D} {v : V}, Rep K μ H d v → Rep K (μ.join p) H d v
  | _, _, .non => .non
  | _, _, .bl b => .bl b
  | _, _, .int i => .int i
  | _, _, .str x => .str x
  | _, _, .tup h r => .tup h (RepAll.join hn hp r)
  | _, _, .lst h r => .lst (h.imp (fun z => ⟨z.1, join_has z.2 hp⟩) id) (RepAll.join hn hp r)
  | _, _, .ref h => .ref (join_get h)
  | _, _, .exc h r => .exc (h.keep fun b fs b1 b2 => ⟨List.mem_filter.mpr ⟨b1, by simp; exact fun e => hn fs (by rw [← e]; exact b2)⟩, b2⟩) (RepAll.join hn hp r)
theorem RepAll.join {K : PySem.W.Frag} {μ : Mu} {H : Hp} {p : Addr} (hn : ∀ fs, H p ≠ some (.xd fs)) (hp : p ∈ μ.rs) : ∀ {ds : List D} {vs : List V}, RepAll K μ H ds vs → RepAll K (μ.join p) H ds vs
  | _, _, .nil => .nil
  | _, _, .cons r t => .cons (Rep.join hn hp r) (RepAll.join hn hp t)
end
theorem Sim.join {K : PySem.W.Frag} {μ : Mu} {H : Hp} {p : Addr} {S : Store} {ds : List D} {xs : List V} (m : Sim K μ S H) (hp : p ∈ μ.rs) (ha : H p = some (.lst xs)) (r : RepAll K μ H ds xs) : Sim K (μ.join p) (S ++ [.lst ds]) H := by
  have back : ∀ (i : Nat) (a : Addr), (μ.join p).sl[i]? = some (some a) → (μ.sl[i]? = some (some a) ∧ a ≠ p) ∨ (i = μ.sl.length ∧ a = p) := fun i a h => by
    replace h : (μ.sl ++ [some p])[i]? = some (some a) := h
    by_cases hi : i < μ.sl.length
    · rw [List.getElem?_append_left hi] at h
      refine .inl ⟨h, fun e => ?_⟩
      subst e
      exact (m.trk i a h).2 hp
    · rw [List.getElem?_append_right (by omega)] at h
      have e := (List.getElem?_eq_some_iff.mp h)
      obtain ⟨hl, e⟩ := e
      have : i - μ.sl.length = 0 := by simp at hl; omega
      refine .inr ⟨by omega, ?_⟩
      simp [this] at e
      exact e.symm
  refine ⟨by simp [Mu.join, Mu.add, Mu.unres, m.len], fun i j a h1 h2 => ?_, fun n a h => ?_, fun a h => m.trs a (List.mem_filter.mp h).1, fun n es h hne => ?_⟩
  · rcases back i a h1 with ⟨x, nx⟩ | ⟨x, nx⟩ <;> rcases back j a h2 with ⟨y, ny⟩ | ⟨y, ny⟩
    · exact m.inj i j a x y
    · exact absurd ny nx
    · exact absurd nx ny
    · omega
  · rcases back n a h with ⟨x, nx⟩ | ⟨_, nx⟩
    · obtain ⟨h1, h2⟩ := m.trk n a x
      exact ⟨h1, fun z => h2 (List.mem_filter.mp z).1⟩
    · subst nx
      exact ⟨⟨_, ha⟩, fun z => by have := (List.mem_filter.mp z).2; simp at this⟩
  · by_cases hn : n < S.length
    · rw [List.getElem?_append_left hn] at h
      obtain ⟨a, ys, h1, h2, h3⟩ := m.obj n es h hne
      exact ⟨a, ys, join_get h1, h2, h3.mapR fun d v r => Rep.join (nxd ha) hp r⟩
    · rw [List.getElem?_append_right (by omega)] at h
      have e := (List.getElem?_eq_some_iff.mp h)
      obtain ⟨hl, e⟩ := e
      have q : n - S.length = 0 := by simp at hl; omega
      simp [q] at e
      subst e
      refine ⟨p, _, ?_, ha, xs, rfl, r.join (nxd ha) hp⟩
      show (μ.sl ++ [some p])[n]? = _
      rw [List.getElem?_append_right (by rw [m.len]; omega)]
      have q' : n - μ.sl.length = 0 := by rw [m.len]; omega
      rw [q']
      rfl
theorem Grow.join {μ μ1 : Mu} {H H1 : Hp} {p : Addr} (g : Grow μ1 H1 μ H) (hp : p ∈ μ.rs) (h1 : p ∉ μ1.rs) : Grow μ1 H1 (μ.join p) H :=
  ⟨g.tup, fun a xs h n => let ⟨h2, n2⟩ := g.lst a xs h n; ⟨h2, join_has n2 hp⟩, fun n a h => join_get (g.ref n a h), fun a h => by
    obtain ⟨h2, e2⟩ := g.rs a h
    exact ⟨List.mem_filter.mpr ⟨h2, by simp; exact fun e => h1 (by rw [← e]; exact h)⟩, e2⟩⟩
theorem compN_ok {K : PySem.W.Frag} {vs : List Nat} (hsl : ∀ i ∈ g.slots, i ∈ vs) {σ : L2.St} {H : Hp} {Q : VK} (h : LE K (wCompN wi g wt we vs) σ H Q) : tLc (LI K wi) (g.toV K) (LT K wt) (LE K we) vs σ H Q := by
  obtain ⟨μ, S, ρ, Q0, m, en, q, p⟩ := h
  refine comp_gen hsl m en q fun μ1 H1 Dl acc S' μ' H' ys g1 hD nD q' g2 m2 hDl hH r2 => ?_
  exact p _ _ q'.2 (μ'.join Dl) _ H' (g1.trans (g2.join hDl nD)) (m2.join hDl hH r2) (.ref (by
    show (μ'.sl ++ [some Dl])[S'.length]? = _
    rw [← m2.len]
    simp))
theorem se_lc {vs : List Nat} (hc : X.calm = true) (hN : X.N.Nodup) (hi : SI X tg iter wi) (ok : BlkOk X.N X.env.scope scope own) (hv : own.map (·.2) = vs) (hsl : ∀ i ∈ g.slots, i ∈ vs)
    (hg : ∀ (s : Shared) (H : Hp) (C : Addr) (cl : List (Str × Addr)) (fp : List Addr), SG (X.blk s H scope (compEnvC scope cl C X.env) fp) tg g) (ht : ∀ (s : Shared) (H : Hp) (C : Addr) (cl : List (Str × Addr)) (fp : List Addr), STs (X.blk s H scope (compEnvC scope cl C X.env) fp) ifs wt)
    (he : ∀ (s : Shared) (H : Hp) (C : Addr) (cl : List (Str × Addr)) (fp : List Addr), SE (X.blk s H scope (compEnvC scope cl C X.env) fp) elt we) (hs : ∀ x, foldedSetIterable iter X.env x = pure x := by intro _; rfl) :
    SE X (.ListComp elt [⟨tg, iter, ifs, 0⟩] scope pos) (wComp wi g wt we vs) := by
  subst hv
  exact pe_weak (pe_lc hc hN hi ok hg ht he hs) fun σ H Q h => comp_ok hsl h
theorem se_lcN {vs : List Nat} (hc : X.calm = true) (hN : X.N.Nodup) (hi : SI X tg iter wi) (ok : BlkOk X.N X.env.scope scope own) (hv : own.map (·.2) = vs) (hsl : ∀ i ∈ g.slots, i ∈ vs)
    (hg : ∀ (s : Shared) (H : Hp) (C : Addr) (cl : List (Str × Addr)) (fp : List Addr), SG (X.blk s H scope (compEnvC scope cl C X.env) fp) tg g) (ht : ∀ (s : Shared) (H : Hp) (C : Addr) (cl : List (Str × Addr)) (fp : List Addr), STs (X.blk s H scope (compEnvC scope cl C X.env) fp) ifs wt)
    (he : ∀ (s : Shared) (H : Hp) (C : Addr) (cl : List (Str × Addr)) (fp : List Addr), SE (X.blk s H scope (compEnvC scope cl C X.env) fp) elt we) (hs : ∀ x, foldedSetIterable iter X.env x = pure x := by intro _; rfl) :
    SE X (.ListComp elt [⟨tg, iter, ifs, 0⟩] scope pos) (wCompN wi g wt we vs) := by
  subst hv
  exact pe_weak (pe_lc hc hN hi ok hg ht he hs) fun σ H Q h => compN_ok hsl h
end
end DL

set_option maxHeartbeats 4000000
namespace DL
open PySem PySem.Spec PyProof.Rows L2
variable [WW]

/-! ### what a value names of the store -/
omit [WW] in
mutual
def closedD (n : Nat) : D → Prop
  | .tup ds => closedL n ds
  | .lst ds => closedL n ds
  | .ref m => m < n
  | .exc _ _ _ ds => closedL n ds
  | _ => True
def closedL (n : Nat) : List D → Prop
  | [] => True
  | d :: ds => closedD n d ∧ closedL n ds
end
omit [WW] in
def closedKV (n : Nat) (kvs : List (D × D)) : Prop := ∀ p ∈ kvs, closedD n p.1 ∧ closedD n p.2
omit [WW] in
def closedO (n : Nat) : Ob → Prop
  | .lst ds => closedL n ds
  | .dA kvs => ∀ p ∈ kvs, closedD n p.2
  | .dT kvs => closedKV n kvs
  | .fA _ _ kvs => ∀ p ∈ kvs, closedD n p.2
  | .fT _ _ kvs => closedKV n kvs
  | .gone => True
omit [WW] in
def closedS (S : Store) : Prop := ∀ o ∈ S, closedO S.length o
omit [WW] in
mutual
/-- at the end of a def: its own lists become values -/
inductive Frz (n0 : Nat) (S : Store) : D → D → Prop
  | non : Frz n0 S .non .non
  | bl (b : Bool) : Frz n0 S (.bl b) (.bl b)
  | int (i : Int) : Frz n0 S (.int i) (.int i)
  | str (x : Str) : Frz n0 S (.str x) (.str x)
  | tup {ds es : List D} : FrzL n0 S ds es → Frz n0 S (.tup ds) (.tup es)
  | lst {ds es : List D} : FrzL n0 S ds es → Frz n0 S (.lst ds) (.lst es)
  | old {n : Nat} : n < n0 → Frz n0 S (.ref n) (.ref n)
  | new {n : Nat} {ds es : List D} : n0 ≤ n → S[n]? = some (.lst ds) → FrzL n0 S ds es → Frz n0 S (.ref n) (.lst es)
inductive FrzL (n0 : Nat) (S : Store) : List D → List D → Prop
  | nil : FrzL n0 S [] []
  | cons {d e : D} {ds es : List D} : Frz n0 S d e → FrzL n0 S ds es → FrzL n0 S (d :: ds) (e :: es)
end
omit [WW] in
mutual
def pureD : D → Prop
  | .tup ds => pureL ds
  | .lst ds => pureL ds
  | .ref _ => False
  | .exc _ _ _ _ => False
  | _ => True
def pureL : List D → Prop
  | [] => True
  | d :: ds => pureD d ∧ pureL ds
end
omit [WW] in
mutual
theorem frz_pure {n0 : Nat} {S : Store} : ∀ {d : D}, pureD d → Frz n0 S d d
  | .non, _ => .non
  | .bl b, _ => .bl b
  | .int i, _ => .int i
  | .str x, _ => .str x
  | .tup ds, h => .tup (frzL_pure (by simpa [pureD] using h))
  | .lst ds, h => .lst (frzL_pure (by simpa [pureD] using h))
  | .ref n, h => by simp [pureD] at h
  | .exc _ _ _ _, h => by simp [pureD] at h
theorem frzL_pure {n0 : Nat} {S : Store} : ∀ {ds : List D}, pureL ds → FrzL n0 S ds ds
  | [], _ => .nil
  | d :: ds, h => by
    have h' : pureD d ∧ pureL ds := by simpa [pureL] using h
    exact .cons (frz_pure h'.1) (frzL_pure h'.2)
end
omit [WW] in
theorem pureL_of {ds : List D} (h : ∀ d, d ∈ ds → pureD d) : pureL ds := by
  induction ds with
  | nil => simp [pureL]
  | cons d ds ih => exact by simpa [pureL] using ⟨h d (by simp), ih fun e he => h e (by simp [he])⟩
omit [WW] in
theorem pure_of_L {ds : List D} (h : pureL ds) : ∀ d, d ∈ ds → pureD d := by
  induction ds with
  | nil => intro d hd; cases hd
  | cons e es ih =>
    have h' : pureD e ∧ pureL es := by simpa [pureL] using h
    intro d hd
    rcases List.mem_cons.mp hd with rfl | hd
    · exact h'.1
    · exact ih h'.2 d hd
omit [WW] in
def Exit (n0 : Nat) (d : D) (S1 : Store) (Q0 : D → Store → Prop) : Prop :=
  Q0 d S1 ∨ ∃ S' G d', S1 = S' ++ G ∧ S'.length = n0 ∧ (∀ o ∈ S', closedO n0 o) ∧ Frz n0 S1 d d' ∧ Q0 d' S'
omit [WW] in
theorem Exit.all {n0 : Nat} {d : D} {S1 : Store} {Q0 : D → Store → Prop} (h : Q0 d S1) : Exit n0 d S1 Q0 := .inl h
omit [WW] in
/-- the store is as it was, and some garbage -/
theorem Exit.same {d d' : D} {S G : Store} {Q0 : D → Store → Prop} (hc : closedS S) (f : Frz S.length (S ++ G) d d') (h : Q0 d' S) : Exit S.length d (S ++ G) Q0 := .inr ⟨S, G, d', rfl, rfl, hc, f, h⟩
omit [WW] in
theorem Exit.val {d : D} {S G : Store} {Q0 : D → Store → Prop} (hc : closedS S) (f : pureD d) (h : Q0 d S) : Exit S.length d (S ++ G) Q0 := .same hc (frz_pure f) h

section
variable {K : PySem.W.Frag} {μ : Mu} {H : Hp} {S : Store}
mutual
theorem Rep.closed : ∀ {d : D} {v : V}, Rep K μ H d v → closedD μ.sl.length d
  | _, _, .non => by simp [closedD]
  | _, _, .bl b => by simp [closedD]
  | _, _, .int i => by simp [closedD]
  | _, _, .str x => by simp [closedD]
  | _, _, .tup h r => by simpa [closedD] using RepAll.closed r
  | _, _, .lst h r => by simpa [closedD] using RepAll.closed r
  | _, _, .ref h => by
    simp only [closedD]
    exact (List.getElem?_eq_some_iff.mp h).1
  | _, _, .exc _ r => by simpa [closedD] using RepAll.closed r
theorem RepAll.closed : ∀ {ds : List D} {vs : List V}, RepAll K μ H ds vs → closedL μ.sl.length ds
  | _, _, .nil => by simp [closedL]
  | _, _, .cons r t => by
    simp only [closedL]
    exact ⟨Rep.closed r, RepAll.closed t⟩
end
def Mu.cut (μ : Mu) (n : Nat) : Mu := ⟨μ.sl.take n, μ.rs⟩
omit [WW] in
theorem cut_has {n : Nat} {a : Addr} (h : (μ.cut n).has a) : μ.has a := h.imp (fun z => List.mem_of_mem_take z) id
mutual
theorem Rep.cut {n0 : Nat} : ∀ {d : D} {v : V}, Rep K μ H d v → closedD n0 d → Rep K (μ.cut n0) H d v
  | _, _, .non, _ => .non
  | _, _, .bl b, _ => .bl b
  | _, _, .int i, _ => .int i
  | _, _, .str x, _ => .str x
  | _, _, .tup h r, c => .tup h (RepAll.cut r (by simpa [closedD] using c))
  | _, _, .lst h r, c => .lst (h.imp (fun z => ⟨z.1, fun q => z.2 (cut_has q)⟩) id) (RepAll.cut r (by simpa [closedD] using c))
  | .ref n, _, .ref h, c => .ref (by
      have c' : n < n0 := by simpa [closedD] using c
      show (μ.sl.take n0)[n]? = _
      rw [List.getElem?_take, if_pos c']
      exact h)
  | _, _, .exc h r, c => .exc h (RepAll.cut r (by simpa [closedD] using c))
theorem RepAll.cut {n0 : Nat} : ∀ {ds : List D} {vs : List V}, RepAll K μ H ds vs → closedL n0 ds → RepAll K (μ.cut n0) H ds vs
  | _, _, .nil, _ => .nil
  | d :: ds, _, .cons r t, c => by
    have c' : closedD n0 d ∧ closedL n0 ds := by simpa [closedL] using c
    exact .cons (Rep.cut r c'.1) (RepAll.cut t c'.2)
end
theorem RepKV.cut {n0 : Nat} : ∀ {kvs : List (D × D)} {xs : List (NestedKey × V × V)}, RepKV K μ H kvs xs → closedKV n0 kvs → RepKV K (μ.cut n0) H kvs xs
  | _, _, .nil, _ => .nil
  | _, _, .cons a b c t, h => .cons a (b.cut (h _ List.mem_cons_self).1) (c.cut (h _ List.mem_cons_self).2) (RepKV.cut t fun p hp => h p (List.mem_cons_of_mem _ hp))
theorem RepK.cut {n0 : Nat} : ∀ {kvs : List (Key × D)} {xs : List (Key × V)}, RepK K μ H kvs xs → (∀ p ∈ kvs, closedD n0 p.2) → RepK K (μ.cut n0) H kvs xs
  | _, _, .nil, _ => .nil
  | _, _, .cons c t, h => .cons (c.cut (h _ List.mem_cons_self)) (RepK.cut t fun p hp => h p (List.mem_cons_of_mem _ hp))
theorem RepK.closed : ∀ {kvs : List (Key × D)} {xs : List (Key × V)}, RepK K μ H kvs xs → ∀ p ∈ kvs, closedD μ.sl.length p.2
  | _, _, .nil, _, h => by cases h
  | _, _, .cons c t, p, h => by
    rcases List.mem_cons.mp h with rfl | h
    · exact c.closed
    · exact RepK.closed t p h
theorem ObR.cut {n0 : Nat} {w : World} {a : Addr} : ∀ {o : Ob} {u : HO}, ObR w K μ H a o u → closedO n0 o → ObR w K (μ.cut n0) H a o u
  | .lst _, _, ⟨xs, e, r⟩, c => ⟨xs, e, r.cut c⟩
  | .dA _, _, ⟨xs, e, r⟩, c => ⟨xs, e, r.cut c⟩
  | .dT _, _, ⟨xs, e, r⟩, c => ⟨xs, e, r.cut c⟩
  | .fA _ _ _, _, ⟨z, xs, e, r⟩, c => ⟨z, xs, e, r.cut c⟩
  | .fT _ _ _, _, ⟨z, xs, e, r⟩, c => ⟨z, xs, e, r.cut c⟩
  | .gone, _, _, _ => True.intro
theorem RepKV.closed : ∀ {kvs : List (D × D)} {xs : List (NestedKey × V × V)}, RepKV K μ H kvs xs → closedKV μ.sl.length kvs
  | _, _, .nil, _, h => by cases h
  | _, _, .cons a b c t, p, h => by
    rcases List.mem_cons.mp h with rfl | h
    · exact ⟨b.closed, c.closed⟩
    · exact RepKV.closed t p h
theorem ObR.closed {w : World} {a : Addr} : ∀ {o : Ob} {u : HO}, ObR w K μ H a o u → closedO μ.sl.length o
  | .lst _, _, ⟨xs, e, r⟩ => r.closed
  | .dA _, _, ⟨xs, e, r⟩ => r.closed
  | .dT _, _, ⟨xs, e, r⟩ => r.closed
  | .fA _ _ _, _, ⟨z, xs, e, r⟩ => r.closed
  | .fT _ _ _, _, ⟨z, xs, e, r⟩ => r.closed
  | .gone, _, _ => True.intro
theorem Sim.closed (m : Sim K μ S H) : closedS S := fun o h => by
  obtain ⟨n, hn⟩ := List.getElem?_of_mem h
  rcases Classical.em (o = .gone) with rfl | hne
  · exact True.intro
  · obtain ⟨a, u, h1, h2, h3⟩ := m.obj n o hn hne
    rw [← m.len]
    exact h3.closed
theorem Sim.cut {S1 G : Store} (m : Sim K μ (S1 ++ G) H) (c : ∀ o ∈ S1, closedO S1.length o) : Sim K (μ.cut S1.length) S1 H := by
  have hl := m.len
  have gt : ∀ (n : Nat) (a : Addr), (μ.sl.take S1.length)[n]? = some (some a) → μ.sl[n]? = some (some a) := fun n a h => by
    rw [List.getElem?_take] at h
    split at h
    · exact h
    · cases h
  refine ⟨by simp [Mu.cut] at hl ⊢; omega, fun i j a h1 h2 => m.inj i j a (gt i a h1) (gt j a h2), fun n a h => m.trk n a (gt n a h), m.trs, fun n ds h hne => ?_⟩
  have hn : n < S1.length := (List.getElem?_eq_some_iff.mp h).1
  obtain ⟨a, xs, h1, h2, h3⟩ := m.obj n ds (by rw [List.getElem?_append_left hn]; exact h) hne
  refine ⟨a, xs, ?_, h2, h3.cut (c ds (List.mem_of_getElem? h))⟩
  show (μ.sl.take S1.length)[n]? = _
  rw [List.getElem?_take, if_pos hn]
  exact h1
mutual
theorem Rep.frz {n0 : Nat} (m : Sim K μ S H) : ∀ {d e : D} {v : V}, Frz n0 S d e → Rep K μ H d v → Rep K (μ.cut n0) H e v
  | _, _, _, .non, .non => .non
  | _, _, _, .bl b, .bl _ => .bl b
  | _, _, _, .int i, .int _ => .int i
  | _, _, _, .str x, .str _ => .str x
  | _, _, _, .tup f, .tup h r => .tup h (RepAll.frz m f r)
  | _, _, _, .lst f, .lst h r => .lst (h.imp (fun z => ⟨z.1, fun q => z.2 (cut_has q)⟩) id) (RepAll.frz m f r)
  | _, _, _, .old hn, .ref h => .ref (by
      show (μ.sl.take n0)[_]? = _
      rw [List.getElem?_take, if_pos hn]
      exact h)
  | _, _, v, .new (n := n) hn hS f, r => by
    obtain ⟨a, xs, rfl, h1, h2, h3⟩ := m.at hS r
    refine .lst (.inl ⟨.inl h2, fun q => ?_⟩) (RepAll.frz m f h3)
    rcases q with q | q
    · obtain ⟨j, hj⟩ := List.getElem?_of_mem (show some a ∈ μ.sl.take n0 from q)
      rw [List.getElem?_take] at hj
      split at hj
      · have := m.inj j n a hj h1
        omega
      · cases hj
    · exact (m.trk n a h1).2 q
theorem RepAll.frz {n0 : Nat} (m : Sim K μ S H) : ∀ {ds es : List D} {vs : List V}, FrzL n0 S ds es → RepAll K μ H ds vs → RepAll K (μ.cut n0) H es vs
  | _, _, _, .nil, .nil => .nil
  | _, _, _, .cons f fs, .cons r t => .cons (Rep.frz m f r) (RepAll.frz m fs t)
end
theorem Grow.cut {μ0 : Mu} {H0 : Hp} (g : Grow μ0 H0 μ H) : Grow μ0 H0 (μ.cut μ0.sl.length) H :=
  ⟨g.tup, fun a xs h n => let ⟨h1, n1⟩ := g.lst a xs h n; ⟨h1, fun q => n1 (cut_has q)⟩, fun n a h => by
    show (μ.sl.take μ0.sl.length)[n]? = _
    rw [List.getElem?_take, if_pos (List.getElem?_eq_some_iff.mp h).1]
    exact g.ref n a h, g.rs⟩
/-- the end of a def's body -/
theorem exit_ok {μ0 : Mu} {H0 : Hp} {S0 S1 : Store} {d : D} {v : V} {Q0 : D → Store → Prop} {Q : VK} (m0 : Sim K μ0 S0 H0) (g : Grow μ0 H0 μ H) (m : Sim K μ S1 H) (r : Rep K μ H d v) (p : Post K μ0 H0 Q0 Q) (h : Exit S0.length d S1 Q0) : Q v H := by
  rcases h with h | ⟨S', G, d', rfl, hl, c, f, h⟩
  · exact p d S1 h μ v H g m r
  · have g' := g.cut
    rw [m0.len, ← hl] at g'
    rw [← hl] at f
    exact p d' S' h _ v H g' (m.cut (by rw [hl]; exact c)) (r.frz m f)
end

/-! ### defs -/
omit [WW] in
abbrev Con := List D → Store → (D → Store → Prop) → Prop
def SpD (K : PySem.W.Frag) (np : Nat) (Γ : Con) : Sp := fun vs H Q _ => ∃ μ S ds Q0, Sim K μ S H ∧ RepAll K μ H ds vs ∧ ds.length = np ∧ Γ ds S Q0 ∧ Post K μ H Q0 Q
abbrev FnD (P : Program) (w : World) (K : PySem.W.Frag) (mg : Str → Option Value) (base : Heap) (k : Nat) (f : Addr) (fd : FuncData) (ps : List Str) (Γ : Con) : Prop := FnOk P w K mg base CX0 k f fd ps (SpD K ps.length Γ)
omit [WW] in
def wFn (Γ : Con) (n : Nat) (wr : WA) : WE := fun ρ S Q => wr ρ S fun ds S1 => ds.length = n ∧ Γ ds S1 Q
section
variable {X : Cx} {e : Expr} {es : List Expr} {wr : WA} {k : Nat} {f : Addr} {fd : FuncData} {ps : List Str} {Γ : Con} {x : Str} {p pos : Pos}
theorem se_call (F : FnD X.prog X.w X.K X.mg X.base k f fd ps Γ) (hr : Room k X.A) (hg : Gl X x) (hm : X.mg x = some (.ref f)) (hk : PySem.W.keepIn X.K (.ref f) = true) (hb : Binds X.K fd ps [])
    (ha : SA X (e :: es) wr) (hdb : (x == ("__debug__" : Str)) = false := by decide) (he : starEach (e :: es) X.env = (false, eval e X.env) :: starEach es X.env := by rfl) (hpl : (backTo pos (starEach es X.env)).any (·.1) = false := by rfl) :
    SE X (.Call (.Name x p) (e :: es) [] pos) (wFn Γ ps.length wr) := pe_weak (pe_call (E := E0) F hr hg hm hk hb .nil pass0 ha hdb he hpl) fun σ H Q ⟨μ, S, ρ, Q0, m, en, q, p⟩ => by
  refine LA.run m en q fun ds S1 μ1 vs H1 q1 g1 m1 e1 r1 => ?_
  rw [List.append_nil]
  exact ⟨μ1, S1, ds, Q0, m1, r1, q1.1, q1.2, p.go g1⟩
end
theorem start_R {K : PySem.W.Frag} {μ : Mu} {H : Hp} {N : List Str} {ds : List D} {vs : List V} (r : RepAll K μ H ds vs) : EnvR K μ H (ds.map some ++ List.replicate (N.length - ds.length) none) (L2.start N vs) := by
  have hl := r.length
  refine ⟨by simp [L2.start, hl], fun i d h => ?_⟩
  by_cases hi : i < ds.length
  · rw [List.getElem?_append_left (by simpa using hi), List.getElem?_map] at h
    cases q : ds[i]? with
    | none => rw [q] at h; cases h
    | some e =>
      rw [q] at h
      have e1 : e = d := Option.some.inj (Option.some.inj h)
      subst e1
      obtain ⟨v, h1, h2⟩ := r.get q
      refine ⟨v, ?_, h2⟩
      unfold L2.start
      rw [List.getElem?_append_left (by simp [← hl]; exact hi), List.getElem?_map, h1]
      rfl
  · rw [List.getElem?_append_right (by simpa using Nat.le_of_not_lt hi)] at h
    rw [List.getElem?_replicate] at h
    split at h <;> cases h
section
variable {P : Program} {w : World} {K : PySem.W.Frag} {mg : Str → Option Value} {base : Heap}
/-- THE RULE for a def: its body's reading by content keeps the contract -/
theorem fn_okD {x qual : Str} {st : Stmt} {f : Addr} {fd : FuncData} {N ps : List Str} {k : Nat} {Γ : Con} {wb : WS} (F : Fun K x qual st f fd) (Sc : FnScope N ps (defScope st))
    (hb : ∀ (cdv : Value) (A : Around) (outer : List PySem.Env) (s : Shared) (H : Hp) (E : XK), Room k (A.deeper (envOfC qual (defScope st) s.heap.objs.size f cdv)) →
      SSs (cxOf CX0 P w K mg base N qual (defScope st) f cdv A outer s H E).nox (defBody st) wb)
    (hw : ∀ (ds : List D) (S : Store) (Q0 : D → Store → Prop), ds.length = ps.length → closedS S → closedL S.length ds → Γ ds S Q0 →
      wb { nx := fun _ S1 => Exit S.length .non S1 Q0, rt := fun d S1 => Exit S.length d S1 Q0 } (ds.map some ++ List.replicate (N.length - ps.length) none) S) : FnD P w K mg base (k + 1) f fd ps Γ := by
  refine F.ok Sc (fun vs H Q E h => ?_) (fun cdv A outer s H vs Q E hr h => ?_)
  · obtain ⟨μ, S, ds, Q0, m, r, hl, _⟩ := h
    rw [← r.length, hl]
  · obtain ⟨μ, S, ds, Q0, m, r, hl, q, p⟩ := h
    refine ⟨_, hb cdv A outer s H E hr, ?_⟩
    have en := start_R (N := N) r
    rw [hl] at en
    have cl := r.closed
    rw [m.len] at cl
    refine ⟨μ, S, _, _, m, en, hw ds S Q0 hl m.closed cl q, ?_, ?_, ?_, ?_, ?_⟩
    · exact fun ρ' S' q' μ' σ' H' g' m' e' => exit_ok m g' m' .non p q'
    · exact fun d S' q' μ' v H' g' m' r' => exit_ok m g' m' r' p q'
    · exact fun ρ' S' q' => q'.elim
    · exact fun ρ' S' q' => q'.elim
    · exact .none
/-- a def of the law's kind: one list of ints, True -/
theorem law_sp {np : Nat} {Γ : Con} {H : Hp} {a : Addr} {ns : List Int} {E : XK} (h : Γ [.lst (ns.map .int)] [] (fun d _ => d = .bl true)) (hS : SqL K H a (ns.map V.int)) : SpD K 1 Γ [.ref a] H (fun v _ => v = .bl true) E := by
  refine ⟨⟨[], []⟩, [], [.lst (ns.map .int)], _, ⟨rfl, fun i j a h => by simp at h, fun n a h => by simp at h, fun a h => by simp at h, fun n ds h => by simp at h⟩, .one ?_, rfl, h, fun d S' q μ' v H' g m r => ?_⟩
  · exact .lst (hS.imp (fun z => ⟨z, fun q => by rcases q with q | q <;> simp at q⟩) id) (repInts ns)
  · subst q
    exact r.bl_inv
end
end DL
namespace DL
open PySem PySem.Spec PyProof.Rows L2
variable [WW]
section
variable {X : Cx} {elt tg iter : Expr} {ifs : List Expr} {scope : Scope} {own : List (Str × Nat)} {pos spos py : Pos} {wi : WI} {g : Tg} {wt : WT} {we : WE} {i : Nat} {y : Str}
/-- name = [..] -/
theorem ss_setLc {vs : List Nat} (hc : X.calm = true) (hN : X.N.Nodup) (hy : X.N[i]? = some y) (hyl : X.env.scope.names.lookup y = some .local)
    (hsw : swapsWith (.ListComp elt [⟨tg, iter, ifs, 0⟩] scope pos) (some (.Name y py)) spos.line X.env = pure true) (hi : SI X tg iter wi) (ok : BlkOk X.N X.env.scope scope own) (hv : own.map (·.2) = vs) (hsl : ∀ i ∈ g.slots, i ∈ vs)
    (hg : ∀ (s : Shared) (H : Hp) (C : Addr) (cl : List (Str × Addr)) (fp : List Addr), SG (X.blk s H scope (compEnvC scope cl C X.env) fp) tg g) (ht : ∀ (s : Shared) (H : Hp) (C : Addr) (cl : List (Str × Addr)) (fp : List Addr), STs (X.blk s H scope (compEnvC scope cl C X.env) fp) ifs wt)
    (he : ∀ (s : Shared) (H : Hp) (C : Addr) (cl : List (Str × Addr)) (fp : List Addr), SE (X.blk s H scope (compEnvC scope cl C X.env) fp) elt we) (hs : ∀ x, foldedSetIterable iter X.env x = pure x := by intro _; rfl) :
    SS X (.Assign [.Name y py] (.ListComp elt [⟨tg, iter, ifs, 0⟩] scope pos) spos) (wAsg (wComp wi g wt we vs) (.name i)) := by
  subst hv
  refine ps_weak (ps_setLc (g := g.toV X.K) (te := LE X.K we) (tt := LT X.K wt) hc hN hy hyl hsw hi ok hg ht he hs) fun D σ H ⟨μ, S, ρ, D0, m, en, q, p⟩ => ?_
  · refine comp_ok hsl ⟨μ, S, ρ, _, m, en, q, fun d S1 q1 μ1 v H1 g1 m1 r1 => ?_⟩
    have q1' : (match bindT (.name i) d ρ with | some ρ' => D0.nx ρ' S1 | none => False) := q1
    show D.nx (σ.set i (some v)) H1
    simp only [bindT] at q1'
    exact p.nx _ S1 q1' μ1 _ H1 g1 m1 ((en.grow g1).set r1)
/-- name = [..], an object of the store -/
theorem ss_setLcN {vs : List Nat} (hc : X.calm = true) (hN : X.N.Nodup) (hy : X.N[i]? = some y) (hyl : X.env.scope.names.lookup y = some .local)
    (hsw : swapsWith (.ListComp elt [⟨tg, iter, ifs, 0⟩] scope pos) (some (.Name y py)) spos.line X.env = pure true) (hi : SI X tg iter wi) (ok : BlkOk X.N X.env.scope scope own) (hv : own.map (·.2) = vs) (hsl : ∀ i ∈ g.slots, i ∈ vs)
    (hg : ∀ (s : Shared) (H : Hp) (C : Addr) (cl : List (Str × Addr)) (fp : List Addr), SG (X.blk s H scope (compEnvC scope cl C X.env) fp) tg g) (ht : ∀ (s : Shared) (H : Hp) (C : Addr) (cl : List (Str × Addr)) (fp : List Addr), STs (X.blk s H scope (compEnvC scope cl C X.env) fp) ifs wt)
    (he : ∀ (s : Shared) (H : Hp) (C : Addr) (cl : List (Str × Addr)) (fp : List Addr), SE (X.blk s H scope (compEnvC scope cl C X.env) fp) elt we) (hs : ∀ x, foldedSetIterable iter X.env x = pure x := by intro _; rfl) :
    SS X (.Assign [.Name y py] (.ListComp elt [⟨tg, iter, ifs, 0⟩] scope pos) spos) (wAsg (wCompN wi g wt we vs) (.name i)) := by
  subst hv
  refine ps_weak (ps_setLc (g := g.toV X.K) (te := LE X.K we) (tt := LT X.K wt) hc hN hy hyl hsw hi ok hg ht he hs) fun D σ H ⟨μ, S, ρ, D0, m, en, q, p⟩ => ?_
  · refine compN_ok hsl ⟨μ, S, ρ, _, m, en, q, fun d S1 q1 μ1 v H1 g1 m1 r1 => ?_⟩
    have q1' : (match bindT (.name i) d ρ with | some ρ' => D0.nx ρ' S1 | none => False) := q1
    show D.nx (σ.set i (some v)) H1
    simp only [bindT] at q1'
    exact p.nx _ S1 q1' μ1 _ H1 g1 m1 ((en.grow g1).set r1)
end
end DL

set_option maxHeartbeats 4000000
namespace DL
open PySem PySem.Spec PyProof.Rows L2 He
variable [WW]

/-! ### a def by its datum -/
section
variable {P : Program} {w : World} {K : PySem.W.Frag} {mg : Str → Option Value} {base : Heap}
/-- the def x stands at the module's name x and keeps its contract -/
structure Def (P : Program) (w : World) (K : PySem.W.Frag) (mg : Str → Option Value) (base : Heap) (k : Nat) (x : Str) (ps : List Str) (Γ : Con) : Prop where
  ex : ∃ f fd, FnD P w K mg base k f fd ps Γ ∧ mg x = some (.ref f) ∧ PySem.W.keepIn K (.ref f) = true ∧ Binds K fd ps []
theorem Def.mono {j k : Nat} {x : Str} {ps : List Str} {Γ : Con} (D : Def P w K mg base j x ps Γ) (h : j ≤ k) : Def P w K mg base k x ps Γ :=
  let ⟨f, fd, h1, h2, h3, h4⟩ := D.ex; ⟨f, fd, h1.mono h, h2, h3, h4⟩
theorem fn_okF {x qual : Str} {params : Arguments} {body : List Stmt} {scope : Scope} {f : Addr} {fd : FuncData} {N ps : List Str} {k : Nat} {Γ : Con} {wb : WS} (F : FunD K x qual params body scope [] [] f fd) (Sc : FnScope N ps scope)
    (hb : ∀ (cdv : Value) (A : Around) (outer : List PySem.Env) (s : Shared) (H : Hp) (E : XK), Room k (A.deeper (envOfC qual scope s.heap.objs.size f cdv)) →
      SSs (cxOf CX0 P w K mg base N qual scope f cdv A outer s H E).nox body wb)
    (hw : ∀ (ds : List D) (S : Store) (Q0 : D → Store → Prop), ds.length = ps.length → closedS S → closedL S.length ds → Γ ds S Q0 →
      wb { nx := fun _ S1 => Exit S.length .non S1 Q0, rt := fun d S1 => Exit S.length d S1 Q0 } (ds.map some ++ List.replicate (N.length - ps.length) none) S) : FnD P w K mg base (k + 1) f fd ps Γ := by
  refine F.ok Sc (fun vs H Q E h => ?_) (fun cdv A outer s H vs Q E hr h => ?_)
  · obtain ⟨μ, S, ds, Q0, m, r, hl, _⟩ := h
    rw [← r.length, hl]
  · obtain ⟨μ, S, ds, Q0, m, r, hl, q, p⟩ := h
    refine ⟨_, PSs.nox (hb cdv A outer s H E hr), ?_⟩
    have en := start_R (N := N) r
    rw [hl] at en
    have cl := r.closed
    rw [m.len] at cl
    refine ⟨μ, S, _, _, m, en, hw ds S Q0 hl m.closed cl q, ?_, ?_, ?_, ?_, ?_⟩
    · exact fun ρ' S' q' μ' σ' H' g' m' e' => exit_ok m g' m' .non p q'
    · exact fun d S' q' μ' v H' g' m' r' => exit_ok m g' m' r' p q'
    · exact fun ρ' S' q' => q'.elim
    · exact fun ρ' S' q' => q'.elim
    · exact .none
end
section
variable {X : Cx} {e : Expr} {es : List Expr} {wr : WA} {k : Nat} {ps : List Str} {Γ : Con} {x : Str} {p pos : Pos}
theorem se_fn {n : Nat} (F : Def X.prog X.w X.K X.mg X.base k x ps Γ) (hr : Room k X.A) (hg : Gl X x)
    (ha : SA X (e :: es) wr) (hn : ps.length = n := by rfl) (hdb : (x == ("__debug__" : Str)) = false := by decide) (he : starEach (e :: es) X.env = (false, eval e X.env) :: starEach es X.env := by rfl) (hpl : (backTo pos (starEach es X.env)).any (·.1) = false := by rfl) :
    SE X (.Call (.Name x p) (e :: es) [] pos) (wFn Γ n wr) := by
  subst hn
  obtain ⟨f, fd, h1, h2, h3, h4⟩ := F.ex
  exact se_call h1 hr hg h2 h3 h4 ha hdb he hpl
end

/-! ### constants of the module, by content -/
omit [WW] in
mutual
def kRep (K : PySem.W.Frag) : D → Value → Bool
  | .non, .none => true
  | .bl b, .bool c => b == c
  | .int i, .int j _ => decide (i = j)
  | .str x, .str y _ => decide (x = y)
  | .tup ds, .ref a => (match K.lookup a with
    | some ⟨.type c, _, .seq its _, _⟩ => decide (c = "tuple") && (decide (its.size ≤ sizeLine) && kRepL K ds its.toList)
    | _ => false)
  | .lst ds, .ref a => (match K.lookup a with
    | some ⟨.type c, none, .seq its _, _⟩ => decide (c = "list") && (decide (its.size ≤ sizeLine) && kRepL K ds its.toList)
    | _ => false)
  | _, _ => false
def kRepL (K : PySem.W.Frag) : List D → List Value → Bool
  | [], [] => true
  | d :: ds, u :: us => kRep K d u && kRepL K ds us
  | _, _ => false
end
def KRep (K : PySem.W.Frag) (d : D) (u : Value) : Prop := ∃ v, RelV v u ∧ ∀ μ H, Rep K μ H d v
def KRepL (K : PySem.W.Frag) (ds : List D) (us : List Value) : Prop := ∃ vs, Vals vs us ∧ ∀ μ H, RepAll K μ H ds vs
omit [WW] in
mutual
theorem kRep_ok {K : PySem.W.Frag} : ∀ {d : D} {u : Value}, kRep K d u = true → KRep K d u
  | .non, u, h => by
    cases u <;> first | exact ⟨.non, rfl, fun _ _ => .non⟩ | simp [kRep] at h
  | .bl b, u, h => by
    cases u with
    | bool c =>
      have e : b = c := by simpa [kRep] using h
      subst e
      exact ⟨.bl b, rfl, fun _ _ => .bl b⟩
    | _ => simp [kRep] at h
  | .int b, u, h => by
    cases u with
    | int c t =>
      have e : b = c := by simpa [kRep] using h
      subst e
      exact ⟨.int b, ⟨t, rfl⟩, fun _ _ => .int b⟩
    | _ => simp [kRep] at h
  | .str b, u, h => by
    cases u with
    | str c t =>
      have e : b = c := by simpa [kRep] using h
      subst e
      exact ⟨.str b, ⟨t, rfl⟩, fun _ _ => .str b⟩
    | _ => simp [kRep] at h
  | .tup ds, u, h => by
    cases u with
    | ref a =>
      simp only [kRep] at h
      split at h
      · rename_i c _ its n sl q
        simp only [Bool.and_eq_true, decide_eq_true_eq] at h
        obtain ⟨vs, h1, h2⟩ := kRepL_ok h.2.2
        exact ⟨.ref a, rfl, fun μ H => .tup (.inr ⟨_, its, n, q, congrArg Value.type h.1, rfl, h.2.1, h1⟩) (h2 μ H)⟩
      · cases h
    | _ => simp [kRep] at h
  | .lst ds, u, h => by
    cases u with
    | ref a =>
      simp only [kRep] at h
      split at h
      · rename_i c its n sl q
        simp only [Bool.and_eq_true, decide_eq_true_eq] at h
        obtain ⟨vs, h1, h2⟩ := kRepL_ok h.2.2
        exact ⟨.ref a, rfl, fun μ H => .lst (.inr ⟨_, its, n, q, congrArg Value.type h.1, rfl, rfl, h.2.1, h1⟩) (h2 μ H)⟩
      · cases h
    | _ => simp [kRep] at h
  | .ref n, u, h => by cases u <;> simp [kRep] at h
theorem kRepL_ok {K : PySem.W.Frag} : ∀ {ds : List D} {us : List Value}, kRepL K ds us = true → KRepL K ds us
  | [], [], _ => ⟨[], .nil, fun _ _ => .nil⟩
  | [], _ :: _, h => by simp [kRepL] at h
  | _ :: _, [], h => by simp [kRepL] at h
  | d :: ds, u :: us, h => by
    simp only [kRepL, Bool.and_eq_true] at h
    obtain ⟨v, h1, h2⟩ := kRep_ok h.1
    obtain ⟨vs, h3, h4⟩ := kRepL_ok h.2
    exact ⟨v :: vs, .cons h1 h3, fun μ H => .cons (h2 μ H) (h4 μ H)⟩
end
/-- the module's name x holds d -/
structure Cst (K : PySem.W.Frag) (mg : Str → Option Value) (x : Str) (d : D) : Prop where
  ex : ∃ u v, mg x = some u ∧ RelV v u ∧ ∀ μ H, Rep K μ H d v
theorem se_cst {X : Cx} {x : Str} {d : D} {pos : Pos} (c : Cst X.K X.mg x d) (hg : Gl X x) (hd : (x == ("__debug__" : Str)) = false := by decide) : SE X (.Name x pos) (wC d) := by
  obtain ⟨u, v, h1, h2, h3⟩ := c.ex
  exact se_glob hg h1 h2 h3 hd

/-! ### the head's Hook, with facts of one's own -/
omit [WW] in
def cstB (x : Str) (d : D) (K : PySem.W.Frag) : Bool := match PySem.W.nsIn K mainGlobals x with
  | some (some u) => kRep K d u
  | _ => false
omit [WW] in
def bltB (x : Str) (id : String) (K : PySem.W.Frag) : Bool := eqO (PySem.W.nsIn K mainGlobals x) (some (some (.builtin id)))
omit [WW] in
def gloB (x : Str) (K : PySem.W.Frag) : Bool := eqO (PySem.W.nsIn K mainGlobals x) (some (some (.ref (ga K x))))
omit [WW] in
def freB (x : Str) (K : PySem.W.Frag) : Bool := eqO (PySem.W.nsIn K mainGlobals x) (some none)
section
variable {K : PySem.W.Frag} {h : Heap} {mg : Str → Option Value}
omit [WW] in
theorem cstB_ok (X : K.In h) (G : h.Ns mainGlobals mg) {x : Str} {d : D} (c : cstB x d K = true) : Cst K mg x d := by
  unfold cstB at c
  split at c
  · rename_i u hu
    obtain ⟨v, h1, h2⟩ := kRep_ok c
    exact ⟨u, v, PySem.W.mg_of X G hu, h1, h2⟩
  · cases c
omit [WW] in
theorem bltB_ok (X : K.In h) (G : h.Ns mainGlobals mg) {x : Str} {id : String} (c : bltB x id K = true) : mg x = some (.builtin id) := PySem.W.mg_of X G (eqO_ok c)
omit [WW] in
theorem gloB_ok (X : K.In h) (G : h.Ns mainGlobals mg) {x : Str} (c : gloB x K = true) : mg x = some (.ref (ga K x)) := PySem.W.mg_of X G (eqO_ok c)
omit [WW] in
theorem freB_ok (X : K.In h) (G : h.Ns mainGlobals mg) {x : Str} (c : freB x K = true) : mg x = none := PySem.W.mg_none_of X G (eqO_ok c)
end
omit [WW] in
abbrev Facts := List (PySem.W.Frag → Bool)
omit [WW] in
def obsX (fa : Facts) (fn : List DefD) (K : PySem.W.Frag) : AlD := ((fa.all fun f => f K) && fn.all fun d => d.ok K, fn.map fun d => fnW K d.at_)
omit [WW] in
def SaysX (fa : Facts) (fn : List DefD) (K : PySem.W.Frag) : Prop := obsX fa fn K = valD fn
omit [WW] in
def obsXG (n : Nat) (fa : Facts) (fn : List DefD) (g : Addr → Option Obj) : AlD := obsX fa fn (frG g (asD g n))
omit [WW] in
def hookX (n : Nat) (fa : Facts) (fn : List DefD) : PySem.W.Hook where
  α := AlD
  obs := fun s => obsXG n fa fn s.heap.get?
  val := fun _ => valD fn
  says := fun _ h => ∃ K : PySem.W.Frag, K.In h ∧ SaysX fa fn K
  of := fun _ _ e => ⟨_, frG_in, e⟩
  keeps := fun _ _ _ ⟨K, hK, c⟩ k => ⟨K, PySem.W.Frag.In.keeps hK k, c⟩
omit [WW] in
theorem obsXG_eq {n : Nat} {fa : Facts} {fn : List DefD} {g : Addr → Option Obj} {s : Shared} (h : ∀ a, g a = s.heap.get? a) : obsXG n fa fn g = (hookX n fa fn).obs s := by
  have e : g = s.heap.get? := funext h
  rw [e] <;> rfl
section
variable {fa : Facts} {fn : List DefD} {K : PySem.W.Frag}
omit [WW] in
theorem SaysX.fact (c : SaysX fa fn K) (i : Nat) {f : PySem.W.Frag → Bool} (h : fa[i]? = some f := by rfl) : f K = true := by
  have c1 := (ba (show ((fa.all fun f => f K) && fn.all fun d => d.ok K) = true from congrArg (fun z : AlD => z.1) c)).1
  exact List.all_eq_true.mp c1 f (List.mem_of_getElem? h)
omit [WW] in
theorem SaysX.def_ (c : SaysX fa fn K) (i : Nat) {d : DefD} (h : fn[i]? = some d := by rfl) : ∃ fd, FunD K d.name d.qual d.params d.body d.scope (d.dvs K) (d.kws K) (fAd K d.at_) fd := by
  have c2 := (ba (show ((fa.all fun f => f K) && fn.all fun d => d.ok K) = true from congrArg (fun z : AlD => z.1) c)).2
  have e : fn.map (fun d => fnW K d.at_) = fn.map DefD.val := congrArg (fun z : AlD => z.2) c
  have e2 : (fn.map fun d => fnW K d.at_)[i]? = (fn.map DefD.val)[i]? := by rw [e]
  rw [List.getElem?_map, List.getElem?_map, h] at e2
  exact DefD.funD (Option.some.inj e2) (List.all_eq_true.mp c2 d (List.mem_of_getElem? h))
end
end DL

set_option maxHeartbeats 4000000
/-! lemmas for readings by content -/
namespace DL
open PySem PySem.Spec PyProof.Rows L2
variable [WW]
omit [WW] in
theorem atD_of {ds : List D} (n : Nat) : atD ds (no_index (OfNat.ofNat n : Int)) = ds[n]? := rfl
omit [WW] in
theorem atD_cast {ds : List D} (n : Nat) : atD ds (n : Int) = ds[n]? := rfl
omit [WW] in
theorem atD_neg1 {ds : List D} : atD ds (-1) = if 0 < ds.length then ds[ds.length - 1]? else none := rfl
omit [WW] in
theorem putAt_lit (n m : Nat) (d : D) (S : Store) (Q : Store → Prop) : putAt n (no_index (OfNat.ofNat m : Int)) d S Q = match S[n]? with | some (.lst xs) => m < xs.length ∧ Q (S.set n (.lst (xs.set m d))) | _ => False := by
  unfold putAt
  rcases S[n]? with _ | (_ | _) <;> rfl
omit [WW] in
theorem mPopAt_lit (n m : Nat) (S : Store) (Q : D → Store → Prop) : mPopAt (.ref n) [.int (no_index (OfNat.ofNat m : Int))] S Q = match S[n]? with
    | some (.lst xs) => (match xs[m]? with | some y => m < 2 ^ 62 ∧ Q y (S.set n (.lst (xs.eraseIdx m))) | none => False)
    | _ => False := by
  show (match S[n]? with | some (.lst xs) => _ | _ => False) = _
  rcases S[n]? with _ | (_ | _) <;> rfl
omit [WW] in
theorem intsD_zero (lo : Int) : intsD lo 0 = [] := rfl
omit [WW] in
theorem intsD_succ (lo : Int) (n : Nat) : intsD lo (n + 1) = .int lo :: intsD (lo + 1) n := by
  unfold intsD
  rw [List.range_succ_eq_map, List.map_cons, List.map_map]
  refine congr (congrArg _ ?_) ?_
  · simp
  · apply List.map_congr_left
    intro i _
    show D.int (lo + ((i + 1 : Nat) : Int)) = D.int (lo + 1 + (i : Int))
    congr 1
    omega
omit [WW] in
theorem intsD_length (lo : Int) (n : Nat) : (intsD lo n).length = n := by simp [intsD]
omit [WW] in
theorem intsD_eq (lo : Int) (n : Nat) : intsD lo n = ((List.range n).map fun i => lo + (i : Nat)).map D.int := by simp [intsD, Function.comp_def]
omit [WW] in
theorem pure_ints (ns : List Int) : pureL (ns.map .int) := by
  induction ns with
  | nil => simp [pureL]
  | cons n ns ih => simpa [pureL, pureD] using ih
omit [WW] in
theorem shaped_ints : ∀ (ns : List Int), PyData.canLayAll0 (pyAll (ns.map .int)) = true
  | [] => by simp [pyAll, PyData.canLayAll0]
  | n :: ns => by simp [pyAll, PyData.canLayAll0, PyData.canLay0, D.py, shaped_ints ns]
omit [WW] in
/-- a comprehension that calls nothing of the store: a map -/
theorem compR_map {g : Tg} {we : WE} {G : Store → Prop} {ρ0 : Env} {Q : D → Store → Prop} {f : D → D} {S : Store} (hG : G S) : ∀ (xs acc : List D), acc.length + xs.length ≤ sizeLine →
    (∀ x, x ∈ xs → ∃ ρ2, bindT g x ρ0 = some ρ2 ∧ ∀ Q : D → Store → Prop, Q (f x) S → we ρ2 S Q) → Q (.lst (acc ++ xs.map f)) S → compR g wYes we G ρ0 Q xs acc S
  | [], acc, _, _, q => ⟨hG, by simpa using q⟩
  | x :: xs, acc, hl, h, q => by
    obtain ⟨ρ2, hb, hw⟩ := h x (by simp)
    refine ⟨hG, ?_⟩
    rw [hb]
    show we ρ2 S _
    simp only [List.length_cons] at hl
    refine hw _ ⟨by omega, compR_map hG xs (acc ++ [f x]) (by simp; omega) (fun y hy => h y (by simp [hy])) ?_⟩
    rw [List.append_assoc]
    exact q
omit [WW] in
/-- .. with a test -/
theorem compR_filter {g : Tg} {wt : WT} {we : WE} {G : Store → Prop} {ρ0 : Env} {Q : D → Store → Prop} {t : D → Bool} {f : D → D} {S : Store} (hG : G S) : ∀ (xs acc : List D), acc.length + xs.length ≤ sizeLine →
    (∀ x, x ∈ xs → ∃ ρ2, bindT g x ρ0 = some ρ2 ∧ (∀ Q : Bool → Store → Prop, Q (t x) S → wt ρ2 S Q) ∧ (t x = true → ∀ Q : D → Store → Prop, Q (f x) S → we ρ2 S Q)) →
    Q (.lst (acc ++ (xs.filter t).map f)) S → compR g wt we G ρ0 Q xs acc S
  | [], acc, _, _, q => ⟨hG, by simpa using q⟩
  | x :: xs, acc, hl, h, q => by
    obtain ⟨ρ2, hb, ht, hw⟩ := h x (by simp)
    refine ⟨hG, ?_⟩
    rw [hb]
    simp only [List.length_cons] at hl
    refine ht _ ?_
    cases e : t x with
    | true =>
      rw [if_pos rfl]
      refine hw e _ ⟨by omega, compR_filter hG xs (acc ++ [f x]) (by simp; omega) (fun y hy => h y (by simp [hy])) ?_⟩
      rw [List.append_assoc]
      rw [List.filter_cons_of_pos e] at q
      exact q
    | false =>
      rw [if_neg (by decide)]
      refine compR_filter hG xs acc (by omega) (fun y hy => h y (by simp [hy])) ?_
      rw [List.filter_cons_of_neg (by rw [e]; decide)] at q
      exact q
omit [WW] in
theorem isT_non_int {S : Store} {b : Bool} {i : Int} {z : Str} {ds : List D} : isT D.non S "int" = some false := by first | rfl | decide
omit [WW] in
theorem isT_non_bool {S : Store} {b : Bool} {i : Int} {z : Str} {ds : List D} : isT D.non S "bool" = some false := by first | rfl | decide
omit [WW] in
theorem isT_non_str {S : Store} {b : Bool} {i : Int} {z : Str} {ds : List D} : isT D.non S "str" = some false := by first | rfl | decide
omit [WW] in
theorem isT_non_tuple {S : Store} {b : Bool} {i : Int} {z : Str} {ds : List D} : isT D.non S "tuple" = some false := by first | rfl | decide
omit [WW] in
theorem isT_non_list {S : Store} {b : Bool} {i : Int} {z : Str} {ds : List D} : isT D.non S "list" = some false := by first | rfl | decide
omit [WW] in
theorem isT_bl_int {S : Store} {b : Bool} {i : Int} {z : Str} {ds : List D} : isT (.bl b) S "int" = some true := by first | rfl | decide
omit [WW] in
theorem isT_bl_bool {S : Store} {b : Bool} {i : Int} {z : Str} {ds : List D} : isT (.bl b) S "bool" = some true := by first | rfl | decide
omit [WW] in
theorem isT_bl_str {S : Store} {b : Bool} {i : Int} {z : Str} {ds : List D} : isT (.bl b) S "str" = some false := by first | rfl | decide
omit [WW] in
theorem isT_bl_tuple {S : Store} {b : Bool} {i : Int} {z : Str} {ds : List D} : isT (.bl b) S "tuple" = some false := by first | rfl | decide
omit [WW] in
theorem isT_bl_list {S : Store} {b : Bool} {i : Int} {z : Str} {ds : List D} : isT (.bl b) S "list" = some false := by first | rfl | decide
omit [WW] in
theorem isT_int_int {S : Store} {b : Bool} {i : Int} {z : Str} {ds : List D} : isT (.int i) S "int" = some true := by first | rfl | decide
omit [WW] in
theorem isT_int_bool {S : Store} {b : Bool} {i : Int} {z : Str} {ds : List D} : isT (.int i) S "bool" = some false := by first | rfl | decide
omit [WW] in
theorem isT_int_str {S : Store} {b : Bool} {i : Int} {z : Str} {ds : List D} : isT (.int i) S "str" = some false := by first | rfl | decide
omit [WW] in
theorem isT_int_tuple {S : Store} {b : Bool} {i : Int} {z : Str} {ds : List D} : isT (.int i) S "tuple" = some false := by first | rfl | decide
omit [WW] in
theorem isT_int_list {S : Store} {b : Bool} {i : Int} {z : Str} {ds : List D} : isT (.int i) S "list" = some false := by first | rfl | decide
omit [WW] in
theorem isT_str_int {S : Store} {b : Bool} {i : Int} {z : Str} {ds : List D} : isT (.str z) S "int" = some false := by first | rfl | decide
omit [WW] in
theorem isT_str_bool {S : Store} {b : Bool} {i : Int} {z : Str} {ds : List D} : isT (.str z) S "bool" = some false := by first | rfl | decide
omit [WW] in
theorem isT_str_str {S : Store} {b : Bool} {i : Int} {z : Str} {ds : List D} : isT (.str z) S "str" = some true := by first | rfl | decide
omit [WW] in
theorem isT_str_tuple {S : Store} {b : Bool} {i : Int} {z : Str} {ds : List D} : isT (.str z) S "tuple" = some false := by first | rfl | decide
omit [WW] in
theorem isT_str_list {S : Store} {b : Bool} {i : Int} {z : Str} {ds : List D} : isT (.str z) S "list" = some false := by first | rfl | decide
omit [WW] in
theorem isT_tup_int {S : Store} {b : Bool} {i : Int} {z : Str} {ds : List D} : isT (.tup ds) S "int" = some false := by first | rfl | decide
omit [WW] in
theorem isT_tup_bool {S : Store} {b : Bool} {i : Int} {z : Str} {ds : List D} : isT (.tup ds) S "bool" = some false := by first | rfl | decide
omit [WW] in
theorem isT_tup_str {S : Store} {b : Bool} {i : Int} {z : Str} {ds : List D} : isT (.tup ds) S "str" = some false := by first | rfl | decide
omit [WW] in
theorem isT_tup_tuple {S : Store} {b : Bool} {i : Int} {z : Str} {ds : List D} : isT (.tup ds) S "tuple" = some true := by first | rfl | decide
omit [WW] in
theorem isT_tup_list {S : Store} {b : Bool} {i : Int} {z : Str} {ds : List D} : isT (.tup ds) S "list" = some false := by first | rfl | decide
omit [WW] in
theorem isT_lst_int {S : Store} {b : Bool} {i : Int} {z : Str} {ds : List D} : isT (.lst ds) S "int" = some false := by first | rfl | decide
omit [WW] in
theorem isT_lst_bool {S : Store} {b : Bool} {i : Int} {z : Str} {ds : List D} : isT (.lst ds) S "bool" = some false := by first | rfl | decide
omit [WW] in
theorem isT_lst_str {S : Store} {b : Bool} {i : Int} {z : Str} {ds : List D} : isT (.lst ds) S "str" = some false := by first | rfl | decide
omit [WW] in
theorem isT_lst_tuple {S : Store} {b : Bool} {i : Int} {z : Str} {ds : List D} : isT (.lst ds) S "tuple" = some false := by first | rfl | decide
omit [WW] in
theorem isT_lst_list {S : Store} {b : Bool} {i : Int} {z : Str} {ds : List D} : isT (.lst ds) S "list" = some true := by first | rfl | decide
omit [WW] in
theorem bq_tt : (true == true) = true := rfl
omit [WW] in
theorem bq_tf : (true == false) = false := rfl
omit [WW] in
theorem bq_ft : (false == true) = false := rfl
omit [WW] in
theorem bq_ff : (false == false) = true := rfl
omit [WW] in
theorem eqv2 (a b c d : Int) : eqv (.tup [.int a, .int b]) (.tup [.int c, .int d]) = (decide (a = c) && decide (b = d)) := by
  simp [eqv, D.py, pyAll, PyData.eqv, PyData.eqvAll, Bool.beq_eq_decide_eq]
omit [WW] in
theorem okD2 (a b : Int) : okD (.tup [.int a, .int b]) := by
  show SeqAt.shaped _ = true
  rfl
/-! the simp set -/
omit [WW] in
theorem x_rAdd {i j : Int} {S : Store} {Q : D → Store → Prop} : DL.rAdd (.int i) (.int j) S Q = Q (.int (i + j)) S := (rfl)
omit [WW] in
theorem x_rSub {i j : Int} {S : Store} {Q : D → Store → Prop} : DL.rSub (.int i) (.int j) S Q = Q (.int (i - j)) S := (rfl)
omit [WW] in
theorem x_rMul {i j : Int} {S : Store} {Q : D → Store → Prop} : DL.rMul (.int i) (.int j) S Q = (MulOk i j ∧ Q (.int (i * j)) S) := (rfl)
omit [WW] in
theorem x_rDiv {i j : Int} {S : Store} {Q : D → Store → Prop} : DL.rDiv (.int i) (.int j) S Q = (DivOk j ∧ Q (.int (i / j)) S) := (rfl)
omit [WW] in
theorem x_rMod {i j : Int} {S : Store} {Q : D → Store → Prop} : DL.rMod (.int i) (.int j) S Q = (0 < j ∧ Q (.int (i % j)) S) := (rfl)
omit [WW] in
theorem x_rPow {i j : Int} {S : Store} {Q : D → Store → Prop} : DL.rPow (.int i) (.int j) S Q = (CPow i j ∧ Q (.int (i ^ j.toNat)) S) := (rfl)
omit [WW] in
theorem x_rLt {i j : Int} {S : Store} {Q : D → Store → Prop} : DL.rLt (.int i) (.int j) S Q = Q (.bl (decide (i < j))) S := (rfl)
omit [WW] in
theorem x_rLe {i j : Int} {S : Store} {Q : D → Store → Prop} : DL.rLe (.int i) (.int j) S Q = Q (.bl (decide (i ≤ j))) S := (rfl)
omit [WW] in
theorem x_rGt {i j : Int} {S : Store} {Q : D → Store → Prop} : DL.rGt (.int i) (.int j) S Q = Q (.bl (decide (j < i))) S := (rfl)
omit [WW] in
theorem x_rGe {i j : Int} {S : Store} {Q : D → Store → Prop} : DL.rGe (.int i) (.int j) S Q = Q (.bl (decide (j ≤ i))) S := (rfl)
omit [WW] in
theorem x_rAdd_s {a b : Str} {S : Store} {Q : D → Store → Prop} : DL.rAdd (.str a) (.str b) S Q = (a.length + b.length ≤ sizeLine ∧ Q (.str (a ++ b)) S) := (rfl)
omit [WW] in
theorem x_rAdd_t {a b : List D} {S : Store} {Q : D → Store → Prop} : DL.rAdd (.tup a) (.tup b) S Q = (a ≠ [] ∧ a.length + b.length ≤ sizeLine ∧ Q (.tup (a ++ b)) S) := (rfl)
omit [WW] in
theorem x_rEq_int {a b : Int} {S : Store} {Q : D → Store → Prop} : DL.rEq (.int a) (.int b) S Q = Q (.bl (decide (a = b))) S := (rfl)
omit [WW] in
theorem x_rEq_bl {a b : Bool} {S : Store} {Q : D → Store → Prop} : DL.rEq (.bl a) (.bl b) S Q = Q (.bl (decide (a = b))) S := (rfl)
omit [WW] in
theorem x_rEq_str {a b : Str} {S : Store} {Q : D → Store → Prop} : DL.rEq (.str a) (.str b) S Q = Q (.bl (decide (a = b))) S := (rfl)
omit [WW] in
theorem x_rEq_tup {a b : List D} {S : Store} {Q : D → Store → Prop} : DL.rEq (.tup a) (.tup b) S Q = (okD (.tup a) ∧ okD (.tup b) ∧ Q (.bl (eqv (.tup a) (.tup b))) S) := (rfl)
omit [WW] in
theorem x_rEq_lst {a b : List D} {S : Store} {Q : D → Store → Prop} : DL.rEq (.lst a) (.lst b) S Q = (okD (.lst a) ∧ okD (.lst b) ∧ Q (.bl (eqv (.lst a) (.lst b))) S) := (rfl)
omit [WW] in
theorem x_rEq_nt {b : List D} {S : Store} {Q : D → Store → Prop} : DL.rEq .non (.tup b) S Q = (okD .non ∧ okD (.tup b) ∧ Q (.bl (eqv .non (.tup b))) S) := (rfl)
omit [WW] in
theorem x_rEq_tn {b : List D} {S : Store} {Q : D → Store → Prop} : DL.rEq (.tup b) .non S Q = (okD (.tup b) ∧ okD .non ∧ Q (.bl (eqv (.tup b) .non)) S) := (rfl)
omit [WW] in
theorem x_rEq_nn {S : Store} {Q : D → Store → Prop} : DL.rEq .non .non S Q = (okD .non ∧ okD .non ∧ Q (.bl (eqv .non .non)) S) := (rfl)
omit [WW] in
theorem x_rEq_ni {b : Int} {S : Store} {Q : D → Store → Prop} : DL.rEq .non (.int b) S Q = (okD .non ∧ okD (.int b) ∧ Q (.bl (eqv .non (.int b))) S) := (rfl)
omit [WW] in
theorem x_rEq_in {b : Int} {S : Store} {Q : D → Store → Prop} : DL.rEq (.int b) .non S Q = (okD (.int b) ∧ okD .non ∧ Q (.bl (eqv (.int b) .non)) S) := (rfl)
omit [WW] in
theorem x_rNe_int {a b : Int} {S : Store} {Q : D → Store → Prop} : DL.rNe (.int a) (.int b) S Q = Q (.bl (!decide (a = b))) S := (rfl)
omit [WW] in
theorem x_rNe_bl {a b : Bool} {S : Store} {Q : D → Store → Prop} : DL.rNe (.bl a) (.bl b) S Q = Q (.bl (!decide (a = b))) S := (rfl)
omit [WW] in
theorem x_rNe_str {a b : Str} {S : Store} {Q : D → Store → Prop} : DL.rNe (.str a) (.str b) S Q = Q (.bl (!decide (a = b))) S := (rfl)
omit [WW] in
theorem x_rNe_tup {a b : List D} {S : Store} {Q : D → Store → Prop} : DL.rNe (.tup a) (.tup b) S Q = (okD (.tup a) ∧ okD (.tup b) ∧ Q (.bl (!eqv (.tup a) (.tup b))) S) := (rfl)
omit [WW] in
theorem x_rNe_lst {a b : List D} {S : Store} {Q : D → Store → Prop} : DL.rNe (.lst a) (.lst b) S Q = (okD (.lst a) ∧ okD (.lst b) ∧ Q (.bl (!eqv (.lst a) (.lst b))) S) := (rfl)
omit [WW] in
theorem x_rNe_nt {b : List D} {S : Store} {Q : D → Store → Prop} : DL.rNe .non (.tup b) S Q = (okD .non ∧ okD (.tup b) ∧ Q (.bl (!eqv .non (.tup b))) S) := (rfl)
omit [WW] in
theorem x_rNe_tn {b : List D} {S : Store} {Q : D → Store → Prop} : DL.rNe (.tup b) .non S Q = (okD (.tup b) ∧ okD .non ∧ Q (.bl (!eqv (.tup b) .non)) S) := (rfl)
omit [WW] in
theorem x_rNe_nn {S : Store} {Q : D → Store → Prop} : DL.rNe .non .non S Q = (okD .non ∧ okD .non ∧ Q (.bl (!eqv .non .non)) S) := (rfl)
omit [WW] in
theorem x_rNe_ni {b : Int} {S : Store} {Q : D → Store → Prop} : DL.rNe .non (.int b) S Q = (okD .non ∧ okD (.int b) ∧ Q (.bl (!eqv .non (.int b))) S) := (rfl)
omit [WW] in
theorem x_rNe_in {b : Int} {S : Store} {Q : D → Store → Prop} : DL.rNe (.int b) .non S Q = (okD (.int b) ∧ okD .non ∧ Q (.bl (!eqv (.int b) .non)) S) := (rfl)
omit [WW] in
theorem x_is_non_n {S : Store} {Q : D → Store → Prop} : DL.rIs D.non .non S Q = Q (.bl true) S := (rfl)
omit [WW] in
theorem x_isn_non_n {S : Store} {Q : D → Store → Prop} : DL.rIsNot D.non .non S Q = Q (.bl false) S := (rfl)
omit [WW] in
theorem x_is_non_b {k : Bool} {S : Store} {Q : D → Store → Prop} : DL.rIs D.non (.bl k) S Q = Q (.bl false) S := (rfl)
omit [WW] in
theorem x_isn_non_b {k : Bool} {S : Store} {Q : D → Store → Prop} : DL.rIsNot D.non (.bl k) S Q = Q (.bl true) S := (rfl)
omit [WW] in
theorem x_is_bl_n {b : Bool} {S : Store} {Q : D → Store → Prop} : DL.rIs (.bl b) .non S Q = Q (.bl false) S := (rfl)
omit [WW] in
theorem x_isn_bl_n {b : Bool} {S : Store} {Q : D → Store → Prop} : DL.rIsNot (.bl b) .non S Q = Q (.bl true) S := (rfl)
omit [WW] in
theorem x_is_int_n {i : Int} {S : Store} {Q : D → Store → Prop} : DL.rIs (.int i) .non S Q = Q (.bl false) S := (rfl)
omit [WW] in
theorem x_isn_int_n {i : Int} {S : Store} {Q : D → Store → Prop} : DL.rIsNot (.int i) .non S Q = Q (.bl true) S := (rfl)
omit [WW] in
theorem x_is_int_b {i : Int} {k : Bool} {S : Store} {Q : D → Store → Prop} : DL.rIs (.int i) (.bl k) S Q = Q (.bl false) S := (rfl)
omit [WW] in
theorem x_isn_int_b {i : Int} {k : Bool} {S : Store} {Q : D → Store → Prop} : DL.rIsNot (.int i) (.bl k) S Q = Q (.bl true) S := (rfl)
omit [WW] in
theorem x_is_str_n {z : Str} {S : Store} {Q : D → Store → Prop} : DL.rIs (.str z) .non S Q = Q (.bl false) S := (rfl)
omit [WW] in
theorem x_isn_str_n {z : Str} {S : Store} {Q : D → Store → Prop} : DL.rIsNot (.str z) .non S Q = Q (.bl true) S := (rfl)
omit [WW] in
theorem x_is_str_b {z : Str} {k : Bool} {S : Store} {Q : D → Store → Prop} : DL.rIs (.str z) (.bl k) S Q = Q (.bl false) S := (rfl)
omit [WW] in
theorem x_isn_str_b {z : Str} {k : Bool} {S : Store} {Q : D → Store → Prop} : DL.rIsNot (.str z) (.bl k) S Q = Q (.bl true) S := (rfl)
omit [WW] in
theorem x_is_tup_n {ds : List D} {S : Store} {Q : D → Store → Prop} : DL.rIs (.tup ds) .non S Q = Q (.bl false) S := (rfl)
omit [WW] in
theorem x_isn_tup_n {ds : List D} {S : Store} {Q : D → Store → Prop} : DL.rIsNot (.tup ds) .non S Q = Q (.bl true) S := (rfl)
omit [WW] in
theorem x_is_tup_b {ds : List D} {k : Bool} {S : Store} {Q : D → Store → Prop} : DL.rIs (.tup ds) (.bl k) S Q = Q (.bl false) S := (rfl)
omit [WW] in
theorem x_isn_tup_b {ds : List D} {k : Bool} {S : Store} {Q : D → Store → Prop} : DL.rIsNot (.tup ds) (.bl k) S Q = Q (.bl true) S := (rfl)
omit [WW] in
theorem x_is_lst_n {ds : List D} {S : Store} {Q : D → Store → Prop} : DL.rIs (.lst ds) .non S Q = Q (.bl false) S := (rfl)
omit [WW] in
theorem x_isn_lst_n {ds : List D} {S : Store} {Q : D → Store → Prop} : DL.rIsNot (.lst ds) .non S Q = Q (.bl true) S := (rfl)
omit [WW] in
theorem x_is_lst_b {ds : List D} {k : Bool} {S : Store} {Q : D → Store → Prop} : DL.rIs (.lst ds) (.bl k) S Q = Q (.bl false) S := (rfl)
omit [WW] in
theorem x_isn_lst_b {ds : List D} {k : Bool} {S : Store} {Q : D → Store → Prop} : DL.rIsNot (.lst ds) (.bl k) S Q = Q (.bl true) S := (rfl)
omit [WW] in
theorem x_is_ref_n {n : Nat} {S : Store} {Q : D → Store → Prop} : DL.rIs (.ref n) .non S Q = Q (.bl false) S := (rfl)
omit [WW] in
theorem x_isn_ref_n {n : Nat} {S : Store} {Q : D → Store → Prop} : DL.rIsNot (.ref n) .non S Q = Q (.bl true) S := (rfl)
omit [WW] in
theorem x_is_ref_b {n : Nat} {k : Bool} {S : Store} {Q : D → Store → Prop} : DL.rIs (.ref n) (.bl k) S Q = Q (.bl false) S := (rfl)
omit [WW] in
theorem x_isn_ref_b {n : Nat} {k : Bool} {S : Store} {Q : D → Store → Prop} : DL.rIsNot (.ref n) (.bl k) S Q = Q (.bl true) S := (rfl)
omit [WW] in
theorem x_is_bb {a b : Bool} {S : Store} {Q : D → Store → Prop} : DL.rIs (.bl a) (.bl b) S Q = Q (.bl (a == b)) S := (rfl)
omit [WW] in
theorem x_isn_bb {a b : Bool} {S : Store} {Q : D → Store → Prop} : DL.rIsNot (.bl a) (.bl b) S Q = Q (.bl (!(a == b))) S := (rfl)
omit [WW] in
def oM {α : Type} (o : Option α) (k : α → Prop) : Prop := match o with | some a => k a | none => False
omit [WW] in
theorem oM_some {α : Type} {a : α} {k : α → Prop} : oM (some a) k = k a := (rfl)
omit [WW] in
def sM (o : Option Ob) (k : List D → Prop) : Prop := match o with | some (.lst ds) => k ds | _ => False
omit [WW] in
theorem sM_some {ds : List D} {k : List D → Prop} : sM (some (.lst ds)) k = k ds := (rfl)
omit [WW] in
theorem x_ix_tup {ds : List D} {i : Int} {S : Store} {Q : D → Store → Prop} : DL.rIx (.tup ds) (.int i) S Q = oM (atD ds i) (fun d => Q d S) := by show (match atD ds i with | some d => Q d S | none => False) = _; cases atD ds i <;> rfl
omit [WW] in
theorem x_ix_lst {ds : List D} {i : Int} {S : Store} {Q : D → Store → Prop} : DL.rIx (.lst ds) (.int i) S Q = oM (atD ds i) (fun d => Q d S) := by show (match atD ds i with | some d => Q d S | none => False) = _; cases atD ds i <;> rfl
omit [WW] in
theorem x_ix_ref {n : Nat} {i : Int} {S : Store} {Q : D → Store → Prop} : DL.rIx (.ref n) (.int i) S Q = sM S[n]? (fun ds => oM (atD ds i) (fun d => Q d S)) := by
  show (match S[n]? with | some (.lst ds) => (match atD ds i with | some d => Q d S | none => False) | _ => False) = _
  rcases S[n]? with _ | (ds | _ | _ | _ | _ | _)
  · rfl
  · show (match atD ds i with | some d => Q d S | none => False) = oM (atD ds i) _
    cases atD ds i <;> rfl
  · rfl
  · rfl
  · rfl
  · rfl
  · rfl
omit [WW] in
theorem x_tru_non {S : Store} {Q : Bool → Store → Prop} : DL.rTru D.non S Q = Q false S := (rfl)
omit [WW] in
theorem x_tru_bl {b : Bool} {S : Store} {Q : Bool → Store → Prop} : DL.rTru (.bl b) S Q = Q b S := (rfl)
omit [WW] in
theorem x_tru_int {i : Int} {S : Store} {Q : Bool → Store → Prop} : DL.rTru (.int i) S Q = Q (i != 0) S := (rfl)
omit [WW] in
theorem x_tru_str {z : Str} {S : Store} {Q : Bool → Store → Prop} : DL.rTru (.str z) S Q = (z.length ≤ sizeLine ∧ Q (z.length != 0) S) := (rfl)
omit [WW] in
theorem x_tru_tup {ds : List D} {S : Store} {Q : Bool → Store → Prop} : DL.rTru (.tup ds) S Q = Q (!ds.isEmpty) S := (rfl)
omit [WW] in
theorem x_tru_lst {ds : List D} {S : Store} {Q : Bool → Store → Prop} : DL.rTru (.lst ds) S Q = Q (!ds.isEmpty) S := (rfl)
omit [WW] in
theorem x_tru_ref {n : Nat} {S : Store} {Q : Bool → Store → Prop} : DL.rTru (.ref n) S Q = sM S[n]? (fun ds => Q (!ds.isEmpty) S) := by show (match S[n]? with | some (.lst ds) => _ | _ => False) = _; rcases S[n]? with _ | (_ | _) <;> rfl
omit [WW] in
theorem x_len_tup {ds : List D} {S : Store} {Q : D → Store → Prop} : DL.rLen [.tup ds] S Q = Q (.int ds.length) S := (rfl)
omit [WW] in
theorem x_tuple_tup {ds : List D} {S : Store} {Q : D → Store → Prop} : DL.rTuple [.tup ds] S Q = Q (.tup ds) S := (rfl)
omit [WW] in
theorem x_list_tup {ds : List D} {S : Store} {Q : D → Store → Prop} : DL.rList [.tup ds] S Q = Q (.lst ds) S := (rfl)
omit [WW] in
theorem x_listN_tup {ds : List D} {S : Store} {Q : D → Store → Prop} : DL.rListN [.tup ds] S Q = Q (.ref S.length) (S ++ [.lst ds]) := (rfl)
omit [WW] in
theorem x_len_lst {ds : List D} {S : Store} {Q : D → Store → Prop} : DL.rLen [.lst ds] S Q = Q (.int ds.length) S := (rfl)
omit [WW] in
theorem x_tuple_lst {ds : List D} {S : Store} {Q : D → Store → Prop} : DL.rTuple [.lst ds] S Q = Q (.tup ds) S := (rfl)
omit [WW] in
theorem x_list_lst {ds : List D} {S : Store} {Q : D → Store → Prop} : DL.rList [.lst ds] S Q = Q (.lst ds) S := (rfl)
omit [WW] in
theorem x_listN_lst {ds : List D} {S : Store} {Q : D → Store → Prop} : DL.rListN [.lst ds] S Q = Q (.ref S.length) (S ++ [.lst ds]) := (rfl)
omit [WW] in
theorem x_len_str {z : Str} {S : Store} {Q : D → Store → Prop} : DL.rLen [.str z] S Q = (z.length ≤ sizeLine ∧ Q (.int z.length) S) := (rfl)
omit [WW] in
theorem x_rLen_ref {n : Nat} {S : Store} {Q : D → Store → Prop} : DL.rLen [.ref n] S Q = sM S[n]? (fun ds => Q (.int ds.length) S) := by show (match S[n]? with | some (.lst ds) => _ | _ => False) = _; rcases S[n]? with _ | (_ | _) <;> rfl
omit [WW] in
theorem x_rTuple_ref {n : Nat} {S : Store} {Q : D → Store → Prop} : DL.rTuple [.ref n] S Q = sM S[n]? (fun ds => Q (.tup ds) S) := by show (match S[n]? with | some (.lst ds) => _ | _ => False) = _; rcases S[n]? with _ | (_ | _) <;> rfl
omit [WW] in
theorem x_rList_ref {n : Nat} {S : Store} {Q : D → Store → Prop} : DL.rList [.ref n] S Q = sM S[n]? (fun ds => Q (.lst ds) S) := by show (match S[n]? with | some (.lst ds) => _ | _ => False) = _; rcases S[n]? with _ | (_ | _) <;> rfl
omit [WW] in
theorem x_rListN_ref {n : Nat} {S : Store} {Q : D → Store → Prop} : DL.rListN [.ref n] S Q = sM S[n]? (fun ds => Q (.ref S.length) (S ++ [.lst ds])) := by show (match S[n]? with | some (.lst ds) => _ | _ => False) = _; rcases S[n]? with _ | (_ | _) <;> rfl
omit [WW] in
theorem x_int_int {i : Int} {S : Store} {Q : D → Store → Prop} : DL.rInt [.int i] S Q = Q (.int i) S := (rfl)
omit [WW] in
theorem x_int_bl {b : Bool} {S : Store} {Q : D → Store → Prop} : DL.rInt [.bl b] S Q = Q (.int (if b = true then 1 else 0)) S := (rfl)
omit [WW] in
theorem x_abs {i : Int} {S : Store} {Q : D → Store → Prop} : DL.rAbs [.int i] S Q = Q (.int (if i < 0 then -i else i)) S := (rfl)
omit [WW] in
theorem x_gcd {i j : Int} {S : Store} {Q : D → Store → Prop} : rGcdD [.int i, .int j] S Q = Q (.int ((Nat.gcd i.natAbs j.natAbs : Nat) : Int)) S := (rfl)
omit [WW] in
theorem x_max2 {i j : Int} {S : Store} {Q : D → Store → Prop} : DL.rMax2 [.int i, .int j] S Q = Q (.int (if j > i then j else i)) S := (rfl)
omit [WW] in
theorem x_min2 {i j : Int} {S : Store} {Q : D → Store → Prop} : DL.rMin2 [.int i, .int j] S Q = Q (.int (if j < i then j else i)) S := (rfl)
omit [WW] in
theorem x_append {n : Nat} {d : D} {S : Store} {Q : D → Store → Prop} : mAppend (.ref n) [d] S Q = sM S[n]? (fun xs => xs.length < sizeLine ∧ Q .non (S.set n (.lst (xs ++ [d])))) := by show (match S[n]? with | some (.lst xs) => _ | _ => False) = _; rcases S[n]? with _ | (_ | _) <;> rfl
omit [WW] in
theorem x_popAt {n m : Nat} {S : Store} {Q : D → Store → Prop} : mPopAt (.ref n) [.int (no_index (OfNat.ofNat m : Int))] S Q = sM S[n]? (fun xs => oM xs[m]? (fun y => m < 2 ^ 62 ∧ Q y (S.set n (.lst (xs.eraseIdx m))))) := by
  rw [mPopAt_lit]
  rcases S[n]? with _ | (xs | _ | _ | _ | _ | _)
  · rfl
  · show (match xs[m]? with | some y => m < 2 ^ 62 ∧ Q y (S.set n (.lst (xs.eraseIdx m))) | none => False) = oM xs[m]? _
    cases xs[m]? <;> rfl
  · rfl
  · rfl
  · rfl
  · rfl
  · rfl
omit [WW] in
theorem x_pop {n : Nat} {S : Store} {Q : D → Store → Prop} : mPop (.ref n) [] S Q = sM S[n]? (fun xs => oM xs[xs.length - 1]? (fun y => Q y (S.set n (.lst xs.dropLast)))) := by
  show (match S[n]? with | some (.lst xs) => (match xs[xs.length - 1]? with | some y => Q y (S.set n (.lst xs.dropLast)) | none => False) | _ => False) = _
  rcases S[n]? with _ | (xs | _ | _ | _ | _ | _)
  · rfl
  · show (match xs[xs.length - 1]? with | some y => Q y (S.set n (.lst xs.dropLast)) | none => False) = oM xs[xs.length - 1]? _
    cases xs[xs.length - 1]? <;> rfl
  · rfl
  · rfl
  · rfl
  · rfl
  · rfl
omit [WW] in
theorem x_putAt {n m : Nat} {d : D} {S : Store} {P : Store → Prop} : putAt n (no_index (OfNat.ofNat m : Int)) d S P = sM S[n]? (fun xs => m < xs.length ∧ P (S.set n (.lst (xs.set m d)))) := by rw [putAt_lit]; rcases S[n]? with _ | (_ | _) <;> rfl
omit [WW] in
theorem x_putAtC {n m : Nat} {d : D} {S : Store} {P : Store → Prop} : putAt n (m : Int) d S P = sM S[n]? (fun xs => m < xs.length ∧ P (S.set n (.lst (xs.set m d)))) := by show (match S[n]? with | some (.lst xs) => _ | _ => False) = _; rcases S[n]? with _ | (_ | _) <;> rfl
omit [WW] in
theorem x_isL_ref {n : Nat} {S : Store} : isL (.ref n) S = sM S[n]? (fun _ => True) := by show (match S[n]? with | some (.lst _) => True | _ => False) = _; rcases S[n]? with _ | (_ | _) <;> rfl
omit [WW] in
theorem x_isL_lst {ds : List D} {S : Store} : isL (.lst ds) S = True := (rfl)
omit [WW] in
theorem y_var0 {d : D} {ρ : DL.Env} {S : Store} {Q : D → Store → Prop}  : wVar 0 (some d :: ρ) S Q = Q d S := (rfl)
omit [WW] in
theorem y_varS {n : Nat} {x : Option D} {ρ : DL.Env} {S : Store} {Q : D → Store → Prop}  : wVar (n + 1) (x :: ρ) S Q = wVar n ρ S Q := by show (match (x :: ρ)[n + 1]? with | some (some d) => Q d S | _ => False) = (match ρ[n]? with | some (some d) => Q d S | _ => False); rw [List.getElem?_cons_succ]
omit [WW] in
def tB (d : D) (S : Store) (Q : Bool → Store → Prop) : Prop := match d with | .bl k => Q k S | _ => False
omit [WW] in
theorem y_tB {k : Bool} {S : Store} {Q : Bool → Store → Prop} : tB (.bl k) S Q = Q k S := (rfl)
omit [WW] in
theorem y_test {w : WE} {ρ : DL.Env} {S : Store} {Q : Bool → Store → Prop}  : wTest w ρ S Q = w ρ S (fun d S1 => tB d S1 Q) := (rfl)
omit [WW] in
theorem y_wBl {w : WE} {k : Bool → WE} {ρ : DL.Env} {S : Store} {Q : D → Store → Prop}  : wBl w k ρ S Q = w ρ S (fun d S1 => tB d S1 (fun b S2 => k b ρ S2 Q)) := (rfl)
omit [WW] in
def nB (d : D) (S : Store) (Q : D → Store → Prop) : Prop := match d with | .int i => Q (.int (-i)) S | _ => False
omit [WW] in
theorem y_nB {i : Int} {S : Store} {Q : D → Store → Prop} : nB (.int i) S Q = Q (.int (-i)) S := (rfl)
omit [WW] in
theorem y_neg {w : WE} {ρ : DL.Env} {S : Store} {Q : D → Store → Prop}  : wNeg w ρ S Q = w ρ S (fun d S1 => nB d S1 Q) := (rfl)
omit [WW] in
theorem y_isT {w : WE} {T : String} {ρ : DL.Env} {S : Store} {Q : D → Store → Prop}  : wIsT w T ρ S Q = w ρ S (fun d S1 => oM (isT d S1 T) (fun b => Q (.bl b) S1)) := by
  unfold wIsT
  congr 1
  funext d S1
  cases isT d S1 T <;> rfl
omit [WW] in
theorem y_asgN {w : WE} {i : Nat} {D0 : EndsD} {ρ : DL.Env} {S : Store}  : wAsg w (.name i) D0 ρ S = w ρ S (fun d S1 => D0.nx (ρ.set i (some d)) S1) := by unfold wAsg; simp only [bindT]
omit [WW] in
def bK (ts : List Tg) (d : D) (ρ : DL.Env) (k : DL.Env → Prop) : Prop := match d with | .tup ds => oM (bindTs ts ds ρ) k | _ => False
omit [WW] in
theorem y_bK {ts : List Tg} {ds : List D} {ρ : DL.Env} {k : DL.Env → Prop} : bK ts (.tup ds) ρ k = oM (bindTs ts ds ρ) k := (rfl)
omit [WW] in
theorem bK_eq {ts : List Tg} {d : D} {ρ : DL.Env} {k : DL.Env → Prop} : (match bindT (.tup ts) d ρ with | some ρ' => k ρ' | none => False) = bK ts d ρ k := by
  cases d with
  | tup ds =>
    simp only [bindT, bK]
    cases bindTs ts ds ρ <;> rfl
  | _ => simp only [bindT, bK]
omit [WW] in
theorem y_asgT {w : WE} {ts : List Tg} {D0 : EndsD} {ρ : DL.Env} {S : Store}  : wAsg w (.tup ts) D0 ρ S = w ρ S (fun d S1 => bK ts d ρ (fun ρ' => D0.nx ρ' S1)) := by
  unfold wAsg
  congr 1
  funext d S1
  exact bK_eq (k := fun ρ' => D0.nx ρ' S1)
omit [WW] in
theorem y_bindN {i : Nat} {ts : List Tg} {d : D} {ds : List D} {ρ : DL.Env} : bindTs (.name i :: ts) (d :: ds) ρ = bindTs ts ds (ρ.set i (some d)) := by simp only [bindTs, bindT]
omit [WW] in
theorem y_bind0 {ρ : DL.Env} : bindTs [] [] ρ = some ρ := by simp only [bindTs]
omit [WW] in
theorem y_for0 {g : Tg} {wb : WS} {G : Store → Prop} {D0 : EndsD} {ρ : DL.Env} {S : Store}  : forR g wb G D0 [] ρ S = (G S ∧ D0.nx ρ S) := (rfl)
omit [WW] in
theorem y_forN {i : Nat} {wb : WS} {G : Store → Prop} {x : D} {r : List D} {D0 : EndsD} {ρ : DL.Env} {S : Store}  : forR (.name i) wb G D0 (x :: r) ρ S = (G S ∧ wb { D0 with nx := fun ρ S => forR (.name i) wb G D0 r ρ S, ct := fun ρ S => forR (.name i) wb G D0 r ρ S, bk := D0.nx } (ρ.set i (some x)) S) := by rw [forR]; simp only [bindT]
omit [WW] in
theorem y_forT {ts : List Tg} {wb : WS} {G : Store → Prop} {x : D} {r : List D} {D0 : EndsD} {ρ : DL.Env} {S : Store}  : forR (.tup ts) wb G D0 (x :: r) ρ S = (G S ∧ bK ts x ρ (fun ρ' => wb { D0 with nx := fun ρ S => forR (.tup ts) wb G D0 r ρ S, ct := fun ρ S => forR (.tup ts) wb G D0 r ρ S, bk := D0.nx } ρ' S)) := by
  rw [forR]
  congr 1
  exact bK_eq
omit [WW] in
def iK (d : D) (S : Store) (Q : List D → (Store → Prop) → Store → Prop) : Prop := match d with | .tup ds => Q ds (fun _ => True) S | .lst ds => Q ds (fun _ => True) S | .ref n => sM S[n]? (fun ds => Q ds (fun S => S[n]? = some (.lst ds)) S) | _ => False
omit [WW] in
theorem y_seqI {w : WE} {ρ : DL.Env} {S : Store} {Q : List D → (Store → Prop) → Store → Prop}  : wSeqI w ρ S Q = w ρ S (fun d S1 => iK d S1 Q) := by
  unfold wSeqI
  congr 1
omit [WW] in
theorem y_iK_t {ds : List D} {S : Store} {Q : List D → (Store → Prop) → Store → Prop} : iK (.tup ds) S Q = Q ds (fun _ => True) S := (rfl)
omit [WW] in
theorem y_iK_l {ds : List D} {S : Store} {Q : List D → (Store → Prop) → Store → Prop} : iK (.lst ds) S Q = Q ds (fun _ => True) S := (rfl)
omit [WW] in
theorem y_iK_r {n : Nat} {S : Store} {Q : List D → (Store → Prop) → Store → Prop} : iK (.ref n) S Q = sM S[n]? (fun ds => Q ds (fun S => S[n]? = some (.lst ds)) S) := (rfl)
omit [WW] in
def r1K (ds : List D) (S : Store) (Q : List D → (Store → Prop) → Store → Prop) : Prop := match ds with | [.int n] => (-(2 ^ 62) ≤ n ∧ n < 2 ^ 62) ∧ Q (intsD 0 n.toNat) (fun _ => True) S | _ => False
omit [WW] in
def r2K (ds : List D) (S : Store) (Q : List D → (Store → Prop) → Store → Prop) : Prop := match ds with | [.int i, .int j] => (-(2 ^ 62) ≤ i ∧ i < 2 ^ 62 ∧ -(2 ^ 62) ≤ j ∧ j < 2 ^ 62) ∧ Q (intsD i (j - i).toNat) (fun _ => True) S | _ => False
omit [WW] in
theorem y_rg1 {w : WA} {ρ : DL.Env} {S : Store} {Q : List D → (Store → Prop) → Store → Prop}  : wRange1 w ρ S Q = w ρ S (fun ds S1 => r1K ds S1 Q) := (rfl)
omit [WW] in
theorem y_rg2 {w : WA} {ρ : DL.Env} {S : Store} {Q : List D → (Store → Prop) → Store → Prop}  : wRange2 w ρ S Q = w ρ S (fun ds S1 => r2K ds S1 Q) := (rfl)
omit [WW] in
theorem y_r1K {n : Int} {S : Store} {Q : List D → (Store → Prop) → Store → Prop} : r1K [.int n] S Q = ((-(2 ^ 62) ≤ n ∧ n < 2 ^ 62) ∧ Q (intsD 0 n.toNat) (fun _ => True) S) := (rfl)
omit [WW] in
theorem y_r2K {i j : Int} {S : Store} {Q : List D → (Store → Prop) → Store → Prop} : r2K [.int i, .int j] S Q = ((-(2 ^ 62) ≤ i ∧ i < 2 ^ 62 ∧ -(2 ^ 62) ≤ j ∧ j < 2 ^ 62) ∧ Q (intsD i (j - i).toNat) (fun _ => True) S) := (rfl)
omit [WW] in
def pK (o i d : D) (S : Store) (P : Store → Prop) : Prop := match o, i with | .ref n, .int k => putAt n k d S P | _, _ => False
omit [WW] in
theorem y_put {we wo wi : WE} {D0 : EndsD} {ρ : DL.Env} {S : Store}  : wPut we wo wi D0 ρ S = we ρ S (fun d S1 => wo ρ S1 (fun o S2 => wi ρ S2 (fun i S3 => pK o i d S3 (D0.nx ρ)))) := (rfl)
omit [WW] in
theorem y_pK {n : Nat} {k : Int} {d : D} {S : Store} {P : Store → Prop} : pK (.ref n) (.int k) d S P = putAt n k d S P := (rfl)
omit [WW] in
theorem y_comp {wi : WI} {g : Tg} {wt : WT} {we : WE} {vs : List Nat} {ρ : DL.Env} {S : Store} {Q : D → Store → Prop}  : wComp wi g wt we vs ρ S Q = wi ρ S (fun xs G S1 => compR g wt we G (wipeD ρ vs) Q xs [] S1) := (rfl)
omit [WW] in
def cN (d : D) (S : Store) (Q : D → Store → Prop) : Prop := match d with | .lst ds => ds.length ≤ sizeLine ∧ Q (.ref S.length) (S ++ [.lst ds]) | _ => False
omit [WW] in
theorem y_compN {wi : WI} {g : Tg} {wt : WT} {we : WE} {vs : List Nat} {ρ : DL.Env} {S : Store} {Q : D → Store → Prop}  : wCompN wi g wt we vs ρ S Q = wi ρ S (fun xs G S1 => compR g wt we G (wipeD ρ vs) (fun d S2 => cN d S2 Q) xs [] S1) := (rfl)
omit [WW] in
theorem y_cN {ds : List D} {S : Store} {Q : D → Store → Prop} : cN (.lst ds) S Q = (ds.length ≤ sizeLine ∧ Q (.ref S.length) (S ++ [.lst ds])) := (rfl)
omit [WW] in
theorem y_wipe0 {ρ : DL.Env} : wipeD ρ [] = ρ := (rfl)
omit [WW] in
theorem y_wipe1 {v : Nat} {vs : List Nat} {ρ : DL.Env} : wipeD ρ (v :: vs) = (wipeD ρ vs).set v none := (rfl)
omit [WW] in
theorem z_cast0 : ((0 : Nat) : Int) = 0 := (rfl)
omit [WW] in
theorem z_pos (n : Nat) : (0 < ((n + 1 : Nat) : Int)) = True := by
  apply eq_true
  omega
omit [WW] in
theorem MulOk.big {i j : Int} (h1 : i.natAbs < 2 ^ 400) (h2 : j.natAbs < 2 ^ 400) : MulOk i j :=
  .w (wide_mul (a := 400) (b := 400) h1 h2 (by decide) (by decide) (by decide))

omit [WW] in
theorem y_w_seq {t u : WS} {D0 : EndsD} {ρ : DL.Env} {S : Store} : wSeq t u D0 ρ S = t { D0 with nx := u D0 } ρ S := (rfl)
omit [WW] in
theorem y_w_ret {w : WE} {D0 : EndsD} {ρ : DL.Env} {S : Store} : wRet w D0 ρ S = w ρ S D0.rt := (rfl)
omit [WW] in
theorem y_w_retN {D0 : EndsD} {ρ : DL.Env} {S : Store} : wRetN D0 ρ S = D0.rt .non S := (rfl)
omit [WW] in
theorem y_w_if {c : WT} {t u : WS} {D0 : EndsD} {ρ : DL.Env} {S : Store} : wIf c t u D0 ρ S = c ρ S (fun k S1 => if k = true then t D0 ρ S1 else u D0 ρ S1) := (rfl)
omit [WW] in
theorem y_w_drop {w : WE} {D0 : EndsD} {ρ : DL.Env} {S : Store} : wDrop w D0 ρ S = w ρ S (fun _ S1 => D0.nx ρ S1) := (rfl)
omit [WW] in
theorem y_w_next {D0 : EndsD} {ρ : DL.Env} {S : Store} : wNext D0 ρ S = D0.nx ρ S := (rfl)
omit [WW] in
theorem y_w_brk {D0 : EndsD} {ρ : DL.Env} {S : Store} : wBreak D0 ρ S = D0.bk ρ S := (rfl)
omit [WW] in
theorem y_w_ct {D0 : EndsD} {ρ : DL.Env} {S : Store} : wCont D0 ρ S = D0.ct ρ S := (rfl)
omit [WW] in
theorem y_w_c {d : D} {ρ : DL.Env} {S : Store} {Q : D → Store → Prop} : wC d ρ S Q = Q d S := (rfl)
omit [WW] in
theorem y_w_op {R : RD} {wa wb : WE} {ρ : DL.Env} {S : Store} {Q : D → Store → Prop} : wOp R wa wb ρ S Q = wa ρ S (fun x S1 => wb ρ S1 (fun y S2 => R x y S2 Q)) := (rfl)
omit [WW] in
theorem y_w_and {t u : WT} {ρ : DL.Env} {S : Store} {Q : Bool → Store → Prop} : wAnd t u ρ S Q = t ρ S (fun k S1 => if k = true then u ρ S1 Q else Q false S1) := (rfl)
omit [WW] in
theorem y_w_or {t u : WT} {ρ : DL.Env} {S : Store} {Q : Bool → Store → Prop} : wOr t u ρ S Q = t ρ S (fun k S1 => if k = true then Q true S1 else u ρ S1 Q) := (rfl)
omit [WW] in
theorem y_w_not {t : WT} {ρ : DL.Env} {S : Store} {Q : Bool → Store → Prop} : wNot t ρ S Q = t ρ S (fun k S1 => Q (!k) S1) := (rfl)
omit [WW] in
theorem y_w_tru {w : WE} {ρ : DL.Env} {S : Store} {Q : Bool → Store → Prop} : wTru w ρ S Q = w ρ S (fun d S1 => rTru d S1 Q) := (rfl)
omit [WW] in
theorem y_w_ifE {t : WT} {wa wb : WE} {ρ : DL.Env} {S : Store} {Q : D → Store → Prop} : wIfE t wa wb ρ S Q = t ρ S (fun k S1 => if k = true then wa ρ S1 Q else wb ρ S1 Q) := (rfl)
omit [WW] in
theorem y_w_call {R : RC} {wr : WA} {ρ : DL.Env} {S : Store} {Q : D → Store → Prop} : wCall R wr ρ S Q = wr ρ S (fun ds S1 => R ds S1 Q) := (rfl)
omit [WW] in
theorem y_w_cons {w : WE} {wr : WA} {ρ : DL.Env} {S : Store} {Q : List D → Store → Prop} : wCons w wr ρ S Q = w ρ S (fun d S1 => wr ρ S1 (fun ds S2 => Q (d :: ds) S2)) := (rfl)
omit [WW] in
theorem y_w_nil {ρ : DL.Env} {S : Store} {Q : List D → Store → Prop} : wNil ρ S Q = Q [] S := (rfl)
omit [WW] in
theorem y_w_tup {w : WA} {ρ : DL.Env} {S : Store} {Q : D → Store → Prop} : wTup w ρ S Q = w ρ S (fun ds S1 => ds.length ≤ sizeLine ∧ Q (.tup ds) S1) := (rfl)
omit [WW] in
theorem y_w_lst {w : WA} {ρ : DL.Env} {S : Store} {Q : D → Store → Prop} : wLst w ρ S Q = w ρ S (fun ds S1 => ds.length ≤ sizeLine ∧ Q (.lst ds) S1) := (rfl)
omit [WW] in
theorem y_w_new {w : WA} {ρ : DL.Env} {S : Store} {Q : D → Store → Prop} : wNew w ρ S Q = w ρ S (fun ds S1 => ds.length ≤ sizeLine ∧ Q (.ref S1.length) (S1 ++ [.lst ds])) := (rfl)
omit [WW] in
theorem y_w_fn {Γ : Con} {n : Nat} {wr : WA} {ρ : DL.Env} {S : Store} {Q : D → Store → Prop} : wFn Γ n wr ρ S Q = wr ρ S (fun ds S1 => ds.length = n ∧ Γ ds S1 Q) := (rfl)
omit [WW] in
theorem y_w_meth {R : RM} {wo : WE} {wr : WA} {ρ : DL.Env} {S : Store} {Q : D → Store → Prop} : wMeth R wo wr ρ S Q = wo ρ S (fun x S1 => isL x S1 ∧ wr ρ S1 (fun ds S2 => R x ds S2 Q)) := (rfl)
omit [WW] in
theorem y_w_meth0 {R : RM} {wo : WE} {ρ : DL.Env} {S : Store} {Q : D → Store → Prop} : wMeth0 R wo ρ S Q = wo ρ S (fun x S1 => isL x S1 ∧ R x [] S1 Q) := (rfl)
omit [WW] in
theorem y_w_andV {wa wb : WE} {ρ : DL.Env} {S : Store} {Q : D → Store → Prop} : wAndV wa wb ρ S Q = wBl wa (fun k ρ S Q => if k = true then wb ρ S Q else Q (.bl false) S) ρ S Q := (rfl)
omit [WW] in
theorem y_w_orV {wa wb : WE} {ρ : DL.Env} {S : Store} {Q : D → Store → Prop} : wOrV wa wb ρ S Q = wBl wa (fun k ρ S Q => if k = true then Q (.bl true) S else wb ρ S Q) ρ S Q := (rfl)
omit [WW] in
theorem y_w_notV {wa : WE} {ρ : DL.Env} {S : Store} {Q : D → Store → Prop} : wNotV wa ρ S Q = wBl wa (fun k ρ S Q => Q (.bl (!k)) S) ρ S Q := (rfl)
omit [WW] in
theorem y_w_for {wi : WI} {g : Tg} {wb : WS} {D0 : EndsD} {ρ : DL.Env} {S : Store} : wFor wi g wb D0 ρ S = wi ρ S (fun xs G S1 => forR g wb G D0 xs ρ S1) := (rfl)
omit [WW] in
theorem y_w_yes {ρ : DL.Env} {S : Store} {Q : Bool → Store → Prop} : wYes ρ S Q = Q true S := (rfl)
end DL

set_option maxHeartbeats 4000000
/-! DLA: order, membership, sorting, slices by content -/
namespace DL
open PySem PySem.Spec PyProof.Rows L2
variable [WW]

/-! ### order of data -/
omit [WW] in
def alikeD (x y : D) : Prop := PySem.W.alike x.py y.py = true
omit [WW] in
def ltD (x y : D) : Bool := PySem.W.dataLt x.py y.py
omit [WW] in
def cmpD (f : D → D → Bool) (g : Int → Int → Bool) : RD
  | .int i, .int j, S, Q => Q (.bl (g i j)) S
  | x, y, S, Q => okD x ∧ okD y ∧ alikeD x y ∧ x.py ≠ .none ∧ Q (.bl (f x y)) S
omit [WW] in
def rLtD : RD := cmpD (fun x y => ltD x y) (fun i j => decide (i < j))
omit [WW] in
def rLeD : RD := cmpD (fun x y => !ltD y x) (fun i j => decide (i ≤ j))
omit [WW] in
def rGtD : RD := cmpD (fun x y => ltD y x) (fun i j => decide (j < i))
omit [WW] in
def rGeD : RD := cmpD (fun x y => !ltD x y) (fun i j => decide (j ≤ i))
def rCmpV (K : PySem.W.Frag) (f : PyData → PyData → Bool) (g : Int → Int → Bool) : R2 := fun x y H Q => rI0 (fun i j => .bl (g i j)) x y H Q ∨
  ∃ d e, Dp K H x d ∧ Dp K H y e ∧ SeqAt.shaped d = true ∧ SeqAt.shaped e = true ∧ PySem.W.alike d e = true ∧ d ≠ .none ∧ Q (.bl (f d e)) H
theorem shaped_room {A : Around} {d e : PyData} (h : SeqAt.shaped d = true) (hu : A.units + 64 < cLine) : A.units + min d.depth e.depth < cLine := by
  have h' : (d.canLay0 && decide (d.depth ≤ 64)) = true := h
  rw [Bool.and_eq_true, decide_eq_true_eq] at h'
  omega
section
variable {X : Cx}
theorem op_cmpV {op : CmpOp} {f : PyData → PyData → Bool} {g : Int → Int → Bool} (hu : X.A.units + 64 < cLine) (h0 : OpR X (compareOp op) (rI0 fun i j => .bl (g i j)))
    (h1 : ∀ {s : Shared} {E : Value → Shared → Prop} {a b : Value} {da db : PyData} {as bs : List Addr} {Q : Value → Shared → Prop}, Reads s.heap a da as → Reads s.heap b db bs → PySem.W.alike da db = true → da ≠ .none → X.A.units + min da.depth db.depth < cLine → Q (.bool (f da db)) s → wpAny (model X.prog X.w) X.A (compareOp op a b) Q E s) :
    OpR X (compareOp op) (rCmpV X.K f g) := by
  intro pins s σ H x y v u Q I rx ry h
  rcases h with h | ⟨d, e, hd, he, sd, se, hal, hn, q⟩
  · exact h0 pins s σ H x y v u Q I rx ry h
  · obtain ⟨as, r1⟩ := Dp.reads I d x v hd rx
    obtain ⟨bs, r2⟩ := Dp.reads I e y u he ry
    exact h1 r1 r2 hal hn (shaped_room sd hu) ⟨.bl _, H, I, rfl, q⟩
theorem opd_cmp {K : PySem.W.Frag} {f : D → D → Bool} {f' : PyData → PyData → Bool} {g : Int → Int → Bool} (hf : ∀ x y, f x y = f' x.py y.py) : OpD K (rCmpV K f' g) (cmpD f g) := by
  intro μ S H x y vx vy Q0 Q m rx ry q p
  unfold cmpD at q
  split at q
  · exact .inl ⟨_, _, rx.int_inv, ry.int_inv, p.now m (.bl _) q⟩
  · obtain ⟨q1, q2, q3, q4, q5⟩ := q
    exact .inr ⟨_, _, rx.dp (shaped_lay q1), ry.dp (shaped_lay q2), q1, q2, q3, q4, p.now m (.bl _) (by rw [← hf]; exact q5)⟩
variable {a b : Expr} {wa wb : WE} {pos : Pos}
theorem op_ltV (hu : X.A.units + 64 < cLine) : OpR X (compareOp .Lt) (rCmpV X.K (fun d e => PySem.W.dataLt d e) fun i j => decide (i < j)) := op_cmpV hu op_lt fun r1 r2 h1 h2 h3 q => PySem.W.lt_data r1 r2 h1 h2 h3 q
theorem op_gtV (hu : X.A.units + 64 < cLine) : OpR X (compareOp .Gt) (rCmpV X.K (fun d e => PySem.W.dataLt e d) fun i j => decide (j < i)) := op_cmpV hu op_gt fun r1 r2 h1 h2 h3 q => PySem.W.gt_data r1 r2 h1 h2 h3 q
theorem op_leV (hu : X.A.units + 64 < cLine) : OpR X (compareOp .LtE) (rCmpV X.K (fun d e => !PySem.W.dataLt e d) fun i j => decide (i ≤ j)) := op_cmpV hu op_le fun r1 r2 h1 h2 h3 q => PySem.W.le_data r1 r2 h1 h2 h3 q
theorem op_geV (hu : X.A.units + 64 < cLine) : OpR X (compareOp .GtE) (rCmpV X.K (fun d e => !PySem.W.dataLt d e) fun i j => decide (j ≤ i)) := op_cmpV hu op_ge fun r1 r2 h1 h2 h3 q => PySem.W.ge_data r1 r2 h1 h2 h3 q
theorem opd_ltD {K : PySem.W.Frag} : OpD K (rCmpV K (fun d e => PySem.W.dataLt d e) fun i j => decide (i < j)) rLtD := opd_cmp fun _ _ => rfl
theorem opd_gtD {K : PySem.W.Frag} : OpD K (rCmpV K (fun d e => PySem.W.dataLt e d) fun i j => decide (j < i)) rGtD := opd_cmp fun _ _ => rfl
theorem opd_leD {K : PySem.W.Frag} : OpD K (rCmpV K (fun d e => !PySem.W.dataLt e d) fun i j => decide (i ≤ j)) rLeD := opd_cmp fun _ _ => rfl
theorem opd_geD {K : PySem.W.Frag} : OpD K (rCmpV K (fun d e => !PySem.W.dataLt d e) fun i j => decide (j ≤ i)) rGeD := opd_cmp fun _ _ => rfl
theorem se_ltD (hu : X.A.units + 64 < cLine) (ha : SE X a wa) (hb : SE X b wb) : SE X (.Compare a [.Lt] [b] pos) (wOp rLtD wa wb) := se_cmpR opd_ltD (op_ltV hu) ha hb (nomark _)
theorem se_leD (hu : X.A.units + 64 < cLine) (ha : SE X a wa) (hb : SE X b wb) : SE X (.Compare a [.LtE] [b] pos) (wOp rLeD wa wb) := se_cmpR opd_leD (op_leV hu) ha hb (nomark _)
theorem se_gtD (hu : X.A.units + 64 < cLine) (ha : SE X a wa) (hb : SE X b wb) : SE X (.Compare a [.Gt] [b] pos) (wOp rGtD wa wb) := se_cmpR opd_gtD (op_gtV hu) ha hb (nomark _)
theorem se_geD (hu : X.A.units + 64 < cLine) (ha : SE X a wa) (hb : SE X b wb) : SE X (.Compare a [.GtE] [b] pos) (wOp rGeD wa wb) := se_cmpR opd_geD (op_geV hu) ha hb (nomark _)
theorem st_ltD (hu : X.A.units + 64 < cLine) (ha : SE X a wa) (hb : SE X b wb) : ST X (.Compare a [.Lt] [b] pos) (wTest (wOp rLtD wa wb)) := st_cmpR opd_ltD (op_ltV hu) ha hb (nomark _)
theorem st_leD (hu : X.A.units + 64 < cLine) (ha : SE X a wa) (hb : SE X b wb) : ST X (.Compare a [.LtE] [b] pos) (wTest (wOp rLeD wa wb)) := st_cmpR opd_leD (op_leV hu) ha hb (nomark _)
theorem st_gtD (hu : X.A.units + 64 < cLine) (ha : SE X a wa) (hb : SE X b wb) : ST X (.Compare a [.Gt] [b] pos) (wTest (wOp rGtD wa wb)) := st_cmpR opd_gtD (op_gtV hu) ha hb (nomark _)
theorem st_geD (hu : X.A.units + 64 < cLine) (ha : SE X a wa) (hb : SE X b wb) : ST X (.Compare a [.GtE] [b] pos) (wTest (wOp rGeD wa wb)) := st_cmpR opd_geD (op_geV hu) ha hb (nomark _)
end

/-! ### a < b < c, by the same rules -/
omit [WW] in
def wChain (R R' : RD) (wa wb wc : WE) : WE := fun ρ S Q => wa ρ S fun x S1 => wb ρ S1 fun y S2 => R x y S2 fun z S3 => match z with | .bl k => if k = true then wc ρ S3 fun w S4 => R' y w S4 Q else Q (.bl false) S3 | _ => False
section
variable {X : Cx} {a b c : Expr} {wa wb wc : WE} {pos : Pos} {op op' : CmpOp} {r r' : R2} {R R' : RD}
theorem chain_ok {σ : L2.St} {H : Hp} {Q : VK} (hc : OpD X.K r R) (hc' : OpD X.K r' R') (h : LE X.K (wChain R R' wa wb wc) σ H Q) : tChain r r' (LE X.K wa) (LE X.K wb) (LE X.K wc) σ H Q := by
  obtain ⟨μ, S, ρ, Q0, m, en, q, p⟩ := h
  refine LE.run m en q fun x S1 μ1 vx H1 q1 g1 m1 e1 r1 => ?_
  refine LE.run m1 e1 q1 fun y S2 μ2 vy H2 q2 g2 m2 e2 r2 => ?_
  refine hc μ2 S2 H2 x y vx vy _ _ m2 (r1.grow g2) r2 q2 fun z S3 q3 μ3 vz H3 g3 m3 r3 => ?_
  cases r3 with
  | bl k =>
    refine ⟨k, rfl, ?_⟩
    cases k with
    | false => exact p _ S3 q3 μ3 _ H3 ((g1.trans g2).trans g3) m3 (.bl false)
    | true =>
      refine LE.run m3 (e2.grow g3) q3 fun w S4 μ4 vw H4 q4 g4 m4 e4 r4 => ?_
      exact hc' μ4 S4 H4 y w vy vw _ _ m4 (r2.grow (g3.trans g4)) r4 q4 (p.go ((g1.trans g2).trans (g3.trans g4)))
  | _ => exact q3.elim
theorem se_chain (hc : OpD X.K r R) (ho : OpR X (compareOp op) r) (hc' : OpD X.K r' R') (ho' : OpR X (compareOp op') r') (ha : SE X a wa) (hb : SE X b wb) (hcc : SE X c wc) (hm : lastMarks [op, op'] [b, c] = false := by with_unfolding_all rfl) :
    SE X (.Compare a [op, op'] [b, c] pos) (wChain R R' wa wb wc) := pe_weak (pe_chain ho ho' ha hb hcc hm) fun σ H Q h => chain_ok hc hc' h
theorem st_chain (hc : OpD X.K r R) (ho : OpR X (compareOp op) r) (hc' : OpD X.K r' R') (ho' : OpR X (compareOp op') r') (ha : SE X a wa) (hb : SE X b wb) (hcc : SE X c wc) (hm : lastMarks [op, op'] [b, c] = false := by with_unfolding_all rfl) :
    ST X (.Compare a [op, op'] [b, c] pos) (wTest (wChain R R' wa wb wc)) := pt_weak (pt_chain ho ho' ha hb hcc hm) fun σ H Q ⟨μ, S, ρ, Q0, m, en, q, p⟩ => by
  refine chain_ok hc hc' ⟨μ, S, ρ, _, m, en, q, fun d S' q' μ' v H' g m' r => ?_⟩
  cases r with
  | bl k => exact ⟨k, rfl, p k S' q' μ' H' g m'⟩
  | _ => exact q'.elim
end

/-! ### in, not in -/
omit [WW] in
/-- the items of what stands there -/
def itemsD (S : Store) : D → Option (List D)
  | .tup ds => some ds
  | .lst ds => some ds
  | .ref n => match S[n]? with | some (.lst ds) => some ds | _ => none
  | _ => none
omit [WW] in
def inD (x : D) (ds : List D) : Bool := ds.any fun z => eqv z x
omit [WW] in
def rInN (neg : Bool) : RD := fun x y S Q => match itemsD S y with
  | some ds => okD x ∧ okD (.lst ds) ∧ Q (.bl (if neg = true then !inD x ds else inD x ds)) S
  | none => False
def rInV (K : PySem.W.Frag) (neg : Bool) : R2 := fun x y H Q => ∃ p xs d ds, Dp K H x d ∧ y = .ref p ∧ (SqL K H p xs ∨ SqT K H p xs) ∧ DpAll K H xs ds ∧ SeqAt.shaped d = true ∧ SeqAt.shaped (.list ds) = true ∧ Q (.bl (if neg = true then !ds.any fun z => PyData.eqv z d else ds.any fun z => PyData.eqv z d)) H
omit [WW] in
theorem pyAll_any (f : PyData → Bool) : ∀ ds : List D, (pyAll ds).any f = ds.any fun z => f z.py
  | [] => rfl
  | d :: ds => by rw [pyAll, List.any_cons, List.any_cons, pyAll_any f ds]
omit [WW] in
theorem pyAll_map : ∀ ds : List D, pyAll ds = ds.map D.py
  | [] => rfl
  | d :: ds => by rw [pyAll, List.map_cons, pyAll_map ds]
theorem items_rep {K : PySem.W.Frag} {μ : Mu} {S : Store} {H : Hp} {ds : List D} {v : V} {d : D} (m : Sim K μ S H) (r : Rep K μ H d v) (h : itemsD S d = some ds) : ∃ a xs, v = .ref a ∧ (SqL K H a xs ∨ SqT K H a xs) ∧ RepAll K μ H ds xs := by
  refine seq_rep m r ?_
  cases d with
  | tup es => exact .inl (by rw [Option.some.inj h])
  | lst es => exact .inr (.inl (by rw [Option.some.inj h]))
  | ref n =>
    refine .inr (.inr ⟨n, rfl, ?_⟩)
    have h' : (match S[n]? with | some (.lst ds) => some ds | _ => none) = some ds := h
    split at h'
    · rename_i es he
      rw [he, Option.some.inj h']
    · cases h'
  | _ => cases h
section
variable {X : Cx}
theorem op_inV (neg : Bool) (hu : X.A.units + 65 < cLine) : OpR X (compareOp (if neg = true then .NotIn else .In)) (rInV X.K neg) := by
  intro pins s σ H x y v u Q I rx ry h
  obtain ⟨p, xs, d, ds, hd, rfl, hq, hds, sd, sl, q⟩ := h
  obtain ⟨as, r1⟩ := Dp.reads I d x v hd rx
  rcases hq with hq | hq
  · obtain ⟨bs, r2⟩ := Dp.reads I (.list ds) _ u (.lst hq hds) ry
    cases neg with
    | false => exact SeqAt.in_list_reads r2 r1 (SeqAt.canLay_of_shaped sl) (SeqAt.canLay_of_shaped sd) (room_in_shaped sd hu) ⟨.bl _, H, I, rfl, q⟩
    | true => exact SeqAt.notIn_list_reads r2 r1 (SeqAt.canLay_of_shaped sl) (SeqAt.canLay_of_shaped sd) (room_in_shaped sd hu) ⟨.bl _, H, I, rfl, q⟩
  · obtain ⟨bs, r2⟩ := Dp.reads I (.tuple ds) _ u (.tup hq hds) ry
    cases neg with
    | false => exact SeqAt.in_tuple_reads r2 r1 (SeqAt.canLay_of_shaped sl) (SeqAt.canLay_of_shaped sd) (room_in_shaped sd hu) ⟨.bl _, H, I, rfl, q⟩
    | true => exact SeqAt.notIn_tuple_reads r2 r1 (SeqAt.canLay_of_shaped sl) (SeqAt.canLay_of_shaped sd) (room_in_shaped sd hu) ⟨.bl _, H, I, rfl, q⟩
theorem opd_in {K : PySem.W.Frag} (neg : Bool) : OpD K (rInV K neg) (rInN neg) := by
  intro μ S H x y vx vy Q0 Q m rx ry q p
  unfold rInN at q
  split at q
  · rename_i ds hds
    obtain ⟨q1, q2, q3⟩ := q
    obtain ⟨a, xs, rfl, h1, r1⟩ := items_rep m ry hds
    refine ⟨a, xs, _, pyAll ds, rx.dp (shaped_lay q1), rfl, h1, r1.dp ?_, q1, q2, ?_⟩
    · have := shaped_lay q2
      simpa [D.py, PyData.canLay0] using this
    · have e : ((pyAll ds).any fun z => PyData.eqv z x.py) = inD x ds := pyAll_any _ ds
      rw [e]
      exact p.now m (.bl _) q3
  · exact q.elim
variable {a b : Expr} {wa wb : WE} {pos : Pos}
theorem se_in (hu : X.A.units + 65 < cLine) (ha : SE X a wa) (hb : SE X b wb) (hm : behindInMarks .In b = false := by first | exact nomark _ | with_unfolding_all rfl) : SE X (.Compare a [.In] [b] pos) (wOp (rInN false) wa wb) := se_cmpR (opd_in false) (op_inV false hu) ha hb hm
theorem st_in (hu : X.A.units + 65 < cLine) (ha : SE X a wa) (hb : SE X b wb) (hm : behindInMarks .In b = false := by first | exact nomark _ | with_unfolding_all rfl) : ST X (.Compare a [.In] [b] pos) (wTest (wOp (rInN false) wa wb)) := st_cmpR (opd_in false) (op_inV false hu) ha hb hm
theorem se_notIn (hu : X.A.units + 65 < cLine) (ha : SE X a wa) (hb : SE X b wb) (hm : behindInMarks .NotIn b = false := by first | exact nomark _ | with_unfolding_all rfl) : SE X (.Compare a [.NotIn] [b] pos) (wOp (rInN true) wa wb) := se_cmpR (opd_in true) (op_inV true hu) ha hb hm
theorem st_notIn (hu : X.A.units + 65 < cLine) (ha : SE X a wa) (hb : SE X b wb) (hm : behindInMarks .NotIn b = false := by first | exact nomark _ | with_unfolding_all rfl) : ST X (.Compare a [.NotIn] [b] pos) (wTest (wOp (rInN true) wa wb)) := st_cmpR (opd_in true) (op_inV true hu) ha hb hm
end
end DL

set_option maxHeartbeats 4000000
/-! DLB: sorted, slices, op=, a, b = x, y, ranges with a step, enumerate, zip by content -/
namespace DL
open PySem PySem.Spec PyProof.Rows L2
variable [WW]

/-! ### sorted -/
omit [WW] in
def sortD (ds : List D) : List D := ds.mergeSort (PySem.W.dataLe false D.py)
omit [WW] in
def SortOkD (ds : List D) : Prop := PySem.W.AllAlikeW (pyAll ds) ∧ PySem.W.Sortable (pyAll ds) ∧ okD (.lst ds)
omit [WW] in
def rSorted : RC
  | [x], S, Q => match itemsD S x with
    | some ds => SortOkD ds ∧ Q (.lst (sortD ds)) S
    | none => False
  | _, _, _ => False
omit [WW] in
def rSortedN : RC
  | [x], S, Q => match itemsD S x with
    | some ds => SortOkD ds ∧ Q (.ref S.length) (S ++ [.lst (sortD ds)])
    | none => False
  | _, _, _ => False
def rSortedV (K : PySem.W.Frag) : List V → Hp → VK → Prop := fun vs H Q => ∃ (a : Addr) (xs : List V) (es : List D) (μ : Mu), vs = [.ref a] ∧ (SqL K H a xs ∨ SqT K H a xs) ∧ RepAll K μ H es xs ∧ SortOkD es ∧
  ∀ ys p, RepAll K μ H (sortD es) ys → H p = none → Q (.ref p) (upd H p (.lst ys))
theorem rep_back {K : PySem.W.Frag} {μ : Mu} {H : Hp} : ∀ {out : List Value} {bs : List D}, PySem.W.EachIs (fun u b => ∃ x, RelV x u ∧ Rep K μ H b x) out bs → ∃ ys, Vals ys out ∧ RepAll K μ H bs ys
  | _, _, .nil => ⟨[], .nil, .nil⟩
  | _, _, .cons ⟨x, h1, h2⟩ t => by
    obtain ⟨ys, h3, h4⟩ := rep_back t
    exact ⟨x :: ys, .cons h1 h3, .cons h2 h4⟩
theorem each_rep {K : PySem.W.Frag} {μ : Mu} {H : Hp} : ∀ {es : List D} {xs : List V} {us : List Value}, RepAll K μ H es xs → Vals xs us → PySem.W.EachIs (fun u b => ∃ x, RelV x u ∧ Rep K μ H b x) us es
  | _, _, _, .nil, r => by cases r; exact .nil
  | _, _, _, .cons r t, v => by
    cases v with
    | cons a b => exact .cons ⟨_, a, r⟩ (each_rep t b)
theorem each_reads {X : Cx} {pins : List (Addr × Obj)} {σ : L2.St} {H : Hp} {s : Shared} {μ : Mu} (I : Inv X pins σ H s) : ∀ {es : List D} {xs : List V} {us : List Value}, RepAll X.K μ H es xs → Vals xs us → PyData.canLayAll0 (pyAll es) = true → PySem.W.EachIs (fun v d => ∃ as, Reads s.heap v d as) us (pyAll es)
  | _, _, _, .nil, r, _ => by cases r; exact .nil
  | d :: es, _, _, .cons r t, v, c => by
    have c' : d.py.canLay0 = true ∧ PyData.canLayAll0 (pyAll es) = true := by simpa [pyAll, PyData.canLayAll0] using c
    cases v with
    | cons a b => exact .cons (Dp.reads I _ _ _ (r.dp c'.1) a) (each_reads I t b c'.2)
omit [WW] in
theorem depthAll_mem : ∀ {ds : List PyData} {d : PyData}, d ∈ ds → d.depth ≤ PyData.depthAll ds
  | e :: ds, d, h => by
    rw [PyData.depthAll]
    rcases List.mem_cons.mp h with rfl | h
    · exact Nat.le_max_left _ _
    · exact Nat.le_trans (depthAll_mem h) (Nat.le_max_right _ _)
section
variable {X : Cx}
/-- sorted(x) of a list or a tuple of alike data -/
theorem sorted_seqV {prog : Program} {w : World} {A : Around} {E : Value → Shared → Prop} {s : Shared} {l : Addr} {T : String} {o : Obj} {vs : List Value} {ds : List PyData} {n : Nat} {Q : Value → Shared → Prop} (hT : T = "list" ∨ T = "tuple") (ho : s.heap.get? l = some o) (hc : o.cls = .type T) (hd : o.data = .seq vs.toArray n) (hL : vs.length ≤ sizeLine)
    (e : PySem.W.EachIs (fun v d => ∃ as, Reads s.heap v d as) vs ds) (hal : PySem.W.AllAlikeW ds) (hk : PySem.W.Sortable ds) (hu : ∀ d, d ∈ ds → A.in1.in1.units + d.depth < cLine)
    (h : ∀ (h1 h' : Heap) (c : Nat) (out : List Value), PySem.W.KeyedOutW false ds vs out → (∀ b o, s.heap.get? b = some o → h1.get? b = some o) → (∀ b o, h1.get? b = some o → h'.get? b = some o) → h'.get? h1.objs.size = some (seqObj "list" out.toArray c) → Q (.ref h1.objs.size) { s with heap := h' }) :
    wpAny (model prog w) A (call (.builtin "sorted") [.ref l]) Q E s := by
  refine PyProof.Rows.call_function_entry_kw kind_sorted plain_sorted entry_sorted (args_sorted1 _) ?_
  unfold Builtin.«sorted»
  refine wpAny_bind (m := checkCount "sorted" 1 1 _) (wpAny_pure ?_)
  refine wpAny_bind (wpAny_collect_seq l hT ho hc hd (fun h1 k1 => ?_) (by simpa using hL))
  refine wpAny_bind (wpAny_newList ?_ (by simpa using hL))
  have ha : (h1.push (seqObj "list" vs.toArray 0)).get? h1.objs.size = some (seqObj "list" vs.toArray 0) := Heap.get?_push_size _ rfl
  have k2 : ∀ b o, s.heap.get? b = some o → (h1.push (seqObj "list" vs.toArray 0)).get? b = some o := fun b o q => Heap.get?_push_of_some _ (k1 b o q)
  have k3 : ∀ b o, s.heap.get? b = some o → (PySem.W.sortingHeap (h1.push (seqObj "list" vs.toArray 0)) h1.objs.size vs).get? b = some o := fun b o q => PySem.W.sortingHeap_old (Nat.ne_of_lt (Heap.lt_size (k1 b o q))) (k2 b o q)
  have eh : PySem.W.EachIs (fun v d => ∃ as, Reads (PySem.W.sortingHeap (h1.push (seqObj "list" vs.toArray 0)) h1.objs.size vs) v d as) vs ds := e.mono fun _ _ ⟨as, r⟩ => ⟨as, Reads.keeps k3 r⟩
  show wpAny _ _ _ _ _ { s with heap := h1.push (seqObj "list" vs.toArray 0) }
  obtain ⟨c, hat⟩ := sortedHeap_at (out := (PySem.W.sortVals (PySem.W.dataKind (PySem.W.sortingHeap (h1.push (seqObj "list" vs.toArray 0)) h1.objs.size vs) ds) false vs vs).toArray) ha
  refine wpAny_bind (wpAny_holding (PyProof.Rows.wpAny_call_entry_kw slot_list_sort ⟨_, ha, rfl⟩ entry_list_sort (PySem.W.list_sort_vals (s := { s with heap := h1.push (seqObj "list" vs.toArray 0) }) ha (PySem.W.SortsAt.dataW (s := { s with heap := PySem.W.sortingHeap (h1.push (seqObj "list" vs.toArray 0)) h1.objs.size vs }) eh hal hk hu) hL ⟨_, rfl, ?_⟩) (args_list_sort _)))
  refine wpAny_pure ⟨_, rfl, h h1 _ c _ ⟨_, vs, hal, rfl, eh⟩ k1 (fun b o q => ?_) hat⟩
  have hlt : b < h1.objs.size := Heap.lt_size q
  have hlt2 : b < (h1.push (seqObj "list" vs.toArray 0)).objs.size := by rw [size_push']; exact Nat.lt_succ_of_lt hlt
  rw [sortedHeap_old (Nat.ne_of_lt hlt) hlt2]
  exact Heap.get?_push_of_some _ q
omit [WW] in
theorem shapedL_depth {ds : List PyData} (h : SeqAt.shaped (.list ds) = true) : ∀ d, d ∈ ds → d.depth < 64 := fun d hd => by
  have h' : ((PyData.list ds).canLay0 && decide ((PyData.list ds).depth ≤ 64)) = true := h
  rw [Bool.and_eq_true, decide_eq_true_eq] at h'
  have h2 := h'.2
  rw [PyData.depth] at h2
  have := depthAll_mem hd
  omega
theorem cr_sortedV (hu : X.A.units + 66 < cLine) : CallR X (.builtin "sorted") (rSortedV X.K) := by
  intro pins s σ H vs us Q I r h
  obtain ⟨a, xs, es, μ, rfl, hq, re, ⟨o1, o2, o3⟩, q⟩ := h
  rw [Vals.ref1 r]
  have hlay : PyData.canLayAll0 (pyAll es) = true := by
    have := shaped_lay o3
    simpa [D.py, PyData.canLay0] using this
  have fin : ∀ (T : String) (o : Obj) (its : List Value) (n : Nat), (T = "list" ∨ T = "tuple") → s.heap.get? a = some o → o.cls = .type T → o.data = .seq its.toArray n → Vals xs its → xs.length ≤ sizeLine → wpAny (model X.prog X.w) X.A (call (.builtin "sorted") [.ref a]) (EP X pins σ Q) X.xe s := fun T o its n hT ho hc hd rv hz => by
    refine sorted_seqV hT ho hc hd (by rw [← rv.length]; exact hz) (each_reads I re rv hlay) o1 o2 (fun d hd => ?_) fun h1 h' c out ko k1 k2 hat => ?_
    · have := shapedL_depth (ds := pyAll es) o3 d hd
      show X.A.units + 1 + 1 + d.depth < cLine
      omega
    · have I1 : Inv X pins σ H { s with heap := h1 } := I.kept (t' := s.toks) k1
      have ke : PySem.W.EachIs (fun u b => ∃ x, RelV x u ∧ Rep X.K μ H b x) out (sortD es) := PySem.W.keyedOut_eachW (bs := es) D.py (by rw [← pyAll_map]; exact ko) (each_rep re rv)
      obtain ⟨ys, hv, hr⟩ := rep_back ke
      have hl : ys.length ≤ sizeLine := by
        rw [← hr.length]
        have : (sortD es).length = es.length := List.length_mergeSort _
        rw [this, re.length]
        exact hz
      exact ⟨.ref h1.objs.size, _, I1.laid (t' := s.toks) k2 (Nat.le_refl _) (show ObjOk X.prog X.w _ h' _ (.lst ys) from ⟨hl, out, c, hv, hat⟩), rfl, q ys _ hr (I1.hok.fresh (Nat.le_refl _))⟩
  rcases hq with hq | hq
  · obtain ⟨its, rv, pl, hz⟩ := I.list hq
    obtain ⟨o, ho, hc, n, hd⟩ := pl.isList
    exact fin "list" o its n (.inl rfl) ho hc hd rv hz
  · obtain ⟨its, rv, pl, hz⟩ := I.tuple hq
    obtain ⟨o, ho, hc, n, hd⟩ := pl
    exact fin "tuple" o its n (.inr rfl) ho hc hd rv hz
theorem cd_sorted {K : PySem.W.Frag} : CallD K (rSortedV K) rSorted := by
  intro μ S H ds vs Q0 Q m r q p
  unfold rSorted at q
  split at q
  · rename_i x
    obtain ⟨v, e1, r'⟩ := r.one_inv
    subst e1
    split at q
    · rename_i ds hds
      obtain ⟨a, xs, rfl, h1, r1⟩ := items_rep m r' hds
      exact ⟨a, xs, ds, μ, rfl, h1, r1, q.1, fun ys l hy hl => p _ _ q.2 _ _ _ (.new hl) (m.new hl) (Sim.newL m hl hy)⟩
    · exact q.elim
  · exact q.elim
theorem cd_sortedN {K : PySem.W.Frag} : CallD K (rSortedV K) rSortedN := by
  intro μ S H ds vs Q0 Q m r q p
  unfold rSortedN at q
  split at q
  · rename_i x
    obtain ⟨v, e1, r'⟩ := r.one_inv
    subst e1
    split at q
    · rename_i ds hds
      obtain ⟨a, xs, rfl, h1, r1⟩ := items_rep m r' hds
      exact ⟨a, xs, ds, μ, rfl, h1, r1, q.1, fun ys l hy hl => p _ _ q.2 _ _ _ (.alloc hl) (m.alloc hl hy) m.newR.refH⟩
    · exact q.elim
  · exact q.elim
variable {a : Expr} {es : List Expr} {wr : WA} {pos p : Pos}
theorem se_sorted (hu : X.A.units + 66 < cLine) (hg : Gl X "sorted") (hm : X.mg "sorted" = none) (ha : SA X (a :: es) wr) (he : starEach (a :: es) X.env = (false, eval a X.env) :: starEach es X.env := by rfl) (hpl : (backTo pos (starEach es X.env)).any (·.1) = false := by rfl) : SE X (.Call (.Name "sorted" p) (a :: es) [] pos) (wCall rSorted wr) := se_callB cd_sorted (cr_sortedV hu) hg hm (by decide +kernel) ha (by decide) (by decide) he hpl
theorem se_sortedN (hu : X.A.units + 66 < cLine) (hg : Gl X "sorted") (hm : X.mg "sorted" = none) (ha : SA X (a :: es) wr) (he : starEach (a :: es) X.env = (false, eval a X.env) :: starEach es X.env := by rfl) (hpl : (backTo pos (starEach es X.env)).any (·.1) = false := by rfl) : SE X (.Call (.Name "sorted" p) (a :: es) [] pos) (wCall rSortedN wr) := se_callB cd_sortedN (cr_sortedV hu) hg hm (by decide +kernel) ha (by decide) (by decide) he hpl
end
end DL

set_option maxHeartbeats 4000000
/-! DLC: slices, op=, a, b = x, y, ranges with a step, enumerate, zip by content -/
namespace DL
open PySem PySem.Spec PyProof.Rows L2
variable [WW]

/-! ### slices -/
omit [WW] in
abbrev WO := Env → Store → (Option Int → Store → Prop) → Prop
def LO (K : PySem.W.Frag) (w : WO) : TO := fun σ H Q => ∃ μ S ρ Q0, Sim K μ S H ∧ EnvR K μ H ρ σ ∧ w ρ S Q0 ∧ ∀ o S', Q0 o S' → ∀ μ' H', Grow μ H μ' H' → Sim K μ' S' H' → Q o H'
abbrev SO (X : Cx) (e : Option Expr) (w : WO) : Prop := PO X e (LO X.K w)
omit [WW] in
def wNoPart : WO := fun _ S Q => Q none S
omit [WW] in
def wPart (w : WE) : WO := fun ρ S Q => w ρ S fun d S1 => match d with | .int i => Q (some i) S1 | _ => False
theorem po_weak {X : Cx} {e : Option Expr} {t t' : TO} (h : PO X e t) (hw : ∀ σ H Q, t' σ H Q → t σ H Q) : PO X e t' := ⟨fun pins s σ H Q I q => h.run pins s σ H Q I (hw _ _ _ q)⟩
section
variable {X : Cx} {e a b c l : Expr} {lo hi : Option Expr} {wa wb wc : WE} {wl wh : WO} {pos p p2 : Pos} {wr : WA} {es : List Expr}
theorem so_none : SO X none wNoPart := po_weak po_none fun σ H Q ⟨μ, S, ρ, Q0, m, en, q, p⟩ => p none S q μ H .refl m
theorem so_some (ha : SE X a wa) : SO X (some a) (wPart wa) := po_weak (po_some ha) fun σ H Q ⟨μ, S, ρ, Q0, m, en, q, p⟩ => by
  refine LE.run m en q fun d S1 μ1 v H1 q1 g1 m1 e1 r1 => ?_
  split at q1
  · exact ⟨_, r1.int_inv, p _ S1 q1 μ1 H1 g1 m1⟩
  · exact q1.elim
omit [WW] in
def cutD {α : Type} (xs : List α) (lo hi : Option Int) : List α := (xs.drop (HT.sIx xs.length 0 lo)).take (HT.sIx xs.length xs.length hi - HT.sIx xs.length 0 lo)
theorem RepAll.cut2 {K : PySem.W.Frag} {μ : Mu} {H : Hp} {ds : List D} {vs : List V} (r : RepAll K μ H ds vs) (lo hi : Option Int) : RepAll K μ H (cutD ds lo hi) (cutV vs lo hi) := by
  unfold cutD cutV
  rw [r.length]
  exact (r.drop _).take _
omit [WW] in
theorem cutD_all {α : Type} {xs : List α} {lo hi : Option Int} (h : HT.sIx xs.length 0 lo = 0 ∧ HT.sIx xs.length xs.length hi = xs.length) : cutD xs lo hi = xs := by
  unfold cutD
  rw [h.1, h.2, List.drop_zero, Nat.sub_zero, List.take_length]
omit [WW] in
theorem cutD_hi {α : Type} {xs : List α} {k : Nat} : cutD xs none (some (k : Int)) = xs.take k := by
  unfold cutD
  rw [HT.sIx_none, HT.sIx_nat, List.drop_zero, Nat.sub_zero]
  by_cases h : k ≤ xs.length
  · rw [Nat.min_eq_left h]
  · rw [Nat.min_eq_right (by omega), List.take_length, List.take_of_length_le (by omega)]
omit [WW] in
theorem cutD_lo {α : Type} {xs : List α} {k : Nat} : cutD xs (some (k : Int)) none = xs.drop k := by
  unfold cutD
  rw [HT.sIx_none, HT.sIx_nat]
  by_cases h : k ≤ xs.length
  · rw [Nat.min_eq_left h, List.take_of_length_le (by rw [List.length_drop]; omega)]
  · rw [Nat.min_eq_right (by omega), List.drop_of_length_le (Nat.le_refl _), List.drop_of_length_le (by omega), List.take_nil]
omit [WW] in
def rSl : D → Option Int → Option Int → Store → (D → Store → Prop) → Prop := fun x lo hi S Q => match x with
  | .str z => z.length ≤ sizeLine ∧ Q (.str (cutS z lo hi)) S
  | .tup ds => Q (.tup (cutD ds lo hi)) S
  | .lst ds => Q (.lst (cutD ds lo hi)) S
  | .ref n => match S[n]? with | some (.lst ds) => Q (.lst (cutD ds lo hi)) S | _ => False
  | _ => False
omit [WW] in
def rSlN : D → Option Int → Option Int → Store → (D → Store → Prop) → Prop := fun x lo hi S Q => match x with
  | .lst ds => Q (.ref S.length) (S ++ [.lst (cutD ds lo hi)])
  | .ref n => match S[n]? with | some (.lst ds) => Q (.ref S.length) (S ++ [.lst (cutD ds lo hi)]) | _ => False
  | _ => False
omit [WW] in
def wSl (R : D → Option Int → Option Int → Store → (D → Store → Prop) → Prop) (w : WE) (wl wh : WO) : WE := fun ρ S Q => w ρ S fun x S1 => wl ρ S1 fun lo S2 => wh ρ S2 fun hi S3 => R x lo hi S3 Q
def rSlV (K : PySem.W.Frag) : V → Option Int → Option Int → Hp → VK → Prop := fun x lo hi H Q => rSlL K x lo hi H Q ∨ (rSlA K x lo hi H Q ∨ rSlS x lo hi H Q)
omit [WW] in
theorem sl_V : SlR X (rSlV X.K) := sl_list.or (sl_tupA.or sl_str)
theorem LO.run {K : PySem.W.Frag} {w : WO} {μ : Mu} {S : Store} {ρ : Env} {σ : L2.St} {H : Hp} {Q0 : Option Int → Store → Prop} {Q : Option Int → Hp → Prop} (m : Sim K μ S H) (en : EnvR K μ H ρ σ) (h : w ρ S Q0)
    (k : ∀ o S' μ' H', Q0 o S' → Grow μ H μ' H' → Sim K μ' S' H' → EnvR K μ' H' ρ σ → Q o H') : LO K w σ H Q := ⟨μ, S, ρ, Q0, m, en, h, fun o S' q μ' H' g m' => k o S' μ' H' q g m' (en.grow g)⟩
theorem sl_run {R : D → Option Int → Option Int → Store → (D → Store → Prop) → Prop}
    (hR : ∀ (μ : Mu) (S : Store) (H : Hp) (x : D) (v : V) (lo hi : Option Int) (Q0 : D → Store → Prop) (Q : VK), Sim X.K μ S H → Rep X.K μ H x v → R x lo hi S Q0 → Post X.K μ H Q0 Q → rSlV X.K v lo hi H Q)
    (ha : SE X e wa) (hl : SO X lo wl) (hh : SO X hi wh) : SE X (.Subscript e (.Slice lo hi none p2) pos) (wSl R wa wl wh) := pe_weak (pe_slice sl_V ha hl hh) fun σ H Q ⟨μ, S, ρ, Q0, m, en, q, p⟩ => by
  refine LE.run m en q fun x S1 μ1 v H1 q1 g1 m1 e1 r1 => ?_
  refine LO.run m1 e1 q1 fun l S2 μ2 H2 q2 g2 m2 e2 => ?_
  refine LO.run m2 e2 q2 fun h S3 μ3 H3 q3 g3 m3 e3 => ?_
  exact hR μ3 S3 H3 x v l h Q0 Q m3 (r1.grow (g2.trans g3)) q3 (p.go (g1.trans (g2.trans g3)))
theorem se_slice (ha : SE X e wa) (hl : SO X lo wl) (hh : SO X hi wh) : SE X (.Subscript e (.Slice lo hi none p2) pos) (wSl rSl wa wl wh) := sl_run (fun μ S H x v lo hi Q0 Q m r q p => by
  unfold rSl at q
  split at q
  · exact .inr (.inr ⟨_, r.str_inv, q.1, p.now m (.str _) q.2⟩)
  · rename_i ds
    obtain ⟨a, xs, rfl, h1, r1⟩ := r.tupS
    refine .inr (.inl ⟨a, xs, rfl, h1, fun hw => ?_, fun _ l hl => p _ _ q _ _ _ (.new hl) (m.new hl) (Sim.newT (S := S) hl (r1.cut2 _ _))⟩)
    rw [cutD_all (by rw [r1.length]; exact hw)] at q
    exact p.now m r q
  · obtain ⟨a, xs, rfl, h1, r1⟩ := r.lstS
    exact .inl ⟨a, xs, rfl, h1, fun l hl => p _ _ q _ _ _ (.new hl) (m.new hl) (Sim.newL m hl (r1.cut2 _ _))⟩
  · split at q
    · rename_i ds hn
      obtain ⟨a, xs, rfl, hm, h1, r1⟩ := m.at hn r
      exact .inl ⟨a, xs, rfl, SqL.of h1, fun l hl => p _ _ q _ _ _ (.new hl) (m.new hl) (Sim.newL m hl (r1.cut2 _ _))⟩
    · exact q.elim
  · exact q.elim) ha hl hh
theorem se_sliceN (ha : SE X e wa) (hl : SO X lo wl) (hh : SO X hi wh) : SE X (.Subscript e (.Slice lo hi none p2) pos) (wSl rSlN wa wl wh) := sl_run (fun μ S H x v lo hi Q0 Q m r q p => by
  unfold rSlN at q
  split at q
  · obtain ⟨a, xs, rfl, h1, r1⟩ := r.lstS
    exact .inl ⟨a, xs, rfl, h1, fun l hl => p _ _ q _ _ _ (.alloc hl) (m.alloc hl (r1.cut2 _ _)) m.newR.refH⟩
  · split at q
    · rename_i ds hn
      obtain ⟨a, xs, rfl, hm, h1, r1⟩ := m.at hn r
      exact .inl ⟨a, xs, rfl, SqL.of h1, fun l hl => p _ _ q _ _ _ (.alloc hl) (m.alloc hl (r1.cut2 _ _)) m.newR.refH⟩
    · exact q.elim
  · exact q.elim) ha hl hh

/-! ### name op= e, of ints; a, b = x, y; a text alone -/
omit [WW] in
def rAddI : RD
  | .int i, .int j, S, Q => Q (.int (i + j)) S
  | _, _, _, _ => False
omit [WW] in
def wAug (R : RD) (i : Nat) (w : WE) : WS := fun D ρ S => match ρ[i]? with
  | some (some x) => w ρ S fun y S1 => R x y S1 fun z S2 => D.nx (ρ.set i (some z)) S2
  | _ => False
theorem aug_ok {R : RD} {f : Int → Int → Int} (hR : ∀ x y S Q, R x y S Q → ∃ i j, x = .int i ∧ y = .int j ∧ Q (.int (f i j)) S) {i : Nat} {D : Ends} {σ : L2.St} {H : Hp} (h : LS X.K (wxOf X) (wAug R i wa) D σ H) : tAug i (LE X.K wa) (ipI f) D σ H := by
  obtain ⟨μ, S, ρ, D0, m, en, q, p⟩ := h
  have q' : (match ρ[i]? with | some (some x) => wa ρ S fun y S1 => R x y S1 fun z S2 => D0.nx (ρ.set i (some z)) S2 | _ => False) := q
  split at q'
  · rename_i x hx
    obtain ⟨v, h1, h2⟩ := en.2 i x hx
    refine ⟨v, h1, LE.run m en q' fun y S1 μ1 vy H1 q1 g1 m1 e1 r1 => ?_⟩
    obtain ⟨i', j', rfl, rfl, q2⟩ := hR _ _ _ _ q1
    exact ⟨i', j', h2.int_inv, r1.int_inv, p.nx _ S1 q2 μ1 _ H1 g1 m1 (e1.set (.int _))⟩
  · exact q'.elim
theorem ss_aug_add {i : Nat} {x : Str} {pos' : Pos} (hN : X.N.Nodup) (he : SE X e wa) (hi : X.N[i]? = some x := by rfl) (hx : Loc X.env.scope x := by first | exact Or.inl rfl | exact Or.inr rfl) (hf : X.fn x = true ∨ X.env.scope.names.lookup x = some .local := by first | exact .inl rfl | exact .inr rfl | assumption) :
    SS X (.AugAssign (.Name x pos') .Add e pos) (wAug rAddI i wa) := ps_weak (ps_aug hN hi hx he ip_add hf) fun D σ H h => aug_ok (fun x y S Q q => by
  unfold rAddI at q
  split at q
  · exact ⟨_, _, rfl, rfl, q⟩
  · exact q.elim) h
theorem ss_aug_sub {i : Nat} {x : Str} {pos' : Pos} (hN : X.N.Nodup) (he : SE X e wa) (hi : X.N[i]? = some x := by rfl) (hx : Loc X.env.scope x := by first | exact Or.inl rfl | exact Or.inr rfl) (hf : X.fn x = true ∨ X.env.scope.names.lookup x = some .local := by first | exact .inl rfl | exact .inr rfl | assumption) :
    SS X (.AugAssign (.Name x pos') .Sub e pos) (wAug rSub i wa) := ps_weak (ps_aug hN hi hx he ip_sub hf) fun D σ H h => aug_ok (fun x y S Q q => by
  unfold rSub at q
  split at q
  · exact ⟨_, _, rfl, rfl, q⟩
  · exact q.elim) h
omit [WW] in
def wPar (i j : Nat) (wr : WA) : WS := fun D ρ S => wr ρ S fun ds S1 => match ds with | [x, y] => D.nx ((ρ.set i (some x)).set j (some y)) S1 | _ => False
theorem ss_par {i j : Nat} {x y : Str} {px py pt : Pos} {kt k2 pt2} (hc : X.calm = true) (hN : X.N.Nodup) (hi : X.N[i]? = some x) (hj : X.N[j]? = some y) (hij : i ≠ j)
    (hx : X.env.scope.names.lookup x = some .local) (hy : X.env.scope.names.lookup y = some .local) (ha : SA X [a, b] wr)
    (hw : swappedStores [.Tuple [.Name x px, .Name y py] kt pt] (.Tuple [a, b] k2 pt2) X.env = pure (some [x, y]))
    (hs : swapsWithSole [.Tuple [.Name x px, .Name y py] kt pt] (.Tuple [a, b] k2 pt2) pos.line X.env = pure false := by rfl) :
    SS X (.Assign [.Tuple [.Name x px, .Name y py] kt pt] (.Tuple [a, b] k2 pt2) pos) (wPar i j wr) := ps_weak (ps_par hc hN hi hj hij hx hy ha hw hs) fun D σ H ⟨μ, S, ρ, D0, m, en, q, p⟩ => by
  refine LA.run m en q fun ds S1 μ1 vs H1 q1 g1 m1 e1 r1 => ?_
  split at q1
  · obtain ⟨v, u, rfl, ra, rb⟩ := r1.two_inv
    exact ⟨v, u, rfl, p.nx _ S1 q1 μ1 _ H1 g1 m1 ((e1.set ra).set rb)⟩
  · exact q1.elim
theorem ss_doc {x : Str} {j pos'} : SS X (.Expr (.Constant (.str x) j pos) pos') wNext := ps_weak ps_doc fun D σ H ⟨μ, S, ρ, D0, m, en, q, p⟩ => p.nx ρ S q μ σ H .refl m en

/-! ### ranges with a step -/
omit [WW] in
def stepD (i c : Int) (n : Nat) : List D := (List.range n).map fun k => .int (i + (k : Nat) * c)
omit [WW] in
def wRange3 (w : WA) : WI := fun ρ S Q => w ρ S fun ds S1 => match ds with | [.int i, .int j, .int c] => ∃ n, RgC i j c n ∧ Q (stepD i c n) (fun _ => True) S1 | _ => False
theorem RepAll.three_inv {K : PySem.W.Frag} {μ : Mu} {H : Hp} {d e f : D} {vs : List V} (r : RepAll K μ H [d, e, f] vs) : ∃ v u t, vs = [v, u, t] ∧ Rep K μ H d v ∧ Rep K μ H e u ∧ Rep K μ H f t := by
  cases r with
  | cons r t =>
    obtain ⟨u, w, rfl, r2, r3⟩ := t.two_inv
    exact ⟨_, _, _, rfl, r, r2, r3⟩
theorem isw_rangeC {K : PySem.W.Frag} {μ : Mu} {H : Hp} {lo c : Int} {n : Nat} : IsW K μ H (Itc lo c n) (stepD lo c n) (fun _ => True) where
  go := fun i μ2 H2 S2 hi g m _ => by show i < n; simpa [stepD] using hi
  stop := fun μ2 H2 S2 g m _ => by show n ≤ _; simp [stepD]
  yld := fun i μ2 H2 S2 x H3 hi g m _ y => by
    obtain ⟨rfl, rfl⟩ := y
    have hi' : i < n := by simpa [stepD] using hi
    exact ⟨.int (lo + (i : Nat) * c), by simp [stepD, hi'], .refl, m, .int _⟩
theorem si_range3 {tg : Expr} (hg : Gl X "range") (hm : X.mg "range" = none) (ha : SA X [a, b, c] wr) (hs : starEach [a, b, c] X.env = (false, eval a X.env) :: starEach [b, c] X.env := by rfl) (hpl : (backTo pos (starEach [b, c] X.env)).any (·.1) = false := by rfl) :
    SI X tg (.Call (.Name "range" p) [a, b, c] [] pos) (wRange3 wr) := pi_weak (pi_range3 hg hm ha hs hpl) fun σ H R ⟨μ, S, ρ, Q0, m, en, q, p⟩ => by
  refine LA.run m en q fun ds S1 μ1 vs H1 q1 g1 m1 e1 r1 => ?_
  split at q1
  · obtain ⟨v, u, t, rfl, ra, rb, rc⟩ := r1.three_inv
    rw [ra.int_inv, rb.int_inv, rc.int_inv]
    obtain ⟨n, hn, q2⟩ := q1
    exact ⟨_, _, _, n, rfl, hn, p _ _ S1 q2 μ1 _ H1 g1 m1 isw_rangeC⟩
  · exact q1.elim
omit [WW] in
/-- tuple(range(..)), list(range(..)) -/
def stepV (i c : Int) (n : Nat) : List V := (List.range n).map fun k => .int (i + (k : Nat) * c)
theorem rep_step {K : PySem.W.Frag} {μ : Mu} {H : Hp} (i c : Int) (n : Nat) : RepAll K μ H (stepD i c n) (stepV i c n) := by
  have e1 : stepD i c n = ((List.range n).map fun k => i + (k : Nat) * c).map D.int := by simp [stepD, Function.comp_def]
  have e2 : stepV i c n = ((List.range n).map fun k => i + (k : Nat) * c).map V.int := by simp [stepV, Function.comp_def]
  rw [e1, e2]
  exact repInts _
omit [WW] in
def rgArgs : List V → Option (Int × Int × Int)
  | [.int n] => some (0, n, 1)
  | [.int i, .int j] => some (i, j, 1)
  | [.int i, .int j, .int c] => some (i, j, c)
  | _ => none
omit [WW] in
def rgArgsD : List D → Option (Int × Int × Int)
  | [.int n] => some (0, n, 1)
  | [.int i, .int j] => some (i, j, 1)
  | [.int i, .int j, .int c] => some (i, j, c)
  | _ => none
theorem rgArgs_rep {K : PySem.W.Frag} {μ : Mu} {H : Hp} {ds : List D} {vs : List V} {z : Int × Int × Int} (r : RepAll K μ H ds vs) (h : rgArgsD ds = some z) : rgArgs vs = some z := by
  unfold rgArgsD at h
  split at h
  · obtain ⟨v, rfl, ra⟩ := r.one_inv
    rw [ra.int_inv]
    exact h
  · obtain ⟨v, u, rfl, ra, rb⟩ := r.two_inv
    rw [ra.int_inv, rb.int_inv]
    exact h
  · obtain ⟨v, u, t, rfl, ra, rb, rc⟩ := r.three_inv
    rw [ra.int_inv, rb.int_inv, rc.int_inv]
    exact h
  · cases h
/-- an expression that makes a range -/
def PRgC (X : Cx) (e : Expr) (ta : TA) : Prop := ∀ (pins : List (Addr × Obj)) (s : Shared) (σ : L2.St) (H : Hp) (Q : List V → Hp → Prop), Inv X pins σ H s → ta σ H Q → (∀ vs H', Q vs H' → ∃ i j c n, rgArgs vs = some (i, j, c) ∧ RgC i j c n) →
  wpAny (model X.prog X.w) X.A (eval e X.env) (fun x s' => ∃ r a b c t u v H' vs, x = .ref r ∧ IsRange s'.heap r a b c t u v ∧ Inv X pins σ H' s' ∧ rgArgs vs = some (a, b, c) ∧ Q vs H') X.xe s
theorem prgC {ta : TA} (hg : Gl X "range") (hm : X.mg "range" = none) (ha : PA X (a :: es) ta) (hs : starEach (a :: es) X.env = (false, eval a X.env) :: starEach es X.env) (hpl : (backTo pos (starEach es X.env)).any (·.1) = false) : PRgC X (.Call (.Name "range" p) (a :: es) [] pos) ta := by
  intro pins s σ H Q I h hq
  refine Call_ (ld_blt I hg hm boot_range (PyProof.Rows.callWith_type1 (thn (ha.run pos pins s σ H _ I h) fun us s1 ⟨vs, H1, I1, r1, q1⟩ => ?_) hs hpl))
  obtain ⟨i, j, c, n, ha', ⟨c0, c1, c2, c3⟩⟩ := hq vs H1 q1
  have ha2 := ha'
  unfold rgArgs at ha'
  split at ha'
  · obtain ⟨u, rfl, r⟩ := vals1 r1
    obtain ⟨t, rfl⟩ := r
    cases ha'
    exact call_range_1 ⟨_, _, _, _, _, _, _, H1, _, rfl, IsRange.new _ _ _ _ _ _ _, I1.kept fun b u e => Heap.get?_push_of_some _ e, ha2, q1⟩
  · obtain ⟨u1, u2, rfl, r, r'⟩ := vals2 r1
    obtain ⟨t, rfl⟩ := r
    obtain ⟨t', rfl⟩ := r'
    cases ha'
    exact call_range_2 ⟨_, _, _, _, _, _, _, H1, _, rfl, IsRange.new _ _ _ _ _ _ _, I1.kept fun b u e => Heap.get?_push_of_some _ e, ha2, q1⟩
  · cases r1 with
    | cons r rr =>
      obtain ⟨u1, u2, rfl, r', r''⟩ := vals2 rr
      obtain ⟨t, rfl⟩ := r
      obtain ⟨t', rfl⟩ := r'
      obtain ⟨t'', rfl⟩ := r''
      cases ha'
      exact call_range_3 c0 ⟨_, _, _, _, _, _, _, H1, _, rfl, IsRange.new _ _ _ _ _ _ _, I1.kept fun b u e => Heap.get?_push_of_some _ e, ha2, q1⟩ (.inl (PyProof.noPylong_small c1))
  · cases ha'
omit [WW] in
def wRgTo (mk : List D → Store → (D → Store → Prop) → Prop) (wr : WA) : WE := fun ρ S Q => wr ρ S fun ds S1 => match rgArgsD ds with | some (i, j, c) => ∃ n, RgC i j c n ∧ n ≤ 2 ^ 24 ∧ mk (stepD i c n) S1 Q | none => False
omit [WW] in
def mkTup (ds : List D) (S : Store) (Q : D → Store → Prop) : Prop := Q (.tup ds) S
omit [WW] in
def mkLst (ds : List D) (S : Store) (Q : D → Store → Prop) : Prop := Q (.lst ds) S
omit [WW] in
def mkNew (ds : List D) (S : Store) (Q : D → Store → Prop) : Prop := Q (.ref S.length) (S ++ [.lst ds])
omit [WW] in
theorem vals_stepR {i c : Int} {n : Nat} {acc : Array Value} (h : ItemsOf (fun k v => ∃ t, v = .int (i + k * c) t) acc n) : Vals (stepV i c n) acc.toList := by
  have e : acc.toList.length = n := by rw [Array.length_toList]; exact h.1
  unfold stepV
  subst e
  refine vals_of_get acc.toList _ fun j u hj => ?_
  obtain ⟨t, rfl⟩ := h.2 j u (by rw [← hj, Array.getElem?_toList])
  exact ⟨t, rfl⟩
theorem se_tupRg {q1 q2 : Pos} (hc : X.calm = true) (hgt : Gl X "tuple") (hmt : X.mg "tuple" = none) (hg : Gl X "range") (hm : X.mg "range" = none) (ha : SA X (a :: es) wr)
    (hs : starEach (a :: es) X.env = (false, eval a X.env) :: starEach es X.env := by rfl) (hpl : (backTo pos (starEach es X.env)).any (·.1) = false := by rfl)
    (na : starEach [.Call (.Name "range" p) (a :: es) [] pos] X.env = (false, eval (.Call (.Name "range" p) (a :: es) [] pos) X.env) :: starEach [] X.env := by rfl) :
    SE X (.Call (.Name "tuple" q1) [.Call (.Name "range" p) (a :: es) [] pos] [] q2) (wRgTo mkTup wr) := by
  refine ⟨fun pins s σ H Q I h => ?_⟩
  obtain ⟨μ, S, ρ, Q0, m, en, q, p⟩ := h
  refine Call_ (ld_blt I hgt hmt boot_tuple (PyProof.Rows.callWith_type1 (args_cons (thn (prgC hg hm ha hs hpl pins s σ H (fun vs H1 => ∃ i j c n, rgArgs vs = some (i, j, c) ∧ RgC i j c n ∧ n ≤ 2 ^ 24 ∧ ∀ l, H1 l = none → Q (.ref l) (upd H1 l (.tup (stepV i c n)))) I (LA.run m en q fun ds S1 μ1 vs H1 q1 g1 m1 e1 r1 => ?_) fun vs H1 ⟨i, j, c, n, h1, h2, _⟩ => ⟨i, j, c, n, h1, h2⟩) fun x s1 ⟨r, a', b', c', t, u, v, H1, vs, ex, hr, I1, ev, i, j, c, n, h1, h2, h3, h4⟩ => args_nil ?_) na) na))
  · split at q1
    · rename_i i j c hz
      obtain ⟨n, h1, h2, h3⟩ := q1
      exact ⟨i, j, c, n, rgArgs_rep r1 hz, h1, h2, fun l hl => p _ S1 h3 _ _ _ (g1.trans (.new hl)) (m1.new hl) (Sim.newT (S := S1) hl (rep_step i c n))⟩
    · exact q1.elim
  · subst ex
    rw [ev] at h1
    cases h1
    obtain ⟨b0, b1, b2, b3⟩ := h2
    refine call_tuple_range (n := n) (I1.ok.hd hc) hr b2 b3 h3 fun h' tk acc hk hi => ?_
    have I2 : Inv X pins σ H1 { s1 with heap := h', toks := tk } := I1.kept hk
    refine ⟨.ref h'.objs.size, upd H1 h'.objs.size (.tup (stepV a' c' n)), I2.laid (t' := tk) (fun c o e => Heap.get?_push_of_some _ e) (Nat.le_refl _) (show ObjOk X.prog X.w _ _ _ (.tup (stepV a' c' n)) from ⟨?_, acc.toList, vals_stepR hi, ?_⟩), rfl, h4 _ (I2.hok.fresh (Nat.le_refl _))⟩
    · unfold stepV; rw [List.length_map, List.length_range, sizeLine_eq]; omega
    · rw [Array.toArray_toList]; exact IsTup.new _ _
/-- list(range(..)), by content or as an object of the store -/
theorem listRg_run {q1 q2 : Pos} {mk : List D → Store → (D → Store → Prop) → Prop} (hmk : ∀ (μ : Mu) (S : Store) (H : Hp) (ds : List D) (vs : List V) (Q0 : D → Store → Prop) (Q : VK), Sim X.K μ S H → (∀ μ' H', RepAll X.K μ' H' ds vs) → mk ds S Q0 → Post X.K μ H Q0 Q → ∀ l, H l = none → Q (.ref l) (upd H l (.lst vs)))
    (hc : X.calm = true) (hgt : Gl X "list") (hmt : X.mg "list" = none) (hg : Gl X "range") (hm : X.mg "range" = none) (ha : SA X (a :: es) wr)
    (hs : starEach (a :: es) X.env = (false, eval a X.env) :: starEach es X.env) (hpl : (backTo pos (starEach es X.env)).any (·.1) = false)
    (na : starEach [.Call (.Name "range" p) (a :: es) [] pos] X.env = (false, eval (.Call (.Name "range" p) (a :: es) [] pos) X.env) :: starEach [] X.env) :
    SE X (.Call (.Name "list" q1) [.Call (.Name "range" p) (a :: es) [] pos] [] q2) (wRgTo mk wr) := by
  refine ⟨fun pins s σ H Q I h => ?_⟩
  obtain ⟨μ, S, ρ, Q0, m, en, q, p⟩ := h
  refine Call_ (ld_blt I hgt hmt boot_list (PyProof.Rows.callWith_type1 (args_cons (thn (prgC hg hm ha hs hpl pins s σ H (fun vs H1 => ∃ i j c n, rgArgs vs = some (i, j, c) ∧ RgC i j c n ∧ n ≤ 2 ^ 24 ∧ ∀ l, H1 l = none → Q (.ref l) (upd H1 l (.lst (stepV i c n)))) I (LA.run m en q fun ds S1 μ1 vs H1 q1 g1 m1 e1 r1 => ?_) fun vs H1 ⟨i, j, c, n, h1, h2, _⟩ => ⟨i, j, c, n, h1, h2⟩) fun x s1 ⟨r, a', b', c', t, u, v, H1, vs, ex, hr, I1, ev, i, j, c, n, h1, h2, h3, h4⟩ => args_nil ?_) na) na))
  · split at q1
    · rename_i i j c hz
      obtain ⟨n, h1, h2, h3⟩ := q1
      exact ⟨i, j, c, n, rgArgs_rep r1 hz, h1, h2, hmk μ1 S1 H1 _ _ Q0 Q m1 (fun _ _ => rep_step i c n) h3 (p.go g1)⟩
    · exact q1.elim
  · subst ex
    rw [ev] at h1
    cases h1
    obtain ⟨b0, b1, b2, b3⟩ := h2
    refine call_list_range (n := n) (I1.ok.hd hc) hr b2 b3 h3 fun h' tk acc c2 hk e' hi => ?_
    refine ⟨.ref s1.heap.objs.size, upd H1 s1.heap.objs.size (.lst (stepV a' c' n)), I1.laid hk (Nat.le_refl _) (show ObjOk X.prog X.w _ _ _ (.lst (stepV a' c' n)) from ⟨?_, acc.toList, c2, vals_stepR hi, ?_⟩), rfl, h4 _ (I1.hok.fresh (Nat.le_refl _))⟩
    · unfold stepV; rw [List.length_map, List.length_range, sizeLine_eq]; omega
    · rw [Array.toArray_toList]; exact e'
theorem se_lstRg {q1 q2 : Pos} (hc : X.calm = true) (hgt : Gl X "list") (hmt : X.mg "list" = none) (hg : Gl X "range") (hm : X.mg "range" = none) (ha : SA X (a :: es) wr)
    (hs : starEach (a :: es) X.env = (false, eval a X.env) :: starEach es X.env := by rfl) (hpl : (backTo pos (starEach es X.env)).any (·.1) = false := by rfl)
    (na : starEach [.Call (.Name "range" p) (a :: es) [] pos] X.env = (false, eval (.Call (.Name "range" p) (a :: es) [] pos) X.env) :: starEach [] X.env := by rfl) :
    SE X (.Call (.Name "list" q1) [.Call (.Name "range" p) (a :: es) [] pos] [] q2) (wRgTo mkLst wr) :=
  listRg_run (fun μ S H ds vs Q0 Q m r q p l hl => p _ _ q _ _ _ (.new hl) (m.new hl) (Sim.newL m hl (r _ _))) hc hgt hmt hg hm ha hs hpl na
theorem se_lstRgN {q1 q2 : Pos} (hc : X.calm = true) (hgt : Gl X "list") (hmt : X.mg "list" = none) (hg : Gl X "range") (hm : X.mg "range" = none) (ha : SA X (a :: es) wr)
    (hs : starEach (a :: es) X.env = (false, eval a X.env) :: starEach es X.env := by rfl) (hpl : (backTo pos (starEach es X.env)).any (·.1) = false := by rfl)
    (na : starEach [.Call (.Name "range" p) (a :: es) [] pos] X.env = (false, eval (.Call (.Name "range" p) (a :: es) [] pos) X.env) :: starEach [] X.env := by rfl) :
    SE X (.Call (.Name "list" q1) [.Call (.Name "range" p) (a :: es) [] pos] [] q2) (wRgTo mkNew wr) :=
  listRg_run (fun μ S H ds vs Q0 Q m r q p l hl => p _ _ q _ _ _ (.alloc hl) (m.alloc hl (r _ _)) m.newR.refH) hc hgt hmt hg hm ha hs hpl na
omit [WW] in
theorem RgC.up {i j : Int} (h1 : -(2 ^ 62) ≤ i) (h2 : i < 2 ^ 62) (h3 : -(2 ^ 62) ≤ j) (h4 : j < 2 ^ 62) : RgC i j 1 (j - i).toNat := ⟨by decide, by decide, small_one h1 h2 h3 h4, rangeSize_nat i j⟩

/-! ### enumerate, zip -/
omit [WW] in
def enumD (k : Nat) : List D → List D
  | [] => []
  | d :: ds => .tup [.int (k : Int), d] :: enumD (k + 1) ds
omit [WW] in
def zipD : List D → List D → List D
  | d :: ds, e :: es => .tup [d, e] :: zipD ds es
  | _, _ => []
omit [WW] in
theorem enumD_length : ∀ (ds : List D) (k : Nat), (enumD k ds).length = ds.length
  | [], _ => rfl
  | _ :: ds, k => congrArg (· + 1) (enumD_length ds (k + 1))
omit [WW] in
theorem enumD_get : ∀ (ds : List D) (k i : Nat), (enumD k ds)[i]? = (ds[i]?).map fun d => .tup [.int ((k + i : Nat) : Int), d]
  | [], _, _ => by simp [enumD]
  | _ :: _, _, 0 => rfl
  | d :: ds, k, i + 1 => by
    show (enumD (k + 1) ds)[i]? = _
    rw [enumD_get ds (k + 1) i, List.getElem?_cons_succ, show k + 1 + i = k + (i + 1) by omega]
omit [WW] in
theorem zipD_length : ∀ (ds es : List D), (zipD ds es).length = min ds.length es.length
  | [], _ => by simp [zipD]
  | _ :: _, [] => by simp [zipD]
  | _ :: ds, _ :: es => by simp only [zipD, List.length_cons, zipD_length ds es]; omega
omit [WW] in
theorem zipD_get : ∀ (ds es : List D) (i : Nat) (d e : D), ds[i]? = some d → es[i]? = some e → (zipD ds es)[i]? = some (.tup [d, e])
  | [], _, _, _, _, h, _ => by simp at h
  | _ :: _, [], _, _, _, _, h => by simp at h
  | a :: ds, b :: es, 0, d, e, h1, h2 => by simp at h1 h2; subst h1; subst h2; rfl
  | a :: ds, b :: es, i + 1, d, e, h1, h2 => zipD_get ds es i d e (by simpa using h1) (by simpa using h2)
/-- the list stands at a while G -/
structure AtL (K : PySem.W.Frag) (μ : Mu) (H : Hp) (a : Addr) (xs : List D) (G : Store → Prop) : Prop where
  at_ : ∀ μ2 H2 S2, Grow μ H μ2 H2 → Sim K μ2 S2 H2 → G S2 → ∃ vs, SqL K H2 a vs ∧ RepAll K μ2 H2 xs vs
structure AtT (K : PySem.W.Frag) (μ : Mu) (H : Hp) (a : Addr) (xs : List D) (G : Store → Prop) : Prop where
  at_ : ∀ μ2 H2 S2, Grow μ H μ2 H2 → Sim K μ2 S2 H2 → G S2 → ∃ vs, SqT K H2 a vs ∧ RepAll K μ2 H2 xs vs
section
variable {K : PySem.W.Frag} {μ : Mu} {H : Hp} {b' a' : Addr} {xs ys : List D} {G G2 : Store → Prop}
theorem isw_enum (h : AtL K μ H a' xs G) : IsW K μ H (Ite K a') (enumD 0 xs) G where
  go := fun i μ2 H2 S2 hi g m hG => by
    obtain ⟨vs, h1, h2⟩ := h.at_ μ2 H2 S2 g m hG
    rw [enumD_length, h2.length] at hi
    exact ⟨vs, vs[i], h1, by simp [hi]⟩
  stop := fun μ2 H2 S2 g m hG => by
    obtain ⟨vs, h1, h2⟩ := h.at_ μ2 H2 S2 g m hG
    exact ⟨vs, h1, by rw [enumD_length, h2.length]; exact Nat.le_refl _⟩
  yld := fun i μ2 H2 S2 x H3 hi g m hG y => by
    obtain ⟨vs, h1, h2⟩ := h.at_ μ2 H2 S2 g m hG
    obtain ⟨T, v, rfl, hT, rfl, y⟩ := y
    obtain ⟨d, e1, e2⟩ := h2.getV (y vs h1)
    exact ⟨.tup [.int ((0 + i : Nat) : Int), d], by rw [enumD_get, e1]; rfl, .new hT, m.new hT, Sim.newT (S := S2) hT (.cons (by rw [Nat.zero_add]; exact .int _) (.one e2))⟩
theorem isw_zipL (h : AtL K μ H a' xs G) (h' : AtL K μ H b' ys G2) : IsW K μ H (Itz K a' b') (zipD xs ys) (fun S => G S ∧ G2 S) where
  go := fun i μ2 H2 S2 hi g m hG => by
    obtain ⟨vs, h1, h2⟩ := h.at_ μ2 H2 S2 g m hG.1
    obtain ⟨us, k1, k2⟩ := h'.at_ μ2 H2 S2 g m hG.2
    rw [zipD_length, h2.length, k2.length] at hi
    have i1 : i < vs.length := by omega
    have i2 : i < us.length := by omega
    exact ⟨vs, us, vs[i], us[i], h1, k1, by simp [i1], by simp [i2]⟩
  stop := fun μ2 H2 S2 g m hG => by
    obtain ⟨vs, h1, h2⟩ := h.at_ μ2 H2 S2 g m hG.1
    obtain ⟨us, k1, k2⟩ := h'.at_ μ2 H2 S2 g m hG.2
    exact ⟨vs, us, h1, k1, by rw [zipD_length, h2.length, k2.length]; omega⟩
  yld := fun i μ2 H2 S2 x H3 hi g m hG y => by
    obtain ⟨vs, h1, h2⟩ := h.at_ μ2 H2 S2 g m hG.1
    obtain ⟨us, k1, k2⟩ := h'.at_ μ2 H2 S2 g m hG.2
    obtain ⟨T, v, u, rfl, hT, rfl, y, y'⟩ := y
    obtain ⟨d, e1, e2⟩ := h2.getV (y vs h1)
    obtain ⟨e, f1, f2⟩ := k2.getV (y' us k1)
    exact ⟨.tup [d, e], zipD_get _ _ _ _ _ e1 f1, .new hT, m.new hT, Sim.newT (S := S2) hT (.cons e2 (.one f2))⟩
theorem isw_zipT (h : AtT K μ H a' xs G) (h' : AtT K μ H b' ys G2) : IsW K μ H (RZ.ItzT K a' b') (zipD xs ys) (fun S => G S ∧ G2 S) where
  go := fun i μ2 H2 S2 hi g m hG => by
    obtain ⟨vs, h1, h2⟩ := h.at_ μ2 H2 S2 g m hG.1
    obtain ⟨us, k1, k2⟩ := h'.at_ μ2 H2 S2 g m hG.2
    rw [zipD_length, h2.length, k2.length] at hi
    have i1 : i < vs.length := by omega
    have i2 : i < us.length := by omega
    exact ⟨vs, us, vs[i], us[i], h1, k1, by simp [i1], by simp [i2]⟩
  stop := fun μ2 H2 S2 g m hG => by
    obtain ⟨vs, h1, h2⟩ := h.at_ μ2 H2 S2 g m hG.1
    obtain ⟨us, k1, k2⟩ := h'.at_ μ2 H2 S2 g m hG.2
    exact ⟨vs, us, h1, k1, by rw [zipD_length, h2.length, k2.length]; omega⟩
  yld := fun i μ2 H2 S2 x H3 hi g m hG y => by
    obtain ⟨vs, h1, h2⟩ := h.at_ μ2 H2 S2 g m hG.1
    obtain ⟨us, k1, k2⟩ := h'.at_ μ2 H2 S2 g m hG.2
    obtain ⟨T, v, u, rfl, hT, rfl, y, y'⟩ := y
    obtain ⟨d, e1, e2⟩ := h2.getV (y vs h1)
    obtain ⟨e, f1, f2⟩ := k2.getV (y' us k1)
    exact ⟨.tup [d, e], zipD_get _ _ _ _ _ e1 f1, .new hT, m.new hT, Sim.newT (S := S2) hT (.cons e2 (.one f2))⟩
theorem atL_lst {vs : List V} (h : (Rd H a' (.lst vs) ∧ ¬ μ.has a') ∨ KL K a' vs) (r : RepAll K μ H xs vs) : AtL K μ H a' xs fun _ => True :=
  ⟨fun μ2 H2 S2 g m _ => ⟨vs, h.imp (fun z => (g.lst _ _ z.1 z.2).1) id, r.grow g⟩⟩
theorem atL_ref {n : Nat} (h : μ.sl[n]? = some (some a')) : AtL K μ H a' xs fun S => S[n]? = some (.lst xs) :=
  ⟨fun μ2 H2 S2 g m hS => by
    obtain ⟨b, ws, h1, h2, h3⟩ := m.ob n xs hS
    rw [g.ref n a' h] at h1
    cases h1
    exact ⟨ws, SqL.of h2, h3⟩⟩
theorem atT_tup {vs : List V} (h : Rd H a' (.tup vs) ∨ KT K a' vs) (r : RepAll K μ H xs vs) : AtT K μ H a' xs fun _ => True :=
  ⟨fun μ2 H2 S2 g m _ => ⟨vs, h.imp (g.tup _ _) id, r.grow g⟩⟩
end
omit [WW] in
def guardL (S : Store) : D → Option (List D × (Store → Prop))
  | .lst ds => some (ds, fun _ => True)
  | .ref n => match S[n]? with | some (.lst ds) => some (ds, fun S => S[n]? = some (.lst ds)) | _ => none
  | _ => none
theorem guard_at {K : PySem.W.Frag} {μ : Mu} {S : Store} {H : Hp} {d : D} {v : V} {ds : List D} {G : Store → Prop} (m : Sim K μ S H) (r : Rep K μ H d v) (h : guardL S d = some (ds, G)) : ∃ a xs, v = .ref a ∧ SqL K H a xs ∧ AtL K μ H a ds G := by
  unfold guardL at h
  split at h
  · cases h
    cases r with
    | lst hh r => exact ⟨_, _, rfl, hh.imp And.left id, atL_lst hh r⟩
  · split at h
    · rename_i n _ es hn
      cases h
      obtain ⟨a, xs, rfl, h1, h2, h3⟩ := m.at hn r
      exact ⟨a, xs, rfl, SqL.of h2, atL_ref h1⟩
    · cases h
  · cases h
omit [WW] in
def wEnumerate (w : WA) : WI := fun ρ S Q => w ρ S fun ds S1 => match ds with
  | [x] => (match guardL S1 x with | some (es, G) => Q (enumD 0 es) G S1 | none => False)
  | _ => False
theorem si_enumerate {elts : List Expr} {kk : Nat} {tpos : Pos} (hg : Gl X "enumerate") (hm : X.mg "enumerate" = none) (ha : SA X [a] wr) (hs : starEach [a] X.env = [(false, eval a X.env)] := by rfl) :
    SI X (.Tuple elts kk tpos) (.Call (.Name "enumerate" p) [a] [] pos) (wEnumerate wr) := pi_weak (pi_enum hg hm ha hs) fun σ H R ⟨μ, S, ρ, Q0, m, en, q, p⟩ => by
  refine LA.run m en q fun ds S1 μ1 vs H1 q1 g1 m1 e1 r1 => ?_
  split at q1
  · rename_i x
    obtain ⟨v, rfl, r⟩ := r1.one_inv
    split at q1
    · rename_i es G hG
      obtain ⟨l, xs, rfl, h1, h2⟩ := guard_at m1 r hG
      exact ⟨l, xs, rfl, h1, p _ _ S1 q1 μ1 _ H1 g1 m1 (isw_enum h2)⟩
    · exact q1.elim
  · exact q1.elim
omit [WW] in
def wZip (w : WA) : WI := fun ρ S Q => w ρ S fun ds S1 => match ds with
  | [.tup xs, .tup ys] => Q (zipD xs ys) (fun _ => True) S1
  | [x, y] => (match guardL S1 x, guardL S1 y with | some (xs, G), some (ys, G') => Q (zipD xs ys) (fun S => G S ∧ G' S) S1 | _, _ => False)
  | _ => False
theorem isw_mono {K : PySem.W.Frag} {μ : Mu} {H : Hp} {J : It} {xs : List D} {G G' : Store → Prop} (h : IsW K μ H J xs G) (hG : ∀ S, G' S → G S) : IsW K μ H J xs G' :=
  ⟨fun i μ2 H2 S2 hi g m q => h.go i μ2 H2 S2 hi g m (hG _ q), fun μ2 H2 S2 g m q => h.stop μ2 H2 S2 g m (hG _ q), fun i μ2 H2 S2 x H3 hi g m q y => h.yld i μ2 H2 S2 x H3 hi g m (hG _ q) y⟩
theorem si_zip {elts : List Expr} {kk : Nat} {tpos : Pos} (hg : Gl X "zip") (hm : X.mg "zip" = none) (ha : SA X [a, b] wr) (hs : starEach [a, b] X.env = (false, eval a X.env) :: starEach [b] X.env := by rfl) (hpl : (backTo pos (starEach [b] X.env)).any (·.1) = false := by rfl) :
    SI X (.Tuple elts kk tpos) (.Call (.Name "zip" p) [a, b] [] pos) (wZip wr) := pi_weak (RZ.pi_zipA hg hm ha hs hpl) fun σ H R ⟨μ, S, ρ, Q0, m, en, q, p⟩ => by
  refine LA.run m en q fun ds S1 μ1 vs H1 q1 g1 m1 e1 r1 => ?_
  split at q1
  · obtain ⟨v, u, rfl, r, r'⟩ := r1.two_inv
    cases r with
    | tup hh r =>
      cases r' with
      | tup hh' r' => exact ⟨_, _, _, _, rfl, .inr ⟨hh, hh', p _ _ S1 q1 μ1 _ H1 g1 m1 (isw_mono (isw_zipT (atT_tup hh r) (atT_tup hh' r')) fun _ _ => ⟨trivial, trivial⟩)⟩⟩
  · obtain ⟨v, u, rfl, r, r'⟩ := r1.two_inv
    split at q1
    · rename_i xs G ys G' h1 h2
      obtain ⟨a', us, rfl, k1, k2⟩ := guard_at m1 r h1
      obtain ⟨b', ws, rfl, l1, l2⟩ := guard_at m1 r' h2
      exact ⟨_, _, _, _, rfl, .inl ⟨k1, l1, p _ _ S1 q1 μ1 _ H1 g1 m1 (isw_zipL k2 l2)⟩⟩
    · exact q1.elim
  · exact q1.elim
end
end DL

set_option maxHeartbeats 4000000
/-! DLS: sorted(set(x)), x of tuples of ints -/
namespace DL
open PySem PySem.Spec PyProof.Rows L2
variable [WW]
section
variable {P : Program} {w : World} {A : Around} {E : Value → Shared → Prop} {s : Shared}
omit [WW] in
abbrev newSet (w : World) : Obj := { cls := .type "set", dict := none, data := .set #[] 0 (.fresh 0 0 (!w.params.followText "set-order")) }
/-- the call set(x), down to the text of set.__init__ -/
theorem type_set1 {x : Value} {s1 : Shared} {o : Value} {Q : Value → Shared → Prop} (made : ∀ {Z : Value → Shared → Prop}, Z o s1 → codeAny (model P w) A.in1 (.call (.builtin "set.__new__") ⟨[.type "set", x], []⟩) (wants Z E) s)
    (hT : s1.TypeIs o "set")
    (body : ∀ Z : Value → Shared → Prop, (∀ s2, Q o s2 → Z .none s2) → wpAny (model P w) A.in1.in1 (Builtin.«set.__init__» ⟨[o, x], []⟩)
      (fun fin s' => match fin with | .done f => wants Z E (.ok f) s' | .again c' => c'.quiet = true ∧ codeAny (model P w) A.in1 c' (wants Z E) s') (fun e s' => wants Z E (.error e) s') s1) :
    wpAny (model P w) A (call (.type "set") [x]) Q E s := by
  have ft := F.called_set
  obtain ⟨c, tl, hmro⟩ := ft.mro
  have k1 := ft.made
  have k2 := ft.sub
  have k3 := ft.notType
  have k4 := ft.canCreate
  have k5 := F.typeCall_set_1 x
  refine wpAny_call (codeAny_of_tree (show wpAny _ _ (callAny (.type "set") _) _ _ _ from wpAny_pure ⟨Code.quiet_builtin _ (by decide +kernel), codeAny_builtin F.entry_type_call ?_⟩))
  rw [Around.under_plain (weight_type_call_type "set" [x] []) rfl]
  repeat (any_goals (first | assumption | wp_step))
  refine codeAny_mono (made (Z := fun a b => a = o ∧ b = s1) ⟨rfl, rfl⟩) fun r s2 hr => ?_
  match r, hr with
  | .error e, hr => exact hr
  | .ok (.ret obj), hr =>
    obtain ⟨e1, e2⟩ := hr
    subst e1 e2
    have k6 := ft.init.lookup
    have k7 := ft.init.bind obj
    repeat (any_goals (first | assumption | wp_step))
    refine codeAny_mono (codeAny_call_builtin (R := wants (fun r s3 => r = .none ∧ Q obj s3) E) ft.init.plain F.entry_set_init (check_set_init_1 hT (body (fun r s3 => r = .none ∧ Q obj s3) fun s3 hq => ⟨rfl, hq⟩))) fun r2 s3 hr2 => ?_
    match r2, hr2 with
    | .error e, h2 => exact h2
    | .ok (.ret v), h2 =>
      obtain ⟨e3, hq⟩ := h2
      subst e3
      repeat (any_goals (first | assumption | wp_step))
      all_goals exact hq
/-- set(t), t a tuple of tuples of ints -/
theorem set_tupsT {l : Addr} {items : Array Value} (ks : List (Addr × List Int)) {Q : Value → Shared → Prop} (hh : A.handled = none) (hl : s.heap.IsTuple l items) (hit : items.toList = ks.map fun p => Value.ref p.1)
    (hk : ∀ p ∈ ks, IsT P w s.heap p.2 p.1) (hfew : ks.length < 64) (hu : A.units + 3 < cLine)
    (h : ∀ (h' : Heap) (tk : Nat) L es ep t, SetTR P w h' s.heap.objs.size L es ep t → Got ks ks.length L → (∀ b o, s.heap.get? b = some o → h'.get? b = some o) → Q (.ref s.heap.objs.size) { s with heap := h', toks := tk }) :
    wpAny (model P w) A (call (.type "set") [.ref l]) Q E s := by
  have hsize : items.size = ks.length := by rw [← Array.length_toList, hit, List.length_map]
  have fresh : (s.heap.push (newSet w)).get? s.heap.objs.size = some (newSet w) := Heap.get?_push_size _ rfl
  refine type_set1 (fun {Z} z => code_set_led1 (.ref l) (Q₁ := Z) z) ⟨_, fresh, rfl⟩ fun Z hz => ?_
  obtain ⟨⟨ocls, odict, odata, oslots⟩, hol, hcl, nl, hdl⟩ := hl
  simp only at hcl hdl
  subst hcl hdl
  have llt : l < s.heap.objs.size := Heap.lt_size hol
  have old : ∀ b o, s.heap.get? b = some o → (s.heap.push (newSet w)).get? b = some o := fun b o e => Heap.get?_push_of_some _ e
  have hol2 := old l _ hol
  have tup2 : (s.heap.push (newSet w)).IsTuple l items := ⟨_, hol2, rfl, nl, rfl⟩
  have sub1 := F.sub_tuple_set
  have sub2 := F.sub_tuple_frozenset
  have ndict : (Value.type "tuple" == Value.type "dict") = false := by decide
  unfold Builtin.«set.__init__» noKeywords Builtin.Frozenset.updateFrom
  generalize hPI : pyIter = PI
  wp_walk
  subst hPI
  refine wpAny_pyIter_tuple tup2 (wpAny_bind (wpAny_runValue ?_))
  have nsz : (s.heap.push (newSet w)).objs.size = s.heap.objs.size + 1 := Heap.size_push ..
  have lne : l ≠ (s.heap.push (newSet w)).objs.size := by rw [nsz]; exact Nat.ne_of_lt (Nat.lt_succ_of_lt llt)
  have none_of : ∀ b, s.heap.objs.size ≤ b → s.heap.get? b = none := fun b hb => by
    cases q : s.heap.get? b with
    | none => rfl
    | some o => exact absurd (Heap.lt_size q) (Nat.not_lt.mpr hb)
  refine set_update_tups ((Walks.tuple (by simp [hh]) (s.heap.push (newSet w)).objs.size l lne items).toS) s.heap.objs.size (fun z => ?_) ks hsize hfew (fun i v hv => ?_) s.heap hk (none_of _ (Nat.le_refl _)) (fun b hb => none_of b ?_) hu (items.size - 0) 0 _ (by omega) (Nat.zero_le _) ⟨⟨_, Heap.get?_push_size _ rfl, rfl, rfl⟩, tup2.push _⟩ (fun b o e => Heap.get?_push_of_some _ (old b o e)) ⟨[], #[], 0, _, setTR_fresh (Heap.get?_push_of_some _ fresh), Got.zero ks⟩ fun s' L es ep t hm hS' g' hkp => ?_
  · rcases List.mem_cons.mp z with z | z
    · rw [nsz] at z; exact absurd z (Nat.ne_of_lt (Nat.lt_succ_self _))
    · exact absurd (List.mem_singleton.mp z) (Nat.ne_of_gt llt)
  · have q : items.toList[i]? = some v := by rw [Array.getElem?_toList]; exact hv
    rw [hit, List.getElem?_map] at q
    cases hq : ks[i]? with
    | none => rw [hq] at q; cases q
    | some p => rw [hq] at q; exact ⟨p, rfl, (Option.some.inj q).symm⟩
  · rw [List.mem_singleton.mp hb, nsz]; exact Nat.le_succ _
  · obtain ⟨h', g2, d', tk', os'⟩ := s'
    have eg : g2 = s.gens := hm.gens
    have ed : d' = s.drawn := hm.drawn
    have eo : os' = s.os := hm.os
    subst eg ed eo
    rw [hsize] at g'
    exact wpAny_pure (show wpAny _ _ (ret Value.none) _ _ _ from wpAny_pure (hz _ (h _ _ _ _ _ _ hS' g' hkp)))
end

/-- .. as a rule, lists too -/
def rSetB (K : PySem.W.Frag) (P : Program) (w : World) : List V → Hp → VK → Prop := fun xs H Q => ∃ (l : Addr) (ks : List (Addr × List Int)), xs = [V.ref l] ∧ (SqL K H l (ks.map fun p => V.ref p.1) ∨ SqT K H l (ks.map fun p => V.ref p.1)) ∧ (∀ p ∈ ks, SqT K H p.1 (p.2.map V.int)) ∧ ks.length < 64 ∧
  ∀ a L, H a = none → (∀ p ∈ L, p ∈ ks) → (∀ p ∈ ks, p.2 ∈ L.map (·.2)) → Q (.ref a) (upd H a (SetTO P w a L))
section
variable {X : Cx}
theorem cr_setB (hc : X.calm = true) (hu : X.A.units + 64 < cLine) : CallR X (.type "set") (rSetB X.K X.prog X.w) := by
  intro pins s σ H xs us Q I r h
  obtain ⟨l, ks, rfl, hl, hk, hf, q⟩ := h
  rcases hl with hl | hl
  · exact cr_setOfT hc hu pins s σ H _ us Q I r ⟨l, ks, rfl, hl, hk, hf, q⟩
  · rw [Vals.ref1 r]
    obtain ⟨its, rv, pl, _⟩ := I.tuple hl
    refine set_tupsT (P := X.prog) (w := X.w) ks (I.ok.hd hc) (show s.heap.IsTuple l its.toArray from pl) (by simpa using refs_of_vals rv) (fun p hp => I.isT (hk p hp)) hf (by omega) fun h' tk L es ep t R g k => ?_
    exact ⟨.ref _, _, I.laid (t' := tk) k (Nat.le_refl _) (setTO_new R.t0), rfl, q _ L (I.hok.fresh (Nat.le_refl _)) (fun p hp => List.mem_of_mem_take (g.sub p hp)) fun p hp => g.all p (by rw [List.take_length]; exact hp)⟩
/-- sorted(a set of such tuples) -/
def rSortSet (K : PySem.W.Frag) (P : Program) (w : World) : List V → Hp → VK → Prop := fun vs H Q => ∃ (a : Addr) (L : List (Addr × List Int)), vs = [V.ref a] ∧ H a = some (SetTO P w a L) ∧ (∀ p ∈ L, SqT K H p.1 (p.2.map V.int)) ∧
  (∃ d, 1 ≤ d ∧ ∀ p ∈ L, p.2.length = d) ∧ ∀ (M : List (Addr × List Int)) (ys : List V) (p : Addr), M.Perm L → (L.map (·.2)).Nodup → ys = (M.mergeSort (PySem.W.dataLe false fun q => PyData.tuple (q.2.map .int))).map (fun q => V.ref q.1) → H p = none → Q (.ref p) (upd H p (.lst ys))
omit [WW] in
theorem alike_ints : ∀ (a b : List Int), a.length = b.length → PySem.W.alikeAll (a.map PyData.int) (b.map PyData.int) = true
  | [], [], _ => by simp [PySem.W.alikeAll]
  | x :: a, y :: b, h => by simp [PySem.W.alikeAll, PySem.W.alike, alike_ints a b (by simpa using h)]
omit [WW] in
theorem depth_ints : ∀ a : List Int, PyData.depthAll (a.map PyData.int) ≤ 1
  | [] => by simp [PyData.depthAll]
  | x :: a => by
    have := depth_ints a
    simp only [List.map_cons, PyData.depthAll, PyData.depth]
    omega
omit [WW] in
theorem reads_ints {h : Heap} : ∀ {ns : List Int} {us : List Value}, IntsAre us ns → ∃ as, ReadsAll h us (ns.map PyData.int) as := by
  intro ns us r
  induction r with
  | nil => exact ⟨_, .nil⟩
  | cons n t r ih =>
    obtain ⟨as, ih⟩ := ih
    exact ⟨_, .cons (.int n t) ih⟩
omit [WW] in
theorem perm_back {α β : Type} (f : α → β) {m n : List β} (h : m.Perm n) : ∀ l : List α, n = l.map f → ∃ l' : List α, l'.Perm l ∧ m = l'.map f := by
  induction h with
  | nil => exact fun l e => ⟨l, .refl _, e⟩
  | cons x h ih =>
    intro l e
    match l, e with
    | y :: l, e =>
      rw [List.map_cons, List.cons.injEq] at e
      obtain ⟨l', h1, h2⟩ := ih l e.2
      exact ⟨y :: l', .cons _ h1, by rw [List.map_cons, ← h2, e.1]⟩
  | swap x y r =>
    intro l e
    match l, e with
    | a :: b :: l, e =>
      simp only [List.map_cons, List.cons.injEq] at e
      exact ⟨b :: a :: l, .swap _ _ _, by simp only [List.map_cons, e.1, e.2.1, e.2.2]⟩
  | trans h1 h2 ih1 ih2 =>
    intro l e
    obtain ⟨l', k1, k2⟩ := ih2 l e
    obtain ⟨l2, k3, k4⟩ := ih1 l' k2
    exact ⟨l2, k3.trans k1, k4⟩
omit [WW] in
theorem each_eq {α : Type} {f : α → Value} : ∀ {out : List Value} {bs : List α}, PySem.W.EachIs (fun u q => u = f q) out bs → out = bs.map f
  | _, _, .nil => rfl
  | _, _, .cons h t => by rw [List.map_cons, h, each_eq t]
omit [WW] in
theorem each_map {α : Type} {R : Value → PyData → Prop} {f : α → Value} {g : α → PyData} : ∀ {l : List α}, (∀ q ∈ l, R (f q) (g q)) → PySem.W.EachIs R (l.map f) (l.map g)
  | [], _ => .nil
  | q :: l, h => .cons (h q List.mem_cons_self) (each_map fun r hr => h r (List.mem_cons_of_mem _ hr))
omit [WW] in
theorem each_refl {α : Type} {f : α → Value} : ∀ {l : List α}, PySem.W.EachIs (fun u q => u = f q) (l.map f) l
  | [] => .nil
  | _ :: _ => .cons rfl each_refl
omit [WW] in
abbrev tkey (q : Addr × List Int) : PyData := .tuple (q.2.map .int)
theorem cr_sortSet (hc : X.calm = true) (hu : X.A.units + 64 < cLine) : CallR X (.builtin "sorted") (rSortSet X.K X.prog X.w) := by
  intro pins s σ H vs us Q I r h
  obtain ⟨a, L, rfl, ha, hk, ⟨d, hd1, hd2⟩, q⟩ := h
  obtain ⟨es, ep, t, R⟩ := SetT0.full (I.hok a _ ha).1 fun p hp => I.isT (hk p hp)
  rw [Vals.ref1 r]
  obtain ⟨o, ho, hex, hdat⟩ := R.ob
  have few := R.few
  have size := R.size
  refine Calls.call_function_entry kind_sorted plain_sorted entry_sorted (args_sorted1 _) ?_
  unfold Builtin.«sorted»
  refine wpAny_bind (m := checkCount "sorted" 1 1 _) (wpAny_pure ?_)
  refine wpAny_bind (collect_set (A := X.A.in1) (I.ok.hd hc) ⟨o, ho, hex.1, hdat⟩ R.fits (by unfold scanBound; omega) R.tab.ris R.led fun s1 out0 k1 hz g1 o1 pm => ?_)
  have hes : es.toList.map (·.2) = L.map fun q => Value.ref q.1 := by
    rw [R.rows]
    unfold rowsOf
    rw [List.map_map]
    rfl
  obtain ⟨M, pM, rfl⟩ := perm_back (fun q : Addr × List Int => Value.ref q.1) pm L hes
  have hM : M.length < 64 := by rw [pM.length_eq]; exact few
  have hl : (M.map fun q => Value.ref q.1).length ≤ sizeLine := by rw [List.length_map, sizeLine_eq]; omega
  refine wpAny_bind (wpAny_newList ?_ (by simpa using hl))
  have hat : (s1.heap.push (seqObj "list" (M.map fun q => Value.ref q.1).toArray 0)).get? s1.heap.objs.size = some (seqObj "list" (M.map fun q => Value.ref q.1).toArray 0) := Heap.get?_push_size _ rfl
  have k3 : ∀ b o, s.heap.get? b = some o → (PySem.W.sortingHeap (s1.heap.push (seqObj "list" (M.map fun q => Value.ref q.1).toArray 0)) s1.heap.objs.size (M.map fun q => Value.ref q.1)).get? b = some o := fun b o q =>
    PySem.W.sortingHeap_old (Nat.ne_of_lt (Heap.lt_size (k1 b o q))) (Heap.get?_push_of_some _ (k1 b o q))
  have rd : PySem.W.EachIs (fun v d => ∃ as, Reads (PySem.W.sortingHeap (s1.heap.push (seqObj "list" (M.map fun q => Value.ref q.1).toArray 0)) s1.heap.objs.size (M.map fun q => Value.ref q.1)) v d as) (M.map fun q => Value.ref q.1) (M.map tkey) := each_map fun q hq => by
    obtain ⟨o2, its, n, h1, h2, h3, h4⟩ := isT_keep (R.tup q (pM.mem_iff.mp hq)) k3
    obtain ⟨as, h5⟩ := reads_ints (h := PySem.W.sortingHeap (s1.heap.push (seqObj "list" (M.map fun q => Value.ref q.1).toArray 0)) s1.heap.objs.size (M.map fun q => Value.ref q.1)) (ints_of_items h4)
    exact ⟨as, .tuple h1 h2 h3 h5⟩
  have al : PySem.W.AllAlike (M.map tkey) := fun x hx y hy => by
    obtain ⟨q1, m1, rfl⟩ := List.mem_map.mp hx
    obtain ⟨q2, m2, rfl⟩ := List.mem_map.mp hy
    show PySem.W.alikeAll _ _ = true
    exact alike_ints _ _ (by rw [hd2 _ (pM.mem_iff.mp m1), hd2 _ (pM.mem_iff.mp m2)])
  have so : PySem.W.Sortable (M.map tkey) := .inl fun x hx => by
    obtain ⟨q1, m1, rfl⟩ := List.mem_map.mp hx
    have := hd2 _ (pM.mem_iff.mp m1)
    match hq : q1.2, this with
    | [], e => exact absurd e (by simp; omega)
    | n :: r, _ => exact ⟨.int n, r.map .int, by unfold tkey; rw [hq]; rfl⟩
  refine wpAny_bind (wpAny_holding (PyProof.Rows.wpAny_call_entry_kw slot_list_sort ⟨_, hat, rfl⟩ entry_list_sort (PySem.W.list_sort_vals (s := { s1 with heap := s1.heap.push (seqObj "list" (M.map fun q => Value.ref q.1).toArray 0) }) hat
    (PySem.W.SortsAt.data (s := { s1 with heap := PySem.W.sortingHeap (s1.heap.push (seqObj "list" (M.map fun q => Value.ref q.1).toArray 0)) s1.heap.objs.size (M.map fun q => Value.ref q.1) }) rd al so fun x hx => ?_) hl ⟨_, rfl, ?_⟩) (args_list_sort _)))
  · obtain ⟨q1, m1, rfl⟩ := List.mem_map.mp hx
    have := depth_ints q1.2
    show X.A.units + 1 + 1 + PyData.depth (.tuple (q1.2.map .int)) < cLine
    rw [PyData.depth]
    omega
  · generalize hout : PySem.W.sortVals _ false _ _ = out
    obtain ⟨c, hc2⟩ := sortedHeap_at (vs := M.map fun q => Value.ref q.1) (out := out.toArray) hat
    have e1 : out = (M.mergeSort (PySem.W.dataLe false tkey)).map fun q => Value.ref q.1 := each_eq (PySem.W.keyedOut_each (bs := M) tkey ⟨_, _, al, hout.symm, rd⟩ each_refl)
    have hn : H s1.heap.objs.size = none := I.hok.fresh hz
    have hv : Vals ((M.mergeSort (PySem.W.dataLe false tkey)).map fun q => V.ref q.1) out := by rw [e1]; exact vals_of_refs _
    have keep : ∀ b u, s.heap.get? b = some u → (sortedHeap (s1.heap.push (seqObj "list" (M.map fun q => Value.ref q.1).toArray 0)) s1.heap.objs.size (M.map fun q => Value.ref q.1) out.toArray).get? b = some u := fun b u e => by
      have hlt := Heap.lt_size (k1 b u e)
      rw [sortedHeap_old (Nat.ne_of_lt hlt) (by rw [size_push']; exact Nat.lt_succ_of_lt hlt)]
      exact Heap.get?_push_of_some _ (k1 b u e)
    have hlen : ((M.mergeSort (PySem.W.dataLe false tkey)).map fun q => V.ref q.1).length ≤ sizeLine := by rw [List.length_map, List.length_mergeSort, sizeLine_eq]; omega
    have J : Inv X pins σ (upd H s1.heap.objs.size (.lst ((M.mergeSort (PySem.W.dataLe false tkey)).map fun q : Addr × List Int => V.ref q.1))) { s with heap := sortedHeap (s1.heap.push (seqObj "list" (M.map fun q : Addr × List Int => Value.ref q.1).toArray 0)) s1.heap.objs.size (M.map fun q : Addr × List Int => Value.ref q.1) out.toArray, gens := s1.gens, drawn := s1.drawn, toks := s1.toks } :=
      I.call (ch := []) (Un.laid keep hz hn) (I.hok.laid keep hz ⟨hlen, out, c, hv, hc2⟩) (by rw [g1]; exact I.bare) (fun _ z => nomatch z)
    have e2 : { s1 with heap := sortedHeap (s1.heap.push (seqObj "list" (M.map fun q : Addr × List Int => Value.ref q.1).toArray 0)) s1.heap.objs.size (M.map fun q : Addr × List Int => Value.ref q.1) out.toArray } = { s with heap := sortedHeap (s1.heap.push (seqObj "list" (M.map fun q : Addr × List Int => Value.ref q.1).toArray 0)) s1.heap.objs.size (M.map fun q : Addr × List Int => Value.ref q.1) out.toArray, gens := s1.gens, drawn := s1.drawn, toks := s1.toks } := by
      obtain ⟨a1, a2, a3, a4, a5⟩ := s1
      obtain ⟨b1, b2, b3, b4, b5⟩ := s
      have o1' : a5 = b5 := o1
      subst o1'
      rfl
    show wpAny _ _ _ _ _ { s1 with heap := sortedHeap (s1.heap.push (seqObj "list" (M.map fun q : Addr × List Int => Value.ref q.1).toArray 0)) s1.heap.objs.size (M.map fun q : Addr × List Int => Value.ref q.1) out.toArray }
    rw [e2]
    exact wpAny_pure ⟨_, rfl, .ref s1.heap.objs.size, _, J, rfl, q M _ _ pM R.nd rfl hn⟩
omit [WW] in
def tupI (k : List Int) : D := .tup (k.map .int)
omit [WW] in
def SetOkD (ds : List D) (ks : List (List Int)) : Prop := ds = ks.map tupI ∧ ks.length < 64 ∧ ∃ d, 1 ≤ d ∧ ∀ k ∈ ks, k.length = d
omit [WW] in
def rSSet : RC
  | [x], S, Q => match itemsD S x with
    | some ds => ∃ ks, SetOkD ds ks ∧ ∀ es : List (List Int), es.Nodup → (∀ k, k ∈ es ↔ k ∈ ks) → Q (.lst (sortD (es.map tupI))) S
    | none => False
  | _, _, _ => False
omit [WW] in
theorem py_ints : ∀ k : List Int, pyAll (k.map D.int) = k.map PyData.int
  | [] => rfl
  | n :: k => by rw [List.map_cons, pyAll, py_ints k, List.map_cons, D.py]
omit [WW] in
theorem py_tupI (k : List Int) : (tupI k).py = .tuple (k.map .int) := by unfold tupI; rw [D.py, py_ints]
theorem tups_rep {K : PySem.W.Frag} {μ : Mu} {H : Hp} : ∀ {ks : List (List Int)} {vs : List V}, RepAll K μ H (ks.map tupI) vs → ∃ L : List (Addr × List Int), vs = L.map (fun p => V.ref p.1) ∧ L.map (·.2) = ks ∧ ∀ p ∈ L, SqT K H p.1 (p.2.map V.int)
  | [], _, r => by cases r; exact ⟨[], rfl, rfl, fun p hp => by cases hp⟩
  | k :: ks, _, r => by
    cases r with
    | cons r t =>
      obtain ⟨L, rfl, e2, h⟩ := tups_rep t
      obtain ⟨a, xs, rfl, h1, r1⟩ := Rep.tupS (show Rep _ _ _ (.tup (k.map D.int)) _ from r)
      rw [r1.ints] at h1
      refine ⟨(a, k) :: L, rfl, by rw [List.map_cons, e2], fun p hp => ?_⟩
      rcases List.mem_cons.mp hp with rfl | hp
      · exact h1
      · exact h p hp
theorem rep_tups {K : PySem.W.Frag} {μ : Mu} {H : Hp} : ∀ {L : List (Addr × List Int)}, (∀ p ∈ L, SqT K H p.1 (p.2.map V.int)) → RepAll K μ H (L.map fun p => tupI p.2) (L.map fun p => V.ref p.1)
  | [], _ => .nil
  | p :: L, h => .cons (.tup (h p List.mem_cons_self) (repInts _)) (rep_tups fun q hq => h q (List.mem_cons_of_mem _ hq))
theorem sqT_new {K : PySem.W.Frag} {H : Hp} {p a : Addr} {xs : List V} {o : HO} (hp : H p = none) (h : SqT K H a xs) : SqT K (upd H p o) a xs := h.imp (fun z => rd_new z hp) id
theorem se_sortedSet {a : Expr} {es : List Expr} {wr : WA} {p q1 pos pos2 : Pos} (hc : X.calm = true) (hu : X.A.units + 66 < cLine) (hg : Gl X "sorted") (hm : X.mg "sorted" = none) (hg2 : Gl X "set") (hm2 : X.mg "set" = none) (ha : SA X (a :: es) wr)
    (he : starEach (a :: es) X.env = (false, eval a X.env) :: starEach es X.env := by rfl) (hpl : (backTo pos (starEach es X.env)).any (·.1) = false := by rfl)
    (he2 : starEach [.Call (.Name "set" p) (a :: es) [] pos] X.env = (false, eval (.Call (.Name "set" p) (a :: es) [] pos) X.env) :: starEach [] X.env := by rfl) :
    SE X (.Call (.Name "sorted" q1) [.Call (.Name "set" p) (a :: es) [] pos] [] pos2) (wCall rSSet wr) :=
  pe_weak (pe_callB (cr_sortSet hc (by omega)) hg hm (by decide +kernel) (pa_cons (pe_callTy (cr_setB hc (by omega)) hg2 hm2 (by decide +kernel) ha (by decide) (by decide) he hpl) pa_nil he2) (by decide) (by decide) he2 rfl) fun σ H Q ⟨μ, S, ρ, Q0, m, en, q, pp⟩ => by
    refine LA.run m en q fun ds S1 μ1 vs H1 q1 g1 m1 e1 r1 => ?_
    unfold rSSet at q1
    split at q1
    · rename_i x
      obtain ⟨v, rfl, r⟩ := r1.one_inv
      split at q1
      · rename_i ds hds
        obtain ⟨ks, ⟨rfl, hlen, d, hd1, hd2⟩, k⟩ := q1
        obtain ⟨l, xs, rfl, hl, rr⟩ := items_rep m1 r hds
        obtain ⟨L, rfl, e2, hL⟩ := tups_rep rr
        subst e2
        refine ⟨l, L, rfl, hl, hL, by simpa using hlen, fun b M hb s1 s2 => ?_⟩
        have hM : ∀ p ∈ M, SqT X.K (upd H1 b (SetTO X.prog X.w b M)) p.1 (p.2.map V.int) := fun p hp => sqT_new hb (hL p (s1 p hp))
        refine ⟨b, M, rfl, upd_same, hM, ⟨d, hd1, fun p hp => hd2 _ (List.mem_map.mpr ⟨p, s1 p hp, rfl⟩)⟩, fun N ys c pN nd ey hc0 => ?_⟩
        have hN : ∀ p ∈ N.mergeSort (PySem.W.dataLe false tkey), SqT X.K (upd H1 b (SetTO X.prog X.w b M)) p.1 (p.2.map V.int) := fun p hp => hM p (pN.mem_iff.mp ((List.mergeSort_perm _ _).mem_iff.mp hp))
        have e3 : (N.mergeSort (PySem.W.dataLe false tkey)).map (fun p => tupI p.2) = sortD ((N.map (·.2)).map tupI) := by
          unfold sortD
          rw [List.map_map]
          refine List.map_mergeSort fun p hp q hq => ?_
          unfold PySem.W.dataLe PySem.W.sortLe
          show (!(listOrd itemOrd).blt (PySem.W.keyToks (tkey q)) (PySem.W.keyToks (tkey p))) = !(listOrd itemOrd).blt (PySem.W.keyToks (tupI q.2).py) (PySem.W.keyToks (tupI p.2).py)
          rw [py_tupI, py_tupI]
        have g2 : Grow μ1 H1 μ1 (upd H1 b (SetTO X.prog X.w b M)) := .new hb
        refine pp _ S1 (k (N.map (·.2)) ((pN.map (·.2)).nodup_iff.mpr nd) fun z => ?_) μ1 _ _ (g1.trans (g2.trans (.new hc0))) ((m1.new hb).new hc0) ?_
        · constructor
          · intro hz
            obtain ⟨p, hp, rfl⟩ := List.mem_map.mp hz
            exact List.mem_map.mpr ⟨p, s1 p (pN.mem_iff.mp hp), rfl⟩
          · intro hz
            obtain ⟨p, hp, rfl⟩ := List.mem_map.mp hz
            exact (pN.map (·.2)).mem_iff.mpr (s2 p hp)
        · rw [← e3, ey]
          exact Sim.newL (m1.new hb) hc0 (rep_tups hN)
      · exact q1.elim
    · exact q1.elim
end
end DL
namespace DL
open PySem PySem.Spec PyProof.Rows L2
variable [WW]
theorem units65 {k : Nat} {A : Around} (r : Room k A) : A.units + 65 < cLine := by have := r.un; omega
theorem units66 {k : Nat} {A : Around} (r : Room k A) : A.units + 66 < cLine := by have := r.un; omega
/-- a def that promises nothing: the end of a recursion -/
theorem fn_vac {P : Program} {w : World} {K : PySem.W.Frag} {mg : Str → Option Value} {base : Heap} {k : Nat} {f : Addr} {fd : FuncData} {ps : List Str} {Γ : Con} (h : ∀ ds S Q, ¬ Γ ds S Q) : FnD P w K mg base k f fd ps Γ :=
  ⟨fun _ _ _ _ ⟨_, _, _, _, _, _, _, q, _⟩ => (h _ _ _ q).elim, fun _ _ _ _ _ _ _ _ _ _ _ _ _ ⟨_, _, _, _, _, _, _, q, _⟩ => (h _ _ _ q).elim⟩
end DL

set_option maxHeartbeats 4000000
/-! DLY: the simp set of the newer readings -/
namespace DL
open PySem PySem.Spec PyProof.Rows L2
variable [WW]
variable {ρ : DL.Env} {S : Store} {Q : D → Store → Prop} {D0 : EndsD}
omit [WW] in
theorem x_rLtD {i j : Int} : rLtD (.int i) (.int j) S Q = Q (.bl (decide (i < j))) S := (rfl)
omit [WW] in
theorem x_rLeD {i j : Int} : rLeD (.int i) (.int j) S Q = Q (.bl (decide (i ≤ j))) S := (rfl)
omit [WW] in
theorem x_rGtD {i j : Int} : rGtD (.int i) (.int j) S Q = Q (.bl (decide (j < i))) S := (rfl)
omit [WW] in
theorem x_rGeD {i j : Int} : rGeD (.int i) (.int j) S Q = Q (.bl (decide (j ≤ i))) S := (rfl)
omit [WW] in
theorem y_w_sl {R : D → Option Int → Option Int → Store → (D → Store → Prop) → Prop} {w : WE} {wl wh : WO} : wSl R w wl wh ρ S Q = w ρ S (fun x S1 => wl ρ S1 (fun lo S2 => wh ρ S2 (fun hi S3 => R x lo hi S3 Q))) := (rfl)
omit [WW] in
theorem y_w_noPart {Q : Option Int → Store → Prop} : wNoPart ρ S Q = Q none S := (rfl)
omit [WW] in
def oI (d : D) (S : Store) (Q : Option Int → Store → Prop) : Prop := match d with | .int i => Q (some i) S | _ => False
omit [WW] in
theorem y_w_part {w : WE} {Q : Option Int → Store → Prop} : wPart w ρ S Q = w ρ S (fun d S1 => oI d S1 Q) := (rfl)
omit [WW] in
theorem y_oI {i : Int} {Q : Option Int → Store → Prop} : oI (.int i) S Q = Q (some i) S := (rfl)
omit [WW] in
theorem x_sl_tup {ds : List D} {lo hi : Option Int} : rSl (.tup ds) lo hi S Q = Q (.tup (cutD ds lo hi)) S := (rfl)
omit [WW] in
theorem x_sl_lst {ds : List D} {lo hi : Option Int} : rSl (.lst ds) lo hi S Q = Q (.lst (cutD ds lo hi)) S := (rfl)
omit [WW] in
theorem x_sl_str {z : Str} {lo hi : Option Int} : rSl (.str z) lo hi S Q = (z.length ≤ sizeLine ∧ Q (.str (cutS z lo hi)) S) := (rfl)
omit [WW] in
theorem x_sl_ref {n : Nat} {lo hi : Option Int} : rSl (.ref n) lo hi S Q = sM S[n]? (fun ds => Q (.lst (cutD ds lo hi)) S) := by
  show (match S[n]? with | some (.lst ds) => _ | _ => False) = _
  rcases S[n]? with _ | (_ | _) <;> rfl
omit [WW] in
theorem x_slN_lst {ds : List D} {lo hi : Option Int} : rSlN (.lst ds) lo hi S Q = Q (.ref S.length) (S ++ [.lst (cutD ds lo hi)]) := (rfl)
omit [WW] in
theorem x_slN_ref {n : Nat} {lo hi : Option Int} : rSlN (.ref n) lo hi S Q = sM S[n]? (fun ds => Q (.ref S.length) (S ++ [.lst (cutD ds lo hi)])) := by
  show (match S[n]? with | some (.lst ds) => _ | _ => False) = _
  rcases S[n]? with _ | (_ | _) <;> rfl
omit [WW] in
def aK (o : Option (Option D)) (k : D → Prop) : Prop := match o with | some (some x) => k x | _ => False
omit [WW] in
theorem y_aK {x : D} {k : D → Prop} : aK (some (some x)) k = k x := (rfl)
omit [WW] in
theorem y_w_aug {R : RD} {i : Nat} {w : WE} : wAug R i w D0 ρ S = aK ρ[i]? (fun x => w ρ S (fun y S1 => R x y S1 (fun z S2 => D0.nx (ρ.set i (some z)) S2))) := by
  unfold wAug aK
  rcases ρ[i]? with _ | (_ | _) <;> rfl
omit [WW] in
theorem x_rAddI {i j : Int} : rAddI (.int i) (.int j) S Q = Q (.int (i + j)) S := (rfl)
omit [WW] in
def pK2 (ds : List D) (k : D → D → Prop) : Prop := match ds with | [x, y] => k x y | _ => False
omit [WW] in
theorem y_pK2 {x y : D} {k : D → D → Prop} : pK2 [x, y] k = k x y := (rfl)
omit [WW] in
theorem y_w_par {i j : Nat} {wr : WA} : wPar i j wr D0 ρ S = wr ρ S (fun ds S1 => pK2 ds (fun x y => D0.nx ((ρ.set i (some x)).set j (some y)) S1)) := by
  unfold wPar
  congr 1
omit [WW] in
theorem y_rgTo {mk : List D → Store → (D → Store → Prop) → Prop} {wr : WA} : wRgTo mk wr ρ S Q = wr ρ S (fun ds S1 => oM (rgArgsD ds) (fun z => ∃ n, RgC z.1 z.2.1 z.2.2 n ∧ n ≤ 2 ^ 24 ∧ mk (stepD z.1 z.2.2 n) S1 Q)) := by
  unfold wRgTo
  congr 1
  funext ds S1
  rcases rgArgsD ds with _ | ⟨i, j, c⟩ <;> rfl
omit [WW] in
theorem y_rgA1 {n : Int} : rgArgsD [.int n] = some (0, n, 1) := (rfl)
omit [WW] in
theorem y_rgA2 {i j : Int} : rgArgsD [.int i, .int j] = some (i, j, 1) := (rfl)
omit [WW] in
theorem y_rgA3 {i j c : Int} : rgArgsD [.int i, .int j, .int c] = some (i, j, c) := (rfl)
omit [WW] in
theorem y_mkTup {ds : List D} : mkTup ds S Q = Q (.tup ds) S := (rfl)
omit [WW] in
theorem y_mkLst {ds : List D} : mkLst ds S Q = Q (.lst ds) S := (rfl)
omit [WW] in
theorem y_mkNew {ds : List D} : mkNew ds S Q = Q (.ref S.length) (S ++ [.lst ds]) := (rfl)
omit [WW] in
def iM (o : Option (List D)) (k : List D → Prop) : Prop := match o with | some ds => k ds | none => False
omit [WW] in
theorem y_iM {ds : List D} {k : List D → Prop} : iM (some ds) k = k ds := (rfl)
omit [WW] in
theorem y_it_tup {ds : List D} : itemsD S (.tup ds) = some ds := (rfl)
omit [WW] in
theorem y_it_lst {ds : List D} : itemsD S (.lst ds) = some ds := (rfl)
omit [WW] in
theorem y_it_ref {n : Nat} {ds : List D} (h : S[n]? = some (.lst ds)) : itemsD S (.ref n) = some ds := by
  show (match S[n]? with | some (.lst ds) => some ds | _ => none) = _
  rw [h]
omit [WW] in
theorem x_in {neg : Bool} {x y : D} : rInN neg x y S Q = iM (itemsD S y) (fun ds => okD x ∧ okD (.lst ds) ∧ Q (.bl (if neg = true then !inD x ds else inD x ds)) S) := by
  unfold rInN
  rcases itemsD S y with _ | _ <;> rfl
omit [WW] in
theorem x_sorted {x : D} : rSorted [x] S Q = iM (itemsD S x) (fun ds => SortOkD ds ∧ Q (.lst (sortD ds)) S) := by
  show (match itemsD S x with | some ds => SortOkD ds ∧ Q (.lst (sortD ds)) S | none => False) = _
  rcases itemsD S x with _ | _ <;> rfl
omit [WW] in
theorem x_sortedN {x : D} : rSortedN [x] S Q = iM (itemsD S x) (fun ds => SortOkD ds ∧ Q (.ref S.length) (S ++ [.lst (sortD ds)])) := by
  show (match itemsD S x with | some ds => SortOkD ds ∧ Q (.ref S.length) (S ++ [Ob.lst (sortD ds)]) | none => False) = _
  rcases itemsD S x with _ | _ <;> rfl
omit [WW] in
theorem x_sset {x : D} : rSSet [x] S Q = iM (itemsD S x) (fun ds => ∃ ks, SetOkD ds ks ∧ ∀ es : List (List Int), es.Nodup → (∀ k, k ∈ es ↔ k ∈ ks) → Q (.lst (sortD (es.map tupI))) S) := by
  show (match itemsD S x with | some ds => ∃ ks, SetOkD ds ks ∧ ∀ es : List (List Int), es.Nodup → (∀ k, k ∈ es ↔ k ∈ ks) → Q (.lst (sortD (es.map tupI))) S | none => False) = _
  rcases itemsD S x with _ | _ <;> rfl
omit [WW] in
theorem y_chain {R R' : RD} {wa wb wc : WE} : wChain R R' wa wb wc ρ S Q = wa ρ S (fun x S1 => wb ρ S1 (fun y S2 => R x y S2 (fun z S3 => tB z S3 (fun k S3 => if k = true then wc ρ S3 (fun w S4 => R' y w S4 Q) else Q (.bl false) S3)))) := (rfl)
omit [WW] in
/-- while, by a measure and an invariant -/
theorem while_in {c : WT} {wb : WS} (I : Nat → DL.Env → Store → Prop) (n : Nat) (h0 : I n ρ S)
    (step : ∀ n ρ S, I n ρ S → c ρ S fun k S1 => if k = true then wb { D0 with nx := fun ρ' S' => ∃ n', n' < n ∧ I n' ρ' S', ct := fun ρ' S' => ∃ n', n' < n ∧ I n' ρ' S', bk := D0.nx } ρ S1 else D0.nx ρ S1) : wWhile c wb D0 ρ S :=
  ⟨I, ⟨n, h0⟩, step⟩
/-! order of pairs of ints -/
omit [WW] in
theorem ints_toks_lt : ∀ (a b : List Int), a.length = b.length → PyProof.Rows.lexLt itemOrd (PySem.W.keyToksAll (a.map PyData.int)) (PySem.W.keyToksAll (b.map PyData.int)) = HT.lexLt a b
  | [], [], _ => by rw [List.map_nil]; exact lex_irrefl _
  | x :: a, y :: b, h => by
    rw [List.map_cons, List.map_cons]
    have hal : PySem.W.alike (.int x) (.int y) = true := by simp [PySem.W.alike]
    by_cases e : x = y
    · subst e
      rw [PySem.W.dataLt_all_yes hal (by simp [PyData.eqv]), ints_toks_lt a b (by simpa using h), HT.lexLt_cons, if_pos rfl]
    · rw [PySem.W.dataLt_all_no hal (by simp [PyData.eqv, e]), PySem.W.dataLt_int, HT.lexLt_cons, if_neg e]
omit [WW] in
theorem ltD_tupI {a b : List Int} (h : a.length = b.length) : ltD (tupI a) (tupI b) = HT.lexLt a b := by
  unfold ltD
  rw [py_tupI, py_tupI, PySem.W.dataLt_tuple, ints_toks_lt a b h]
omit [WW] in
theorem dataLe_tupI {a b : List Int} (h : a.length = b.length) : PySem.W.dataLe false D.py (tupI a) (tupI b) = !HT.lexLt b a := by
  rw [← ltD_tupI h.symm]
  rfl
end DL

set_option maxHeartbeats 4000000
/-! DLG: readings that stop at a test, a call, a loop: walked by whnf -/
namespace DL
open PySem PySem.Spec PyProof.Rows L2
variable [WW]
omit [WW] in
abbrev EX (S : Store) (Q0 : D → Store → Prop) : EndsD := { nx := fun _ S1 => Exit S.length .non S1 Q0, rt := fun d S1 => Exit S.length d S1 Q0 }
omit [WW] in
inductive cIf (k : Bool) (A B : Prop) : Prop where
  | t : k = true → A → cIf k A B
  | f : k = false → B → cIf k A B
omit [WW] in
theorem cIf_eq {k : Bool} {A B : Prop} : cIf k A B = (if k = true then A else B) := by
  refine propext ⟨fun h => ?_, fun h => ?_⟩
  · rcases h with ⟨rfl, a⟩ | ⟨rfl, b⟩
    · exact a
    · exact b
  · cases k with
    | true => exact .t rfl h
    | false => exact .f rfl h
omit [WW] in
theorem cIf_t {k : Bool} {A B : Prop} (h : k = true) (a : A) : cIf k A B := by rw [cIf_eq, if_pos h]; exact a
omit [WW] in
theorem cIf_f {k : Bool} {A B : Prop} (h : k = false) (b : B) : cIf k A B := by rw [cIf_eq, if_neg (by rw [h]; decide)]; exact b
omit [WW] in
theorem cIf_b {k : Bool} {A B : Prop} (h1 : k = true → A) (h2 : k = false → B) : cIf k A B := by
  cases k with
  | true => exact cIf_t rfl (h1 rfl)
  | false => exact cIf_f rfl (h2 rfl)
omit [WW] in
theorem cIf_d {p : Prop} [Decidable p] {A B : Prop} (h1 : p → A) (h2 : ¬ p → B) : cIf (decide p) A B := cIf_b (fun h => h1 (of_decide_eq_true h)) (fun h => h2 (of_decide_eq_false h))
omit [WW] in
theorem cIf_nd {p : Prop} [Decidable p] {A B : Prop} (h1 : ¬ p → A) (h2 : p → B) : cIf (!decide p) A B := cIf_b (fun h => h1 (by simpa using h)) (fun h => h2 (by simpa using h))
omit [WW] in
theorem cIf_n {k : Bool} {A B : Prop} (h : cIf k B A) : cIf (!k) A B := by
  cases k with
  | true => rw [cIf_eq] at h ⊢; simpa using h
  | false => rw [cIf_eq] at h ⊢; simpa using h
omit [WW] in
theorem cIf_pos {p : Prop} [Decidable p] {A B : Prop} (h : p) (a : A) : cIf (decide p) A B := cIf_t (decide_eq_true h) a
omit [WW] in
theorem cIf_neg {p : Prop} [Decidable p] {A B : Prop} (h : ¬ p) (b : B) : cIf (decide p) A B := cIf_f (decide_eq_false h) b
omit [WW] in
structure askC (Γ : Con) (ds : List D) (S : Store) (Q : D → Store → Prop) : Prop where
  go : Γ ds S Q
omit [WW] in
theorem ask_eq {Γ : Con} {ds : List D} {S : Store} {Q : D → Store → Prop} : askC Γ ds S Q = Γ ds S Q := propext ⟨fun h => h.go, fun h => ⟨h⟩⟩
omit [WW] in
/-- the tail of a body, by its name -/
structure Tail (w : WS) (D0 : EndsD) (ρ : Env) (S : Store) : Prop where
  go : w D0 ρ S
omit [WW] in
theorem tail_eq {w : WS} : Tail w = w := by
  funext D0 ρ S
  exact propext ⟨fun h => h.go, fun h => ⟨h⟩⟩
omit [WW] in
theorem ask_in {Γ : Con} {ds : List D} {S : Store} {Q : D → Store → Prop} (h : Γ ds S Q) : askC Γ ds S Q := by rw [ask_eq]; exact h
omit [WW] in
structure forG (g : Tg) (wb : WS) (G : Store → Prop) (D0 : EndsD) (xs : List D) (ρ : Env) (S : Store) : Prop where
  go : forR g wb G D0 xs ρ S
omit [WW] in
theorem forG_eq : @forG = @forR := by
  funext g wb G D0 xs ρ S
  exact propext ⟨fun h => h.go, fun h => ⟨h⟩⟩
omit [WW] in
structure compG (g : Tg) (wt : WT) (we : WE) (G : Store → Prop) (ρ0 : Env) (Q : D → Store → Prop) (xs acc : List D) (S : Store) : Prop where
  go : compR g wt we G ρ0 Q xs acc S
omit [WW] in
theorem compG_eq : @compG = @compR := by
  funext g wt we G ρ0 Q xs acc S
  exact propext ⟨fun h => h.go, fun h => ⟨h⟩⟩
omit [WW] in
def gAnd (t u : WT) : WT := fun ρ S Q => t ρ S fun k S1 => cIf k (u ρ S1 Q) (Q false S1)
omit [WW] in
def gOr (t u : WT) : WT := fun ρ S Q => t ρ S fun k S1 => cIf k (Q true S1) (u ρ S1 Q)
omit [WW] in
def gIfE (t : WT) (wa wb : WE) : WE := fun ρ S Q => t ρ S fun k S1 => cIf k (wa ρ S1 Q) (wb ρ S1 Q)
omit [WW] in
def gAndV (wa wb : WE) : WE := wBl wa fun k ρ S Q => cIf k (wb ρ S Q) (Q (.bl false) S)
omit [WW] in
def gOrV (wa wb : WE) : WE := wBl wa fun k ρ S Q => cIf k (Q (.bl true) S) (wb ρ S Q)
omit [WW] in
def gIf (c : WT) (t u : WS) : WS := fun D ρ S => c ρ S fun k S1 => cIf k (t D ρ S1) (u D ρ S1)
omit [WW] in
def gWhile (c : WT) (wb : WS) : WS := fun D ρ S => ∃ W : Nat → Env → Store → Prop, (∃ n, W n ρ S) ∧ ∀ n ρ S, W n ρ S →
  c ρ S fun k S1 => cIf k (wb { D with nx := fun ρ' S' => ∃ n', n' < n ∧ W n' ρ' S', ct := fun ρ' S' => ∃ n', n' < n ∧ W n' ρ' S', bk := D.nx } ρ S1) (D.nx ρ S1)
omit [WW] in
def gFor (wi : WI) (g : Tg) (wb : WS) : WS := fun D ρ S => wi ρ S fun xs G S1 => forG g wb G D xs ρ S1
omit [WW] in
def gComp (wi : WI) (g : Tg) (wt : WT) (we : WE) (vs : List Nat) : WE := fun ρ S Q => wi ρ S fun xs G S1 => compG g wt we G (wipeD ρ vs) Q xs [] S1
omit [WW] in
def gCompN (wi : WI) (g : Tg) (wt : WT) (we : WE) (vs : List Nat) : WE := fun ρ S Q => gComp wi g wt we vs ρ S fun d S1 => match d with | .lst ds => ds.length ≤ sizeLine ∧ Q (.ref S1.length) (S1 ++ [.lst ds]) | _ => False
omit [WW] in
def gChain (R R' : RD) (wa wb wc : WE) : WE := fun ρ S Q => wa ρ S fun x S1 => wb ρ S1 fun y S2 => R x y S2 fun z S3 => match z with | .bl k => cIf k (wc ρ S3 fun w S4 => R' y w S4 Q) (Q (.bl false) S3) | _ => False
omit [WW] in
def gFn (Γ : Con) (n : Nat) (wr : WA) : WE := fun ρ S Q => wr ρ S fun ds S1 => ds.length = n ∧ askC Γ ds S1 Q
omit [WW] in
inductive Ty where
  | int | bool | str | tuple | list
omit [WW] in
def Ty.name : Ty → String
  | .int => "int" | .bool => "bool" | .str => "str" | .tuple => "tuple" | .list => "list"
omit [WW] in
def isTy : D → Store → Ty → Option Bool
  | .non, _, _ => some false
  | .bl _, _, .bool => some true
  | .bl _, _, .int => some true
  | .bl _, _, _ => some false
  | .int _, _, .int => some true
  | .int _, _, _ => some false
  | .str _, _, .str => some true
  | .str _, _, _ => some false
  | .tup _, _, .tuple => some true
  | .tup _, _, _ => some false
  | .lst _, _, .list => some true
  | .lst _, _, _ => some false
  | .ref n, S, t => match S[n]? with | some (.lst _) => (match t with | .list => some true | _ => some false) | _ => none
  | .exc _ _ _ _, _, _ => none
omit [WW] in
theorem isTy_eq (d : D) (S : Store) (t : Ty) : isTy d S t = isT d S t.name := by
  cases d with
  | ref n =>
    cases t <;> (unfold isTy isT tyName Ty.name; simp; rcases S[n]? with _ | (_ | _) <;> simp)
  | exc a d ns ds => cases t <;> rfl
  | _ => cases t <;> first | rfl | decide
omit [WW] in
def gIsT (w : WE) (t : Ty) : WE := fun ρ S Q => w ρ S fun d S1 => match isTy d S1 t with | some b => Q (.bl b) S1 | none => False
omit [WW] in
theorem gIsT_eq {w : WE} (t : Ty) : gIsT w t = wIsT w t.name := by
  funext ρ S Q
  unfold gIsT wIsT
  congr 1
  funext d S1
  rw [isTy_eq] <;> rfl
omit [WW] in
theorem gAnd_eq {t u : WT} : gAnd t u = wAnd t u := by funext ρ S Q; simp only [gAnd, wAnd, cIf_eq]
omit [WW] in
theorem gOr_eq {t u : WT} : gOr t u = wOr t u := by funext ρ S Q; simp only [gOr, wOr, cIf_eq]
omit [WW] in
theorem gIfE_eq {t : WT} {a b : WE} : gIfE t a b = wIfE t a b := by funext ρ S Q; simp only [gIfE, wIfE, cIf_eq]
omit [WW] in
theorem gAndV_eq {a b : WE} : gAndV a b = wAndV a b := by funext ρ S Q; simp only [gAndV, wAndV, cIf_eq]
omit [WW] in
theorem gOrV_eq {a b : WE} : gOrV a b = wOrV a b := by funext ρ S Q; simp only [gOrV, wOrV, cIf_eq]
omit [WW] in
theorem gIf_eq {t : WT} {a b : WS} : gIf t a b = wIf t a b := by funext D ρ S; simp only [gIf, wIf, cIf_eq]
omit [WW] in
theorem gWhile_eq {t : WT} {b : WS} : gWhile t b = wWhile t b := by funext D ρ S; simp only [gWhile, wWhile, cIf_eq]
omit [WW] in
theorem gFor_eq {wi : WI} {g : Tg} {wb : WS} : gFor wi g wb = wFor wi g wb := by funext D ρ S; simp only [gFor, wFor, forG_eq]
omit [WW] in
theorem gComp_eq {wi : WI} {g : Tg} {wt : WT} {we : WE} {vs : List Nat} : gComp wi g wt we vs = wComp wi g wt we vs := by funext D ρ S; simp only [gComp, wComp, compG_eq]
omit [WW] in
theorem gCompN_eq {wi : WI} {g : Tg} {wt : WT} {we : WE} {vs : List Nat} : gCompN wi g wt we vs = wCompN wi g wt we vs := by
  funext ρ S Q
  unfold gCompN wCompN
  rw [gComp_eq] <;> rfl
omit [WW] in
theorem gChain_eq {R R' : RD} {a b c : WE} : gChain R R' a b c = wChain R R' a b c := by
  funext ρ S Q
  unfold gChain wChain
  congr 1
  funext x S1
  congr 1
  funext y S2
  congr 1
  funext z S3
  cases z <;> simp only [cIf_eq]
omit [WW] in
theorem gFn_eq {Γ : Con} {n : Nat} {wr : WA} : gFn Γ n wr = wFn Γ n wr := by funext ρ S Q; simp only [gFn, wFn, ask_eq]
section
variable {X : Cx} {e : Expr} {st : Stmt} {sts : List Stmt}
theorem se_eqv {w w' : WE} (h : w' = w) (p : SE X e w) : SE X e w' := by rw [h]; exact p
theorem st_eqv {w w' : WT} (h : w' = w) (p : ST X e w) : ST X e w' := by rw [h]; exact p
theorem sw_eqv {w w' : WT} (h : w' = w) (p : SW X e w) : SW X e w' := by rw [h]; exact p
theorem ss_eqv {w w' : WS} (h : w' = w) (p : SS X st w) : SS X st w' := by rw [h]; exact p
theorem sss_eqv {w w' : WS} (h : w' = w) (p : SSs X sts w) : SSs X sts w' := by rw [h]; exact p
end
/-! rules -/
omit [WW] in
theorem forG_nil {g : Tg} {wb : WS} {G : Store → Prop} {D0 : EndsD} {ρ : Env} {S : Store} (h : G S) (q : D0.nx ρ S) : forG g wb G D0 [] ρ S := by rw [forG_eq]; exact ⟨h, q⟩
omit [WW] in
theorem forG_cons {g : Tg} {wb : WS} {G : Store → Prop} {D0 : EndsD} {x : D} {r : List D} {ρ ρ' : Env} {S : Store} (h : G S) (hb : bindT g x ρ = some ρ')
    (q : wb { D0 with nx := fun ρ S => forG g wb G D0 r ρ S, ct := fun ρ S => forG g wb G D0 r ρ S, bk := D0.nx } ρ' S) : forG g wb G D0 (x :: r) ρ S := by
  rw [forG_eq] at q ⊢
  refine ⟨h, ?_⟩
  rw [hb]
  exact q
omit [WW] in
/-- a loop by its invariant: the turn's number, the frame, the store -/
theorem forG_rule {g : Tg} {wb : WS} {G : Store → Prop} {D0 : EndsD} {xs : List D} {ρ : Env} {S : Store} (I : Nat → Env → Store → Prop) (h : I 0 ρ S)
    (h1 : ∀ (i : Nat) (x : D) (ρ : Env) (S : Store) (k : Env → Store → Prop), xs[i]? = some x → I i ρ S → (∀ ρ S, I (i + 1) ρ S → k ρ S) → G S ∧ ∃ ρ', bindT g x ρ = some ρ' ∧ wb { D0 with nx := k, ct := k, bk := D0.nx } ρ' S)
    (h0 : ∀ ρ S, I xs.length ρ S → G S ∧ D0.nx ρ S) : forG g wb G D0 xs ρ S := by
  have key : ∀ (n i : Nat) (ρ : Env) (S : Store), i + n = xs.length → I i ρ S → forG g wb G D0 (xs.drop i) ρ S := by
    intro n
    induction n with
    | zero =>
      intro i ρ S e hi
      rw [List.drop_of_length_le (by omega)]
      have e' : i = xs.length := by omega
      subst e'
      exact forG_nil (h0 ρ S hi).1 (h0 ρ S hi).2
    | succ n ih =>
      intro i ρ S e hi
      have hl : i < xs.length := by omega
      rw [List.drop_eq_getElem_cons hl]
      obtain ⟨hG, ρ', hb, q⟩ := h1 i xs[i] ρ S (fun ρ S => forG g wb G D0 (xs.drop (i + 1)) ρ S) (List.getElem?_eq_getElem hl) hi (fun ρ S hi => ih (i + 1) ρ S (by omega) hi)
      exact forG_cons hG hb q
  have := key xs.length 0 ρ S (by omega) h
  rwa [List.drop_zero] at this
omit [WW] in
/-- .. over typed items -/
theorem forG_list {α : Type} {enc : α → D} {ys : List α} {g : Tg} {wb : WS} {G : Store → Prop} {D0 : EndsD} {ρ : Env} {S : Store} (I : Nat → Env → Store → Prop) (h : I 0 ρ S)
    (h1 : ∀ (i : Nat) (y : α) (ρ : Env) (S : Store) (k : Env → Store → Prop), ys[i]? = some y → I i ρ S → (∀ ρ S, I (i + 1) ρ S → k ρ S) → G S ∧ ∃ ρ', bindT g (enc y) ρ = some ρ' ∧ wb { D0 with nx := k, ct := k, bk := D0.nx } ρ' S)
    (h0 : ∀ ρ S, I ys.length ρ S → G S ∧ D0.nx ρ S) : forG g wb G D0 (ys.map enc) ρ S := by
  refine forG_rule I h (fun i x ρ S k hx hi hk => ?_) (fun ρ S hi => h0 ρ S (by simpa using hi))
  rw [List.getElem?_map] at hx
  cases hy : ys[i]? with
  | none => rw [hy] at hx; cases hx
  | some y =>
    rw [hy] at hx
    cases hx
    exact h1 i y ρ S k hy hi hk
omit [WW] in
/-- .. over range(lo, lo + n) -/
theorem forG_range {lo : Int} {n : Nat} {g : Tg} {wb : WS} {G : Store → Prop} {D0 : EndsD} {ρ : Env} {S : Store} (I : Nat → Env → Store → Prop) (h : I 0 ρ S)
    (h1 : ∀ (i : Nat) (ρ : Env) (S : Store) (k : Env → Store → Prop), i < n → I i ρ S → (∀ ρ S, I (i + 1) ρ S → k ρ S) → G S ∧ ∃ ρ', bindT g (.int (lo + (i : Int))) ρ = some ρ' ∧ wb { D0 with nx := k, ct := k, bk := D0.nx } ρ' S)
    (h0 : ∀ ρ S, I n ρ S → G S ∧ D0.nx ρ S) : forG g wb G D0 (intsD lo n) ρ S := by
  unfold intsD
  refine forG_list I h (fun i y ρ S k hy hi hk => ?_) (fun ρ S hi => h0 ρ S (by simpa using hi))
  obtain ⟨hl, e⟩ := List.getElem?_eq_some_iff.mp hy
  rw [List.length_range] at hl
  rw [List.getElem_range] at e
  subst e
  exact h1 i ρ S k hl hi hk
omit [WW] in
theorem gWhile_rule {c : WT} {wb : WS} {D0 : EndsD} {ρ : Env} {S : Store} (I : Nat → Env → Store → Prop) (n : Nat) (h : I n ρ S)
    (h1 : ∀ (n : Nat) (ρ : Env) (S : Store) (k : Env → Store → Prop), I n ρ S → (∀ m ρ S, m < n → I m ρ S → k ρ S) → c ρ S fun b S1 => cIf b (wb { D0 with nx := k, ct := k, bk := D0.nx } ρ S1) (D0.nx ρ S1)) : gWhile c wb D0 ρ S :=
  ⟨I, ⟨n, h⟩, fun n ρ S hi => h1 n ρ S (fun ρ' S' => ∃ n', n' < n ∧ I n' ρ' S') hi fun m ρ S hm hi => ⟨m, hm, hi⟩⟩
omit [WW] in
theorem compG_nil {g : Tg} {wt : WT} {we : WE} {G : Store → Prop} {ρ0 : Env} {Q : D → Store → Prop} {acc : List D} {S : Store} (h : G S) (q : Q (.lst acc) S) : compG g wt we G ρ0 Q [] acc S := by rw [compG_eq]; exact ⟨h, q⟩
omit [WW] in
theorem compG_cons {g : Tg} {wt : WT} {we : WE} {G : Store → Prop} {ρ0 ρ2 : Env} {Q : D → Store → Prop} {x : D} {r acc : List D} {S : Store} (h : G S) (hb : bindT g x ρ0 = some ρ2)
    (q : wt ρ2 S fun b S1 => cIf b (we ρ2 S1 fun d S2 => acc.length < sizeLine ∧ compG g wt we G ρ0 Q r (acc ++ [d]) S2) (compG g wt we G ρ0 Q r acc S1)) : compG g wt we G ρ0 Q (x :: r) acc S := by
  rw [compG_eq] at q ⊢
  refine ⟨h, ?_⟩
  rw [hb]
  simp only [cIf_eq] at q
  exact q
omit [WW] in
theorem compG_rule {g : Tg} {wt : WT} {we : WE} {G : Store → Prop} {ρ0 : Env} {Q : D → Store → Prop} {xs acc : List D} {S : Store} (I : Nat → List D → Store → Prop) (h : I 0 acc S)
    (h1 : ∀ (i : Nat) (x : D) (acc : List D) (S : Store) (k : List D → Store → Prop), xs[i]? = some x → I i acc S → (∀ acc S, I (i + 1) acc S → k acc S) → G S ∧ ∃ ρ2, bindT g x ρ0 = some ρ2 ∧
      wt ρ2 S fun b S1 => cIf b (we ρ2 S1 fun d S2 => acc.length < sizeLine ∧ k (acc ++ [d]) S2) (k acc S1))
    (h0 : ∀ acc S, I xs.length acc S → G S ∧ Q (.lst acc) S) : compG g wt we G ρ0 Q xs acc S := by
  have key : ∀ (n i : Nat) (acc : List D) (S : Store), i + n = xs.length → I i acc S → compG g wt we G ρ0 Q (xs.drop i) acc S := by
    intro n
    induction n with
    | zero =>
      intro i acc S e hi
      rw [List.drop_of_length_le (by omega)]
      have e' : i = xs.length := by omega
      subst e'
      exact compG_nil (h0 acc S hi).1 (h0 acc S hi).2
    | succ n ih =>
      intro i acc S e hi
      have hl : i < xs.length := by omega
      rw [List.drop_eq_getElem_cons hl]
      obtain ⟨hG, ρ', hb, q⟩ := h1 i xs[i] acc S (fun acc S => compG g wt we G ρ0 Q (xs.drop (i + 1)) acc S) (List.getElem?_eq_getElem hl) hi (fun acc S hi => ih (i + 1) acc S (by omega) hi)
      exact compG_cons hG hb q
  have := key xs.length 0 acc S (by omega) h
  rwa [List.drop_zero] at this
omit [WW] in
/-- a comprehension that stores nothing: a map -/
theorem compG_map {α : Type} {enc : α → D} {f : α → D} {ys : List α} {g : Tg} {we : WE} {G : Store → Prop} {ρ0 : Env} {Q : D → Store → Prop} {S : Store} (hG : G S) (hl : ys.length ≤ 16000000)
    (h : ∀ y, y ∈ ys → ∃ ρ2, bindT g (enc y) ρ0 = some ρ2 ∧ ∀ Q : D → Store → Prop, Q (f y) S → we ρ2 S Q) (q : Q (.lst (ys.map f)) S) : compG g wYes we G ρ0 Q (ys.map enc) [] S := by
  refine compG_rule (fun i acc S' => S' = S ∧ acc = (ys.take i).map f) ⟨rfl, by simp⟩ (fun i x acc S' k hx hi hk => ?_) (fun acc S' hi => ?_)
  · obtain ⟨rfl, rfl⟩ := hi
    rw [List.getElem?_map] at hx
    cases hy : ys[i]? with
    | none => rw [hy] at hx; cases hx
    | some y =>
      rw [hy] at hx
      cases hx
      obtain ⟨ρ2, hb, hw⟩ := h y (List.mem_of_getElem? hy)
      refine ⟨hG, ρ2, hb, ?_⟩
      show cIf true _ _
      refine cIf_t rfl (hw _ ⟨?_, hk _ _ ⟨rfl, ?_⟩⟩)
      · rw [sizeLine_eq]
        simp
        omega
      · rw [List.take_succ, hy]
        simp
  · obtain ⟨rfl, rfl⟩ := hi
    refine ⟨hG, ?_⟩
    rw [List.length_map, List.take_length]
    exact q
omit [WW] in
/-- .. with a test -/
theorem compG_filter {α : Type} {enc : α → D} {f : α → D} {t : α → Bool} {ys : List α} {g : Tg} {wt : WT} {we : WE} {G : Store → Prop} {ρ0 : Env} {Q : D → Store → Prop} {S : Store} (hG : G S) (hl : ys.length ≤ 16000000)
    (h : ∀ y, y ∈ ys → ∃ ρ2, bindT g (enc y) ρ0 = some ρ2 ∧ (∀ Q : Bool → Store → Prop, Q (t y) S → wt ρ2 S Q) ∧ (t y = true → ∀ Q : D → Store → Prop, Q (f y) S → we ρ2 S Q)) (q : Q (.lst ((ys.filter t).map f)) S) : compG g wt we G ρ0 Q (ys.map enc) [] S := by
  refine compG_rule (fun i acc S' => S' = S ∧ acc = ((ys.take i).filter t).map f) ⟨rfl, by simp⟩ (fun i x acc S' k hx hi hk => ?_) (fun acc S' hi => ?_)
  · obtain ⟨rfl, rfl⟩ := hi
    rw [List.getElem?_map] at hx
    cases hy : ys[i]? with
    | none => rw [hy] at hx; cases hx
    | some y =>
      rw [hy] at hx
      cases hx
      obtain ⟨ρ2, hb, ht, hw⟩ := h y (List.mem_of_getElem? hy)
      refine ⟨hG, ρ2, hb, ?_⟩
      refine ht _ (cIf_b (fun e => hw e _ ⟨?_, hk _ _ ⟨rfl, ?_⟩⟩) (fun e => hk _ _ ⟨rfl, ?_⟩))
      · have := List.length_filter_le t (ys.take i)
        rw [sizeLine_eq]
        simp at this ⊢
        omega
      · rw [List.take_succ, hy]
        simp [List.filter_append, e]
      · rw [List.take_succ, hy]
        simp [List.filter_append, e]
  · obtain ⟨rfl, rfl⟩ := hi
    refine ⟨hG, ?_⟩
    rw [List.length_map, List.take_length]
    exact q
omit [WW] in
/-- .. over range(n) -/
theorem forG_range0 {n : Nat} {g : Tg} {wb : WS} {G : Store → Prop} {D0 : EndsD} {ρ : Env} {S : Store} (I : Nat → Env → Store → Prop) (h : I 0 ρ S)
    (h1 : ∀ (i : Nat) (ρ : Env) (S : Store) (k : Env → Store → Prop), i < n → I i ρ S → (∀ ρ S, I (i + 1) ρ S → k ρ S) → G S ∧ ∃ ρ', bindT g (.int (i : Int)) ρ = some ρ' ∧ wb { D0 with nx := k, ct := k, bk := D0.nx } ρ' S)
    (h0 : ∀ ρ S, I n ρ S → G S ∧ D0.nx ρ S) : forG g wb G D0 (intsD 0 n) ρ S := forG_range I h (fun i ρ S k hi hI hk => by
  rw [Int.zero_add]
  exact h1 i ρ S k hi hI hk) h0
omit [WW] in
theorem cutD_map {α β : Type} {f : α → β} {xs : List α} {lo hi : Option Int} : cutD (xs.map f) lo hi = (cutD xs lo hi).map f := by
  unfold cutD
  rw [List.length_map, List.map_take, List.map_drop]
omit [WW] in
theorem cutD_mem {α : Type} {xs : List α} {lo hi : Option Int} {x : α} (h : x ∈ cutD xs lo hi) : x ∈ xs := List.mem_of_mem_drop (List.mem_of_mem_take h)
omit [WW] in
theorem cutD_len {α : Type} {xs : List α} {lo hi : Option Int} : (cutD xs lo hi).length ≤ xs.length := by
  unfold cutD
  simp
  omega
omit [WW] in
theorem nat_of {i : Int} (h : 0 ≤ i) : ∃ n : Nat, i = (n : Int) := ⟨i.toNat, by omega⟩
omit [WW] in
theorem at_some {ds : List D} {n : Nat} (h : n < ds.length) : atD ds (n : Int) = some ds[n] := by rw [atD_cast]; exact List.getElem?_eq_getElem h
omit [WW] in
theorem tru_t {Q : Bool → Store → Prop} {b : Bool} {S : Store} (q : Q b S) : rTru (.bl b) S Q := q
end DL

set_option maxHeartbeats 4000000
/-! DLH: sorted(set(ints)), s[i], s * n, xs + ys -/
namespace DL
open PySem PySem.Spec PyProof.Rows L2
variable [WW]
section
variable {P : Program} {w : World} {A : Around} {E : Value → Shared → Prop} {s : Shared}
theorem set_update_ints {I : Addr} {fp wr : List Addr} {G : Array GenState → Array GenState → Prop} {n : Nat} {Pv : Nat → Value → Prop} {St : Nat → Shared → Prop} {R : Result → Shared → Prop}
    (W : WalksS P w A.in1 I fp wr G n Pv St) (S : Addr) (hSf : S ∉ fp) (ns : List Int) (hn : n = ns.length) (hfew : ns.length < 64) (hval : ∀ i v, Pv i v → ∃ k t, ns[i]? = some k ∧ v = .int k t)
    (h0 : Heap) (hS0 : h0.get? S = none) (hw0 : ∀ b ∈ wr, h0.get? b = none) :
    ∀ (k i : Nat) (s : Shared), n - i = k → i ≤ n → St i s → (∀ b o, h0.get? b = some o → s.heap.get? b = some o) → (∃ m, m ≤ i ∧ SetR w s.heap S (fun j => decide (j ∈ ns.take i)) m) →
      (∀ s' m, Moved (S :: wr) G s s' → m ≤ n → SetR w s'.heap S (fun j => decide (j ∈ ns)) m → (∀ b o, h0.get? b = some o → s'.heap.get? b = some o) → R (.ok (.ret .none)) s') →
      codeAny (model P w) A (.builtin "set.update.loop" ⟨[.ref S, .ref I], []⟩) R s := by
  have hSw : S ∉ wr := fun h => hSf (W.sub _ h)
  have hsub : ∀ b ∈ wr, b ∈ S :: wr := fun b hb => List.mem_cons_of_mem _ hb
  have keepM : ∀ {s s' : Shared}, Moved wr G s s' → (∀ b o, h0.get? b = some o → s.heap.get? b = some o) → ∀ b o, h0.get? b = some o → s'.heap.get? b = some o := fun hm hkp b o e =>
    hm.heap b o (fun hb => by rw [hw0 b hb] at e; cases e) (hkp b o e)
  intro k
  induction k with
  | zero =>
    intro i s hk' hi hst hkp ⟨m, hm0, hS⟩ hR
    have hin : i = n := by omega
    subst hin
    refine codeAny_builtin F.entry_set_update_loop ?_
    rw [Around.under_plainId F.plain_set_update_loop _]
    show wpAny _ A.in1 (pyNext (.ref I) >>= _) _ _ s
    refine wpAny_bind (W.done s _ _ hst fun s' hm => ?_)
    show wpAny _ A.in1 (ret Value.none) _ _ s'
    have hkp' := keepM hm hkp
    have e : ns.take i = ns := by rw [hn, List.take_length]
    rw [e] at hS
    exact wpAny_pure (hR s' m (hm.mono hsub) hm0 (hS.at fun o e => hm.heap S o hSw e) hkp')
  | succ k ih =>
    intro i s hk' hi hst hkp ⟨m, hm0, hS⟩ hR
    have hlt : i < n := by omega
    refine codeAny_builtin F.entry_set_update_loop ?_
    rw [Around.under_plainId F.plain_set_update_loop _]
    show wpAny _ A.in1 (pyNext (.ref I) >>= _) _ _ s
    refine wpAny_bind (W.item i s _ _ hlt hst fun v s' hP hst' hm => ?_)
    obtain ⟨x, tk, hp, rfl⟩ := hval i v hP
    have hkp' := keepM hm hkp
    have hS' : SetR w s'.heap S (fun j => decide (j ∈ ns.take i)) m := hS.at fun o e => hm.heap S o hSw e
    show wpAny _ A.in1 (holding [Value.int x tk] (setAdd S (.int x tk)) >>= _) _ _ s'
    refine wpAny_bind (wpAny_holding ?_)
    unfold setAdd
    refine wpAny_holding ?_
    refine wpAny_bind ((intKind P w).pyHash (intKind_is P w x tk) ?_)
    refine setR_add_hashed (P := P) (s := { s' with toks := s'.toks + 1 }) hS' (by unfold scanBound; omega) fun h' hsb hS2 => ?_
    have g' : SetR w h' S (fun j => decide (j ∈ ns.take (i + 1))) (if decide (x ∈ ns.take i) = true then m else m + 1) := by
      refine hS2.congr fun j => ?_
      rw [List.take_succ, hp]
      simp
    have hkp2 : ∀ b o, h0.get? b = some o → h'.get? b = some o := fun b o e => (hsb.2 b (fun z => by rw [z, hS0] at e; cases e)).trans (hkp' b o e)
    refine wpAny_pure ⟨plainId_quiet F.plain_set_update_loop _, ih (i + 1) _ (by omega) hlt (W.frame _ s' _ _ hst' (Nat.le_add_right _ _) fun b hb o e => ?_) hkp2 ⟨_, by split <;> omega, g'⟩ fun s'' m2 hm'' hm3 hS'' hkp'' => ?_⟩
    · rw [hsb.2 b (fun h : b = S => hSf (by rw [← h]; exact hb))]; exact e
    · refine hR s'' m2 (Moved.trans W.gtrans ((hm.mono hsub).then_heap (Nat.le_add_right _ _) fun b o hb e => ?_) hm'') hm3 hS'' hkp''
      rw [hsb.2 b (fun h : b = S => hb (by rw [h]; exact List.mem_cons_self))]; exact e
/-- set(x), x a list or a tuple of ints -/
theorem set_ints {l : Addr} {items : Array Value} {ns : List Int} {Q : Value → Shared → Prop} (hh : A.handled = none) (hl : s.heap.IsList l items ∨ s.heap.IsTuple l items) (hit : IntsAre items.toList ns) (hfew : ns.length < 64)
    (h : ∀ (h' : Heap) (tk : Nat) m, m ≤ ns.length → SetR w h' s.heap.objs.size (fun j => decide (j ∈ ns)) m → (∀ b o, s.heap.get? b = some o → h'.get? b = some o) → Q (.ref s.heap.objs.size) { s with heap := h', toks := tk }) :
    wpAny (model P w) A (call (.type "set") [.ref l]) Q E s := by
  have hsize : items.size = ns.length := by rw [← Array.length_toList, hit.length]
  have fresh : (s.heap.push (newSet w)).get? s.heap.objs.size = some (newSet w) := Heap.get?_push_size _ rfl
  refine type_set1 (fun {Z} z => code_set_led1 (.ref l) (Q₁ := Z) z) ⟨_, fresh, rfl⟩ fun Z hz => ?_
  have old : ∀ b o, s.heap.get? b = some o → (s.heap.push (newSet w)).get? b = some o := fun b o e => Heap.get?_push_of_some _ e
  have nsz : (s.heap.push (newSet w)).objs.size = s.heap.objs.size + 1 := Heap.size_push ..
  have none_of : ∀ b, s.heap.objs.size ≤ b → s.heap.get? b = none := fun b hb => by
    cases q : s.heap.get? b with
    | none => rfl
    | some o => exact absurd (Heap.lt_size q) (Nat.not_lt.mpr hb)
  have vals : ∀ (i : Nat) (v : Value), items[i]? = some v → ∃ k t, ns[i]? = some k ∧ v = .int k t := fun i v hv => by
    have q : items.toList[i]? = some v := by rw [Array.getElem?_toList]; exact hv
    have hl : i < ns.length := by
      have := (List.getElem?_eq_some_iff.mp q).1
      rw [hit.length] at this
      exact this
    obtain ⟨t, ht⟩ := hit.get i ns[i] (List.getElem?_eq_getElem hl)
    rw [q] at ht
    exact ⟨ns[i], t, List.getElem?_eq_getElem hl, Option.some.inj ht⟩
  rcases hl with hl | hl
  · obtain ⟨⟨ocls, odict, odata, oslots⟩, hol, hcl, nl, hdl⟩ := hl
    simp only at hcl hdl
    subst hcl hdl
    have llt : l < s.heap.objs.size := Heap.lt_size hol
    have hol2 := old l _ hol
    have tup2 : (s.heap.push (newSet w)).IsList l items := ⟨_, hol2, rfl, nl, rfl⟩
    have sub1 := F.sub_list_set
    have sub2 := F.sub_list_frozenset
    have ndict : (Value.type "list" == Value.type "dict") = false := by decide
    unfold Builtin.«set.__init__» noKeywords Builtin.Frozenset.updateFrom
    generalize hPI : pyIter = PI
    wp_walk
    subst hPI
    refine wpAny_pyIter_list tup2 (wpAny_bind (wpAny_runValue ?_))
    have lne : l ≠ (s.heap.push (newSet w)).objs.size := by rw [nsz]; exact Nat.ne_of_lt (Nat.lt_succ_of_lt llt)
    refine set_update_ints ((Walks.list (by simp [hh]) (s.heap.push (newSet w)).objs.size l lne items).toS) s.heap.objs.size (fun z => ?_) ns hsize hfew (fun i v hv => vals i v hv) s.heap (none_of _ (Nat.le_refl _)) (fun b hb => none_of b ?_) (items.size - 0) 0 _ (by omega) (Nat.zero_le _) ⟨⟨_, Heap.get?_push_size _ rfl, rfl, rfl⟩, tup2.push _⟩ (fun b o e => Heap.get?_push_of_some _ (old b o e)) ⟨0, Nat.le_refl _, ?_⟩ fun s' m hm hm0 hS' hkp => ?_
    · rcases List.mem_cons.mp z with z | z
      · rw [nsz] at z; exact absurd z (Nat.ne_of_lt (Nat.lt_succ_self _))
      · exact absurd (List.mem_singleton.mp z) (Nat.ne_of_gt llt)
    · rw [List.mem_singleton.mp hb, nsz]; exact Nat.le_succ _
    · exact ((setR_fresh w).at fun o e => Heap.get?_push_of_some _ e).congr fun k => by simp
    · obtain ⟨h', g2, d', tk', os'⟩ := s'
      have eg : g2 = s.gens := hm.gens
      have ed : d' = s.drawn := hm.drawn
      have eo : os' = s.os := hm.os
      subst eg ed eo
      exact wpAny_pure (show wpAny _ _ (ret Value.none) _ _ _ from wpAny_pure (hz _ (h _ _ m (by omega) hS' hkp)))
  · obtain ⟨⟨ocls, odict, odata, oslots⟩, hol, hcl, nl, hdl⟩ := hl
    simp only at hcl hdl
    subst hcl hdl
    have llt : l < s.heap.objs.size := Heap.lt_size hol
    have hol2 := old l _ hol
    have tup2 : (s.heap.push (newSet w)).IsTuple l items := ⟨_, hol2, rfl, nl, rfl⟩
    have sub1 := F.sub_tuple_set
    have sub2 := F.sub_tuple_frozenset
    have ndict : (Value.type "tuple" == Value.type "dict") = false := by decide
    unfold Builtin.«set.__init__» noKeywords Builtin.Frozenset.updateFrom
    generalize hPI : pyIter = PI
    wp_walk
    subst hPI
    refine wpAny_pyIter_tuple tup2 (wpAny_bind (wpAny_runValue ?_))
    have lne : l ≠ (s.heap.push (newSet w)).objs.size := by rw [nsz]; exact Nat.ne_of_lt (Nat.lt_succ_of_lt llt)
    refine set_update_ints ((Walks.tuple (by simp [hh]) (s.heap.push (newSet w)).objs.size l lne items).toS) s.heap.objs.size (fun z => ?_) ns hsize hfew (fun i v hv => vals i v hv) s.heap (none_of _ (Nat.le_refl _)) (fun b hb => none_of b ?_) (items.size - 0) 0 _ (by omega) (Nat.zero_le _) ⟨⟨_, Heap.get?_push_size _ rfl, rfl, rfl⟩, tup2.push _⟩ (fun b o e => Heap.get?_push_of_some _ (old b o e)) ⟨0, Nat.le_refl _, ?_⟩ fun s' m hm hm0 hS' hkp => ?_
    · rcases List.mem_cons.mp z with z | z
      · rw [nsz] at z; exact absurd z (Nat.ne_of_lt (Nat.lt_succ_self _))
      · exact absurd (List.mem_singleton.mp z) (Nat.ne_of_gt llt)
    · rw [List.mem_singleton.mp hb, nsz]; exact Nat.le_succ _
    · exact ((setR_fresh w).at fun o e => Heap.get?_push_of_some _ e).congr fun k => by simp
    · obtain ⟨h', g2, d', tk', os'⟩ := s'
      have eg : g2 = s.gens := hm.gens
      have ed : d' = s.drawn := hm.drawn
      have eo : os' = s.os := hm.os
      subst eg ed eo
      exact wpAny_pure (show wpAny _ _ (ret Value.none) _ _ _ from wpAny_pure (hz _ (h _ _ m (by omega) hS' hkp)))
end

def rSetI (K : PySem.W.Frag) (w : World) : List V → Hp → VK → Prop := fun xs H Q => ∃ (l : Addr) (ns : List Int), xs = [V.ref l] ∧ (SqL K H l (ns.map V.int) ∨ SqT K H l (ns.map V.int)) ∧ ns.length < 64 ∧
  ∀ a m, m ≤ ns.length → H a = none → Q (.ref a) (upd H a (SetO w a (fun j => decide (j ∈ ns)) m))
section
variable {X : Cx}
theorem cr_setI (hc : X.calm = true) : CallR X (.type "set") (rSetI X.K X.w) := by
  intro pins s σ H xs us Q I r h
  obtain ⟨l, ns, rfl, hl, hf, q⟩ := h
  rw [Vals.ref1 r]
  rcases hl with hl | hl
  · obtain ⟨its, rv, pl, _⟩ := I.list hl
    refine set_ints (P := X.prog) (w := X.w) (ns := ns) (I.ok.hd hc) (.inl pl.isList) (ints_of_vals rv) hf fun h' tk m hm R k => ?_
    exact ⟨.ref _, _, I.laid (t' := tk) k (Nat.le_refl _) (setO_new R), rfl, q _ m hm (I.hok.fresh (Nat.le_refl _))⟩
  · obtain ⟨its, rv, pl, _⟩ := I.tuple hl
    refine set_ints (P := X.prog) (w := X.w) (ns := ns) (I.ok.hd hc) (.inr pl) (ints_of_vals rv) hf fun h' tk m hm R k => ?_
    exact ⟨.ref _, _, I.laid (t' := tk) k (Nat.le_refl _) (setO_new R), rfl, q _ m hm (I.hok.fresh (Nat.le_refl _))⟩
end
omit [WW] in
def rSSetI : RC
  | [x], S, Q => match itemsD S x with
    | some ds => ∃ ns : List Int, ds = ns.map .int ∧ ns.length < 64 ∧ ∀ ms : List Int, ms.Pairwise (· < ·) → (∀ k, k ∈ ms ↔ k ∈ ns) → Q (.lst (ms.map .int)) S
    | none => False
  | _, _, _ => False
section
variable {X : Cx}
theorem se_sortedSetI {a : Expr} {es : List Expr} {wr : WA} {p q1 pos pos2 : Pos} (hc : X.calm = true) (hg : Gl X "sorted") (hm : X.mg "sorted" = none) (hg2 : Gl X "set") (hm2 : X.mg "set" = none) (ha : SA X (a :: es) wr)
    (he : starEach (a :: es) X.env = (false, eval a X.env) :: starEach es X.env := by rfl) (hpl : (backTo pos (starEach es X.env)).any (·.1) = false := by rfl)
    (he2 : starEach [.Call (.Name "set" p) (a :: es) [] pos] X.env = (false, eval (.Call (.Name "set" p) (a :: es) [] pos) X.env) :: starEach [] X.env := by rfl) :
    SE X (.Call (.Name "sorted" q1) [.Call (.Name "set" p) (a :: es) [] pos] [] pos2) (wCall rSSetI wr) :=
  pe_weak (pe_callB (cr_sortedSet hc) hg hm (by decide +kernel) (pa_cons (pe_callTy (cr_setI hc) hg2 hm2 (by decide +kernel) ha (by decide) (by decide) he hpl) pa_nil he2) (by decide) (by decide) he2 rfl) fun σ H Q ⟨μ, S, ρ, Q0, m, en, q, pp⟩ => by
    refine LA.run m en q fun ds S1 μ1 vs H1 q1 g1 m1 e1 r1 => ?_
    unfold rSSetI at q1
    split at q1
    · rename_i x
      obtain ⟨v, rfl, r⟩ := r1.one_inv
      split at q1
      · rename_i ds hds
        obtain ⟨ns, rfl, hlen, k⟩ := q1
        obtain ⟨l, xs, rfl, hl, rr⟩ := items_rep m1 r hds
        rw [rr.ints] at hl
        refine ⟨l, ns, rfl, hl, hlen, fun b m2 hm2 hb => ?_⟩
        refine ⟨b, _, m2, rfl, upd_same, by omega, fun ms c hp hk hl2 hc0 => ?_⟩
        have g2 : Grow μ1 H1 μ1 (upd H1 b (SetO X.w b (fun j => decide (j ∈ ns)) m2)) := .new hb
        have m2' := Sim.new (o := SetO X.w b (fun j => decide (j ∈ ns)) m2) m1 hb
        have q2 := k ms hp fun z => by rw [hk z]; simp
        exact pp _ _ q2 _ _ _ (g1.trans (g2.trans (.new hc0))) (m2'.new hc0) (m2'.newL hc0 (repInts ms))
      · exact q1.elim
    · exact q1.elim
end
end DL

set_option maxHeartbeats 4000000
namespace DL
open PySem PySem.Spec PyProof.Rows L2
variable [WW]

/-! texts: an item, times -/
omit [WW] in
def chS (c : Nat) : Str := ⟨#[c]⟩
omit [WW] in
def atS (z : Str) (i : Int) : Option Nat := atI z.cps.toList i
omit [WW] in
def rIxG : RD := fun x y S Q => match x, y with
  | .str z, .int i => z.length ≤ sizeLine ∧ (match atS z i with | some c => Q (.str (chS c)) S | none => False)
  | _, _ => rIx x y S Q
omit [WW] in
def repS (z : Str) (n : Nat) : Str := ⟨(List.replicate n z.cps).foldl (· ++ ·) #[]⟩
omit [WW] in
def rMulG : RD := fun x y S Q => match x, y with
  | .str z, .int k => (-(2 ^ 62) ≤ k ∧ k < 2 ^ 62 ∧ z.length * k.toNat ≤ 1000000) ∧ Q (.str (repS z k.toNat)) S
  | _, _ => rMul x y S Q
omit [WW] in
def rAddG : RD := fun x y S Q => match x, y with
  | .ref n, .ref m => (match S[n]?, S[m]? with | some (.lst a), some (.lst b) => a.length + b.length ≤ sizeLine ∧ Q (.ref S.length) (S ++ [.lst (a ++ b)]) | _, _ => False)
  | _, _ => rAdd x y S Q
def rMulS : R2 := fun x y H Q => ∃ z k, x = .str z ∧ y = .int k ∧ -(2 ^ 62) ≤ k ∧ k < 2 ^ 62 ∧ z.length * k.toNat ≤ 1000000 ∧ Q (.str (repS z k.toNat)) H
omit [WW] in
theorem repS_zero (z : Str) : repS z 0 = Str.empty := rfl
omit [WW] in
theorem repS_one (z : Str) : repS z 1 = z := by
  unfold repS
  simp
omit [WW] in
theorem repS_nil {z : Str} (h : z.length = 0) (n : Nat) : repS z n = z := by
  have e : z.cps = #[] := Array.eq_empty_of_size_eq_zero h
  obtain ⟨c⟩ := z
  simp only at e
  subst e
  unfold repS
  simp only
  congr 1
  induction n with
  | zero => rfl
  | succ n ih => rw [List.replicate_succ, List.foldl_cons]; simpa using ih
omit [WW] in
theorem repS_aux (c : Array Nat) : ∀ (n : Nat) (a : Array Nat), ((List.replicate n c).foldl (· ++ ·) a).size = a.size + c.size * n
  | 0, a => by simp
  | n + 1, a => by
    rw [List.replicate_succ, List.foldl_cons, repS_aux c n, Array.size_append, Nat.mul_succ]
    omega
omit [WW] in
theorem repS_len (z : Str) (n : Nat) : (repS z n).length = z.length * n := by
  show ((List.replicate n z.cps).foldl (· ++ ·) #[]).size = _
  rw [repS_aux]
  show 0 + _ = _
  rw [Nat.zero_add]
  rfl
section
variable {X : Cx}
theorem op_mulS : OpR X (binaryOp .Mult) rMulS := by
  intro pins s σ H x y v u Q I rx ry h
  obtain ⟨z, k, rfl, rfl, h1, h2, h3, q⟩ := h
  obtain ⟨t, rfl⟩ := rx
  obtain ⟨t2, rfl⟩ := ry
  refine P.mul_str (by rw [decide_eq_false (by omega), decide_eq_false (by omega)]; rfl) (fun hk hz => ?_) (fun hk hz => ?_) ?_
  · have hz2 : ¬ k = 1 := by
      intro e
      subst e
      simp at hz
    have h4 : ((z.length : Int)) * k ≤ 1000000 := by
      have : ((z.length * k.toNat : Nat) : Int) ≤ 1000000 := by omega
      rw [Int.natCast_mul] at this
      rwa [Int.toNat_of_nonneg (by omega)] at this
    have h5 : (z.length : Int) ≤ 1000000 := by
      have : (z.length : Int) * 1 ≤ (z.length : Int) * k := Int.mul_le_mul_of_nonneg_left (by omega) (by omega)
      omega
    have h6 : (z.length : Int) ≤ (2 ^ 63 - 1) / k := by
      refine (Int.le_ediv_iff_mul_le (by omega)).mpr (by omega)
    omega
  · unfold Builtin.Str.tooLong
    refine decide_eq_false ?_
    rw [sizeLine_eq]
    omega
  · by_cases h0 : k < 1
    · rw [if_pos h0]
      have e : k.toNat = 0 := by omega
      rw [e, repS_zero] at q
      exact ⟨by decide, .str Str.empty, H, I.tok _, ⟨_, rfl⟩, q⟩
    · rw [if_neg h0]
      by_cases h4 : (k == 1 || z.length == 0) = true
      · rw [if_pos h4]
        have e : repS z k.toNat = z := by
          rcases (Bool.or_eq_true _ _).mp h4 with h | h
          · have : k = 1 := by simpa using h
            subst this
            exact repS_one z
          · exact repS_nil (by simpa using h) _
        rw [e] at q
        exact ⟨.str z, H, I, ⟨_, rfl⟩, q⟩
      · rw [if_neg h4]
        refine ⟨?_, .str (repS z k.toNat), H, I.tok _, ⟨_, rfl⟩, q⟩
        show (repS z k.toNat).length ≤ sizeLine
        rw [repS_len, sizeLine_eq]
        omega
theorem op_mulG : OpR X (binaryOp .Mult) (fun x y H Q => rI MulOk (fun i j => .int (i * j)) x y H Q ∨ rMulS x y H Q) := op_mulOk.or op_mulS
theorem opd_mulG {K : PySem.W.Frag} : OpD K (fun x y H Q => rI MulOk (fun i j => .int (i * j)) x y H Q ∨ rMulS x y H Q) rMulG := by
  intro μ S H x y vx vy Q0 Q m rx ry q p
  unfold rMulG at q
  split at q
  · rename_i z k
    exact .inr ⟨z, k, rx.str_inv, ry.int_inv, q.1.1, q.1.2.1, q.1.2.2, p.now m (.str _) q.2⟩
  · exact .inl (opd_mul μ S H x y vx vy Q0 Q m rx ry q p)
omit [WW] in
theorem ix_G : IxR X (fun x y H Q => rIxV X.K x y H Q ∨ rIxS x y H Q) := ix_V.or ix_str
theorem opd_ixG {K : PySem.W.Frag} : OpD K (fun x y H Q => rIxV K x y H Q ∨ rIxS x y H Q) rIxG := by
  intro μ S H x y vx vy Q0 Q m rx ry q p
  unfold rIxG at q
  split at q
  · rename_i z i
    obtain ⟨q1, q2⟩ := q
    split at q2
    · rename_i c hc
      exact .inr ⟨z, i, c, rx.str_inv, ry.int_inv, q1, hc, p.now m (.str _) q2⟩
    · exact q2.elim
  · exact .inl (opd_ix μ S H x y vx vy Q0 Q m rx ry q p)
theorem op_addG : OpR X (binaryOp .Add) (fun x y H Q => rAddV X.K x y H Q ∨ rCat x y H Q) := op_addV.or op_cat
theorem opd_addG {K : PySem.W.Frag} : OpD K (fun x y H Q => rAddV K x y H Q ∨ rCat x y H Q) rAddG := by
  intro μ S H x y vx vy Q0 Q m rx ry q p
  unfold rAddG at q
  split at q
  · rename_i n k
    split at q
    · rename_i a b ha hb
      obtain ⟨p1, xs, rfl, h1, h2, h3⟩ := m.at ha rx
      obtain ⟨p2, ys, rfl, k1, k2, k3⟩ := m.at hb ry
      refine .inr ⟨p1, p2, xs, ys, rfl, rfl, h2, k2, by rw [← h3.length, ← k3.length]; exact q.1, fun l hl => ?_⟩
      have r := RepAll.append h3 k3
      exact p _ _ q.2 (μ.add l) _ _ (.alloc hl) (m.alloc hl r) (Rep.refH (Sim.newR m))
    · exact q.elim
  · exact .inl (opd_add μ S H x y vx vy Q0 Q m rx ry q p)
end
section
variable {X : Cx} {a b : Expr} {wa wb : WE} {pos : Pos}
theorem se_mulG (ha : SE X a wa) (hb : SE X b wb) : SE X (.BinOp a .Mult b pos) (wOp rMulG wa wb) := se_op opd_mulG op_mulG ha hb
theorem se_addG (ha : SE X a wa) (hb : SE X b wb) : SE X (.BinOp a .Add b pos) (wOp rAddG wa wb) := se_op opd_addG op_addG ha hb
theorem se_ixG (ha : SE X a wa) (hb : SE X b wb) (hs : PlainIx b := by exact fun _ _ => rfl) : SE X (.Subscript a b pos) (wOp rIxG wa wb) := se_bin opd_ixG ha hb (pe_ix ix_G ha hb hs)
end
end DL
namespace DL
open PySem PySem.Spec PyProof.Rows L2
variable [WW]
/-! pairs of ints -/
omit [WW] in
theorem ltD_pr (a b c d : Int) : ltD (.tup [.int a, .int b]) (.tup [.int c, .int d]) = (decide (a < c) || (decide (a = c) && decide (b < d))) := by
  have h : PySem.W.dataLe false D.py (tupI [c, d]) (tupI [a, b]) = !ltD (tupI [a, b]) (tupI [c, d]) := rfl
  rw [dataLe_tupI (show ([c, d] : List Int).length = [a, b].length from rfl)] at h
  have h2 : ltD (.tup [.int a, .int b]) (.tup [.int c, .int d]) = HT.lexLt [a, b] [c, d] := (Bool.not_inj h).symm
  rw [h2, HT.lexLt_cons]
  clear h h2
  by_cases e : a = c
  · rw [if_pos e, HT.lexLt_cons]
    by_cases f : b = d
    · subst e; subst f; rw [if_pos rfl, HT.lexLt_nil_nil]; simp
    · subst e; rw [if_neg f]; simp
  · rw [if_neg e]; simp [e]
omit [WW] in
theorem rGtD_pr {a b c d : Int} {S : Store} {Q : D → Store → Prop} (q : Q (.bl (decide (c < a) || (decide (c = a) && decide (d < b)))) S) : rGtD (.tup [.int a, .int b]) (.tup [.int c, .int d]) S Q := by
  refine ⟨okD2 _ _, okD2 _ _, ?_, fun h => (by simp [D.py] at h), ?_⟩
  · unfold alikeD
    simp [D.py, pyAll, PySem.W.alike, PySem.W.alikeAll]
  · show Q (.bl (ltD (.tup [.int c, .int d]) (.tup [.int a, .int b]))) S
    rw [ltD_pr]
    exact q
omit [WW] in
theorem rEq_pr {a b c d : Int} {S : Store} {Q : D → Store → Prop} (q : Q (.bl (decide (a = c) && decide (b = d))) S) : DL.rEq (.tup [.int a, .int b]) (.tup [.int c, .int d]) S Q := by
  rw [x_rEq_tup, eqv2]
  exact ⟨okD2 _ _, okD2 _ _, q⟩
omit [WW] in
theorem rNe_pr {a b c d : Int} {S : Store} {Q : D → Store → Prop} (q : Q (.bl (!(decide (a = c) && decide (b = d)))) S) : DL.rNe (.tup [.int a, .int b]) (.tup [.int c, .int d]) S Q := by
  rw [x_rNe_tup, eqv2]
  exact ⟨okD2 _ _, okD2 _ _, q⟩
omit [WW] in
/-- a loop over enumerate -/
theorem forG_enum {α : Type} {enc : α → D} {ys : List α} {g : Tg} {wb : WS} {G : Store → Prop} {D0 : EndsD} {ρ : Env} {S : Store} (I : Nat → Env → Store → Prop) (h : I 0 ρ S)
    (h1 : ∀ (i : Nat) (y : α) (ρ : Env) (S : Store) (k : Env → Store → Prop), ys[i]? = some y → I i ρ S → (∀ ρ S, I (i + 1) ρ S → k ρ S) → G S ∧ ∃ ρ', bindT g (.tup [.int (i : Int), enc y]) ρ = some ρ' ∧ wb { D0 with nx := k, ct := k, bk := D0.nx } ρ' S)
    (h0 : ∀ ρ S, I ys.length ρ S → G S ∧ D0.nx ρ S) : forG g wb G D0 (enumD 0 (ys.map enc)) ρ S := by
  refine forG_rule I h (fun i x ρ S k hx hi hk => ?_) (fun ρ S hi => h0 ρ S (by simpa [enumD_length] using hi))
  cases hy : ys[i]? with
  | none => rw [enumD_get, List.getElem?_map, hy] at hx; cases hx
  | some y =>
    rw [enumD_get, List.getElem?_map, hy] at hx
    cases hx
    rw [Nat.zero_add]
    exact h1 i y ρ S k hy hi hk
omit [WW] in
theorem mul_abs {x y A B : Int} (h1 : -A ≤ x) (h2 : x ≤ A) (h3 : -B ≤ y) (h4 : y ≤ B) : -(A * B) ≤ x * y ∧ x * y ≤ A * B := by
  have e : (x * y).natAbs ≤ A.toNat * B.toNat := by
    rw [Int.natAbs_mul]
    exact Nat.mul_le_mul (by omega) (by omega)
  have e2 : ((A.toNat * B.toNat : Nat) : Int) = A * B := by
    rw [Int.natCast_mul, Int.toNat_of_nonneg (by omega), Int.toNat_of_nonneg (by omega)]
  omega
omit [WW] in
theorem isL_of {n : Nat} {S : Store} {xs : List D} (h : S[n]? = some (.lst xs)) : isL (.ref n) S := by
  show (match S[n]? with | some (.lst _) => True | _ => False)
  rw [h]
  trivial
omit [WW] in
theorem Exit.fin {n0 : Nat} {d d' : D} {S G : Store} {Q0 : D → Store → Prop} (hl : S.length = n0) (hc : closedS S) (f : Frz n0 (S ++ G) d d') (h : Q0 d' S) : Exit n0 d (S ++ G) Q0 := by
  subst hl
  exact .same hc f h
end DL

set_option maxHeartbeats 4000000
/-! DLH3: lists that can be compared and sorted; texts -/
namespace DL
open PySem PySem.Spec PyProof.Rows L2
variable [WW]
omit [WW] in
theorem depth_of {n : Nat} : ∀ {ds : List D}, (∀ d ∈ ds, d.py.depth ≤ n) → PyData.depthAll (pyAll ds) ≤ n + 1
  | [], _ => by simp [pyAll, PyData.depthAll]
  | d :: ds, h => by
    have h1 := depth_of (n := n) (ds := ds) fun e he => h e (by simp [he])
    have h2 := h d (by simp)
    rw [pyAll, PyData.depthAll]
    omega
omit [WW] in
theorem lay_of : ∀ {ds : List D}, (∀ d ∈ ds, d.py.canLay0 = true) → PyData.canLayAll0 (pyAll ds) = true
  | [], _ => by simp [pyAll, PyData.canLayAll0]
  | d :: ds, h => by
    rw [pyAll, PyData.canLayAll0, h d (by simp), lay_of (ds := ds) fun e he => h e (by simp [he])]
    rfl
omit [WW] in
theorem okD_lst {ds : List D} (h : ∀ d ∈ ds, d.py.canLay0 = true ∧ d.py.depth ≤ 60) : okD (.lst ds) := by
  show ((D.py (.lst ds)).canLay0 && decide ((D.py (.lst ds)).depth ≤ 64)) = true
  have h1 := depth_of (n := 60) fun d hd => (h d hd).2
  rw [Bool.and_eq_true, decide_eq_true_eq, D.py, PyData.depth, PyData.canLay0]
  exact ⟨lay_of fun d hd => (h d hd).1, by omega⟩
omit [WW] in
theorem okD_tup {ds : List D} (h : ∀ d ∈ ds, d.py.canLay0 = true ∧ d.py.depth ≤ 60) : okD (.tup ds) := by
  show ((D.py (.tup ds)).canLay0 && decide ((D.py (.tup ds)).depth ≤ 64)) = true
  have h1 := depth_of (n := 60) fun d hd => (h d hd).2
  rw [Bool.and_eq_true, decide_eq_true_eq, D.py, PyData.depth, PyData.canLay0]
  exact ⟨lay_of fun d hd => (h d hd).1, by omega⟩
omit [WW] in
/-- data of one make -/
theorem sort_ok {α : Type} {f : α → D} {xs : List α} (h : ∀ x ∈ xs, (f x).py.canLay0 = true ∧ (f x).py.depth ≤ 60) (ht : ∀ x, ∃ a r, (f x).py = .tuple (a :: r)) (ha : ∀ x y, PySem.W.alike (f x).py (f y).py = true) : SortOkD (xs.map f) := by
  refine ⟨⟨fun x hx y hy => ?_, fun x hx => ?_⟩, .inl fun x hx => ?_, okD_lst fun d hd => ?_⟩
  · rw [pyAll_map, List.map_map] at hx hy
    obtain ⟨p, _, rfl⟩ := List.mem_map.mp hx
    obtain ⟨r, _, rfl⟩ := List.mem_map.mp hy
    exact PySem.W.alikeW_of _ _ (ha p r)
  · rw [pyAll_map, List.map_map] at hx
    obtain ⟨p, hp, rfl⟩ := List.mem_map.mp hx
    exact PyData.plain_of_canLay0 _ (h p hp).1
  · rw [pyAll_map, List.map_map] at hx
    obtain ⟨p, _, rfl⟩ := List.mem_map.mp hx
    exact ht p
  · obtain ⟨p, hp, rfl⟩ := List.mem_map.mp hd
    exact h p hp
omit [WW] in
theorem sortD_map {α : Type} {f : α → D} (xs : List α) : ∃ ys : List α, ys.Perm xs ∧ sortD (xs.map f) = ys.map f := by
  obtain ⟨ys, h1, h2⟩ := perm_back f (List.mergeSort_perm (xs.map f) (PySem.W.dataLe false D.py)) xs rfl
  exact ⟨ys, h1, h2⟩
omit [WW] in
theorem app_len (a b : Str) : (a ++ b).length = a.length + b.length := by
  show (a.cps ++ b.cps).size = _
  rw [Array.size_append]
  rfl
omit [WW] in
theorem chS_len (c : Nat) : (chS c).length = 1 := rfl
omit [WW] in
def lastC (z : Str) : Option Nat := z.cps.back?
omit [WW] in
theorem lastC_app (x : Str) (c : Nat) : lastC (x ++ chS c) = some c := by
  show (x.cps ++ #[c]).back? = some c
  simp
omit [WW] in
theorem atS_get {z : Str} {i : Nat} (h : i < z.length) : ∃ c, atS z (i : Int) = some c ∧ z.cps[i]? = some c := by
  have h' : i < z.cps.size := h
  refine ⟨z.cps[i], ?_, by simp [h']⟩
  unfold atS atI ixN
  have hl : z.cps.toList.length = z.cps.size := Array.length_toList
  rw [if_pos (by omega), if_pos (by omega)]
  simp [h']
omit [WW] in
theorem atS_int {z : Str} {i : Int} (h0 : 0 ≤ i) (h : i < z.length) : ∃ c, atS z i = some c := by
  obtain ⟨n, rfl⟩ := nat_of h0
  obtain ⟨c, h1, _⟩ := atS_get (z := z) (i := n) (by omega)
  exact ⟨c, h1⟩
omit [WW] in
theorem strOk_app {a b : Str} (ha : PyData.strOk a = true) (hb : PyData.strOk b = true) : PyData.strOk (a ++ b) = true := by
  show (a.cps ++ b.cps).all _ = true
  rw [Array.all_append]
  exact (Bool.and_eq_true _ _).mpr ⟨ha, hb⟩
omit [WW] in
theorem strOk_aux {z : Str} (hz : PyData.strOk z = true) : ∀ (n : Nat) (a : Array Nat), a.all (· < 0x110000) = true → ((List.replicate n z.cps).foldl (· ++ ·) a).all (· < 0x110000) = true
  | 0, a, h => by simpa using h
  | n + 1, a, h => by
    rw [List.replicate_succ, List.foldl_cons]
    refine strOk_aux hz n _ ?_
    rw [Array.all_append]
    exact (Bool.and_eq_true _ _).mpr ⟨h, hz⟩
omit [WW] in
theorem strOk_rep {z : Str} (hz : PyData.strOk z = true) (n : Nat) : PyData.strOk (repS z n) = true := strOk_aux hz n #[] (by simp)
omit [WW] in
theorem strOk_at {z : Str} (hz : PyData.strOk z = true) {i : Int} {c : Nat} (h : atS z i = some c) : PyData.strOk (chS c) = true := by
  have hm : c ∈ z.cps.toList := by
    unfold atS atI at h
    obtain ⟨j, _, h2⟩ := Option.bind_eq_some_iff.mp h
    exact List.mem_of_getElem? h2
  have := (Array.all_eq_true_iff_forall_mem.mp hz) c (by simpa using hm)
  show (#[c] : Array Nat).all _ = true
  simpa using this
omit [WW] in
theorem nodup_len {α : Type} [DecidableEq α] : ∀ {l m : List α}, l.Nodup → (∀ x ∈ l, x ∈ m) → l.length ≤ m.length
  | [], _, _, _ => Nat.zero_le _
  | a :: l, m, nd, h => by
    rw [List.nodup_cons] at nd
    have h1 := nodup_len (l := l) (m := m.erase a) nd.2 fun x hx => (List.mem_erase_of_ne (fun e => nd.1 (by rw [← e]; exact hx))).mpr (h x (by simp [hx]))
    have h2 := List.length_erase_of_mem (h a (by simp))
    have h3 : 0 < m.length := List.length_pos_of_mem (h a (by simp))
    simp only [List.length_cons]
    omega
omit [WW] in
theorem at_mem {ds : List D} {i : Int} (h0 : 0 ≤ i) (h1 : i < ds.length) : ∃ d, atD ds i = some d ∧ d ∈ ds := by
  obtain ⟨n, rfl⟩ := nat_of h0
  have h : n < ds.length := by omega
  exact ⟨ds[n], at_some h, List.getElem_mem h⟩
omit [WW] in
theorem pure_map {α : Type} {f : α → D} (h : ∀ x, pureD (f x)) (xs : List α) : pureL (xs.map f) := pureL_of fun d hd => by
  obtain ⟨x, _, rfl⟩ := List.mem_map.mp hd
  exact h x
section
/-! a def's own lists at the store's end -/
variable {S : Store} {o o' : Ob}
omit [WW] in
theorem get_last : (S ++ [o])[S.length]? = some o := by simp
omit [WW] in
theorem get_last2 {x : Store} {n : Nat} (h : S[n]? = some o) : (S ++ x)[n]? = some o := by
  rw [List.getElem?_append_left (List.getElem?_eq_some_iff.mp h).1]
  exact h
omit [WW] in
theorem set_last : (S ++ [o]).set S.length o' = S ++ [o'] := by simp
end
end DL

set_option maxHeartbeats 4000000
/-! DLD: dicts of tuple keys, by their rows -/
namespace DL
open PySem PySem.Spec PyProof.Rows L2
/-! ### what a key is -/
mutual
inductive KeyIs (K : PySem.W.Frag) (H : Hp) : NestedKey → V → Prop
  | non : KeyIs K H .none .non
  | bl (b : Bool) : KeyIs K H (.num (if b = true then 1 else 0)) (.bl b)
  | int (i : Int) : KeyIs K H (.num i) (.int i)
  | str (x : Str) : KeyIs K H (.text x) (.str x)
  | tup {a : Addr} {vs : List V} {ks : List NestedKey} : SqT K H a vs → KeyAll K H ks vs → KeyIs K H (.tup ks) (.ref a)
inductive KeyAll (K : PySem.W.Frag) (H : Hp) : List NestedKey → List V → Prop
  | nil : KeyAll K H [] []
  | cons {k : NestedKey} {ks : List NestedKey} {v : V} {vs : List V} : KeyIs K H k v → KeyAll K H ks vs → KeyAll K H (k :: ks) (v :: vs)
end
mutual
theorem rep_key {K : PySem.W.Frag} {μ : Mu} {H : Hp} : ∀ {d : D} {k : NestedKey} {v : V}, keyD d = some k → Rep K μ H d v → KeyIs K H k v
  | .non, k, v, e, r => by
    simp only [keyD, Option.some.injEq] at e
    subst e
    cases r
    exact .non
  | .bl b, k, v, e, r => by
    simp only [keyD, Option.some.injEq] at e
    subst e
    cases r
    exact .bl b
  | .int b, k, v, e, r => by
    simp only [keyD, Option.some.injEq] at e
    subst e
    cases r
    exact .int b
  | .str b, k, v, e, r => by
    simp only [keyD, Option.some.injEq] at e
    subst e
    cases r
    exact .str b
  | .tup ds, k, v, e, r => by
    simp only [keyD, Option.map_eq_some_iff] at e
    obtain ⟨ks, e1, rfl⟩ := e
    cases r with
    | tup h r => exact .tup h (rep_keys e1 r)
  | .lst ds, k, v, e, r => by simp [keyD] at e
  | .ref n, k, v, e, r => by simp [keyD] at e
theorem rep_keys {K : PySem.W.Frag} {μ : Mu} {H : Hp} : ∀ {ds : List D} {ks : List NestedKey} {vs : List V}, keyDs ds = some ks → RepAll K μ H ds vs → KeyAll K H ks vs
  | [], ks, vs, e, r => by
    simp only [keyDs, Option.some.injEq] at e
    subst e
    cases r
    exact .nil
  | d :: ds, ks, vs, e, r => by
    simp only [keyDs] at e
    cases r with
    | cons r t =>
      split at e
      · rename_i k' ks' h1 h2
        cases e
        exact .cons (rep_key h1 r) (rep_keys h2 t)
      · cases e
end
section
variable {X : Cx} {pins : List (Addr × Obj)} {σ : L2.St} {H : Hp} {s : Shared}
mutual
theorem key_in (I : Inv X pins σ H s) : ∀ {k : NestedKey} {v : V} {u : Value}, KeyIs X.K H k v → RelV v u → NestedIs s.heap k u
  | _, _, _, .non, r => by cases r; exact .none
  | _, _, _, .bl b, r => by cases r; exact .bool rfl
  | _, _, _, .int i, r => by obtain ⟨t, rfl⟩ := r; exact .int i t
  | _, _, _, .str i, r => by obtain ⟨t, rfl⟩ := r; exact .text i t
  | _, _, _, .tup hT ha, r => by
    cases r
    obtain ⟨its, rv, ⟨⟨cls, dd, data, sl⟩, ho, hc, n, hd⟩, hs⟩ := I.tuple hT
    simp only at hc hd
    exact .tup ho hc hd (keys_in I ha rv)
theorem keys_in (I : Inv X pins σ H s) : ∀ {ks : List NestedKey} {vs : List V} {us : List Value}, KeyAll X.K H ks vs → Vals vs us → NestedAll s.heap ks us
  | _, _, _, .nil, r => by cases r; exact .nil
  | _, _, _, .cons h t, r => by
    cases r with
    | cons r rt => exact .cons (key_in I h r) (keys_in I t rt)
end
end
/-! ### rows -/
def valX (xs : List (NestedKey × V × V)) (k : NestedKey) : Option V := (xs.find? fun x => decide (x.1 = k)).map (·.2.2)
def putX (xs : List (NestedKey × V × V)) (k : NestedKey) (b v : V) : List (NestedKey × V × V) :=
  if (valX xs k).isSome = true then xs.map (fun x => if x.1 = k then (x.1, x.2.1, v) else x) else xs ++ [(k, b, v)]
abbrev RowP (x : NestedKey × V × V) (y : NestedKey × Addr × Value) : Prop := x.1 = y.1 ∧ x.2.1 = .ref y.2.1 ∧ RelV x.2.2 y.2.2
theorem row_val {xs : List (NestedKey × V × V)} {ys : List (NestedKey × Addr × Value)} (r : Paired RowP xs ys) (k : NestedKey) : RelO (valX xs k) ((atKey ys k).map (·.2)) := by
  induction r with
  | nil => exact True.intro
  | @cons p q ps qs h t ih =>
    obtain ⟨h1, _, h2⟩ := h
    by_cases e : p.1 = k
    · have e' : q.1 = k := h1.symm.trans e
      have b : atKey (q :: qs) k = some q.2 := by simp [atKey, List.find?_cons, e']
      have b2 : valX (p :: ps) k = some p.2.2 := by simp [valX, List.find?_cons, e]
      rw [b2, b]; exact h2
    · have e' : ¬ q.1 = k := fun z => e (h1.trans z)
      have b : atKey (q :: qs) k = atKey qs k := by simp [atKey, List.find?_cons, e']
      have b2 : valX (p :: ps) k = valX ps k := by simp [valX, List.find?_cons, e]
      rw [b2, b]; exact ih
theorem row_repl {xs : List (NestedKey × V × V)} {ys : List (NestedKey × Addr × Value)} (r : Paired RowP xs ys) (k : NestedKey) {v : V} {u : Value} (ry : RelV v u) :
    Paired RowP (xs.map fun x => if x.1 = k then (x.1, x.2.1, v) else x) (ys.map (PySem.putAt k u)) := by
  induction r with
  | nil => exact .nil
  | @cons p q ps qs h t ih =>
    rw [List.map_cons, List.map_cons]
    refine .cons ?_ ih
    obtain ⟨h1, h2, h3⟩ := h
    unfold PySem.putAt
    by_cases e : p.1 = k
    · rw [if_pos e, if_pos (h1.symm.trans e)]; exact ⟨h1, h2, ry⟩
    · rw [if_neg e, if_neg (fun z => e (h1.trans z))]; exact ⟨h1, h2, h3⟩
theorem row_put {xs : List (NestedKey × V × V)} {ys : List (NestedKey × Addr × Value)} (r : Paired RowP xs ys) (k : NestedKey) {b : Addr} {v : V} {u : Value} (ry : RelV v u) : Paired RowP (putX xs k (.ref b) v) (storedH ys k b u) := by
  have e : (valX xs k).isSome = (atKey ys k).isSome := by
    rw [(row_val r k).isSome_eq, Option.isSome_map]
  unfold putX storedH
  rw [e]
  by_cases q : (atKey ys k).isSome = true
  · rw [if_pos q, if_pos q]; exact row_repl r k ry
  · rw [if_neg q, if_neg q]; exact Paired.snoc r ⟨rfl, rfl, ry⟩
theorem paired_mem {α β : Type} {R : α → β → Prop} {xs : List α} {ys : List β} (r : Paired R xs ys) : ∀ y ∈ ys, ∃ x, x ∈ xs ∧ R x y := by
  induction r with
  | nil => intro y hy; cases hy
  | @cons p q ps qs h t ih =>
    intro y hy
    rcases List.mem_cons.mp hy with rfl | hy
    · exact ⟨_, List.mem_cons_self, h⟩
    · obtain ⟨x, hx, r⟩ := ih y hy
      exact ⟨x, List.mem_cons_of_mem _ hx, r⟩
theorem row_keys {xs : List (NestedKey × V × V)} {ys : List (NestedKey × Addr × Value)} (r : Paired RowP xs ys) : xs.map (·.1) = ys.map (·.1) := by
  induction r with
  | nil => rfl
  | cons h t ih => rw [List.map_cons, List.map_cons, h.1, ih]
theorem putX_len (xs : List (NestedKey × V × V)) (k : NestedKey) (b v : V) : (putX xs k b v).length ≤ xs.length + 1 := by
  unfold putX
  split <;> simp
theorem putX_mem {xs : List (NestedKey × V × V)} {k : NestedKey} {b v : V} {P : NestedKey → Prop} (h : ∀ x ∈ xs, P x.1) (hk : P k) : ∀ x ∈ putX xs k b v, P x.1 := by
  intro x hx
  unfold putX at hx
  split at hx
  · obtain ⟨y, hy, rfl⟩ := List.mem_map.mp hx
    split
    · exact h y hy
    · exact h y hy
  · rcases List.mem_append.mp hx with z | z
    · exact h x z
    · rw [List.mem_singleton.mp z]; exact hk
section
variable {X : Cx} {pins : List (Addr × Obj)} {σ : L2.St} {H : Hp} {s : Shared} {a b : Addr} {xs : List (NestedKey × V × V)} {k : NestedKey} {A : Around} {E : Value → Shared → Prop}
/-- the rows of a tracked dict, as the library reads them -/
theorem dic_of (I : Inv X pins σ H s) (e : Rd H a (DicO X.w a xs)) (hk : ∀ x ∈ xs, KeyIs X.K H x.1 x.2.1) : ∃ ys, Paired RowP xs ys ∧ s.heap.DictOfH (nestedKind X.prog X.w) a ys ∧ (a == sysModules) = false ∧ xs.length ≤ sizeLine ∧ ∀ x ∈ xs, goodK x.1 := by
  obtain ⟨o, es, ep, ys, ho, hex, hd, he, hp, nd, hs, hl, hg⟩ := (e.ok I.hok).1
  refine ⟨ys, hp, ⟨o, es, ep, ho, hex, hd, ?_, fun y hy => ?_, ?_⟩, hs, hl, hg⟩
  · rw [he]
    rfl
  · obtain ⟨x, hx, h1, h2, h3⟩ : ∃ x, x ∈ xs ∧ RowP x y := by
      clear he hd nd hl hg hk
      exact paired_mem hp y hy
    have q := key_in I (hk x hx) (u := .ref y.2.1) (by rw [h2]; rfl)
    rw [h1] at q
    exact ⟨q, by rw [← h1]; exact (hg x hx).2⟩
  · rw [← row_keys hp]
    exact nd
theorem room8 (hu : A.units + 16 < cLine) : (nestedKind X.prog X.w).room A.in1 := by
  show A.units + 1 + 8 < cLine
  omega
theorem t_getItem {v : V} {Q : Value → Shared → Prop} (hu : A.units + 16 < cLine) (I : Inv X pins σ H s) (e : Rd H a (DicO X.w a xs)) (hk : ∀ x ∈ xs, KeyIs X.K H x.1 x.2.1) (kb : KeyIs X.K H k (.ref b)) (gk : goodK k) (l : valX xs k = some v)
    (h : ∀ w' s', Inv X pins σ H s' → RelV v w' → Q w' s') : wpAny (model X.prog X.w) A (getItem (.ref a) (.ref b)) Q E s := by
  obtain ⟨ys, rel, dd, hd, hl, hg⟩ := dic_of I e hk
  obtain ⟨w', hw, rw'⟩ := RelO.some_of (v := v) (o := (atKey ys k).map (·.2)) (by rw [← l]; exact row_val rel k)
  obtain ⟨p, hp, hp2⟩ := Option.map_eq_some_iff.mp hw
  refine wpAny_getItem_heap (room8 hu) ⟨key_in I kb rfl, gk.2⟩ dd hp ?_
  rw [hp2]
  exact h w' _ (I.tok _) rw'
theorem t_in {Q : Value → Shared → Prop} (hu : A.units + 16 < cLine) (I : Inv X pins σ H s) (e : Rd H a (DicO X.w a xs)) (hk : ∀ x ∈ xs, KeyIs X.K H x.1 x.2.1) (kb : KeyIs X.K H k (.ref b)) (gk : goodK k)
    (h : ∀ s', Inv X pins σ H s' → Q (.bool (valX xs k).isSome) s') : wpAny (model X.prog X.w) A (compareOp .In (.ref b) (.ref a)) Q E s := by
  obtain ⟨ys, rel, dd, hd, hl, hg⟩ := dic_of I e hk
  refine wpAny_in_heap (room8 hu) ⟨key_in I kb rfl, gk.2⟩ hd dd ?_
  have q := (row_val rel k).isSome_eq
  rw [Option.isSome_map] at q
  rw [← q]
  exact h _ (I.tok _)
theorem t_notIn {Q : Value → Shared → Prop} (hu : A.units + 16 < cLine) (I : Inv X pins σ H s) (e : Rd H a (DicO X.w a xs)) (hk : ∀ x ∈ xs, KeyIs X.K H x.1 x.2.1) (kb : KeyIs X.K H k (.ref b)) (gk : goodK k)
    (h : ∀ s', Inv X pins σ H s' → Q (.bool (!(valX xs k).isSome)) s') : wpAny (model X.prog X.w) A (compareOp .NotIn (.ref b) (.ref a)) Q E s := by
  obtain ⟨ys, rel, dd, hd, hl, hg⟩ := dic_of I e hk
  refine wpAny_notIn_heap (room8 hu) ⟨key_in I kb rfl, gk.2⟩ hd dd ?_
  have q := (row_val rel k).isSome_eq
  rw [Option.isSome_map] at q
  rw [← q]
  exact h _ (I.tok _)
theorem dicR_of {P : Program} {w : World} {h : Heap} {ys : List (NestedKey × Addr × Value)} {xs : List (NestedKey × V × V)} (dd : h.DictOfH (nestedKind P w) a ys) (rel : Paired RowP xs ys) (hd : (a == sysModules) = false) (hl : xs.length ≤ sizeLine) (hg : ∀ x ∈ xs, goodK x.1) : DicR w xs a h := by
  obtain ⟨o, es, ep, ho, hex, hdt, he, _, nd⟩ := dd
  refine ⟨o, es, ep, ys, ho, hex, hdt, ?_, rel, ?_, hd, hl, hg⟩
  · rw [he]
    rfl
  · rw [row_keys rel]
    exact nd
theorem t_setItem {v : V} {r : Value} {Q : Unit → Shared → Prop} (hu : A.units + 16 < cLine) (I : Inv X pins σ H s) (e : H a = some (DicO X.w a xs)) (hk : ∀ x ∈ xs, KeyIs X.K H x.1 x.2.1) (kb : KeyIs X.K H k (.ref b)) (gk : goodK k) (hl1 : xs.length < sizeLine) (rv : RelV v r)
    (h : ∀ s', Inv X pins σ (upd H a (DicO X.w a (putX xs k (.ref b) v))) s' → Q () s') : wpAny (model X.prog X.w) A (setItem (.ref a) (.ref b) r) Q E s := by
  obtain ⟨ys, rel, dd, hd, hl, hg⟩ := dic_of I (.inl e) hk
  have hz : ys.length ≤ sizeLine := by rw [← Paired.length rel]; exact hl
  refine wpAny_setItem_heap (hsz := hz) (room8 hu) ⟨key_in I kb rfl, gk.2⟩ dd fun h' dd' hs => h _ ?_
  have he : ∃ q, h'.get? a = some q := let ⟨o, _, _, ho, _⟩ := dd'; ⟨o, ho⟩
  refine d_write I (by rw [e]; exact True.intro) hs he (dicO_ok (dicR_of dd' (row_put rel k rv) hd ?_ (putX_mem hg gk)))
  have := putX_len xs k (.ref b) v
  omega
end
end DL

set_option maxHeartbeats 4000000
/-! DLD2: both kinds of dicts: look-ups, stores -/
namespace DL
open PySem PySem.Spec PyProof.Rows L2
/-- what the dict at a has at y -/
def DGetG (K : PySem.W.Frag) (w : World) (H : Hp) (a : Addr) (y : V) (o : Option V) : Prop :=
  (∃ kvs k, Rd H a (.dK kvs) ∧ y = kV k ∧ o = valV kvs k) ∨
  ∃ xs k b, Rd H a (DicO w a xs) ∧ (∀ x ∈ xs, KeyIs K H x.1 x.2.1) ∧ y = .ref b ∧ KeyIs K H k y ∧ goodK k ∧ o = valX xs k
def DPutG (K : PySem.W.Frag) (w : World) (H : Hp) (a : Addr) (y v : V) (H' : Hp) : Prop :=
  (∃ kvs k, H a = some (.dK kvs) ∧ y = kV k ∧ kvs.length < sizeLine ∧ H' = upd H a (.dK (putK kvs k v))) ∨
  ∃ xs k b, H a = some (DicO w a xs) ∧ (∀ x ∈ xs, KeyIs K H x.1 x.2.1) ∧ y = .ref b ∧ KeyIs K H k y ∧ goodK k ∧ xs.length < sizeLine ∧ H' = upd H a (DicO w a (putX xs k y v))
def IsDG (w : World) (H : Hp) (a : Addr) : Prop := (∃ kvs, Rd H a (.dK kvs)) ∨ ∃ xs, Rd H a (DicO w a xs)
section
variable {X : Cx} {pins : List (Addr × Obj)} {σ : L2.St} {H : Hp} {s : Shared} {a b : Addr} {y v : V} {u r : Value} {o : Option V} {A : Around} {E : Value → Shared → Prop}
theorem dicO_raw (I : Inv X pins σ H s) {xs : List (NestedKey × V × V)} (e : Rd H a (DicO X.w a xs)) : ∃ o es ep, s.heap.get? a = some o ∧ o.ExactDict ∧ o.data = .dict es ep ∧ (a == sysModules) = false := by
  obtain ⟨o, es, ep, ys, ho, hex, hd, he, hp, nd, hs, _⟩ := (e.ok I.hok).1
  exact ⟨o, es, ep, ho, hex, hd, hs⟩
theorem isDG_at (I : Inv X pins σ H s) (d : IsDG X.w H a) : s.TypeIs (.ref a) "dict" ∧ (∀ b, Value.ref a = .ref b → ∃ ob, s.heap.get? b = some ob ∧ ob.dict = none) ∧ (a == sysModules) = false := by
  rcases d with ⟨kvs, e⟩ | ⟨xs, e⟩
  · exact isD_at I (.inl ⟨kvs, e⟩)
  · obtain ⟨o, es, ep, ho, hex, hd, hs⟩ := dicO_raw I e
    refine ⟨⟨o, ho, hex.1⟩, fun b q => ?_, hs⟩
    cases q
    exact ⟨o, ho, hex.2.1⟩
theorem DGetG.isD {K : PySem.W.Frag} {w : World} (g : DGetG K w H a y o) : IsDG w H a := by
  rcases g with ⟨kvs, k, e, _⟩ | ⟨xs, k, b, e, _⟩
  · exact .inl ⟨kvs, e⟩
  · exact .inr ⟨xs, e⟩
theorem g_getItem {Q : Value → Shared → Prop} (hu : A.units + 16 < cLine) (I : Inv X pins σ H s) (g : DGetG X.K X.w H a y (some v)) (ry : RelV y u) (h : ∀ w' s', Inv X pins σ H s' → RelV v w' → Q w' s') :
    wpAny (model X.prog X.w) A (getItem (.ref a) u) Q E s := by
  rcases g with ⟨kvs, k, e, rfl, l⟩ | ⟨xs, k, b, e, hk, rfl, kb, gk, l⟩
  · exact d_getItem (by omega) I (.inl ⟨kvs, k, e, rfl, l⟩) ry h
  · cases (show u = Value.ref b from ry)
    exact t_getItem hu I e hk kb gk l.symm h
theorem g_in {Q : Value → Shared → Prop} (hu : A.units + 16 < cLine) (I : Inv X pins σ H s) (g : DGetG X.K X.w H a y o) (ry : RelV y u) (h : ∀ s', Inv X pins σ H s' → Q (.bool o.isSome) s') :
    wpAny (model X.prog X.w) A (compareOp .In u (.ref a)) Q E s := by
  rcases g with ⟨kvs, k, e, rfl, l⟩ | ⟨xs, k, b, e, hk, rfl, kb, gk, l⟩
  · exact d_in (by omega) I (.inl ⟨kvs, k, e, rfl, l⟩) ry h
  · cases (show u = Value.ref b from ry)
    rw [l] at h
    exact t_in hu I e hk kb gk h
theorem g_notIn {Q : Value → Shared → Prop} (hu : A.units + 16 < cLine) (I : Inv X pins σ H s) (g : DGetG X.K X.w H a y o) (ry : RelV y u) (h : ∀ s', Inv X pins σ H s' → Q (.bool (!o.isSome)) s') :
    wpAny (model X.prog X.w) A (compareOp .NotIn u (.ref a)) Q E s := by
  rcases g with ⟨kvs, k, e, rfl, l⟩ | ⟨xs, k, b, e, hk, rfl, kb, gk, l⟩
  · exact d_notIn (by omega) I (.inl ⟨kvs, k, e, rfl, l⟩) ry h
  · cases (show u = Value.ref b from ry)
    rw [l] at h
    exact t_notIn hu I e hk kb gk h
theorem g_setItem {H' : Hp} {Q : Unit → Shared → Prop} (hu : A.units + 16 < cLine) (I : Inv X pins σ H s) (g : DPutG X.K X.w H a y v H') (ry : RelV y u) (rv : RelV v r) (h : ∀ s', Inv X pins σ H' s' → Q () s') :
    wpAny (model X.prog X.w) A (setItem (.ref a) u r) Q E s := by
  rcases g with ⟨kvs, k, e, rfl, hl, rfl⟩ | ⟨xs, k, b, e, hk, rfl, kb, gk, hl, rfl⟩
  · exact d_setItem (by omega) I (.inl ⟨kvs, k, e, rfl, hl, rfl⟩) ry rv h
  · cases (show u = Value.ref b from ry)
    exact t_setItem hu I e hk kb gk hl rv h
theorem g_get1 {Q : Value → Shared → Prop} (hu : A.units + 16 < cLine) (I : Inv X pins σ H s) (g : DGetG X.K X.w H a y o) (ry : RelV y u) (h : ∀ w' s', Inv X pins σ H s' → RelV (o.getD .non) w' → Q w' s') :
    wpAny (model X.prog X.w) A (call (.builtin "dict.get") [.ref a, u]) Q E s := by
  rcases g with ⟨kvs, k, e, rfl, l⟩ | ⟨xs, k, b, e, hk, rfl, kb, gk, l⟩
  · exact d_get1 (by omega) I (.inl ⟨kvs, k, e, rfl, l⟩) ry h
  · cases (show u = Value.ref b from ry)
    obtain ⟨ys, rel, dd, hd, hl, hg⟩ := dic_of I e hk
    refine call_meetsIn PySem.F.slot_dict_get dd.typeIs PySem.F.entry_dict_get (PySem.F.args_dict_get_2 _ _) (meetsH_dict_get (knd := nestedKind X.prog X.w) a b hd) ⟨room8 hu, k, ys, ⟨key_in I kb rfl, gk.2⟩, dd, h _ _ (I.tok _) ?_⟩
    rw [l]
    exact (row_val rel k).getD rfl
theorem g_get2 {d : V} {Q : Value → Shared → Prop} (hu : A.units + 16 < cLine) (I : Inv X pins σ H s) (g : DGetG X.K X.w H a y o) (ry : RelV y u) (rd : RelV d r) (h : ∀ w' s', Inv X pins σ H s' → RelV (o.getD d) w' → Q w' s') :
    wpAny (model X.prog X.w) A (call (.builtin "dict.get") [.ref a, u, r]) Q E s := by
  rcases g with ⟨kvs, k, e, rfl, l⟩ | ⟨xs, k, b, e, hk, rfl, kb, gk, l⟩
  · exact d_get2 (by omega) I (.inl ⟨kvs, k, e, rfl, l⟩) ry rd h
  · cases (show u = Value.ref b from ry)
    obtain ⟨ys, rel, dd, hd, hl, hg⟩ := dic_of I e hk
    refine call_meetsIn PySem.F.slot_dict_get dd.typeIs PySem.F.entry_dict_get (PySem.F.args_dict_get_3 _ _ _) (meetsH_dict_get_default (knd := nestedKind X.prog X.w) a b hd r) ⟨room8 hu, k, ys, ⟨key_in I kb rfl, gk.2⟩, dd, h _ _ (I.tok _) ?_⟩
    rw [l]
    exact (row_val rel k).getD rd
end
/-! readings -/
def rIxDV (K : PySem.W.Frag) (w : World) : R2 := fun x y H Q => ∃ a v, x = .ref a ∧ DGetG K w H a y (some v) ∧ Q v H
def rInDV (K : PySem.W.Frag) (w : World) : R2 := fun y x H Q => ∃ a o, x = .ref a ∧ DGetG K w H a y o ∧ Q (.bl o.isSome) H
def rNotInDV (K : PySem.W.Frag) (w : World) : R2 := fun y x H Q => ∃ a o, x = .ref a ∧ DGetG K w H a y o ∧ Q (.bl (!o.isSome)) H
def rSetD (K : PySem.W.Frag) (w : World) : V → V → V → Hp → (Hp → Prop) → Prop := fun o i v H Q => ∃ a H', o = .ref a ∧ DPutG K w H a i v H' ∧ Q H'
def tGet1 (w : World) (K : PySem.W.Frag) (td ty : TE) : TE := fun σ H Q => td σ H fun x H1 => ∃ a, x = .ref a ∧ IsDG w H1 a ∧ ty σ H1 fun y H2 => ∃ o, DGetG K w H2 a y o ∧ Q (o.getD .non) H2
def tGet2 (w : World) (K : PySem.W.Frag) (td ty tx : TE) : TE := fun σ H Q => td σ H fun x H1 => ∃ a, x = .ref a ∧ IsDG w H1 a ∧ ty σ H1 fun y H2 => tx σ H2 fun z H3 => ∃ o, DGetG K w H3 a y o ∧ Q (o.getD z) H3
section
variable {X : Cx} {o e f : Expr} {apos cpos : Pos} {td ty tx : TE}
theorem op_inD (hu : X.A.units + 16 < cLine) : OpR X (compareOp .In) (rInDV X.K X.w) := by
  intro pins s σ H x y v u Q I rx ry h
  obtain ⟨a, o, rfl, g, q⟩ := h
  cases (show u = Value.ref a from ry)
  exact g_in hu I g rx fun s3 I3 => ⟨.bl o.isSome, H, I3, rfl, q⟩
theorem op_notInD (hu : X.A.units + 16 < cLine) : OpR X (compareOp .NotIn) (rNotInDV X.K X.w) := by
  intro pins s σ H x y v u Q I rx ry h
  obtain ⟨a, o, rfl, g, q⟩ := h
  cases (show u = Value.ref a from ry)
  exact g_notIn hu I g rx fun s3 I3 => ⟨.bl (!o.isSome), H, I3, rfl, q⟩
theorem set_D (hu : X.A.units + 16 < cLine) : PSet X (rSetD X.K X.w) := by
  intro pins s σ H o i v ov iv u Q I ro ri rv h
  obtain ⟨a, H', rfl, g, q⟩ := h
  cases (show ov = Value.ref a from ro)
  exact g_setItem hu I g ri rv fun s4 I4 => ⟨H', I4, q⟩
theorem ix_D (hu : X.A.units + 16 < cLine) : IxR X (rIxDV X.K X.w) := by
  intro value slice pins s σ H x y v u Q I rx ry h hs
  obtain ⟨a, z, rfl, g, q⟩ := h
  cases (show v = Value.ref a from rx)
  obtain ⟨hT, _, _⟩ := isDG_at I g.isD
  unfold subscriptTail
  refine wpAny_bind ?_
  rw [getitemInPython_of_ne hT.not_modules]
  refine wpAny_bind (wpAny_specialOf hT PySem.F.slot_dict_getitem.lookup ?_)
  have h2 : wpAny (model X.prog X.w) X.A (getItem (.ref a) u) (EP X pins σ Q) X.xe s := g_getItem hu I g ry fun w' s3 I3 rw' => ⟨z, H, I3, rw', q⟩
  have fin : wpAny (model X.prog X.w) X.A (subscripted slice false (.ref a) u) (fun r s₃ => wpAny (model X.prog X.w) X.A (letTemporaryGo value (.ref a) r >>= fun _ => pure r) (EP X pins σ Q) X.xe s₃) X.xe s := by
    rw [hs]
    exact wpAny_operating (wpAny_mono h2 (fun r s₃ h₃ => wpAny_bind (wpAny_letTemporaryGo (wpAny_pure h₃))) fun _ _ x => x)
  first
    | exact wpAny_pure (wpAny_bind fin)
    | exact wpAny_bind (wpAny_pure (wpAny_bind fin))
    | exact wpAny_bind fin
theorem pe_get1 (hu : X.A.units + 16 < cLine) (ho : PE X o td) (he : PE X e ty) (m : M1 X o "get" apos e cpos) : PE X (.Call (.Attribute o "get" apos) [e] [] cpos) (tGet1 X.w X.K td ty) := by
  refine ⟨fun pins s σ H Q I h => ?_⟩
  refine wpAny_Call_method m.base m.few m.line PySem.F.plainAttrs_dict PySem.F.slot_dict_get PySem.F.type_dict_get (thn (ho.run pins s σ H _ I h) fun u s1 ⟨x, H1, I1, rx, a, ex, d, q1⟩ => ?_)
  subst ex
  obtain rfl : u = Value.ref a := rx
  obtain ⟨t1, t2, _⟩ := isDG_at I1 d
  refine ⟨t1, t2, ?_⟩
  rw [m.trees]
  refine Calls.callWith_builtin rfl (Calls.evalArgs_plain (Calls.spliced_cons (thn (he.run pins s1 σ H1 _ I1 q1) fun iv s2 ⟨y, H2, I2, ry, ov, g, q2⟩ => Calls.spliced_nil ?_)))
  exact g_get1 hu I2 g ry fun w' s3 I3 rw' => ⟨_, H2, I3, rw', q2⟩
theorem pe_get2 (hu : X.A.units + 16 < cLine) (ho : PE X o td) (he : PE X e ty) (hf : PE X f tx) (m : M2 X o "get" apos e f cpos) : PE X (.Call (.Attribute o "get" apos) [e, f] [] cpos) (tGet2 X.w X.K td ty tx) := by
  refine ⟨fun pins s σ H Q I h => ?_⟩
  refine wpAny_Call_method m.base m.few m.line PySem.F.plainAttrs_dict PySem.F.slot_dict_get PySem.F.type_dict_get (thn (ho.run pins s σ H _ I h) fun u s1 ⟨x, H1, I1, rx, a, ex, d, q1⟩ => ?_)
  subst ex
  obtain rfl : u = Value.ref a := rx
  obtain ⟨t1, t2, _⟩ := isDG_at I1 d
  refine ⟨t1, t2, ?_⟩
  rw [m.trees]
  refine Calls.callWith_builtin rfl (Calls.evalArgs_plain (Calls.spliced_cons (thn (he.run pins s1 σ H1 _ I1 q1) fun iv s2 ⟨y, H2, I2, ry, q2⟩ =>
    Calls.spliced_cons (thn (hf.run pins s2 σ H2 _ I2 q2) fun fv s3 ⟨z, H3, I3, rz, ov, g, q3⟩ => Calls.spliced_nil ?_))))
  exact g_get2 hu I3 g ry rz fun w' s4 I4 rw' => ⟨_, H3, I4, rw', q3⟩
end
end DL

set_option maxHeartbeats 4000000
/-! DLD3: dicts by content -/
namespace DL
open PySem PySem.Spec PyProof.Rows L2
def kA : D → Option Key
  | .int i => some (.inl i)
  | .str x => some (.inr x)
  | _ => none
def kT : D → Option NestedKey
  | .tup ds => (match keyD (.tup ds) with | some k => if k.depth ≤ 8 then some k else none | none => none)
  | _ => none
def valA (kvs : List (Key × D)) (k : Key) : Option D := (kvs.find? fun p => decide (p.1 = k)).map (·.2)
def putA (kvs : List (Key × D)) (k : Key) (e : D) : List (Key × D) := if (valA kvs k).isSome = true then kvs.map (fun p => if p.1 = k then (p.1, e) else p) else kvs ++ [(k, e)]
def valT (kvs : List (D × D)) (k : NestedKey) : Option D := (kvs.find? fun p => decide (keyD p.1 = some k)).map (·.2)
def putT (kvs : List (D × D)) (d : D) (k : NestedKey) (e : D) : List (D × D) := if (valT kvs k).isSome = true then kvs.map (fun p => if keyD p.1 = some k then (p.1, e) else p) else kvs ++ [(d, e)]
theorem kT_key {d : D} {k : NestedKey} (h : kT d = some k) : keyD d = some k ∧ goodK k ∧ ∃ ds, d = .tup ds := by
  cases d with
  | tup ds =>
    simp only [kT] at h
    split at h
    · rename_i k' e
      split at h
      · cases h
        refine ⟨e, ⟨?_, by assumption⟩, ds, rfl⟩
        simp only [keyD, Option.map_eq_some_iff] at e
        obtain ⟨ks, _, rfl⟩ := e
        rfl
      · cases h
    · cases h
  | _ => cases h
theorem kA_key {d : D} {k : Key} {K : PySem.W.Frag} {μ : Mu} {H : Hp} {v : V} (h : kA d = some k) (r : Rep K μ H d v) : v = kV k := by
  cases d with
  | int i => cases h; exact r.int_inv
  | str i => cases h; exact r.str_inv
  | _ => cases h
def RO (K : PySem.W.Frag) (μ : Mu) (H : Hp) : Option D → Option V → Prop
  | none, none => True
  | some d, some v => Rep K μ H d v
  | _, _ => False
section
variable {K : PySem.W.Frag} {μ : Mu} {H : Hp}
theorem RO.isSome {o : Option D} {v : Option V} (h : RO K μ H o v) : o.isSome = v.isSome := by
  cases o <;> cases v <;> first | rfl | exact h.elim
theorem repK_val : ∀ {kvs : List (Key × D)} {xs : List (Key × V)}, RepK K μ H kvs xs → ∀ k, RO K μ H (valA kvs k) (valV xs k)
  | _, _, .nil, _ => True.intro
  | (k0, e) :: kvs, _ :: xs, .cons r t, k => by
    by_cases q : k0 = k
    · have h1 : valA ((k0, e) :: kvs) k = some e := by simp [valA, List.find?_cons, q]
      rw [h1, valV_pos (show (k0, _).1 = k from q)]
      exact r
    · have h1 : valA ((k0, e) :: kvs) k = valA kvs k := by simp [valA, List.find?_cons, q]
      rw [h1, valV_neg (show ¬ (k0, _).1 = k from q)]
      exact repK_val t k
theorem repKV_val : ∀ {kvs : List (D × D)} {xs : List (NestedKey × V × V)}, RepKV K μ H kvs xs → ∀ k, RO K μ H (valT kvs k) (valX xs k)
  | _, _, .nil, _ => True.intro
  | (d, e) :: kvs, (k0, v, u) :: xs, .cons a b c t, k => by
    by_cases q : k0 = k
    · have h1 : valT ((d, e) :: kvs) k = some e := by simp [valT, List.find?_cons, a, q]
      have h2 : valX ((k0, v, u) :: xs) k = some u := by simp [valX, List.find?_cons, q]
      rw [h1, h2]
      exact c
    · have h1 : valT ((d, e) :: kvs) k = valT kvs k := by simp [valT, List.find?_cons, a, q]
      have h2 : valX ((k0, v, u) :: xs) k = valX xs k := by simp [valX, List.find?_cons, q]
      rw [h1, h2]
      exact repKV_val t k
theorem repKV_keys : ∀ {kvs : List (D × D)} {xs : List (NestedKey × V × V)}, RepKV K μ H kvs xs → ∀ x ∈ xs, KeyIs K H x.1 x.2.1
  | _, _, .nil, _, h => by cases h
  | _, _, .cons a b c t, x, h => by
    rcases List.mem_cons.mp h with rfl | h
    · exact rep_key a b
    · exact repKV_keys t x h
theorem repK_len : ∀ {kvs : List (Key × D)} {xs : List (Key × V)}, RepK K μ H kvs xs → kvs.length = xs.length
  | _, _, .nil => rfl
  | _, _, .cons _ t => congrArg (· + 1) (repK_len t)
theorem repKV_len : ∀ {kvs : List (D × D)} {xs : List (NestedKey × V × V)}, RepKV K μ H kvs xs → kvs.length = xs.length
  | _, _, .nil => rfl
  | _, _, .cons _ _ _ t => congrArg (· + 1) (repKV_len t)
theorem repK_map {k : Key} {e : D} {v : V} (r : Rep K μ H e v) : ∀ {kvs : List (Key × D)} {xs : List (Key × V)}, RepK K μ H kvs xs → RepK K μ H (kvs.map fun p => if p.1 = k then (p.1, e) else p) (xs.map fun p => if p.1 = k then (p.1, v) else p)
  | _, _, .nil => .nil
  | (k0, e0) :: _, (_, v0) :: _, .cons r0 t => by
    rw [List.map_cons, List.map_cons]
    by_cases q : k0 = k
    · rw [if_pos (show (k0, e0).1 = k from q), if_pos (show (k0, v0).1 = k from q)]
      exact .cons r (repK_map r t)
    · rw [if_neg (show ¬ (k0, e0).1 = k from q), if_neg (show ¬ (k0, v0).1 = k from q)]
      exact .cons r0 (repK_map r t)
theorem repK_snoc {k : Key} {e : D} {v : V} (r : Rep K μ H e v) : ∀ {kvs : List (Key × D)} {xs : List (Key × V)}, RepK K μ H kvs xs → RepK K μ H (kvs ++ [(k, e)]) (xs ++ [(k, v)])
  | _, _, .nil => .cons r .nil
  | _, _, .cons r0 t => .cons r0 (repK_snoc r t)
theorem repK_put {k : Key} {e : D} {v : V} {kvs : List (Key × D)} {xs : List (Key × V)} (r : Rep K μ H e v) (h : RepK K μ H kvs xs) : RepK K μ H (putA kvs k e) (putK xs k v) := by
  unfold putA putK
  rw [valV_any, (repK_val h k).isSome]
  split
  · exact repK_map r h
  · exact repK_snoc r h
theorem repKV_map {k : NestedKey} {e : D} {v : V} (r : Rep K μ H e v) : ∀ {kvs : List (D × D)} {xs : List (NestedKey × V × V)}, RepKV K μ H kvs xs → RepKV K μ H (kvs.map fun p => if keyD p.1 = some k then (p.1, e) else p) (xs.map fun x => if x.1 = k then (x.1, x.2.1, v) else x)
  | _, _, .nil => .nil
  | (d0, e0) :: _, (k0, v0, u0) :: _, .cons a b c t => by
    rw [List.map_cons, List.map_cons]
    by_cases q : k0 = k
    · rw [if_pos (show keyD (d0, e0).1 = some k by rw [← q]; exact a), if_pos (show (k0, v0, u0).1 = k from q)]
      exact .cons a b r (repKV_map r t)
    · rw [if_neg (show ¬ keyD (d0, e0).1 = some k from fun z => q (Option.some.inj (a.symm.trans z))), if_neg (show ¬ (k0, v0, u0).1 = k from q)]
      exact .cons a b c (repKV_map r t)
theorem repKV_snoc {d e : D} {k : NestedKey} {v u : V} (a : keyD d = some k) (b : Rep K μ H d v) (r : Rep K μ H e u) : ∀ {kvs : List (D × D)} {xs : List (NestedKey × V × V)}, RepKV K μ H kvs xs → RepKV K μ H (kvs ++ [(d, e)]) (xs ++ [(k, v, u)])
  | _, _, .nil => .cons a b r .nil
  | _, _, .cons a0 b0 c0 t => .cons a0 b0 c0 (repKV_snoc a b r t)
theorem repKV_put {d e : D} {k : NestedKey} {v u : V} {kvs : List (D × D)} {xs : List (NestedKey × V × V)} (a : keyD d = some k) (b : Rep K μ H d v) (r : Rep K μ H e u) (h : RepKV K μ H kvs xs) : RepKV K μ H (putT kvs d k e) (putX xs k v u) := by
  unfold putT putX
  rw [(repKV_val h k).isSome]
  split
  · exact repKV_map r h
  · exact repKV_snoc a b r h
end
/-- what the n-th object, a dict, has at y -/
def getO (S : Store) (n : Nat) (y : D) : Option (Option D) := match S[n]? with
  | some (.dA kvs) => (match kA y with | some k => some (valA kvs k) | none => none)
  | some (.dT kvs) => (match kT y with | some k => some (valT kvs k) | none => none)
  | some (.fA _ _ kvs) => (match kA y with | some k => some (valA kvs k) | none => none)
  | some (.fT _ _ kvs) => (match kT y with | some k => some (valT kvs k) | none => none)
  | _ => none
/-- .. what it is when d is put at y -/
def putO (S : Store) (n : Nat) (y d : D) : Option Ob := match S[n]? with
  | some (.dA kvs) => (match kA y with | some k => if kvs.length < 16777216 then some (.dA (putA kvs k d)) else none | none => none)
  | some (.dT kvs) => (match kT y with | some k => if kvs.length < 16777216 then some (.dT (putT kvs y k d)) else none | none => none)
  | _ => none
def isDic (S : Store) (n : Nat) : Bool := match S[n]? with | some (.dA _) => true | some (.dT _) => true | some (.fA _ _ _) => true | some (.fT _ _ _) => true | _ => false
variable [WW]
section
variable {K : PySem.W.Frag} {μ : Mu} {S : Store} {H : Hp} {n : Nat} {y d : D} {vx vy : V}
theorem getO_ok {o : Option D} (m : Sim K μ S H) (rx : Rep K μ H (.ref n) vx) (ry : Rep K μ H y vy) (h : getO S n y = some o) : ∃ a o', vx = .ref a ∧ DGetG K WW.w H a vy o' ∧ RO K μ H o o' := by
  cases rx with
  | @ref n a hn =>
  unfold getO at h
  split at h
  · rename_i kvs hs
    split at h
    · rename_i k hk
      cases h
      obtain ⟨a', xs, h1, h2, h3⟩ := m.dA n kvs hs
      rw [hn] at h1
      cases h1
      exact ⟨a, _, rfl, .inl ⟨xs, k, .inl h2, kA_key hk ry, rfl⟩, repK_val h3 k⟩
    · cases h
  · rename_i kvs hs
    split at h
    · rename_i k hk
      cases h
      obtain ⟨a', xs, h1, h2, h3⟩ := m.dT n kvs hs
      rw [hn] at h1
      cases h1
      obtain ⟨e1, e2, ds, rfl⟩ := kT_key hk
      obtain ⟨b, us, rfl, _⟩ := ry.tupS
      exact ⟨a, _, rfl, .inr ⟨xs, k, b, .inl h2, repKV_keys h3, rfl, rep_key e1 ry, e2, rfl⟩, repKV_val h3 k⟩
    · cases h
  · rename_i o2 u2 kvs hs
    split at h
    · rename_i k hk
      cases h
      obtain ⟨a', xs, h1, h2, rfl, h3⟩ := m.fA n o2 u2 kvs hs
      rw [hn] at h1
      cases h1
      exact ⟨a, _, rfl, .inl ⟨xs, k, .inr ⟨_, h2⟩, kA_key hk ry, rfl⟩, repK_val h3 k⟩
    · cases h
  · rename_i o2 u2 kvs hs
    split at h
    · rename_i k hk
      cases h
      obtain ⟨a', xs, h1, h2, rfl, h3⟩ := m.fT n o2 u2 kvs hs
      rw [hn] at h1
      cases h1
      obtain ⟨e1, e2, ds, rfl⟩ := kT_key hk
      obtain ⟨b, us, rfl, _⟩ := ry.tupS
      exact ⟨a, _, rfl, .inr ⟨xs, k, b, .inr ⟨_, h2⟩, repKV_keys h3, rfl, rep_key e1 ry, e2, rfl⟩, repKV_val h3 k⟩
    · cases h
  · cases h
theorem putO_ok {o : Ob} {vd : V} (m : Sim K μ S H) (rx : Rep K μ H (.ref n) vx) (ry : Rep K μ H y vy) (rd : Rep K μ H d vd) (h : putO S n y d = some o) :
    ∃ a H', vx = .ref a ∧ DPutG K WW.w H a vy vd H' ∧ Sim K μ (S.set n o) H' ∧ Grow μ H μ H' := by
  cases rx with
  | @ref n a hn =>
  unfold putO at h
  split at h
  · rename_i kvs hs
    split at h
    · rename_i k hk
      split at h
      · rename_i hl
        cases h
        obtain ⟨a', xs, h1, h2, h3⟩ := m.dA n kvs hs
        rw [hn] at h1
        cases h1
        refine ⟨a, _, rfl, .inl ⟨xs, k, h2, kA_key hk ry, by rw [sizeLine_eq, ← repK_len h3]; exact hl, rfl⟩, m.putO hn h2 True.intro ⟨_, rfl, repK_put rd h3⟩, .putO m hn h2 True.intro⟩
      · cases h
    · cases h
  · rename_i kvs hs
    split at h
    · rename_i k hk
      split at h
      · rename_i hl
        cases h
        obtain ⟨a', xs, h1, h2, h3⟩ := m.dT n kvs hs
        rw [hn] at h1
        cases h1
        obtain ⟨e1, e2, ds, rfl⟩ := kT_key hk
        obtain ⟨b, us, rfl, _⟩ := ry.tupS
        refine ⟨a, _, rfl, .inr ⟨xs, k, b, h2, repKV_keys h3, rfl, rep_key e1 ry, e2, by rw [sizeLine_eq, ← repKV_len h3]; exact hl, rfl⟩, m.putO hn h2 True.intro ⟨_, rfl, repKV_put e1 ry rd h3⟩, .putO m hn h2 True.intro⟩
      · cases h
    · cases h
  · cases h
theorem isDic_ok (m : Sim K μ S H) (rx : Rep K μ H (.ref n) vx) (h : isDic S n = true) : ∃ a, vx = .ref a ∧ IsDG WW.w H a := by
  cases rx with
  | @ref n a hn =>
  unfold isDic at h
  split at h
  · rename_i kvs hs
    obtain ⟨a', xs, h1, h2, h3⟩ := m.dA n kvs hs
    rw [hn] at h1
    cases h1
    exact ⟨a, rfl, .inl ⟨xs, .inl h2⟩⟩
  · rename_i kvs hs
    obtain ⟨a', xs, h1, h2, h3⟩ := m.dT n kvs hs
    rw [hn] at h1
    cases h1
    exact ⟨a, rfl, .inr ⟨xs, .inl h2⟩⟩
  · rename_i o2 u2 kvs hs
    obtain ⟨a', xs, h1, h2, rfl, h3⟩ := m.fA n o2 u2 kvs hs
    rw [hn] at h1
    cases h1
    exact ⟨a, rfl, .inl ⟨xs, .inr ⟨_, h2⟩⟩⟩
  · rename_i o2 u2 kvs hs
    obtain ⟨a', xs, h1, h2, rfl, h3⟩ := m.fT n o2 u2 kvs hs
    rw [hn] at h1
    cases h1
    exact ⟨a, rfl, .inr ⟨xs, .inr ⟨_, h2⟩⟩⟩
  · cases h
end
omit [WW] in
/-- x[y]: a dict's, else as ever -/
def rIxH : RD := fun x y S Q => match x with
  | .ref n => (match S[n]? with
    | some (.lst _) => rIxG x y S Q
    | _ => match getO S n y with | some (some d) => Q d S | _ => False)
  | _ => rIxG x y S Q
omit [WW] in
def rInH (neg : Bool) : RD := fun x y S Q => match y with
  | .ref n => (match S[n]? with
    | some (.lst _) => rInN neg x y S Q
    | _ => match getO S n x with | some o => Q (.bl (if neg = true then !o.isSome else o.isSome)) S | _ => False)
  | _ => rInN neg x y S Q
section
variable {X : Cx}
theorem ix_H (hu : X.A.units + 16 < cLine) : IxR X (fun x y H Q => (rIxV X.K x y H Q ∨ rIxS x y H Q) ∨ rIxDV X.K X.w x y H Q) := ix_G.or (ix_D hu)
theorem opd_ixH {K : PySem.W.Frag} : OpD K (fun x y H Q => (rIxV K x y H Q ∨ rIxS x y H Q) ∨ rIxDV K WW.w x y H Q) rIxH := by
  intro μ S H x y vx vy Q0 Q m rx ry q p
  unfold rIxH at q
  split at q
  · split at q
    · exact .inl (opd_ixG μ S H _ y vx vy Q0 Q m rx ry q p)
    · split at q
      · rename_i d hd
        obtain ⟨a, o', rfl, g, r⟩ := getO_ok m rx ry hd
        cases o' with
        | none => exact r.elim
        | some v => exact .inr ⟨a, v, rfl, g, p.now m r q⟩
      · exact q.elim
  · exact .inl (opd_ixG μ S H x y vx vy Q0 Q m rx ry q p)
theorem op_inH (neg : Bool) (hu : X.A.units + 65 < cLine) : OpR X (compareOp (if neg = true then .NotIn else .In)) (fun x y H Q => rInV X.K neg x y H Q ∨ if neg = true then rNotInDV X.K X.w x y H Q else rInDV X.K X.w x y H Q) := by
  refine (op_inV neg hu).or ?_
  cases neg with
  | false => exact op_inD (by omega)
  | true => exact op_notInD (by omega)
theorem opd_inH {K : PySem.W.Frag} (neg : Bool) : OpD K (fun x y H Q => rInV K neg x y H Q ∨ if neg = true then rNotInDV K WW.w x y H Q else rInDV K WW.w x y H Q) (rInH neg) := by
  intro μ S H x y vx vy Q0 Q m rx ry q p
  unfold rInH at q
  split at q
  · split at q
    · exact .inl (opd_in neg μ S H _ _ vx vy Q0 Q m rx ry q p)
    · split at q
      · rename_i o hd
        obtain ⟨a, o', rfl, g, r⟩ := getO_ok m ry rx hd
        have e := r.isSome
        cases neg with
        | false => exact .inr ⟨a, o', rfl, g, p.now m (by rw [← e]; exact .bl _) q⟩
        | true => exact .inr ⟨a, o', rfl, g, p.now m (by rw [← e]; exact .bl _) q⟩
      · exact q.elim
  · exact .inl (opd_in neg μ S H x y vx vy Q0 Q m rx ry q p)
end
end DL

set_option maxHeartbeats 4000000
/-! DLD4: rules for dicts -/
namespace DL
open PySem PySem.Spec PyProof.Rows L2
variable [WW]
section
variable {X : Cx} {a b : Expr} {wa wb wc : WE} {pos : Pos}
theorem se_ixH (hW : X.w = WW.w) (hu : X.A.units + 16 < cLine) (ha : SE X a wa) (hb : SE X b wb) (hs : PlainIx b := by exact fun _ _ => rfl) : SE X (.Subscript a b pos) (wOp rIxH wa wb) :=
  se_bin (r := fun x y H Q => (rIxV X.K x y H Q ∨ rIxS x y H Q) ∨ rIxDV X.K X.w x y H Q) (by rw [hW]; exact opd_ixH) ha hb (pe_ix (ix_H hu) ha hb hs)
theorem se_inH (hW : X.w = WW.w) (hu : X.A.units + 65 < cLine) (ha : SE X a wa) (hb : SE X b wb) (hm : behindInMarks .In b = false := by first | exact nomark _ | with_unfolding_all rfl) : SE X (.Compare a [.In] [b] pos) (wOp (rInH false) wa wb) :=
  se_cmpR (r := fun x y H Q => rInV X.K false x y H Q ∨ if false = true then rNotInDV X.K X.w x y H Q else rInDV X.K X.w x y H Q) (by rw [hW]; exact opd_inH false) (op_inH false hu) ha hb hm
theorem se_notInH (hW : X.w = WW.w) (hu : X.A.units + 65 < cLine) (ha : SE X a wa) (hb : SE X b wb) (hm : behindInMarks .NotIn b = false := by first | exact nomark _ | with_unfolding_all rfl) : SE X (.Compare a [.NotIn] [b] pos) (wOp (rInH true) wa wb) :=
  se_cmpR (r := fun x y H Q => rInV X.K true x y H Q ∨ if true = true then rNotInDV X.K X.w x y H Q else rInDV X.K X.w x y H Q) (by rw [hW]; exact opd_inH true) (op_inH true hu) ha hb hm
theorem st_inH (hW : X.w = WW.w) (hu : X.A.units + 65 < cLine) (ha : SE X a wa) (hb : SE X b wb) (hm : behindInMarks .In b = false := by first | exact nomark _ | with_unfolding_all rfl) : ST X (.Compare a [.In] [b] pos) (wTest (wOp (rInH false) wa wb)) :=
  st_cmpR (r := fun x y H Q => rInV X.K false x y H Q ∨ if false = true then rNotInDV X.K X.w x y H Q else rInDV X.K X.w x y H Q) (by rw [hW]; exact opd_inH false) (op_inH false hu) ha hb hm
theorem st_notInH (hW : X.w = WW.w) (hu : X.A.units + 65 < cLine) (ha : SE X a wa) (hb : SE X b wb) (hm : behindInMarks .NotIn b = false := by first | exact nomark _ | with_unfolding_all rfl) : ST X (.Compare a [.NotIn] [b] pos) (wTest (wOp (rInH true) wa wb)) :=
  st_cmpR (r := fun x y H Q => rInV X.K true x y H Q ∨ if true = true then rNotInDV X.K X.w x y H Q else rInDV X.K X.w x y H Q) (by rw [hW]; exact opd_inH true) (op_inH true hu) ha hb hm
end
/-! o[i] = e -/
omit [WW] in
theorem pset_or {X : Cx} {t t' : V → V → V → Hp → (Hp → Prop) → Prop} (h : PSet X t) (h' : PSet X t') : PSet X (fun o i v H Q => t o i v H Q ∨ t' o i v H Q) := by
  intro pins s σ H o i v ov iv u Q I ro ri rv q
  rcases q with q | q
  · exact h pins s σ H o i v ov iv u Q I ro ri rv q
  · exact h' pins s σ H o i v ov iv u Q I ro ri rv q
omit [WW] in
def putH (n : Nat) (i d : D) (S : Store) (Q : Store → Prop) : Prop := match S[n]? with
  | some (.lst _) => (match i with | .int k => putAt n k d S Q | _ => False)
  | _ => match putO S n i d with | some ob => Q (S.set n ob) | none => False
omit [WW] in
def wPutH (we wo wi : WE) : WS := fun D ρ S => we ρ S fun d S1 => wo ρ S1 fun o S2 => wi ρ S2 fun i S3 => match o with
  | .ref n => putH n i d S3 (D.nx ρ)
  | _ => False
section
variable {X : Cx} {e o i : Expr} {wa wb wc : WE} {pos p1 : Pos}
theorem putAt_ok {μ : Mu} {S : Store} {H : Hp} {n : Nat} {k : Int} {d : D} {vo vi v : V} {Q0 : Store → Prop} {Q : Hp → Prop} (m : Sim X.K μ S H) (ro : Rep X.K μ H (.ref n) vo) (ri : Rep X.K μ H (.int k) vi) (rd : Rep X.K μ H d v) (q : putAt n k d S Q0)
    (h : ∀ S' H', Q0 S' → Grow μ H μ H' → Sim X.K μ S' H' → Q H') : rSetL vo vi v H Q := by
  have e := ri.int_inv
  subst e
  unfold putAt at q
  split at q
  · rename_i xs hn
    obtain ⟨a, ys, rfl, h1, h2, h3⟩ := m.at hn ro
    split at q
    · rename_i j
      obtain ⟨hj, q⟩ := q
      refine ⟨a, ys, _, j, rfl, rfl, h2, ?_, ?_⟩
      · unfold ixN
        rw [if_pos (by show (0 : Int) ≤ (j : Int); omega), if_pos (by rw [← h3.length]; show (j : Int) < _; omega)]
        rfl
      · exact h _ _ q (.put m h1 h2) (m.put h1 h2 (h3.set rd j))
    · rename_i j
      obtain ⟨hj, q⟩ := q
      refine ⟨a, ys, _, ys.length - 1 - j, rfl, rfl, h2, ?_, ?_⟩
      · unfold ixN
        have hl := h3.length
        rw [if_neg (by omega), if_pos (by omega)]
        congr 1
        omega
      · rw [← h3.length]
        exact h _ _ q (.put m h1 h2) (m.put h1 h2 (h3.set rd _))
  · exact q.elim
theorem ss_putH (hW : X.w = WW.w) (hu : X.A.units + 16 < cLine) (he : SE X e wa) (ho : SE X o wb) (hi : SE X i wc)
    (ha : ∀ v, assign (.Subscript o i p1) X.env v = (do
      let ov ← holding [v] (eval o X.env)
      let iv ← holding [v, ov] (eval i X.env)
      standAt p1
      holding [v, ov, iv] (setItem ov iv v)
      release [v, ov, iv] []) := by intro _; rfl)
    (hs : swapsWithSole [.Subscript o i p1] e pos.line X.env = pure false := by rfl) (hw : swappedStores [.Subscript o i p1] e X.env = pure none := by rfl)
    (h1 : (assignEach [.Subscript o i p1] X.env).map (·.2) = [assign (.Subscript o i p1) X.env] := by rfl) : SS X (.Assign [.Subscript o i p1] e pos) (wPutH wa wb wc) :=
  ps_weak (ps_asg he (pg_sub ho hi (pset_or set_list (set_D hu)) ha) hs hw h1) fun D σ H ⟨μ, S, ρ, D0, m, en, q, p⟩ => by
    refine LE.run m en q fun d S1 μ1 v H1 q1 g1 m1 e1 r1 => ?_
    refine LE.run m1 e1 q1 fun o S2 μ2 vo H2 q2 g2 m2 e2 r2 => ?_
    refine LE.run m2 e2 q2 fun i S3 μ3 vi H3 q3 g3 m3 e3 r3 => ?_
    have r1' := r1.grow (g2.trans g3)
    have r2' := r2.grow g3
    split at q3
    · rename_i n
      unfold putH at q3
      split at q3
      · split at q3
        · exact .inl (putAt_ok m3 r2' r3 r1' q3 fun S' H' q4 g4 m4 => p.nx ρ S' q4 μ3 σ H' (g1.trans (g2.trans (g3.trans g4))) m4 (e3.grow g4))
        · exact q3.elim
      · split at q3
        · rename_i ob hob
          obtain ⟨a, H', rfl, g, m4, g4⟩ := putO_ok m3 r2' r3 r1' hob
          refine .inr ⟨a, H', rfl, by rw [hW]; exact g, ?_⟩
          exact p.nx ρ _ q3 μ3 σ H' (g1.trans (g2.trans (g3.trans g4))) m4 (e3.grow g4)
        · exact q3.elim
    · exact q3.elim
end
/-! d.get -/
omit [WW] in
def wGet1 (wo wi : WE) : WE := fun ρ S Q => wo ρ S fun x S1 => match x with
  | .ref n => isDic S1 n = true ∧ wi ρ S1 fun y S2 => match getO S2 n y with | some o => Q (o.getD .non) S2 | none => False
  | _ => False
omit [WW] in
def wGet2 (wo wi wx : WE) : WE := fun ρ S Q => wo ρ S fun x S1 => match x with
  | .ref n => isDic S1 n = true ∧ wi ρ S1 fun y S2 => wx ρ S2 fun z S3 => match getO S3 n y with | some o => Q (o.getD z) S3 | none => False
  | _ => False
theorem RO.getD {K : PySem.W.Frag} {μ : Mu} {H : Hp} {o : Option D} {o' : Option V} {d : D} {v : V} (h : RO K μ H o o') (r : Rep K μ H d v) : Rep K μ H (o.getD d) (o'.getD v) := by
  cases o <;> cases o' <;> first | exact r | exact h | exact h.elim
section
variable {X : Cx} {o e f : Expr} {apos cpos : Pos} {wa wb wc : WE}
theorem se_get1 (hW : X.w = WW.w) (hu : X.A.units + 16 < cLine) (ho : SE X o wa) (he : SE X e wb) (m : M1 X o "get" apos e cpos) : SE X (.Call (.Attribute o "get" apos) [e] [] cpos) (wGet1 wa wb) :=
  pe_weak (pe_get1 hu ho he m) fun σ H Q ⟨μ, S, ρ, Q0, m, en, q, p⟩ => by
    refine LE.run m en q fun d S1 μ1 v H1 q1 g1 m1 e1 r1 => ?_
    split at q1
    · rename_i n
      obtain ⟨qd, q1⟩ := q1
      obtain ⟨a, rfl, hd⟩ := isDic_ok m1 r1 qd
      refine ⟨a, rfl, by rw [hW]; exact hd, ?_⟩
      refine LE.run m1 e1 q1 fun y S2 μ2 vy H2 q2 g2 m2 e2 r2 => ?_
      split at q2
      · rename_i oo hoo
        obtain ⟨a', o', e', g, r⟩ := getO_ok m2 (r1.grow g2) r2 hoo
        cases e'
        exact ⟨o', by rw [hW]; exact g, p _ _ q2 _ _ _ (g1.trans g2) m2 (r.getD .non)⟩
      · exact q2.elim
    · exact q1.elim
theorem se_get2 (hW : X.w = WW.w) (hu : X.A.units + 16 < cLine) (ho : SE X o wa) (he : SE X e wb) (hf : SE X f wc) (m : M2 X o "get" apos e f cpos) : SE X (.Call (.Attribute o "get" apos) [e, f] [] cpos) (wGet2 wa wb wc) :=
  pe_weak (pe_get2 hu ho he hf m) fun σ H Q ⟨μ, S, ρ, Q0, m, en, q, p⟩ => by
    refine LE.run m en q fun d S1 μ1 v H1 q1 g1 m1 e1 r1 => ?_
    split at q1
    · rename_i n
      obtain ⟨qd, q1⟩ := q1
      obtain ⟨a, rfl, hd⟩ := isDic_ok m1 r1 qd
      refine ⟨a, rfl, by rw [hW]; exact hd, ?_⟩
      refine LE.run m1 e1 q1 fun y S2 μ2 vy H2 q2 g2 m2 e2 r2 => ?_
      refine LE.run m2 e2 q2 fun z S3 μ3 vz H3 q3 g3 m3 e3 r3 => ?_
      split at q3
      · rename_i oo hoo
        obtain ⟨a', o', e', g, r⟩ := getO_ok m3 (r1.grow (g2.trans g3)) (r2.grow g3) hoo
        cases e'
        exact ⟨o', by rw [hW]; exact g, p _ _ q3 _ _ _ (g1.trans (g2.trans g3)) m3 (r.getD r3)⟩
      · exact q3.elim
    · exact q1.elim
end
/-! {} -/
omit [WW] in
def wNewA : WE := fun _ S Q => Q (.ref S.length) (S ++ [.dA []])
omit [WW] in
def wNewT : WE := fun _ S Q => Q (.ref S.length) (S ++ [.dT []])
omit [WW] in
theorem dicR_empty (w : World) (h : Heap) (hb : sysModules < h.objs.size) : DicR w [] h.objs.size (h.push { cls := .type "dict", data := .dict #[] }) :=
  ⟨_, #[], 0, [], Heap.get?_push_size _ rfl, ⟨rfl, rfl, rfl⟩, rfl, rfl, .nil, List.nodup_nil, beq_eq_false_iff_ne.mpr (Ne.symm (Nat.ne_of_lt hb)), Nat.zero_le _, fun x hx => by cases hx⟩
omit [WW] in
def tNewT (w : World) : TE := fun _ H Q => ∀ p, H p = none → Q (.ref p) (upd H p (DicO w p []))
omit [WW] in
theorem pe_newT {X : Cx} {pos : Pos} : PE X (.Dict [] [] pos) (tNewT X.w) := ⟨fun pins s σ H Q I h =>
  wpAny_Dict_empty ⟨.ref s.heap.objs.size, _, I.laid (a := s.heap.objs.size) (o := DicO X.w s.heap.objs.size []) (t' := s.toks) (fun _ _ q => Heap.get?_push_of_some _ q) (Nat.le_refl _) (dicO_ok (dicR_empty X.w s.heap I.big)), rfl, h _ (I.hok.fresh (Nat.le_refl _))⟩⟩
section
variable {X : Cx} {pos : Pos}
theorem se_newA : SE X (.Dict [] [] pos) wNewA := pe_weak pe_dnewK fun σ H Q ⟨μ, S, ρ, Q0, m, en, q, p⟩ => fun l hl =>
  p _ _ q (μ.add l) _ _ (.alloc hl) (m.allocO hl ⟨[], rfl, .nil⟩) (Rep.refH (Sim.newR m))
theorem se_newT (hW : X.w = WW.w) : SE X (.Dict [] [] pos) wNewT := pe_weak pe_newT fun σ H Q ⟨μ, S, ρ, Q0, m, en, q, p⟩ => fun l hl => by
  rw [hW]
  exact p _ _ q (μ.add l) _ _ (.alloc hl) (m.allocO hl ⟨[], rfl, .nil⟩) (Rep.refH (Sim.newR m))
end
end DL

set_option maxHeartbeats 4000000
/-! DLD5: dict comprehensions, both kinds of keys -/
namespace DL
open PySem PySem.Spec PyProof.Rows L2
theorem room9 {P : Program} {w : World} {A : Around} (hu : A.units + 16 < cLine) : (nestedKind P w).room A := by
  show A.units + 8 < cLine
  omega
section
variable {X : Cx} {pins : List (Addr × Obj)} {σ : L2.St} {H : Hp} {s : Shared}
/-- a row goes into the dict that is being made -/
theorem g_dictSet {A : Around} {E : Value → Shared → Prop} {a : Addr} {y v : V} {u r : Value} {H' : Hp} {Q : Unit → Shared → Prop} (hA : X.A = A) (hu : A.units + 16 < cLine) (I : Inv X pins σ H s) (g : DPutG X.K X.w H a y v H') (ry : RelV y u) (rv : RelV v r) (h : ∀ s', Inv X pins σ H' s' → Q () s') :
    wpAny (model X.prog X.w) A (dictSet a u r) Q E s := by
  subst hA
  rcases g with ⟨kvs, k, e, rfl, hl, rfl⟩ | ⟨xs, k, b, e, hk, rfl, kb, gk, hl, rfl⟩
  · exact d_dictSet I e hl ry rv h
  · cases (show u = Value.ref b from ry)
    obtain ⟨ys, rel, dd, hd, hlx, hg⟩ := dic_of I (.inl e) hk
    have hz : ys.length ≤ sizeLine := by rw [← Paired.length rel]; exact hlx
    refine wpAny_dictSet_heap (hsz := hz) (room9 hu) ⟨key_in I kb rfl, gk.2⟩ dd fun h' dd' hs => h _ ?_
    have he : ∃ q, h'.get? a = some q := let ⟨o, _, _, ho, _⟩ := dd'; ⟨o, ho⟩
    refine d_write I (by rw [e]; exact True.intro) hs he (dicO_ok (dicR_of dd' (row_put rel k rv) hd ?_ (putX_mem hg gk)))
    have := putX_len xs k (.ref b) v
    omega
end
/-- {k: v for target in iter if ..} into the new dict u0 -/
def tDcG (K : PySem.W.Frag) (w : World) (u0 : Addr → HO) (wi : TI) (g : TG) (tt : TT) (tk tv : TE) (vs : List Nat) : TE := fun σ H Q => wi σ H fun J H1 => ∀ D, H1 D = none → ∃ W : Nat → Nat → Hp → Prop, (∃ m, W 0 m (upd H1 D (u0 D))) ∧ ∀ i m H, W i m H →
  (J.stop i H ∧ Q (.ref D) H) ∨ (J.go i H ∧ ∃ Nx : Hp → Prop, (∀ H', Nx H' → ∃ m', m' < m ∧ W (i + 1) m' H') ∧ ∀ x H', J.yld i H x H' → g x (wipe σ vs) H' fun σ2 H2 => wipe σ2 vs = wipe σ vs ∧ tt σ2 H2 fun b H3 =>
    if b = true then tk σ2 H3 fun y H4 => tv σ2 H4 fun z H5 => ∃ H6, DPutG K w H5 D y z H6 ∧ Nx H6 else Nx H3)
section
variable {X : Cx}
theorem dcG_core {pins : List (Addr × Obj)} {s : Shared} {σ : L2.St} {H : Hp} {Q : VK} {use : Option (Value → Sem Unit)} {Qf : Value → Shared → Prop} {pos' : Pos} {u0 : Addr → HO} {kx vx tg iter : Expr} {ifs : List Expr} {scope : Scope} {own : List (Str × Nat)} {pos : Pos} {wi : TI} {g : TG} {tt : TT} {tk tv : TE} (hc : X.calm = true) (hu : X.A.units + 16 < cLine) (hN : X.N.Nodup) (I : Inv X pins σ H s) (hi : PI X tg iter wi) (ok : BlkOk X.N X.env.scope scope own)
    (hnew : ∀ (H : Hp) (h : Heap), sysModules < h.objs.size → ObjOk X.prog X.w (upd H h.objs.size (u0 h.objs.size)) (h.push { cls := .type "dict", data := .dict #[] }) h.objs.size (u0 h.objs.size))
    (hg : ∀ (s : Shared) (H : Hp) (C : Addr) (cl : List (Str × Addr)) (fp : List Addr), PG (X.blk s H scope (compEnvC scope cl C X.env) fp) tg g) (ht : ∀ (s : Shared) (H : Hp) (C : Addr) (cl : List (Str × Addr)) (fp : List Addr), PTs (X.blk s H scope (compEnvC scope cl C X.env) fp) ifs tt)
    (hk : ∀ (s : Shared) (H : Hp) (C : Addr) (cl : List (Str × Addr)) (fp : List Addr), PE (X.blk s H scope (compEnvC scope cl C X.env) fp) kx tk)
    (he : ∀ (s : Shared) (H : Hp) (C : Addr) (cl : List (Str × Addr)) (fp : List Addr), PE (X.blk s H scope (compEnvC scope cl C X.env) fp) vx tv) (hs : ∀ x, foldedSetIterable iter X.env x = pure x)
    (h : tDcG X.K X.w u0 wi g tt tk tv (own.map (·.2)) σ H Q)
    (hRR : ∀ D C s' m H', Inv X pins σ H' s' → Q (.ref D) H' → s'.heap.Ns C m → FpOk X pins H' C → compPost (model X.prog X.w) X.A X.xe use Qf (.ref D) C (.ok .next) s') :
    wpAny (model X.prog X.w) X.A (comprehension (.DictComp kx vx [⟨tg, iter, ifs, 0⟩] scope pos) scope X.env pos' newDict false (eval iter X.env) use) Qf X.xe s := by
  have hfree : ∀ y ∈ scope.names, y.2 = .free → ∃ c, X.env.cells.lookup y.1 = some c := fun y hy e => (ok.free y hy e).elim (fun k => I.ok.has _ (.inl k)) fun k => I.ok.has _ (.inr k)
  refine wpAny_comprehension_free (use := use) rfl hs (closure_ok hfree) ok.kind (fun y hy e => by rw [ok.uniq y hy, e])
    (thn (hi.run pins s σ H _ I h) fun xv s1 hx => thn hx fun itv s2 ⟨it, fp, tn, J, H2, e, I2, T, st2, f2, q⟩ => ?_)
  subst e
  refine wpAny_newObj_type (newEnv_comp ?_)
  generalize hD : s2.heap.objs.size = Dl
  have hDn : H2 Dl = none := I2.hok.fresh (Nat.le_of_eq hD)
  obtain ⟨W, ⟨m0, w0⟩, turn⟩ := q Dl hDn
  generalize hs3 : ({ s2 with heap := s2.heap.push { cls := .type "dict", data := .dict #[] } } : Shared) = s3
  have I3 : Inv X pins σ (upd H2 Dl (u0 Dl)) s3 := by
    rw [← hs3]
    refine I2.laid (t' := s2.toks) (fun b o e => Heap.get?_push_of_some _ e) (Nat.le_of_eq hD) ?_
    rw [← hD]
    exact hnew _ s2.heap I2.big
  have h3 : s3.heap = s2.heap.push { cls := .type "dict", data := .dict #[] } := by rw [← hs3]
  have f3 : ∀ b ∈ fp, FpOk X pins (upd H2 Dl (u0 Dl)) b ∧ b < s3.heap.objs.size := fun b hb => by
    obtain ⟨o, e, _⟩ := T.obj _ _ st2 b hb
    have hlt := Heap.lt_size e
    refine ⟨⟨?_, (f2 b hb).2⟩, by rw [h3, Heap.size_push]; exact Nat.lt_succ_of_lt hlt⟩
    rw [upd_ne (by rw [← hD]; exact Nat.ne_of_lt hlt)]
    exact (f2 b hb).1
  have st3 : tn 0 s3.heap := T.keep _ _ _ st2 fun b _ o e => by rw [h3]; exact Heap.get?_push_of_some _ e
  have I4 := block_start I3 ok hN f3
  have pg := hg s3 (upd H2 Dl (u0 Dl)) s3.heap.objs.size (cellsFrom (s3.heap.objs.size + 1) scope.names (cloFrom X.env.cells scope.names [])) fp
  have pt := ht s3 (upd H2 Dl (u0 Dl)) s3.heap.objs.size (cellsFrom (s3.heap.objs.size + 1) scope.names (cloFrom X.env.cells scope.names [])) fp
  have pk := hk s3 (upd H2 Dl (u0 Dl)) s3.heap.objs.size (cellsFrom (s3.heap.objs.size + 1) scope.names (cloFrom X.env.cells scope.names [])) fp
  have pe := he s3 (upd H2 Dl (u0 Dl)) s3.heap.objs.size (cellsFrom (s3.heap.objs.size + 1) scope.names (cloFrom X.env.cells scope.names [])) fp
  show codeAny _ _ (.compStart (.DictComp kx vx [⟨tg, iter, ifs, 0⟩] scope pos) 0 (.ref it) (.ref Dl) (compEnvC scope (cellsFrom (s3.heap.objs.size + 1) scope.names (cloFrom X.env.cells scope.names [])) s3.heap.objs.size X.env)) (compPost (model X.prog X.w) X.A X.xe use Qf (.ref Dl) s3.heap.objs.size) { s3 with heap := pushCells (s3.heap.push { cls := .type "dict", data := .dict #[] }) scope.names }
  have nfp : ∀ b ∈ fp, (upd H2 Dl (u0 Dl)) b = none := fun b hb => (f3 b hb).1.1
  generalize hce : compEnvC scope (cellsFrom (s3.heap.objs.size + 1) scope.names (cloFrom X.env.cells scope.names [])) s3.heap.objs.size X.env = ce at I4 pg pt pk pe ⊢
  have cL : ce.locals = s3.heap.objs.size := by subst hce; rfl
  generalize hH3 : upd H2 Dl (u0 Dl) = H3 at I3 I4 pg pt pk pe w0 nfp f3
  generalize hs4 : ({ s3 with heap := pushCells (s3.heap.push { cls := .type "dict", data := .dict #[] }) scope.names } : Shared) = s4 at I4 ⊢
  have st4 : tn 0 s4.heap := T.keep _ _ _ st3 fun b _ o e => by rw [← hs4]; exact pushCells_keeps _ _ _ _ (Heap.get?_push_of_some _ e)
  have stat : ∀ {σ' : L2.St} {H' : Hp} {s' : Shared}, Inv (X.blk s3 H3 scope ce fp) [] σ' H' s' → (∀ b ∈ fp, H' b = none) → ∀ b ∈ fp, FpOk (X.blk s3 H3 scope ce fp) [] H' b := fun {σ' H' s'} I' hn b hb =>
    ⟨hn b hb, (I'.ok.exf b hb).1, I'.ok.exfs b hb, .inl hb, fun x c e => (I'.ok.exf b hb).2 x c e, fun p hp => absurd (show p ∈ ([] : List (Addr × Obj)) ++ [] from hp) (by simp)⟩
  refine codeAny_compStart_dict ?_ (T.self X.A 0 _ _ _ st4 ?_)
  all_goals refine compLoop_anyD (fun n s' => ∃ i H', Inv (X.blk s3 H3 scope ce fp) [] (wipe σ (own.map (·.2))) H' s' ∧ tn i s'.heap ∧ (∀ b ∈ fp, H' b = none) ∧ W i n H') ?_ m0 ⟨0, H3, I4, st4, nfp, w0⟩
  all_goals
    rintro n s5 ⟨i, H5, I5, st5, n5, w5⟩
    rcases turn i n H5 w5 with ⟨stop, qq⟩ | ⟨go, Nx, hNx, step⟩
    · refine thnF (T.done (X.blk s3 H3 scope ce fp) rfl rfl rfl hc i [] s5 _ H5 (fun _ _ => False) I5 (stat I5 n5) st5 stop) fun r s6 ⟨hr, I6⟩ => ?_
      subst hr
      have I7 : Inv X pins σ H5 s6 := I3.call' (ch := fp) I6.os I6.base I6.hok I6.bare fun b hb => ⟨(f3 b hb).1.2.2.2.1, (f3 b hb).1.2.1, (f3 b hb).1.2.2.2.2.1, (f3 b hb).1.2.2.2.2.2⟩
      have nC : H5 s3.heap.objs.size = none := by rw [← cL]; exact I6.free
      obtain ⟨m, hn, _⟩ := I6.loc
      have hn : s6.heap.Ns ce.locals m := hn
      rw [cL] at hn
      exact hRR Dl s3.heap.objs.size s6 m H5 I7 qq hn (I3.fpOk (Nat.le_refl _) nC)
    · refine thnF (T.item (X.blk s3 H3 scope ce fp) rfl rfl rfl hc i [] s5 _ H5 (fun _ _ => False) I5 (stat I5 n5) st5 go) fun r s6 ⟨u, hr, h6⟩ => ?_
      subst hr
      refine thnF h6 fun _ s7 ⟨x, H7, I7, r7, y7, st7, n7⟩ => ?_
      refine thnF (pg.run _ s7 _ H7 x u _ (I7.pinned (stat I7 n7) (T.obj _ _ st7)) r7 (step x H7 y7)) fun _ s8 ⟨σ8, H8, I8, hw8, q8⟩ => ?_
      refine thnF (pt.run _ s8 σ8 H8 _ I8 q8) fun b s9 ⟨H9, I9, q9⟩ => ?_
      have fin : ∀ {s' : Shared} {H' : Hp}, Inv (X.blk s3 H3 scope ce fp) ([] ++ pinsAt fp s7.heap) σ8 H' s' → Nx H' → ∃ m, m < n ∧ ∃ i H', Inv (X.blk s3 H3 scope ce fp) [] (wipe σ (own.map (·.2))) H' s' ∧ tn i s'.heap ∧ (∀ b ∈ fp, H' b = none) ∧ W i m H' := fun {s' H'} I' nx => by
        obtain ⟨m', hm, w'⟩ := hNx H' nx
        have pin' : ∀ b ∈ fp, ∀ o, s7.heap.get? b = some o → s'.heap.get? b = some o ∧ H' b = none := fun b hb o e =>
          let z := I'.pin (b, o) (List.mem_append_right _ (List.mem_append_right _ (mem_pinsAt hb e)))
          ⟨z.1, z.2.1⟩
        refine ⟨m', hm, i + 1, H', (I'.unpinned (pins := [])).weak (by rw [← hw8, wipe_length]) (fun j v e => ?_), T.keep _ _ _ st7 fun b hb o e => (pin' b hb o e).1, fun b hb => ?_, w'⟩
        · rw [← hw8] at e
          exact (wipe_some e).1
        · obtain ⟨o, e, _⟩ := T.obj _ _ st7 b hb
          exact (pin' b hb o e).2
      cases b with
      | false =>
        simp only [Bool.false_eq_true, if_false] at q9 ⊢
        exact fin I9 q9
      | true =>
        simp only [if_true] at q9 ⊢
        refine thnF (pk.run _ s9 σ8 H9 _ I9 q9) fun z s10 ⟨yk, H10, I10, r10, q10⟩ => ?_
        refine thnF (pe.run _ s10 σ8 H10 _ I10 q10) fun z2 s11 ⟨yv, H11, I11, r11, H12, put, nx⟩ => ?_
        exact g_dictSet (X := X.blk s3 H3 scope ce fp) rfl hu I11 put r10 r11 fun s12 I12 => fin I12 nx
theorem pe_dcG {u0 : Addr → HO} {kx vx tg iter : Expr} {ifs : List Expr} {scope : Scope} {own : List (Str × Nat)} {pos : Pos} {wi : TI} {g : TG} {tt : TT} {tk tv : TE} (hc : X.calm = true) (hu : X.A.units + 16 < cLine) (hN : X.N.Nodup) (hi : PI X tg iter wi) (ok : BlkOk X.N X.env.scope scope own)
    (hnew : ∀ (H : Hp) (h : Heap), sysModules < h.objs.size → ObjOk X.prog X.w (upd H h.objs.size (u0 h.objs.size)) (h.push { cls := .type "dict", data := .dict #[] }) h.objs.size (u0 h.objs.size))
    (hg : ∀ (s : Shared) (H : Hp) (C : Addr) (cl : List (Str × Addr)) (fp : List Addr), PG (X.blk s H scope (compEnvC scope cl C X.env) fp) tg g) (ht : ∀ (s : Shared) (H : Hp) (C : Addr) (cl : List (Str × Addr)) (fp : List Addr), PTs (X.blk s H scope (compEnvC scope cl C X.env) fp) ifs tt)
    (hk : ∀ (s : Shared) (H : Hp) (C : Addr) (cl : List (Str × Addr)) (fp : List Addr), PE (X.blk s H scope (compEnvC scope cl C X.env) fp) kx tk)
    (he : ∀ (s : Shared) (H : Hp) (C : Addr) (cl : List (Str × Addr)) (fp : List Addr), PE (X.blk s H scope (compEnvC scope cl C X.env) fp) vx tv) (hs : ∀ x, foldedSetIterable iter X.env x = pure x := by intro _; rfl) :
    PE X (.DictComp kx vx [⟨tg, iter, ifs, 0⟩] scope pos) (tDcG X.K X.w u0 wi g tt tk tv (own.map (·.2))) := by
  refine ⟨fun pins s σ H Q I h => ?_⟩
  rw [arm_eval_DictComp]
  refine dcG_core hc hu hN I hi ok hnew hg ht hk he hs h fun D C s' m H' I' q hn f => ⟨m, hn, fun h'' sb => ?_⟩
  obtain ⟨f0, f1, f2, f3, f4, f5⟩ := f
  exact ⟨.ref D, H', I'.turned (t' := s'.toks) (fun b o hb e => (sb.2 b hb).trans e) f0 f1 f3 f4 f5, rfl, q⟩
theorem ps_setDcG {i : Nat} {y : Str} {py : Pos} {spos : Pos} {u0 : Addr → HO} {kx vx tg iter : Expr} {ifs : List Expr} {scope : Scope} {own : List (Str × Nat)} {pos : Pos} {wi : TI} {g : TG} {tt : TT} {tk tv : TE} (hc : X.calm = true) (hu : X.A.units + 16 < cLine) (hN : X.N.Nodup) (hy : X.N[i]? = some y) (hyl : X.env.scope.names.lookup y = some .local) (hsw : swapsWith (.DictComp kx vx [⟨tg, iter, ifs, 0⟩] scope pos) (some (.Name y py)) spos.line X.env = pure true) (hi : PI X tg iter wi) (ok : BlkOk X.N X.env.scope scope own)
    (hnew : ∀ (H : Hp) (h : Heap), sysModules < h.objs.size → ObjOk X.prog X.w (upd H h.objs.size (u0 h.objs.size)) (h.push { cls := .type "dict", data := .dict #[] }) h.objs.size (u0 h.objs.size))
    (hg : ∀ (s : Shared) (H : Hp) (C : Addr) (cl : List (Str × Addr)) (fp : List Addr), PG (X.blk s H scope (compEnvC scope cl C X.env) fp) tg g) (ht : ∀ (s : Shared) (H : Hp) (C : Addr) (cl : List (Str × Addr)) (fp : List Addr), PTs (X.blk s H scope (compEnvC scope cl C X.env) fp) ifs tt)
    (hk : ∀ (s : Shared) (H : Hp) (C : Addr) (cl : List (Str × Addr)) (fp : List Addr), PE (X.blk s H scope (compEnvC scope cl C X.env) fp) kx tk)
    (he : ∀ (s : Shared) (H : Hp) (C : Addr) (cl : List (Str × Addr)) (fp : List Addr), PE (X.blk s H scope (compEnvC scope cl C X.env) fp) vx tv) (hs : ∀ x, foldedSetIterable iter X.env x = pure x := by intro _; rfl) :
    PS X (.Assign [.Name y py] (.DictComp kx vx [⟨tg, iter, ifs, 0⟩] scope pos) spos) (tAsg (tDcG X.K X.w u0 wi g tt tk tv (own.map (·.2))) (gName i)) := by
  refine ⟨fun pins s σ H D I h => ?_⟩
  rw [exec_Assign_Name_used _ _ _ _ hsw]
  refine wpAny_bind (wpAny_standAt (wpAny_bind ?_))
  show wpAny _ X.A (do let _ ← comprehension (.DictComp kx vx [⟨tg, iter, ifs, 0⟩] scope pos) scope X.env (firstIterPos [⟨tg, iter, ifs, 0⟩] pos) newDict false (eval iter X.env) (some (assign (.Name y py) X.env))) _ _ s
  have h : tDcG X.K X.w u0 wi g tt tk tv (own.map (·.2)) σ H (fun x H1 => gName i x σ H1 D.nx) := h
  refine wpAny_bind (thn (dcG_core (Qf := fun _ s' => SP X pins D .next s') hc hu hN I hi ok hnew hg ht hk he hs h fun L C s' m H' I' q hn f => ?_) fun _ s' hq => wpAny_pure (wpAny_pure hq))
  show wpAny _ _ (assign (.Name y py) X.env (.ref L)) _ _ _
  refine wpAny_assign_Name (store_ok2 (v := V.ref L) I' hN hy (.inl hyl) rfl (fun s2 I2 ⟨a, sb, ha⟩ => ?_) (.inr hyl))
  obtain ⟨f0, f1, f2, f3, f4, f5⟩ := f
  have haC : C ≠ a := by
    rcases ha with z | z
    · rw [z]; exact f1
    · exact fun e => f4 y a z e.symm
  refine ⟨m, hn.sameBut sb haC, fun h3 sb3 => ?_⟩
  exact ⟨_, H', I2.turned (t' := s2.toks) (fun b o hb e => (sb3.2 b hb).trans e) f0 f1 f3 f4 f5, q⟩
end
end DL

set_option maxHeartbeats 4000000
/-! DLD6: dict comprehensions by content -/
namespace DL
open PySem PySem.Spec PyProof.Rows L2
variable [WW]
omit [WW] in
def mkDc (n : Nat) (wt : WT) (wk wv : WE) (ρ0 : Env) : WS := fun D ρ S => wt ρ S fun k S1 => cIf k (wk ρ S1 fun y S2 => wv ρ S2 fun z S3 => match putO S3 n y z with | some ob => D.nx ρ0 (S3.set n ob) | none => False) (D.nx ρ0 S1)
omit [WW] in
def endDc (n : Nat) (Q : D → Store → Prop) : EndsD := { nx := fun _ S => Q (.ref n) S, rt := fun _ _ => False, bk := fun _ _ => False, ct := fun _ _ => False }
omit [WW] in
/-- {k: v for target in iter if ..}: the new dict, o0 at first -/
def wDc (o0 : Ob) (wi : WI) (g : Tg) (wt : WT) (wk wv : WE) (vs : List Nat) : WE := fun ρ S Q => wi ρ S fun xs G S1 => forR g (mkDc S1.length wt wk wv (wipeD ρ vs)) G (endDc S1.length Q) xs (wipeD ρ vs) (S1 ++ [o0])
omit [WW] in
theorem wipe_twice {σ σ3 : L2.St} {vs : List Nat} (e : wipe σ3 vs = wipe (wipe σ vs) vs) : wipe σ3 vs = wipe σ vs := by
  rw [e]
  apply List.ext_getElem?
  intro j
  have l1 := wipe_length (wipe σ vs) vs
  by_cases hj : ∃ z, (wipe (wipe σ vs) vs)[j]? = some (some z)
  · obtain ⟨z, hz⟩ := hj
    rw [hz, (wipe_some hz).1]
  · by_cases hj2 : ∃ z, (wipe σ vs)[j]? = some (some z)
    · obtain ⟨z, hz⟩ := hj2
      exact absurd ⟨z, by rw [wipe_out (wipe_some hz).2]; exact hz⟩ hj
    · rcases h1 : (wipe (wipe σ vs) vs)[j]? with _ | (_ | z)
      · rw [List.getElem?_eq_none (by rw [← l1]; exact List.getElem?_eq_none_iff.mp h1)]
      · rcases h2 : (wipe σ vs)[j]? with _ | (_ | z)
        · rw [List.getElem?_eq_none (by rw [l1]; exact List.getElem?_eq_none_iff.mp h2)] at h1
          cases h1
        · rfl
        · exact absurd ⟨z, h2⟩ hj2
      · exact absurd ⟨z, h1⟩ hj
theorem dc_ok {K : PySem.W.Frag} {o0 : Ob} {u0 : Addr → HO} {wi : WI} {g : Tg} {wt : WT} {wk wv : WE} {vs : List Nat} (h0 : ∀ μ H p, ObR WW.w K μ H p o0 (u0 p)) (hsl : ∀ i ∈ g.slots, i ∈ vs) {σ : L2.St} {H : Hp} {Q : VK} (h : LE K (wDc o0 wi g wt wk wv vs) σ H Q) :
    tDcG K WW.w u0 (LI K wi) (g.toV K) (LT K wt) (LE K wk) (LE K wv) vs σ H Q := by
  obtain ⟨μ, S, ρ, Q0, m, en, q, p⟩ := h
  refine ⟨μ, S, ρ, _, m, en, q, fun xs G S1 q1 μ1 J H1 g1 m1 w1 => fun Dl hD => ?_⟩
  refine ⟨fun i n H' => n = xs.length - i ∧ i ≤ xs.length ∧ ∃ μ' S', Grow μ1 H1 μ' H' ∧ Sim K μ' S' H' ∧ μ'.sl[S1.length]? = some (some Dl) ∧ forR g (mkDc S1.length wt wk wv (wipeD ρ vs)) G (endDc S1.length Q0) (xs.drop i) (wipeD ρ vs) S',
    ⟨xs.length, by simp, Nat.zero_le _, μ1.add Dl, S1 ++ [o0], .alloc hD, m1.allocO hD (h0 _ _ _), by rw [← m1.len]; simp [Mu.add], by simpa using q1⟩, ?_⟩
  rintro i n H' ⟨rfl, hi, μ', S', g2, m2, hDl, f⟩
  have hG := forR_G f
  by_cases hlt : i < xs.length
  · refine .inr ⟨w1.go i μ' H' S' hlt g2 m2 hG, fun H2 => ∃ μ2 S2, Grow μ1 H1 μ2 H2 ∧ Sim K μ2 S2 H2 ∧ μ2.sl[S1.length]? = some (some Dl) ∧ forR g (mkDc S1.length wt wk wv (wipeD ρ vs)) G (endDc S1.length Q0) (xs.drop (i + 1)) (wipeD ρ vs) S2, fun H2 h => ⟨xs.length - (i + 1), by omega, rfl, hlt, h⟩, fun x H3 y => ?_⟩
    obtain ⟨d, hd, g3, m3, r3⟩ := w1.yld i μ' H' S' x H3 hlt g2 m2 hG y
    rw [drop_cons hd] at f
    obtain ⟨_, f⟩ := f
    split at f
    · rename_i ρ3 hb3
      have en1 := wipe_R (en.grow (g1.trans (g2.trans g3))) vs
      refine bind_ok vs g d (wipeD ρ vs) ρ3 x (wipe σ vs) _ hb3 r3 en1 fun σ3 e3 hw3 => ⟨wipe_twice (hw3 hsl), ?_⟩
      refine LT.run m3 e3 f fun k S4 μ4 H4 q4 g4 m4 e4 => ?_
      have hD4 := g4.ref _ _ (g3.ref _ _ hDl)
      rw [cIf_eq] at q4
      cases k with
      | true =>
        refine LE.run m4 e4 q4 fun y S5 μ5 vy H5 q5 g5 m5 e5 r5 => ?_
        refine LE.run m5 e5 q5 fun z S6 μ6 vz H6 q6 g6 m6 e6 r6 => ?_
        have hD6 := g6.ref _ _ (g5.ref _ _ hD4)
        split at q6
        · rename_i ob hob
          obtain ⟨a, H7, e', put, m7, g7⟩ := putO_ok m6 (Rep.ref hD6) (r5.grow g6) r6 hob
          cases e'
          exact ⟨H7, put, μ6, _, g2.trans (g3.trans (g4.trans (g5.trans (g6.trans g7)))), m7, hD6, q6⟩
        · exact q6.elim
      | false => exact ⟨μ4, S4, g2.trans (g3.trans g4), m4, hD4, q4⟩
    · exact f.elim
  · have e : i = xs.length := by omega
    subst e
    rw [List.drop_of_length_le (Nat.le_refl _)] at f
    exact .inl ⟨w1.stop μ' H' S' g2 m2 hG, p _ S' f.2 μ' _ H' (g1.trans g2) m2 (.ref hDl)⟩
section
variable {X : Cx} {kx vx tg iter : Expr} {ifs : List Expr} {scope : Scope} {own : List (Str × Nat)} {pos : Pos} {wi : WI} {g : Tg} {wt : WT} {wk wv : WE}
theorem se_dcA {vs : List Nat} (hW : X.w = WW.w) (hu : X.A.units + 16 < cLine) (hc : X.calm = true) (hN : X.N.Nodup) (hi : SI X tg iter wi) (ok : BlkOk X.N X.env.scope scope own) (hv : own.map (·.2) = vs) (hsl : ∀ i ∈ g.slots, i ∈ vs)
    (hg : ∀ (s : Shared) (H : Hp) (C : Addr) (cl : List (Str × Addr)) (fp : List Addr), SG (X.blk s H scope (compEnvC scope cl C X.env) fp) tg g) (ht : ∀ (s : Shared) (H : Hp) (C : Addr) (cl : List (Str × Addr)) (fp : List Addr), STs (X.blk s H scope (compEnvC scope cl C X.env) fp) ifs wt)
    (hk : ∀ (s : Shared) (H : Hp) (C : Addr) (cl : List (Str × Addr)) (fp : List Addr), SE (X.blk s H scope (compEnvC scope cl C X.env) fp) kx wk)
    (he : ∀ (s : Shared) (H : Hp) (C : Addr) (cl : List (Str × Addr)) (fp : List Addr), SE (X.blk s H scope (compEnvC scope cl C X.env) fp) vx wv) (hs : ∀ x, foldedSetIterable iter X.env x = pure x := by intro _; rfl) :
    SE X (.DictComp kx vx [⟨tg, iter, ifs, 0⟩] scope pos) (wDc (.dA []) wi g wt wk wv vs) := by
  subst hv
  refine pe_weak (pe_dcG (u0 := fun _ => .dK []) (tk := LE X.K wk) (tv := LE X.K wv) (tt := LT X.K wt) (g := g.toV X.K) hc hu hN hi ok (fun H h hb => dk_empty h hb) hg ht hk he hs) fun σ H Q h => ?_
  rw [hW]
  exact dc_ok (o0 := .dA []) (u0 := fun _ => .dK []) (fun _ _ _ => ⟨[], rfl, .nil⟩) hsl h
theorem se_dcT {vs : List Nat} (hW : X.w = WW.w) (hu : X.A.units + 16 < cLine) (hc : X.calm = true) (hN : X.N.Nodup) (hi : SI X tg iter wi) (ok : BlkOk X.N X.env.scope scope own) (hv : own.map (·.2) = vs) (hsl : ∀ i ∈ g.slots, i ∈ vs)
    (hg : ∀ (s : Shared) (H : Hp) (C : Addr) (cl : List (Str × Addr)) (fp : List Addr), SG (X.blk s H scope (compEnvC scope cl C X.env) fp) tg g) (ht : ∀ (s : Shared) (H : Hp) (C : Addr) (cl : List (Str × Addr)) (fp : List Addr), STs (X.blk s H scope (compEnvC scope cl C X.env) fp) ifs wt)
    (hk : ∀ (s : Shared) (H : Hp) (C : Addr) (cl : List (Str × Addr)) (fp : List Addr), SE (X.blk s H scope (compEnvC scope cl C X.env) fp) kx wk)
    (he : ∀ (s : Shared) (H : Hp) (C : Addr) (cl : List (Str × Addr)) (fp : List Addr), SE (X.blk s H scope (compEnvC scope cl C X.env) fp) vx wv) (hs : ∀ x, foldedSetIterable iter X.env x = pure x := by intro _; rfl) :
    SE X (.DictComp kx vx [⟨tg, iter, ifs, 0⟩] scope pos) (wDc (.dT []) wi g wt wk wv vs) := by
  subst hv
  refine pe_weak (pe_dcG (u0 := fun D => DicO X.w D []) (tk := LE X.K wk) (tv := LE X.K wv) (tt := LT X.K wt) (g := g.toV X.K) hc hu hN hi ok (fun H h hb => dicO_ok (dicR_empty X.w h hb)) hg ht hk he hs) fun σ H Q h => ?_
  rw [hW]
  exact dc_ok (o0 := .dT []) (u0 := fun D => DicO WW.w D []) (fun _ _ _ => ⟨[], rfl, .nil⟩) hsl h
theorem ss_setDcA {vs : List Nat} {i : Nat} {y : Str} {py spos : Pos} (hW : X.w = WW.w) (hu : X.A.units + 16 < cLine) (hc : X.calm = true) (hN : X.N.Nodup) (hy : X.N[i]? = some y) (hyl : X.env.scope.names.lookup y = some .local)
    (hsw : swapsWith (.DictComp kx vx [⟨tg, iter, ifs, 0⟩] scope pos) (some (.Name y py)) spos.line X.env = pure true) (hi : SI X tg iter wi) (ok : BlkOk X.N X.env.scope scope own) (hv : own.map (·.2) = vs) (hsl : ∀ i ∈ g.slots, i ∈ vs)
    (hg : ∀ (s : Shared) (H : Hp) (C : Addr) (cl : List (Str × Addr)) (fp : List Addr), SG (X.blk s H scope (compEnvC scope cl C X.env) fp) tg g) (ht : ∀ (s : Shared) (H : Hp) (C : Addr) (cl : List (Str × Addr)) (fp : List Addr), STs (X.blk s H scope (compEnvC scope cl C X.env) fp) ifs wt)
    (hk : ∀ (s : Shared) (H : Hp) (C : Addr) (cl : List (Str × Addr)) (fp : List Addr), SE (X.blk s H scope (compEnvC scope cl C X.env) fp) kx wk)
    (he : ∀ (s : Shared) (H : Hp) (C : Addr) (cl : List (Str × Addr)) (fp : List Addr), SE (X.blk s H scope (compEnvC scope cl C X.env) fp) vx wv) (hs : ∀ x, foldedSetIterable iter X.env x = pure x := by intro _; rfl) :
    SS X (.Assign [.Name y py] (.DictComp kx vx [⟨tg, iter, ifs, 0⟩] scope pos) spos) (wAsg (wDc (.dA []) wi g wt wk wv vs) (.name i)) := by
  subst hv
  refine ps_weak (ps_setDcG (u0 := fun _ => .dK []) (tk := LE X.K wk) (tv := LE X.K wv) (tt := LT X.K wt) (g := g.toV X.K) hc hu hN hy hyl hsw hi ok (fun H h hb => dk_empty h hb) hg ht hk he hs) fun D σ H ⟨μ, S, ρ, D0, m, en, q, p⟩ => ?_
  show tDcG X.K X.w _ _ _ _ _ _ _ σ H _
  rw [hW]
  refine dc_ok (o0 := .dA []) (u0 := fun _ => .dK []) (fun _ _ _ => ⟨[], rfl, .nil⟩) hsl ⟨μ, S, ρ, _, m, en, q, fun d S1 q1 μ1 v H1 g1 m1 r1 => ?_⟩
  have q1' : (match bindT (.name i) d ρ with | some ρ' => D0.nx ρ' S1 | none => False) := q1
  show D.nx (σ.set i (some v)) H1
  simp only [bindT] at q1'
  exact p.nx _ S1 q1' μ1 _ H1 g1 m1 ((en.grow g1).set r1)
theorem ss_setDcT {vs : List Nat} {i : Nat} {y : Str} {py spos : Pos} (hW : X.w = WW.w) (hu : X.A.units + 16 < cLine) (hc : X.calm = true) (hN : X.N.Nodup) (hy : X.N[i]? = some y) (hyl : X.env.scope.names.lookup y = some .local)
    (hsw : swapsWith (.DictComp kx vx [⟨tg, iter, ifs, 0⟩] scope pos) (some (.Name y py)) spos.line X.env = pure true) (hi : SI X tg iter wi) (ok : BlkOk X.N X.env.scope scope own) (hv : own.map (·.2) = vs) (hsl : ∀ i ∈ g.slots, i ∈ vs)
    (hg : ∀ (s : Shared) (H : Hp) (C : Addr) (cl : List (Str × Addr)) (fp : List Addr), SG (X.blk s H scope (compEnvC scope cl C X.env) fp) tg g) (ht : ∀ (s : Shared) (H : Hp) (C : Addr) (cl : List (Str × Addr)) (fp : List Addr), STs (X.blk s H scope (compEnvC scope cl C X.env) fp) ifs wt)
    (hk : ∀ (s : Shared) (H : Hp) (C : Addr) (cl : List (Str × Addr)) (fp : List Addr), SE (X.blk s H scope (compEnvC scope cl C X.env) fp) kx wk)
    (he : ∀ (s : Shared) (H : Hp) (C : Addr) (cl : List (Str × Addr)) (fp : List Addr), SE (X.blk s H scope (compEnvC scope cl C X.env) fp) vx wv) (hs : ∀ x, foldedSetIterable iter X.env x = pure x := by intro _; rfl) :
    SS X (.Assign [.Name y py] (.DictComp kx vx [⟨tg, iter, ifs, 0⟩] scope pos) spos) (wAsg (wDc (.dT []) wi g wt wk wv vs) (.name i)) := by
  subst hv
  refine ps_weak (ps_setDcG (u0 := fun D => DicO X.w D []) (tk := LE X.K wk) (tv := LE X.K wv) (tt := LT X.K wt) (g := g.toV X.K) hc hu hN hy hyl hsw hi ok (fun H h hb => dicO_ok (dicR_empty X.w h hb)) hg ht hk he hs) fun D σ H ⟨μ, S, ρ, D0, m, en, q, p⟩ => ?_
  show tDcG X.K X.w _ _ _ _ _ _ _ σ H _
  rw [hW]
  refine dc_ok (o0 := .dT []) (u0 := fun D => DicO WW.w D []) (fun _ _ _ => ⟨[], rfl, .nil⟩) hsl ⟨μ, S, ρ, _, m, en, q, fun d S1 q1 μ1 v H1 g1 m1 r1 => ?_⟩
  have q1' : (match bindT (.name i) d ρ with | some ρ' => D0.nx ρ' S1 | none => False) := q1
  show D.nx (σ.set i (some v)) H1
  simp only [bindT] at q1'
  exact p.nx _ S1 q1' μ1 _ H1 g1 m1 ((en.grow g1).set r1)
end
end DL

set_option maxHeartbeats 4000000
/-! DLD7: loops over a dict: it is locked, its keys are walked -/
namespace DL
open PySem PySem.Spec PyProof.Rows L2
/-- the keys of the locked dict of tuple keys at d -/
def ItkX (w : World) (d : Addr) (o : Obj) (xs : List (NestedKey × V × V)) : It :=
  ⟨fun i H => H d = some (.frz o (DicO w d xs)) ∧ i < xs.length, fun i H x H' => H' = H ∧ ∃ k v, xs[i]? = some (k, x, v), fun i H => H d = some (.frz o (DicO w d xs)) ∧ xs.length ≤ i⟩
section
variable {X : Cx} {pins : List (Addr × Obj)} {σ : L2.St} {H : Hp} {s : Shared} {d : Addr} {o : Obj} {xs : List (NestedKey × V × V)}
theorem frzX (I : Inv X pins σ H s) (h : H d = some (.frz o (DicO X.w d xs))) : (d == sysModules) = false ∧ s.heap.get? d = some o ∧ o.ExactDict ∧ ∃ (es : Array DictEntry) (ep : Nat), o.data = .dict es ep ∧ es.size = xs.length ∧
    ∀ (i : Nat) (k : NestedKey) (b v : V), xs[i]? = some (k, b, v) → ∃ en : DictEntry, es[i]? = some en ∧ RelV b en.key ∧ RelV v en.val := by
  obtain ⟨hd, ⟨o', es, ep, ys, ho, hex, hdt, he, hp, nd, hs, hl, hg⟩, hrest⟩ := I.hok d _ h
  rw [hd] at ho
  cases ho
  have hsz : es.size = ys.length := by rw [← Array.length_toList, he, List.length_map]
  refine ⟨hs, hd, hex, es, ep, hdt, by rw [hsz]; exact (Paired.length hp).symm, fun i k b v q => ?_⟩
  obtain ⟨y, hy, h1, h2, h3⟩ : ∃ y, ys[i]? = some y ∧ k = y.1 ∧ b = .ref y.2.1 ∧ RelV v y.2.2 := by
    clear hrest h he hsz nd hl hg
    induction hp generalizing i with
    | nil => simp at q
    | @cons p r ps qs h t ih =>
      cases i with
      | zero => simp at q; subst q; exact ⟨r, rfl, h⟩
      | succ i => simp at q; simpa using ih i q
  refine ⟨⟨y.1.hash X.w, .ref y.2.1, y.2.2⟩, ?_, by rw [h2]; rfl, h3⟩
  rw [← Array.getElem?_toList, he, List.getElem?_map, hy]
  rfl
end
section
variable {P : Program} {w : World} {K : PySem.W.Frag} {tg : Expr} {d : Addr} {o : Obj} {es : Array DictEntry} {ep : Nat}
theorem turn_keysX {xs : List (NestedKey × V × V)} (it : Addr) (hod : o.data = .dict es ep) : Turn P w K tg (ItkX w d o xs) [it] it (fun i h => h.IsKeyIter it d i xs.length ep) where
  mem := by simp
  obj := fun i h st b hb => by
    have e : b = it := by simpa using hb
    subst e
    obtain ⟨oi, e, c, dd⟩ := st
    exact ⟨oi, e, fun v z => by rw [dd] at z; cases z⟩
  keep := fun i h h' st k => st.at fun oi e => k it (by simp) oi e
  item := by
    intro X hP hw hK hc i pins s σ H E I hf st hg
    subst hP hw hK
    obtain ⟨hd, hi⟩ := hg
    obtain ⟨f0, f1, f2, f3, f4, f5⟩ := hf it (by simp)
    obtain ⟨hs, hgd, hx, es', ep', hdt, hsz, ent⟩ := frzX I hd
    obtain ⟨rfl, rfl⟩ := dict_ep hod hdt
    obtain ⟨⟨k, b, v⟩, hkv⟩ : ∃ p, xs[i]? = some p := ⟨xs[i], List.getElem?_eq_getElem hi⟩
    obtain ⟨en, hen, hkey, hval⟩ := ent i k b v hkv
    refine next_key_item st hgd hdt hsz hen fun h' st' sb => ?_
    have I1 : Inv X pins σ H { s with heap := h' } := I.turned (t' := s.toks) (fun b ob hb e => (sb.2 b hb).trans e) f0 f1 f3 f4 f5
    obtain ⟨oi, e, c, dd⟩ := id st'
    exact ⟨en.key, rfl, go_of (s := { s with heap := h' }) e c dd (by decide) ⟨b, H, I1, hkey, ⟨rfl, k, v, hkv⟩, st', fun b hb => (hf b hb).1⟩⟩
  done := by
    intro X hP hw hK hc i pins s σ H E I hf st hg
    subst hP hw hK
    obtain ⟨hd, hi⟩ := hg
    obtain ⟨f0, f1, f2, f3, f4, f5⟩ := hf it (by simp)
    obtain ⟨hs, hgd, hx, es', ep', hdt, hsz, ent⟩ := frzX I hd
    obtain ⟨rfl, rfl⟩ := dict_ep hod hdt
    exact next_key_end (I.ok.hd hc) st hgd hdt hsz hi fun h' eb => ⟨rfl, I.turned (t' := s.toks) (fun b ob hb e => eb b ob hb e) f0 f1 f3 f4 f5⟩
  self := fun A i s Q E st h => wpAny_pyIter_keyiter st h
end
/-- for k in d, d locked, of either kind -/
def iKeysB (w : World) (td : TE) : TI := fun σ H R => td σ H fun x H1 => ∃ d o, x = .ref d ∧ ((∃ kvs, H1 d = some (.frz o (.dK kvs)) ∧ R (Itk d o kvs) H1) ∨ ∃ xs, H1 d = some (.frz o (DicO w d xs)) ∧ R (ItkX w d o xs) H1)
theorem pi_keysB {X : Cx} {tg e : Expr} {td : TE} (he : PE X e td) : PI X tg e (iKeysB X.w td) := by
  refine ⟨fun pins s σ H R I h => ?_⟩
  refine thn (he.run pins s σ H _ I h) fun u s1 ⟨x, H1, I1, rx, d, o, ex, q⟩ => ?_
  subst ex
  obtain rfl : u = Value.ref d := rx
  rcases q with ⟨kvs, hd, q⟩ | ⟨xs, hd, q⟩
  · obtain ⟨hs, hgd, hx, es, ep, vs, hdt, hsz, kv, hm⟩ := I1.frzK hd
    refine iter_keys hs hgd hx hdt (pi_one (tk := s1.toks) I1 _ (turn_keys _ hdt) ⟨_, Heap.get?_push_size _ rfl, rfl, ?_⟩ q)
    rw [hsz] <;> rfl
  · obtain ⟨hs, hgd, hx, es, ep, hdt, hsz, ent⟩ := frzX I1 hd
    refine iter_keys hs hgd hx hdt (pi_one (tk := s1.toks) I1 _ (turn_keysX _ hdt) ⟨_, Heap.get?_push_size _ rfl, rfl, ?_⟩ q)
    rw [hsz] <;> rfl
end DL

set_option maxHeartbeats 4000000
/-! DLD8: locks and the keys of a dict, by content -/
namespace DL
open PySem PySem.Spec PyProof.Rows L2
variable [WW]
omit [WW] in
def keyOf : Key → D
  | .inl i => .int i
  | .inr x => .str x
omit [WW] in
def fKeys : Ob → Option (List D)
  | .fA _ _ kvs => some (kvs.map fun p => keyOf p.1)
  | .fT _ _ kvs => some (kvs.map fun p => p.1)
  | _ => none
omit [WW] in
/-- for k in d, d locked -/
def wKeysF (w0 : WE) : WI := fun ρ S Q => w0 ρ S fun x S1 => match x with
  | .ref n => (match S1[n]? with
    | some ob => (match fKeys ob with | some ks => Q ks (fun S => S[n]? = some ob) S1 | none => False)
    | none => False)
  | _ => False
section
variable {K : PySem.W.Frag} {μ : Mu} {H : Hp} {n : Nat} {a : Addr} {o : Obj} {u : HO}
theorem repK_get : ∀ {kvs : List (Key × D)} {xs : List (Key × V)}, RepK K μ H kvs xs → ∀ {i : Nat} {k : Key} {v : V}, xs[i]? = some (k, v) → ∃ e, kvs[i]? = some (k, e) ∧ Rep K μ H e v
  | _, _, .nil, i, _, _, h => by simp at h
  | _, _, .cons r t, i, k, v, h => by
    cases i with
    | zero => simp at h; obtain ⟨rfl, rfl⟩ := h; exact ⟨_, rfl, r⟩
    | succ i => simp at h; simpa using repK_get t h
theorem repKV_get : ∀ {kvs : List (D × D)} {xs : List (NestedKey × V × V)}, RepKV K μ H kvs xs → ∀ {i : Nat} {k : NestedKey} {b v : V}, xs[i]? = some (k, b, v) → ∃ d e, kvs[i]? = some (d, e) ∧ Rep K μ H d b ∧ Rep K μ H e v
  | _, _, .nil, i, _, _, _, h => by simp at h
  | _, _, .cons x r y t, i, k, b, v, h => by
    cases i with
    | zero => simp at h; obtain ⟨rfl, rfl, rfl⟩ := h; exact ⟨_, _, rfl, r, y⟩
    | succ i => simp at h; simpa using repKV_get t h
theorem isw_fA {kvs : List (Key × D)} {xs : List (Key × V)} (h : μ.sl[n]? = some (some a)) (hu : u = .dK xs) (r : RepK K μ H kvs xs) : IsW K μ H (Itk a o xs) (kvs.map fun p => keyOf p.1) (fun S => S[n]? = some (.fA o u kvs)) where
  go := fun i μ2 H2 S2 hi g m hS => by
    obtain ⟨b, ws, h1, h2, h3, h4⟩ := m.fA n o u kvs hS
    rw [g.ref n a h] at h1
    cases h1
    rw [List.length_map, repK_len r] at hi
    exact ⟨by rw [← hu]; exact h2, hi⟩
  stop := fun μ2 H2 S2 g m hS => by
    obtain ⟨b, ws, h1, h2, h3, h4⟩ := m.fA n o u kvs hS
    rw [g.ref n a h] at h1
    cases h1
    exact ⟨by rw [← hu]; exact h2, by rw [List.length_map, repK_len r]; exact Nat.le_refl _⟩
  yld := fun i μ2 H2 S2 x H3 hi g m hS y => by
    obtain ⟨rfl, k, v, hk, rfl⟩ := y
    obtain ⟨e, h1, h2⟩ := repK_get r hk
    refine ⟨keyOf k, by rw [List.getElem?_map, h1]; rfl, .refl, m, ?_⟩
    cases k with
    | inl i => exact .int i
    | inr x => exact .str x
theorem isw_fT {kvs : List (D × D)} {xs : List (NestedKey × V × V)} (h : μ.sl[n]? = some (some a)) (hu : u = DicO WW.w a xs) (r : RepKV K μ H kvs xs) : IsW K μ H (ItkX WW.w a o xs) (kvs.map fun p => p.1) (fun S => S[n]? = some (.fT o u kvs)) where
  go := fun i μ2 H2 S2 hi g m hS => by
    obtain ⟨b, ws, h1, h2, h3, h4⟩ := m.fT n o u kvs hS
    rw [g.ref n a h] at h1
    cases h1
    rw [List.length_map, repKV_len r] at hi
    exact ⟨by rw [← hu]; exact h2, hi⟩
  stop := fun μ2 H2 S2 g m hS => by
    obtain ⟨b, ws, h1, h2, h3, h4⟩ := m.fT n o u kvs hS
    rw [g.ref n a h] at h1
    cases h1
    exact ⟨by rw [← hu]; exact h2, by rw [List.length_map, repKV_len r]; exact Nat.le_refl _⟩
  yld := fun i μ2 H2 S2 x H3 hi g m hS y => by
    obtain ⟨rfl, k, v, hk⟩ := y
    obtain ⟨d, e, h1, h2, h3⟩ := repKV_get (r.grow g) hk
    exact ⟨d, by rw [List.getElem?_map, h1]; rfl, .refl, m, h2⟩
end
theorem si_keysF {X : Cx} {tg l : Expr} {w0 : WE} (hW : X.w = WW.w) (ha : SE X l w0) : SI X tg l (wKeysF w0) := pi_weak (pi_keysB ha) fun σ H R ⟨μ, S, ρ, Q0, m, en, q, p⟩ => by
  refine LE.run m en q fun d S1 μ1 v H1 q1 g1 m1 e1 r1 => ?_
  split at q1
  · rename_i n
    split at q1
    · rename_i ob hob
      split at q1
      · rename_i ks hks
        cases r1 with
        | @ref n a hn =>
        cases ob with
        | fA o u kvs =>
          cases hks
          obtain ⟨b, xs, h1, h2, h3, h4⟩ := m1.fA n o u kvs hob
          rw [hn] at h1
          cases h1
          exact ⟨a, o, rfl, .inl ⟨xs, by rw [← h3]; exact h2, p _ _ S1 q1 μ1 _ H1 g1 m1 (isw_fA hn h3 h4)⟩⟩
        | fT o u kvs =>
          cases hks
          obtain ⟨b, xs, h1, h2, h3, h4⟩ := m1.fT n o u kvs hob
          rw [hn] at h1
          cases h1
          rw [hW]
          exact ⟨a, o, rfl, .inr ⟨xs, by rw [← h3]; exact h2, p _ _ S1 q1 μ1 _ H1 g1 m1 (isw_fT hn h3 h4)⟩⟩
        | lst ds => cases hks
        | gone => cases hks
        | dA kvs => cases hks
        | dT kvs => cases hks
      · exact q1.elim
    · exact q1.elim
  · exact q1.elim
/-! ### locks -/
omit [WW] in
def lk (o : Obj) (u : HO) : Ob → Ob
  | .dA kvs => .fA o u kvs
  | .dT kvs => .fT o u kvs
  | x => x
omit [WW] in
def canLk : Ob → Bool
  | .dA _ => true
  | .dT _ => true
  | _ => false
omit [WW] in
def lockE (n : Nat) (o : Obj) (u : HO) (ob : Ob) (D : EndsD) : EndsD :=
  { nx := fun ρ S => S[n]? = some (lk o u ob) ∧ D.nx ρ (S.set n ob), rt := fun d S => S[n]? = some (lk o u ob) ∧ D.rt d (S.set n ob), bk := fun ρ S => S[n]? = some (lk o u ob) ∧ D.bk ρ (S.set n ob), ct := fun ρ S => S[n]? = some (lk o u ob) ∧ D.ct ρ (S.set n ob) }
omit [WW] in
/-- a statement while the dict that the i-th name holds is locked -/
def wLock (i : Nat) (w : WS) : WS := fun D ρ S => match ρ[i]? with
  | some (some (.ref n)) => (match S[n]? with | some ob => canLk ob = true ∧ ∀ o u, w (lockE n o u ob D) ρ (S.set n (lk o u ob)) | none => False)
  | _ => False
omit [WW] in
def wLockE (i : Nat) (w : WE) : WE := fun ρ S Q => match ρ[i]? with
  | some (some (.ref n)) => (match S[n]? with | some ob => canLk ob = true ∧ ∀ o u, w ρ (S.set n (lk o u ob)) fun d S' => S'[n]? = some (lk o u ob) ∧ Q d (S'.set n ob) | none => False)
  | _ => False
section
variable {K : PySem.W.Frag} {μ : Mu} {S : Store} {H : Hp} {n : Nat} {a : Addr} {o : Obj} {u : HO} {ob : Ob}
omit [WW] in
theorem lk_ok {w : World} (c : canLk ob = true) (r : ObR w K μ H a ob u) : Wr u ∧ Mut (some u) ∧ ∀ o, ObR w K μ H a (lk o u ob) (.frz o u) := by
  cases ob with
  | dA kvs => obtain ⟨xs, rfl, r⟩ := r; exact ⟨True.intro, True.intro, fun o => ⟨rfl, xs, rfl, r⟩⟩
  | dT kvs => obtain ⟨xs, rfl, r⟩ := r; exact ⟨True.intro, True.intro, fun o => ⟨rfl, xs, rfl, r⟩⟩
  | lst ds => cases c
  | gone => cases c
  | fA o u kvs => cases c
  | fT o u kvs => cases c
omit [WW] in
theorem unlk_ok {w : World} {u' : HO} (c : canLk ob = true) (r : ObR w K μ H a (lk o u ob) u') : u' = .frz o u ∧ ObR w K μ H a ob u ∧ Wr u := by
  cases ob with
  | dA kvs => obtain ⟨e, xs, rfl, r⟩ := r; exact ⟨e, ⟨xs, rfl, r⟩, True.intro⟩
  | dT kvs => obtain ⟨e, xs, rfl, r⟩ := r; exact ⟨e, ⟨xs, rfl, r⟩, True.intro⟩
  | lst ds => cases c
  | gone => cases c
  | fA o u kvs => cases c
  | fT o u kvs => cases c
theorem Sim.unlock (m : Sim K μ S H) (c : canLk ob = true) (hn : μ.sl[n]? = some (some a)) (h : S[n]? = some (lk o u ob)) : H a = some (.frz o u) ∧ Sim K μ (S.set n ob) (upd H a u) ∧ Grow μ H μ (upd H a u) := by
  have hne : lk o u ob ≠ .gone := by cases ob <;> first | (intro e; cases e; done) | cases c
  obtain ⟨b, u', h1, h2, h3⟩ := m.obj n _ h hne
  rw [hn] at h1
  cases h1
  obtain ⟨rfl, r, hw⟩ := unlk_ok c h3
  exact ⟨h2, m.putO hn h2 hw r, .putO m hn h2 hw⟩
theorem Sim.lock (m : Sim K μ S H) (c : canLk ob = true) (h : S[n]? = some ob) : ∃ a u, μ.sl[n]? = some (some a) ∧ H a = some u ∧ Mut (some u) ∧ ∀ o, Sim K μ (S.set n (lk o u ob)) (upd H a (.frz o u)) ∧ Grow μ H μ (upd H a (.frz o u)) := by
  have hne : ob ≠ .gone := by intro e; subst e; cases c
  obtain ⟨a, u, h1, h2, h3⟩ := m.obj n _ h hne
  obtain ⟨hw, hm, r⟩ := lk_ok c h3
  exact ⟨a, u, h1, h2, hm, fun o => ⟨m.putO h1 h2 hw (r o), .putO m h1 h2 hw⟩⟩
end
theorem ss_lock {X : Cx} {st : Stmt} {w : WS} {i : Nat} (h : SS X st w) : SS X st (wLock i w) := ps_weak (ps_lock h) fun D σ H ⟨μ, S, ρ, D0, m, en, q, p⟩ => by
  unfold wLock at q
  split at q
  · split at q
    · rename_i n _ ob hob
      obtain ⟨c, q⟩ := q
      obtain ⟨a, u, h1, h2, hm, k⟩ := m.lock c hob
      refine ⟨a, u, h2, hm, fun o => ?_⟩
      obtain ⟨m1, g1⟩ := k o
      refine ⟨μ, _, ρ, _, m1, en.grow g1, q o u, ?_, ?_, ?_, ?_, .none⟩
      · intro ρ' S' q' μ' σ' H' g m' e'
        obtain ⟨z, m2, g2⟩ := m'.unlock c (g.ref _ _ h1) q'.1
        exact ⟨z, p.nx _ _ q'.2 _ _ _ (g1.trans (g.trans g2)) m2 (e'.grow g2)⟩
      · intro d S' q' μ' v H' g m' r
        obtain ⟨z, m2, g2⟩ := m'.unlock c (g.ref _ _ h1) q'.1
        exact ⟨z, p.rt _ _ q'.2 _ _ _ (g1.trans (g.trans g2)) m2 (r.grow g2)⟩
      · intro ρ' S' q' μ' σ' H' g m' e'
        obtain ⟨z, m2, g2⟩ := m'.unlock c (g.ref _ _ h1) q'.1
        exact ⟨z, p.bk _ _ q'.2 _ _ _ (g1.trans (g.trans g2)) m2 (e'.grow g2)⟩
      · intro ρ' S' q' μ' σ' H' g m' e'
        obtain ⟨z, m2, g2⟩ := m'.unlock c (g.ref _ _ h1) q'.1
        exact ⟨z, p.ct _ _ q'.2 _ _ _ (g1.trans (g.trans g2)) m2 (e'.grow g2)⟩
    · exact q.elim
  · exact q.elim
theorem se_lock {X : Cx} {e : Expr} {w : WE} {i : Nat} (h : SE X e w) : SE X e (wLockE i w) := pe_weak (pe_lock h) fun σ H Q ⟨μ, S, ρ, Q0, m, en, q, p⟩ => by
  unfold wLockE at q
  split at q
  · split at q
    · rename_i n _ ob hob
      obtain ⟨c, q⟩ := q
      obtain ⟨a, u, h1, h2, hm, k⟩ := m.lock c hob
      refine ⟨a, u, h2, hm, fun o => ?_⟩
      obtain ⟨m1, g1⟩ := k o
      refine ⟨μ, _, ρ, _, m1, en.grow g1, q o u, ?_⟩
      intro d S' q' μ' v H' g m' r
      obtain ⟨z, m2, g2⟩ := m'.unlock c (g.ref _ _ h1) q'.1
      exact ⟨z, p _ _ q'.2 _ _ _ (g1.trans (g.trans g2)) m2 (r.grow g2)⟩
    · exact q.elim
  · exact q.elim
end DL

set_option maxHeartbeats 4000000
/-! DLD9: items, values, len of dicts -/
namespace DL
open PySem PySem.Spec PyProof.Rows L2
def rLenG (K : PySem.W.Frag) (w : World) : List V → Hp → VK → Prop := fun xs H Q => rLenV K xs H Q ∨ (∃ a, xs = [V.ref a] ∧ ((∃ kvs : List (Key × V), Rd H a (.dK kvs) ∧ Q (.int kvs.length) H) ∨ ∃ ys, Rd H a (DicO w a ys) ∧ (∀ x ∈ ys, KeyIs K H x.1 x.2.1) ∧ Q (.int ys.length) H))
theorem cr_lenG [WW] {X : Cx} : CallR X (.builtin "len") (rLenG X.K X.w) := cr_lenV.or fun pins s σ H xs us Q I r h => by
  obtain ⟨a, rfl, h⟩ := h
  obtain ⟨u, rfl, ru⟩ := vals1 r
  cases ru
  rcases h with ⟨kvs, e, q⟩ | ⟨ys, e, hk, q⟩
  · exact d_len I e fun t s' I' => ⟨.int kvs.length, H, I', ⟨t, rfl⟩, q⟩
  · obtain ⟨zs, rel, dd, hd, hl, hg⟩ := dic_of I e hk
    have e1 := Paired.length rel
    refine call_len_dictH hd dd (by rw [← e1]; rw [sizeLine_eq] at hl; omega) ⟨.int ys.length, H, I.tok _, ⟨_, by rw [e1]⟩, q⟩
variable [WW]
omit [WW] in
def lenO : Ob → Option Nat
  | .lst ds => some ds.length
  | .dA kvs => some kvs.length
  | .dT kvs => some kvs.length
  | .fA _ _ kvs => some kvs.length
  | .fT _ _ kvs => some kvs.length
  | .gone => none
omit [WW] in
/-- len: a row's, a text's, a dict's -/
def rLenH : RC := fun ds S Q => match ds with
  | [.ref n] => (match S[n]? with | some ob => (match lenO ob with | some k => Q (.int k) S | none => False) | none => False)
  | ds => rLen ds S Q
theorem cd_lenH {K : PySem.W.Frag} : CallD K (rLenG K WW.w) rLenH := by
  intro μ S H ds vs Q0 Q m r q p
  unfold rLenH at q
  split at q
  · rename_i n
    obtain ⟨v, rfl, r'⟩ := r.one_inv
    split at q
    · rename_i ob hob
      have q0 := q
      split at q
      · rename_i k hk
        cases r' with
        | @ref n a hn =>
        cases ob with
        | lst ds =>
          cases hk
          refine .inl (cd_len (K := K) μ S H [.ref n] [.ref a] Q0 Q m (.one (.ref hn)) ?_ p)
          show (match S[n]? with | some (.lst ds) => Q0 (.int ds.length) S | _ => False)
          rw [hob]
          exact q
        | dA kvs =>
          cases hk
          obtain ⟨b, xs, h1, h2, h3⟩ := m.dA n kvs hob
          rw [hn] at h1
          cases h1
          exact .inr ⟨a, rfl, .inl ⟨xs, .inl h2, by rw [← repK_len h3]; exact p.now m (.int _) q⟩⟩
        | dT kvs =>
          cases hk
          obtain ⟨b, xs, h1, h2, h3⟩ := m.dT n kvs hob
          rw [hn] at h1
          cases h1
          exact .inr ⟨a, rfl, .inr ⟨xs, .inl h2, repKV_keys h3, by rw [← repKV_len h3]; exact p.now m (.int _) q⟩⟩
        | fA o u kvs =>
          cases hk
          obtain ⟨b, xs, h1, h2, rfl, h3⟩ := m.fA n o u kvs hob
          rw [hn] at h1
          cases h1
          exact .inr ⟨a, rfl, .inl ⟨xs, .inr ⟨_, h2⟩, by rw [← repK_len h3]; exact p.now m (.int _) q⟩⟩
        | fT o u kvs =>
          cases hk
          obtain ⟨b, xs, h1, h2, rfl, h3⟩ := m.fT n o u kvs hob
          rw [hn] at h1
          cases h1
          exact .inr ⟨a, rfl, .inr ⟨xs, .inr ⟨_, h2⟩, repKV_keys h3, by rw [← repKV_len h3]; exact p.now m (.int _) q⟩⟩
        | gone => cases hk
      · exact q.elim
    · exact q.elim
  · exact .inl (cd_len (K := K) μ S H _ vs Q0 Q m r q p)
section
variable {X : Cx} {a e : Expr} {es : List Expr} {wr : WA} {pos p : Pos}
theorem se_lenH (hW : X.w = WW.w) (hg : Gl X "len") (hm : X.mg "len" = none) (ha : SA X (a :: es) wr) (he : starEach (a :: es) X.env = (false, eval a X.env) :: starEach es X.env := by rfl) (hpl : (backTo pos (starEach es X.env)).any (·.1) = false := by rfl) : SE X (.Call (.Name "len" p) (a :: es) [] pos) (wCall rLenH wr) :=
  se_callB (r := rLenG X.K X.w) (by rw [hW]; exact cd_lenH) cr_lenG hg hm (by decide +kernel) ha (by decide) (by decide) he hpl
end
/-! items, values: int and text keys -/
omit [WW] in
def wItemsF (w0 : WE) : WI := fun ρ S Q => w0 ρ S fun x S1 => match x with
  | .ref n => (match S1[n]? with
    | some (.fA o u kvs) => Q (kvs.map fun p => .tup [keyOf p.1, p.2]) (fun S => S[n]? = some (.fA o u kvs)) S1
    | _ => False)
  | _ => False
omit [WW] in
def wValsF (w0 : WE) : WI := fun ρ S Q => w0 ρ S fun x S1 => match x with
  | .ref n => (match S1[n]? with
    | some (.fA o u kvs) => Q (kvs.map fun p => p.2) (fun S => S[n]? = some (.fA o u kvs)) S1
    | _ => False)
  | _ => False
section
variable {K : PySem.W.Frag} {μ : Mu} {H : Hp} {n : Nat} {a : Addr} {o : Obj} {u : HO} {kvs : List (Key × D)} {xs : List (Key × V)}
omit [WW] in
theorem rep_keyOf {k : Key} : Rep K μ H (keyOf k) (kV k) := by
  cases k with
  | inl i => exact .int i
  | inr x => exact .str x
theorem isw_items (h : μ.sl[n]? = some (some a)) (hu : u = .dK xs) (r : RepK K μ H kvs xs) : IsW K μ H (Iti a o xs) (kvs.map fun p => .tup [keyOf p.1, p.2]) (fun S => S[n]? = some (.fA o u kvs)) where
  go := fun i μ2 H2 S2 hi g m hS => by
    obtain ⟨b, ws, h1, h2, h3, h4⟩ := m.fA n o u kvs hS
    rw [g.ref n a h] at h1
    cases h1
    rw [List.length_map, repK_len r] at hi
    exact ⟨by rw [← hu]; exact h2, hi⟩
  stop := fun μ2 H2 S2 g m hS => by
    obtain ⟨b, ws, h1, h2, h3, h4⟩ := m.fA n o u kvs hS
    rw [g.ref n a h] at h1
    cases h1
    exact ⟨by rw [← hu]; exact h2, by rw [List.length_map, repK_len r]; exact Nat.le_refl _⟩
  yld := fun i μ2 H2 S2 x H3 hi g m hS y => by
    obtain ⟨T, k, v, hk, rfl, hT, rfl⟩ := y
    obtain ⟨e, h1, h2⟩ := repK_get (r.mapR fun _ _ z => z.grow g) hk
    exact ⟨.tup [keyOf k, e], by rw [List.getElem?_map, h1]; rfl, .new hT, m.new hT, Sim.newT (S := S2) hT (.cons rep_keyOf (.one h2))⟩
theorem isw_vals (h : μ.sl[n]? = some (some a)) (hu : u = .dK xs) (r : RepK K μ H kvs xs) : IsW K μ H (Itd a o xs) (kvs.map fun p => p.2) (fun S => S[n]? = some (.fA o u kvs)) where
  go := fun i μ2 H2 S2 hi g m hS => by
    obtain ⟨b, ws, h1, h2, h3, h4⟩ := m.fA n o u kvs hS
    rw [g.ref n a h] at h1
    cases h1
    rw [List.length_map, repK_len r] at hi
    exact ⟨by rw [← hu]; exact h2, hi⟩
  stop := fun μ2 H2 S2 g m hS => by
    obtain ⟨b, ws, h1, h2, h3, h4⟩ := m.fA n o u kvs hS
    rw [g.ref n a h] at h1
    cases h1
    exact ⟨by rw [← hu]; exact h2, by rw [List.length_map, repK_len r]; exact Nat.le_refl _⟩
  yld := fun i μ2 H2 S2 x H3 hi g m hS y => by
    obtain ⟨rfl, k, hk⟩ := y
    obtain ⟨e, h1, h2⟩ := repK_get (r.mapR fun _ _ z => z.grow g) hk
    exact ⟨e, by rw [List.getElem?_map, h1]; rfl, .refl, m, h2⟩
end
section
variable {X : Cx} {tg l : Expr} {w0 : WE} {apos cpos : Pos}
theorem si_itemsF {elts : List Expr} {kk : Nat} {tpos : Pos} (ha : SE X l w0) (hbase : attributeBase l "items" X.env (eval l X.env) = eval l X.env := by rfl) (hline : (apos.endLine == cpos.line) = true := by rfl) :
    SI X (.Tuple elts kk tpos) (.Call (.Attribute l "items" apos) [] [] cpos) (wItemsF w0) := pi_weak (pi_items ha hbase hline) fun σ H R ⟨μ, S, ρ, Q0, m, en, q, p⟩ => by
  refine LE.run m en q fun d S1 μ1 v H1 q1 g1 m1 e1 r1 => ?_
  split at q1
  · rename_i n
    split at q1
    · rename_i o u kvs hob
      cases r1 with
      | @ref n a hn =>
      obtain ⟨b, xs, h1, h2, h3, h4⟩ := m1.fA n o u kvs hob
      rw [hn] at h1
      cases h1
      exact ⟨a, o, xs, rfl, by rw [← h3]; exact h2, p _ _ S1 q1 μ1 _ H1 g1 m1 (isw_items hn h3 h4)⟩
    · exact q1.elim
  · exact q1.elim
theorem si_valsF (ha : SE X l w0) (hbase : attributeBase l "values" X.env (eval l X.env) = eval l X.env := by rfl) (hline : (apos.endLine == cpos.line) = true := by rfl) :
    SI X tg (.Call (.Attribute l "values" apos) [] [] cpos) (wValsF w0) := pi_weak (pi_values ha hbase hline) fun σ H R ⟨μ, S, ρ, Q0, m, en, q, p⟩ => by
  refine LE.run m en q fun d S1 μ1 v H1 q1 g1 m1 e1 r1 => ?_
  split at q1
  · rename_i n
    split at q1
    · rename_i o u kvs hob
      cases r1 with
      | @ref n a hn =>
      obtain ⟨b, xs, h1, h2, h3, h4⟩ := m1.fA n o u kvs hob
      rw [hn] at h1
      cases h1
      exact ⟨a, o, xs, rfl, by rw [← h3]; exact h2, p _ _ S1 q1 μ1 _ H1 g1 m1 (isw_vals hn h3 h4)⟩
    · exact q1.elim
  · exact q1.elim
end
end DL

set_option maxHeartbeats 4000000
/-! DLDA: {k: v, ..} with int and text keys -/
namespace DL
open PySem PySem.Spec PyProof.Rows L2
def gPairs : List (WE × WE) → Env → Store → (List (D × D) → Store → Prop) → Prop
  | [], _, S, Q => Q [] S
  | (wk, wv) :: r, ρ, S, Q => wk ρ S fun x S1 => wv ρ S1 fun y S2 => gPairs r ρ S2 fun ps S3 => Q ((x, y) :: ps) S3
def keysA : List (D × D) → Option (List (Key × D))
  | [] => some []
  | (x, y) :: r => match kA x, keysA r with | some k, some ks => some ((k, y) :: ks) | _, _ => none
def mergeA : List (Key × D) → List (Key × D) → List (Key × D)
  | kvs, [] => kvs
  | kvs, (k, e) :: r => mergeA (putA kvs k e) r
def wDisp (ws : List (WE × WE)) : WE := fun ρ S Q => ws.length ≤ 15 ∧ gPairs ws ρ (S ++ [.dA []]) fun ps S2 => S2[S.length]? = some (.dA []) ∧ match keysA ps with | some kvs => Q (.ref S.length) (S2.set S.length (.dA (mergeA [] kvs))) | none => False
variable [WW]
def RepP (K : PySem.W.Frag) (μ : Mu) (H : Hp) : List (D × D) → List (V × V) → Prop := Paired fun p q => Rep K μ H p.1 q.1 ∧ Rep K μ H p.2 q.2
def LP (K : PySem.W.Frag) (ws : List (WE × WE)) : List (TE × TE) := ws.map fun w => (LE K w.1, LE K w.2)
theorem pairs_run {K : PySem.W.Frag} {ρ : Env} {σ : L2.St} : ∀ (ws : List (WE × WE)) {μ : Mu} {S : Store} {H : Hp} {Q0 : List (D × D) → Store → Prop} {Q : List (V × V) → Hp → Prop}, Sim K μ S H → EnvR K μ H ρ σ → gPairs ws ρ S Q0 →
    (∀ ps S' μ' vs H', Q0 ps S' → Grow μ H μ' H' → Sim K μ' S' H' → RepP K μ' H' ps vs → ps.length = ws.length → Q vs H') → tPairs (LP K ws) σ H Q
  | [], μ, S, H, Q0, Q, m, en, q, k => k [] S μ [] H q .refl m .nil rfl
  | (wk, wv) :: r, μ, S, H, Q0, Q, m, en, q, k => by
    refine LE.run m en q fun x S1 μ1 vx H1 q1 g1 m1 e1 r1 => ?_
    refine LE.run m1 e1 q1 fun y S2 μ2 vy H2 q2 g2 m2 e2 r2 => ?_
    refine pairs_run r m2 e2 q2 fun ps S3 μ3 vs H3 q3 g3 m3 r3 hl => ?_
    exact k _ S3 μ3 _ H3 q3 (g1.trans (g2.trans g3)) m3 (.cons ⟨r1.grow (g2.trans g3), r2.grow g3⟩ r3) (by simp [hl])
theorem keysA_ok {K : PySem.W.Frag} {μ : Mu} {H : Hp} : ∀ {ps : List (D × D)} {vs : List (V × V)} {kvs : List (Key × D)}, RepP K μ H ps vs → keysA ps = some kvs → ∃ xs : List (Key × V), vs = xs.map (fun kv => (kV kv.1, kv.2)) ∧ RepK K μ H kvs xs ∧ xs.length = ps.length := by
  intro ps vs kvs r
  unfold RepP at r
  induction r generalizing kvs with
  | nil => intro h; cases h; exact ⟨[], rfl, .nil, rfl⟩
  | @cons p q ps vs h t ih =>
    intro hk
    obtain ⟨x, y⟩ := p
    obtain ⟨vx, vy⟩ := q
    unfold keysA at hk
    split at hk
    · rename_i k ks h1 h2
      cases hk
      obtain ⟨xs, rfl, r2, hl⟩ := ih h2
      have e : vx = kV k := kA_key h1 h.1
      subst e
      exact ⟨(k, vy) :: xs, rfl, .cons h.2 r2, by simp [hl]⟩
    · cases hk
theorem mergeA_ok {K : PySem.W.Frag} {μ : Mu} {H : Hp} : ∀ {more : List (Key × D)} {ms : List (Key × V)}, RepK K μ H more ms → ∀ {kvs : List (Key × D)} {xs : List (Key × V)}, RepK K μ H kvs xs → RepK K μ H (mergeA kvs more) (mergeK xs ms) := by
  intro more ms h
  induction h with
  | nil => intro kvs xs r; exact r
  | @cons k e u kvs xs c t ih => intro kvs0 xs0 r; exact ih (repK_put (k := k) c r)
abbrev SPs (X : Cx) (pos : Pos) (keys : List (Option Expr)) (values : List Expr) (ws : List (WE × WE)) : Prop := PPs X pos keys values (LP X.K ws)
section
variable {X : Cx} {pos : Pos} {k v : Expr} {ks : List (Option Expr)} {vs : List Expr} {wk wv : WE} {ws : List (WE × WE)}
theorem sps_nil : SPs X pos [] [] [] := pps_nil
theorem sps_cons (hk : SE X k wk) (hv : SE X v wv) (hr : SPs X pos ks vs ws) : SPs X pos (some k :: ks) (v :: vs) ((wk, wv) :: ws) := pps_cons hk hv hr
theorem se_disp (h : SPs X pos ks vs ws) (hall : ks.all (·.isSome) = true := by rfl) (hl : ks.length = vs.length := by rfl) (h0 : ks ≠ [] := by simp) (h15 : ks.length ≤ 15 := by decide) : SE X (.Dict ks vs pos) (wDisp ws) :=
  pe_weak (pe_disp h hall hl h0 h15) fun σ H Q ⟨μ, S, ρ, Q0, m, en, q, p⟩ => fun l hl => by
    obtain ⟨hw, q⟩ := q
    have g1 : Grow μ H (μ.add l) (upd H l (.dK [])) := .alloc hl
    have m1 := m.allocO (o := .dA []) hl ⟨[], rfl, .nil⟩
    have hn : (μ.add l).sl[S.length]? = some (some l) := by rw [← m.len]; simp [Mu.add]
    refine pairs_run ws m1 (en.grow g1) q fun ps S2 μ2 vs H2 q2 g2 m2 r2 hlen => ?_
    obtain ⟨hS, q2⟩ := q2
    obtain ⟨a, xs0, h1, h2, h3⟩ := m2.dA _ _ hS
    have hn2 := g2.ref _ _ hn
    rw [hn2] at h1
    cases h1
    cases h3
    split at q2
    · rename_i kvs hk
      obtain ⟨xs, rfl, r3, hx⟩ := keysA_ok r2 hk
      refine ⟨h2, xs, rfl, by rw [hx, hlen]; exact hw, ?_⟩
      have g3 : Grow μ2 H2 μ2 (upd H2 l (.dK (mergeK [] xs))) := .putO m2 hn2 h2 True.intro
      exact p _ _ q2 μ2 _ _ (g1.trans (g2.trans g3)) (m2.putO hn2 h2 True.intro ⟨_, rfl, mergeA_ok r3 .nil⟩) (.ref hn2)
    · exact q2.elim
end
end DL

set_option maxHeartbeats 4000000
/-! DLDB: d.setdefault -/
namespace DL
open PySem PySem.Spec PyProof.Rows L2
section
variable {X : Cx} {pins : List (Addr × Obj)} {σ : L2.St} {H : Hp} {s : Shared} {a b : Addr} {xs : List (NestedKey × V × V)} {k : NestedKey} {A : Around} {E : Value → Shared → Prop}
theorem t_setd {d : V} {r : Value} {Q : Value → Shared → Prop} (hu : A.units + 16 < cLine) (I : Inv X pins σ H s) (e : H a = some (DicO X.w a xs)) (hk : ∀ x ∈ xs, KeyIs X.K H x.1 x.2.1) (kb : KeyIs X.K H k (.ref b)) (gk : goodK k) (hl1 : xs.length < sizeLine) (rd : RelV d r)
    (h1 : ∀ v, valX xs k = some v → ∀ (w' : Value) (s' : Shared), Inv X pins σ H s' → RelV v w' → Q w' s') (h2 : valX xs k = none → ∀ (w' : Value) (s' : Shared), Inv X pins σ (upd H a (DicO X.w a (putX xs k (.ref b) d))) s' → RelV d w' → Q w' s') :
    wpAny (model X.prog X.w) A (call (.builtin "dict.setdefault") [.ref a, .ref b, r]) Q E s := by
  obtain ⟨ys, rel, dd, hd, hl, hg⟩ := dic_of I (.inl e) hk
  have hz : ys.length ≤ sizeLine := by rw [← Paired.length rel]; exact hl
  have rv := row_val rel k
  refine call_setdefault_heap (knd := nestedKind X.prog X.w) (hsz := hz) (room8 hu) ⟨key_in I kb rfl, gk.2⟩ hd dd (fun p hp => ?_) fun hn h' dd' hs => ?_
  · rw [hp] at rv
    cases q0 : valX xs k with
    | none => rw [q0] at rv; exact (show False from rv).elim
    | some v0 => rw [q0] at rv; exact h1 v0 q0 _ _ (I.tok _) rv
  · rw [hn] at rv
    cases q0 : valX xs k with
    | some v0 => rw [q0] at rv; exact (show False from rv).elim
    | none =>
      have he : ∃ q, h'.get? a = some q := let ⟨o, _, _, ho, _⟩ := dd'; ⟨o, ho⟩
      refine h2 q0 _ _ (d_write I (by rw [e]; exact True.intro) hs he (dicO_ok (dicR_of dd' (row_put rel k rd) hd ?_ (putX_mem hg gk)))) rd
      have := putX_len xs k (.ref b) d
      omega
end
/-- d.setdefault(y, z), either kind -/
def tSetdG (w : World) (K : PySem.W.Frag) (td ty tx : TE) : TE := fun σ H Q => td σ H fun x H1 => ∃ a, x = .ref a ∧ IsDG w H1 a ∧ ty σ H1 fun y H2 => tx σ H2 fun z H3 =>
  (∃ (kvs : List (Key × V)) (k : Key), H3 a = some (.dK kvs) ∧ y = kV k ∧ kvs.length < sizeLine ∧ (∀ v, valV kvs k = some v → Q v H3) ∧ (valV kvs k = none → Q z (upd H3 a (.dK (putK kvs k z))))) ∨
  ∃ (xs : List (NestedKey × V × V)) (k : NestedKey) (b : Addr), H3 a = some (DicO w a xs) ∧ (∀ x ∈ xs, KeyIs K H3 x.1 x.2.1) ∧ y = .ref b ∧ KeyIs K H3 k y ∧ goodK k ∧ xs.length < sizeLine ∧ (∀ v, valX xs k = some v → Q v H3) ∧ (valX xs k = none → Q z (upd H3 a (DicO w a (putX xs k y z))))
theorem pe_setdG {X : Cx} {o e f : Expr} {apos cpos : Pos} {td ty tx : TE} (hu : X.A.units + 16 < cLine) (ho : PE X o td) (he : PE X e ty) (hf : PE X f tx) (m : M2 X o "setdefault" apos e f cpos) : PE X (.Call (.Attribute o "setdefault" apos) [e, f] [] cpos) (tSetdG X.w X.K td ty tx) := by
  refine ⟨fun pins s σ H Q I h => ?_⟩
  refine wpAny_Call_method m.base m.few m.line PySem.F.plainAttrs_dict PySem.F.slot_dict_setdefault PySem.F.type_dict_setdefault (thn (ho.run pins s σ H _ I h) fun u s1 ⟨x, H1, I1, rx, a, ex, d, q1⟩ => ?_)
  subst ex
  obtain rfl : u = Value.ref a := rx
  obtain ⟨t1, t2, _⟩ := isDG_at I1 d
  refine ⟨t1, t2, ?_⟩
  rw [m.trees]
  refine Calls.callWith_builtin rfl (Calls.evalArgs_plain (Calls.spliced_cons (thn (he.run pins s1 σ H1 _ I1 q1) fun iv s2 ⟨y, H2, I2, ry, q2⟩ =>
    Calls.spliced_cons (thn (hf.run pins s2 σ H2 _ I2 q2) fun fv s3 ⟨z, H3, I3, rz, q3⟩ => Calls.spliced_nil ?_))))
  rcases q3 with ⟨kvs, k, ea, rfl, hl, q3, q4⟩ | ⟨xs, k, b, ea, hk, rfl, kb, gk, hl, q3, q4⟩
  · exact d_setd I3 ea ry rz hl (fun v hv w' s4 I4 rw' => ⟨v, _, I4, rw', q3 v hv⟩) fun hn w' s4 I4 rw' => ⟨z, _, I4, rw', q4 hn⟩
  · cases (show iv = Value.ref b from ry)
    exact t_setd hu I3 ea hk kb gk hl rz (fun v hv w' s4 I4 rw' => ⟨v, _, I4, rw', q3 v hv⟩) fun hn w' s4 I4 rw' => ⟨z, _, I4, rw', q4 hn⟩
variable [WW]
omit [WW] in
def setdO (n : Nat) (y z : D) (S : Store) (Q : D → Store → Prop) : Prop := match S[n]? with
  | some (.dA kvs) => (match kA y with | some k => kvs.length < 16777216 ∧ (match valA kvs k with | some v => Q v S | none => Q z (S.set n (.dA (putA kvs k z)))) | none => False)
  | some (.dT kvs) => (match kT y with | some k => kvs.length < 16777216 ∧ (match valT kvs k with | some v => Q v S | none => Q z (S.set n (.dT (putT kvs y k z)))) | none => False)
  | _ => False
omit [WW] in
def wSetd (wo wi wx : WE) : WE := fun ρ S Q => wo ρ S fun x S1 => match x with
  | .ref n => isDic S1 n = true ∧ wi ρ S1 fun y S2 => wx ρ S2 fun z S3 => setdO n y z S3 Q
  | _ => False
theorem se_setd {X : Cx} {o e f : Expr} {apos cpos : Pos} {wa wb wc : WE} (hW : X.w = WW.w) (hu : X.A.units + 16 < cLine) (ho : SE X o wa) (he : SE X e wb) (hf : SE X f wc) (m : M2 X o "setdefault" apos e f cpos) : SE X (.Call (.Attribute o "setdefault" apos) [e, f] [] cpos) (wSetd wa wb wc) :=
  pe_weak (pe_setdG hu ho he hf m) fun σ H Q ⟨μ, S, ρ, Q0, m, en, q, p⟩ => by
    refine LE.run m en q fun d S1 μ1 v H1 q1 g1 m1 e1 r1 => ?_
    split at q1
    · rename_i n
      obtain ⟨qd, q1⟩ := q1
      obtain ⟨a, rfl, hd⟩ := isDic_ok m1 r1 qd
      refine ⟨a, rfl, by rw [hW]; exact hd, ?_⟩
      refine LE.run m1 e1 q1 fun y S2 μ2 vy H2 q2 g2 m2 e2 r2 => ?_
      refine LE.run m2 e2 q2 fun z S3 μ3 vz H3 q3 g3 m3 e3 r3 => ?_
      have rn := r1.grow (g2.trans g3)
      have ry := r2.grow g3
      have gg := g1.trans (g2.trans g3)
      cases rn with
      | @ref n a hn =>
      unfold setdO at q3
      split at q3
      · rename_i kvs hs
        obtain ⟨a', xs, h1, h2, h3⟩ := m3.dA n kvs hs
        rw [hn] at h1
        cases h1
        split at q3
        · rename_i k hk
          obtain ⟨hl, q3⟩ := q3
          have rv := repK_val h3 k
          refine .inl ⟨xs, k, h2, kA_key hk ry, by rw [sizeLine_eq, ← repK_len h3]; exact hl, fun v hv => ?_, fun hv => ?_⟩
          · rw [hv] at rv
            split at q3
            · rename_i w hw
              rw [hw] at rv
              exact p _ _ q3 _ _ _ gg m3 rv
            · rename_i hw
              rw [hw] at rv
              exact (show False from rv).elim
          · rw [hv] at rv
            split at q3
            · rename_i w hw
              rw [hw] at rv
              exact (show False from rv).elim
            · have g4 : Grow μ3 H3 μ3 (upd H3 a (.dK (putK xs k vz))) := .putO m3 hn h2 True.intro
              exact p _ _ q3 μ3 _ _ (gg.trans g4) (m3.putO hn h2 True.intro ⟨_, rfl, repK_put r3 h3⟩) (r3.grow g4)
        · exact q3.elim
      · rename_i kvs hs
        obtain ⟨a', xs, h1, h2, h3⟩ := m3.dT n kvs hs
        rw [hn] at h1
        cases h1
        split at q3
        · rename_i k hk
          obtain ⟨hl, q3⟩ := q3
          obtain ⟨e1', e2', ds, rfl⟩ := kT_key hk
          obtain ⟨b, us, rfl, _⟩ := ry.tupS
          have rv := repKV_val h3 k
          rw [hW]
          refine .inr ⟨xs, k, b, h2, repKV_keys h3, rfl, rep_key e1' ry, e2', by rw [sizeLine_eq, ← repKV_len h3]; exact hl, fun v hv => ?_, fun hv => ?_⟩
          · rw [hv] at rv
            split at q3
            · rename_i w hw
              rw [hw] at rv
              exact p _ _ q3 _ _ _ gg m3 rv
            · rename_i hw
              rw [hw] at rv
              exact (show False from rv).elim
          · rw [hv] at rv
            split at q3
            · rename_i w hw
              rw [hw] at rv
              exact (show False from rv).elim
            · have g4 : Grow μ3 H3 μ3 (upd H3 a (DicO WW.w a (putX xs k (.ref b) vz))) := .putO m3 hn h2 True.intro
              exact p _ _ q3 μ3 _ _ (gg.trans g4) (m3.putO hn h2 True.intro ⟨_, rfl, repKV_put e1' ry r3 h3⟩) (r3.grow g4)
        · exact q3.elim
      · exact q3.elim
    · exact q1.elim
end DL

set_option maxHeartbeats 4000000
/-! DLDC: sorted(d) -/
namespace DL
open PySem PySem.Spec PyProof.Rows L2
theorem dict_src {prog : Program} {w : World} {d : Addr} {es : Array DictEntry} {ep : Nat} (lo : (d == sysModules) = false) : PySem.W.KdlSrc prog w "dict" d d es.size (fun i v => ∃ hi : i < es.size, v = es[i].key) (fun h => h.DictRaw d es ep) where
  type := fun _ hm => hm.typeIs
  there := fun _ hm => let ⟨_, ho, _⟩ := hm; ⟨Heap.lt_size ho, Heap.lt_size ho⟩
  keep := fun _ _ hm hk => hm.at fun o e => hk d (.inl rfl) o e
  notList := by decide
  notTuple := by decide
  hint := fun _ _ _ _ hm hq => PySem.W.kdl_hint_dict hm.typeIs hq
  iter := fun _ _ hh hm => ⟨_, _, (fun _ _ hq => wpAny_pyIter_dict_raw lo hm hq), Walks.rawKeys hh _ d (Nat.ne_of_lt (let ⟨_, ho, _⟩ := hm; Heap.lt_size ho)) es ep, ⟨⟨_, Heap.get?_push_size _ rfl, rfl, rfl⟩, hm.at fun o e => Heap.get?_push_of_some _ e⟩⟩
theorem acc_keys {es : Array DictEntry} {acc : Array Value} (h : ItemsOf (fun i v => ∃ hi : i < es.size, v = es[i].key) acc es.size) : acc.toList = es.toList.map (·.key) := by
  apply List.ext_getElem?
  intro i
  rw [List.getElem?_map, Array.getElem?_toList, Array.getElem?_toList]
  by_cases hi : i < es.size
  · have h1 : i < acc.size := by rw [h.1]; exact hi
    obtain ⟨_, e⟩ := h.2 i acc[i] (by simp [h1])
    simp [h1, hi, e]
  · have h1 : ¬ i < acc.size := by rw [h.1]; exact hi
    simp [h1, hi]
/-- sorted(d) -/
theorem sorted_dicV {prog : Program} {w : World} {A : Around} {E : Value → Shared → Prop} {s : Shared} {l : Addr} {es : Array DictEntry} {ep : Nat} {vs : List Value} {ds : List PyData} {Q : Value → Shared → Prop} (hh : A.handled = none) (lo : (l == sysModules) = false) (hm : s.heap.DictRaw l es ep) (hv : es.toList.map (·.key) = vs) (hL : es.size ≤ sizeLine)
    (e : PySem.W.EachIs (fun v d => ∃ as, Reads s.heap v d as) vs ds) (hal : PySem.W.AllAlikeW ds) (hk : PySem.W.Sortable ds) (hu : ∀ d, d ∈ ds → A.in1.in1.units + d.depth < cLine)
    (h : ∀ (h1 h' : Heap) (c tk : Nat) (out : List Value), PySem.W.KeyedOutW false ds vs out → (∀ b o, s.heap.get? b = some o → h1.get? b = some o) → (∀ b o, h1.get? b = some o → h'.get? b = some o) → h'.get? h1.objs.size = some (seqObj "list" out.toArray c) → Q (.ref h1.objs.size) { s with heap := h', toks := tk }) :
    wpAny (model prog w) A (call (.builtin "sorted") [.ref l]) Q E s := by
  refine PyProof.Rows.call_function_entry_kw kind_sorted plain_sorted entry_sorted (args_sorted1 _) ?_
  unfold Builtin.«sorted»
  refine wpAny_bind (m := checkCount "sorted" 1 1 _) (wpAny_pure ?_)
  refine wpAny_bind (PySem.W.kdu_collect (A := A.in1) (dict_src lo) hh hm hL fun h1 tk acc k1 hacc => ?_)
  rw [acc_keys hacc, hv]
  have hL' : vs.length ≤ sizeLine := by rw [← hv, List.length_map, Array.length_toList]; exact hL
  refine wpAny_bind (wpAny_newList ?_ hL')
  have ha : (h1.push (seqObj "list" vs.toArray 0)).get? h1.objs.size = some (seqObj "list" vs.toArray 0) := Heap.get?_push_size _ rfl
  have k2 : ∀ b o, s.heap.get? b = some o → (h1.push (seqObj "list" vs.toArray 0)).get? b = some o := fun b o q => Heap.get?_push_of_some _ (k1 b o q)
  have k3 : ∀ b o, s.heap.get? b = some o → (PySem.W.sortingHeap (h1.push (seqObj "list" vs.toArray 0)) h1.objs.size vs).get? b = some o := fun b o q => PySem.W.sortingHeap_old (Nat.ne_of_lt (Heap.lt_size (k1 b o q))) (k2 b o q)
  have eh : PySem.W.EachIs (fun v d => ∃ as, Reads (PySem.W.sortingHeap (h1.push (seqObj "list" vs.toArray 0)) h1.objs.size vs) v d as) vs ds := e.mono fun _ _ ⟨as, r⟩ => ⟨as, Reads.keeps k3 r⟩
  show wpAny _ _ _ _ _ { s with heap := h1.push (seqObj "list" vs.toArray 0), toks := tk }
  obtain ⟨c, hat⟩ := sortedHeap_at (out := (PySem.W.sortVals (PySem.W.dataKind (PySem.W.sortingHeap (h1.push (seqObj "list" vs.toArray 0)) h1.objs.size vs) ds) false vs vs).toArray) ha
  refine wpAny_bind (wpAny_holding (PyProof.Rows.wpAny_call_entry_kw slot_list_sort ⟨_, ha, rfl⟩ entry_list_sort (PySem.W.list_sort_vals (s := { s with heap := h1.push (seqObj "list" vs.toArray 0), toks := tk }) ha (PySem.W.SortsAt.dataW (s := { s with heap := PySem.W.sortingHeap (h1.push (seqObj "list" vs.toArray 0)) h1.objs.size vs, toks := tk }) eh hal hk hu) hL' ⟨_, rfl, ?_⟩) (args_list_sort _)))
  refine wpAny_pure ⟨_, rfl, h h1 _ c tk _ ⟨_, vs, hal, rfl, eh⟩ k1 (fun b o q => ?_) hat⟩
  have hlt : b < h1.objs.size := Heap.lt_size q
  have hlt2 : b < (h1.push (seqObj "list" vs.toArray 0)).objs.size := by rw [size_push']; exact Nat.lt_succ_of_lt hlt
  rw [sortedHeap_old (Nat.ne_of_lt hlt) hlt2]
  exact Heap.get?_push_of_some _ q
end DL

set_option maxHeartbeats 4000000
/-! DLDD: sorted(d) by content -/
namespace DL
open PySem PySem.Spec PyProof.Rows L2
/-- the keys of the dict at a -/
def KeysV (w : World) (H : Hp) (a : Addr) (xs : List V) : Prop := (∃ kvs : List (Key × V), Rd H a (.dK kvs) ∧ xs = kvs.map fun p => kV p.1) ∨ ∃ ys : List (NestedKey × V × V), Rd H a (DicO w a ys) ∧ xs = ys.map fun y => y.2.1
theorem row_vals {xs : List (NestedKey × V × V)} {ys : List (NestedKey × Addr × Value)} (r : Paired (fun (x : NestedKey × V × V) (y : NestedKey × Addr × Value) => x.1 = y.1 ∧ x.2.1 = .ref y.2.1 ∧ L2.RelV x.2.2 y.2.2) xs ys) : Vals (xs.map fun x => x.2.1) (ys.map fun y => Value.ref y.2.1) := by
  induction r with
  | nil => exact .nil
  | cons h t ih => exact .cons (by show L2.RelV _ _; simp only [h.2.1]; rfl) ih
theorem keysV_raw {X : Cx} {pins : List (Addr × Obj)} {σ : L2.St} {H : Hp} {s : Shared} {a : Addr} {xs : List V} (I : Inv X pins σ H s) (h : KeysV X.w H a xs) : ∃ es ep, s.heap.DictRaw a es ep ∧ (a == sysModules) = false ∧ Vals xs (es.toList.map (·.key)) ∧ es.size ≤ sizeLine := by
  rcases h with ⟨kvs, e, rfl⟩ | ⟨ys, e, rfl⟩
  · obtain ⟨z, hd, vs, rel, dd⟩ := dk_rd I.hok e
    obtain ⟨es, ep, raw, hsz, hat⟩ := dd.raw
    have hl : kvs.length = vs.length := rel.length
    refine ⟨es, ep, raw, hd, ?_, by rw [hsz, ← hl]; exact z⟩
    have hk : kvs.map (fun p => kV p.1) = vs.map (fun p => kV p.1) := by
      have e1 : kvs.map (·.1) = vs.map (·.1) := rel.keys
      have e2 := congrArg (List.map kV) e1
      rw [List.map_map, List.map_map] at e2
      exact e2
    rw [hk]
    refine keys_at (by rw [List.length_map, Array.length_toList, hsz]) fun j v q => ?_
    rw [List.getElem?_map, Array.getElem?_toList] at q
    have hj : j < es.size := by
      by_cases hj : j < es.size
      · exact hj
      · simp [hj] at q
    have hjv : j < vs.length := by omega
    refine ⟨vs[j].1, vs[j].2, by simp [hjv], ?_⟩
    have := (hat j hj vs[j].1 vs[j].2 (by simp [hjv])).1
    simp [hj] at q
    rw [← q]
    exact this
  · obtain ⟨o, es, ep, zs, ho, hex, hdt, he, hp, nd, hs, hl, hg⟩ := (e.ok I.hok).1
    refine ⟨es, ep, ⟨o, ho, hex, hdt⟩, hs, ?_, ?_⟩
    · rw [he, List.map_map]
      exact row_vals hp
    · rw [← Array.length_toList, he, List.length_map, ← Paired.length hp]
      exact hl
def rSortedDV [WW] (K : PySem.W.Frag) (w : World) : List V → Hp → VK → Prop := fun vs H Q => ∃ (a : Addr) (xs : List V) (es : List D) (μ : Mu), vs = [.ref a] ∧ KeysV w H a xs ∧ RepAll K μ H es xs ∧ SortOkD es ∧
  ∀ ys p, RepAll K μ H (sortD es) ys → H p = none → Q (.ref p) (upd H p (.lst ys))
theorem cr_sortedDV [WW] {X : Cx} (hc : X.calm = true) (hu : X.A.units + 66 < cLine) : CallR X (.builtin "sorted") (rSortedDV X.K X.w) := by
  intro pins s σ H vs us Q I r h
  obtain ⟨a, xs, es, μ, rfl, hq, re, ⟨o1, o2, o3⟩, q⟩ := h
  rw [Vals.ref1 r]
  have hlay : PyData.canLayAll0 (pyAll es) = true := by
    have := shaped_lay o3
    simpa [D.py, PyData.canLay0] using this
  obtain ⟨ent, ep, raw, lo, rv, hz⟩ := keysV_raw I hq
  have hlen : xs.length = ent.size := by have := rv.length; rw [List.length_map, Array.length_toList] at this; exact this
  refine sorted_dicV (I.ok.hd hc) lo raw rfl hz (each_reads I re rv hlay) o1 o2 (fun d hd => ?_) fun h1 h' c tk out ko k1 k2 hat => ?_
  · have := shapedL_depth (ds := pyAll es) o3 d hd
    show X.A.units + 1 + 1 + d.depth < cLine
    omega
  · have I1 : Inv X pins σ H { s with heap := h1 } := I.kept (t' := s.toks) k1
    have ke : PySem.W.EachIs (fun u b => ∃ x, RelV x u ∧ Rep X.K μ H b x) out (sortD es) := PySem.W.keyedOut_eachW (bs := es) D.py (by rw [← pyAll_map]; exact ko) (each_rep re rv)
    obtain ⟨ys, hv, hr⟩ := rep_back ke
    have hl : ys.length ≤ sizeLine := by
      rw [← hr.length]
      have : (sortD es).length = es.length := List.length_mergeSort _
      rw [this, re.length, hlen]
      exact hz
    exact ⟨.ref h1.objs.size, _, I1.laid (t' := tk) k2 (Nat.le_refl _) (show ObjOk X.prog X.w _ h' _ (.lst ys) from ⟨hl, out, c, hv, hat⟩), rfl, q ys _ hr (I1.hok.fresh (Nat.le_refl _))⟩
variable [WW]
omit [WW] in
def keysD : Ob → Option (List D)
  | .dA kvs => some (kvs.map fun p => keyOf p.1)
  | .dT kvs => some (kvs.map fun p => p.1)
  | .fA _ _ kvs => some (kvs.map fun p => keyOf p.1)
  | .fT _ _ kvs => some (kvs.map fun p => p.1)
  | _ => none
omit [WW] in
def rSortedK : RC := fun ds S Q => match ds with
  | [.ref n] => (match S[n]? with | some ob => (match keysD ob with | some ks => SortOkD ks ∧ Q (.lst (sortD ks)) S | none => False) | none => False)
  | _ => False
theorem repK_keysV {K : PySem.W.Frag} {μ : Mu} {H : Hp} : ∀ {kvs : List (Key × D)} {xs : List (Key × V)}, RepK K μ H kvs xs → RepAll K μ H (kvs.map fun p => keyOf p.1) (xs.map fun p => kV p.1)
  | _, _, .nil => .nil
  | _, _, .cons c t => .cons rep_keyOf (repK_keysV t)
theorem repKV_keysV {K : PySem.W.Frag} {μ : Mu} {H : Hp} : ∀ {kvs : List (D × D)} {xs : List (NestedKey × V × V)}, RepKV K μ H kvs xs → RepAll K μ H (kvs.map fun p => p.1) (xs.map fun y => y.2.1)
  | _, _, .nil => .nil
  | _, _, .cons a b c t => .cons b (repKV_keysV t)
theorem keysD_ok {K : PySem.W.Frag} {μ : Mu} {H : Hp} {S : Store} {n : Nat} {a : Addr} {ob : Ob} {ks : List D} (m : Sim K μ S H) (hn : μ.sl[n]? = some (some a)) (hob : S[n]? = some ob) (h : keysD ob = some ks) : ∃ xs, KeysV WW.w H a xs ∧ RepAll K μ H ks xs := by
  cases ob with
  | dA kvs =>
    cases h
    obtain ⟨b, xs, h1, h2, h3⟩ := m.dA n kvs hob
    rw [hn] at h1
    cases h1
    exact ⟨_, .inl ⟨xs, .inl h2, rfl⟩, repK_keysV h3⟩
  | dT kvs =>
    cases h
    obtain ⟨b, xs, h1, h2, h3⟩ := m.dT n kvs hob
    rw [hn] at h1
    cases h1
    exact ⟨_, .inr ⟨xs, .inl h2, rfl⟩, repKV_keysV h3⟩
  | fA o u kvs =>
    cases h
    obtain ⟨b, xs, h1, h2, rfl, h3⟩ := m.fA n o u kvs hob
    rw [hn] at h1
    cases h1
    exact ⟨_, .inl ⟨xs, .inr ⟨_, h2⟩, rfl⟩, repK_keysV h3⟩
  | fT o u kvs =>
    cases h
    obtain ⟨b, xs, h1, h2, rfl, h3⟩ := m.fT n o u kvs hob
    rw [hn] at h1
    cases h1
    exact ⟨_, .inr ⟨xs, .inr ⟨_, h2⟩, rfl⟩, repKV_keysV h3⟩
  | lst ds => cases h
  | gone => cases h
theorem cd_sortedK {K : PySem.W.Frag} : CallD K (rSortedDV K WW.w) rSortedK := by
  intro μ S H ds vs Q0 Q m r q p
  unfold rSortedK at q
  split at q
  · rename_i n
    obtain ⟨v, rfl, r'⟩ := r.one_inv
    split at q
    · rename_i ob hob
      split at q
      · rename_i ks hks
        cases r' with
        | @ref n a hn =>
        obtain ⟨xs, h1, h2⟩ := keysD_ok m hn hob hks
        exact ⟨a, xs, ks, μ, rfl, h1, h2, q.1, fun ys l hy hl => p _ _ q.2 _ _ _ (.new hl) (m.new hl) (Sim.newL m hl hy)⟩
      · exact q.elim
    · exact q.elim
  · exact q.elim
theorem se_sortedK {X : Cx} {a : Expr} {es : List Expr} {wr : WA} {pos p : Pos} (hW : X.w = WW.w) (hc : X.calm = true) (hu : X.A.units + 66 < cLine) (hg : Gl X "sorted") (hm : X.mg "sorted" = none) (ha : SA X (a :: es) wr) (he : starEach (a :: es) X.env = (false, eval a X.env) :: starEach es X.env := by rfl) (hpl : (backTo pos (starEach es X.env)).any (·.1) = false := by rfl) : SE X (.Call (.Name "sorted" p) (a :: es) [] pos) (wCall rSortedK wr) :=
  se_callB (r := rSortedDV X.K X.w) (by rw [hW]; exact cd_sortedK) (cr_sortedDV hc hu) hg hm (by decide +kernel) ha (by decide) (by decide) he hpl
end DL

set_option maxHeartbeats 4000000
/-! DLDE: readings that stop -/
namespace DL
open PySem PySem.Spec PyProof.Rows L2
def gDc (o0 : Ob) (wi : WI) (g : Tg) (wt : WT) (wk wv : WE) (vs : List Nat) : WE := fun ρ S Q => wi ρ S fun xs G S1 => forG g (mkDc S1.length wt wk wv (wipeD ρ vs)) G (endDc S1.length Q) xs (wipeD ρ vs) (S1 ++ [o0])
theorem gDc_eq {o0 : Ob} {wi : WI} {g : Tg} {wt : WT} {wk wv : WE} {vs : List Nat} : gDc o0 wi g wt wk wv vs = wDc o0 wi g wt wk wv vs := by
  unfold gDc wDc
  rw [forG_eq]
theorem units16 [WW] {k : Nat} {A : Around} (hr : Room k A) : A.units + 16 < cLine := by
  have := units66 hr
  omega
theorem sw_dc {kx vx : Expr} {gs : List Comprehension} {scope : Scope} {pos py : Pos} {y : Str} {l : Nat} {env : PySem.Env} (hk : env.scope.kind = .function) (hy : env.scope.names.lookup y = some .local) (hl : (py.line == pos.line) = true)
    (ha : (scope.names.any fun (n, k) => n == y && (k == .local || k == .cell)) = false) : swapsWith (.DictComp kx vx gs scope pos) (some (.Name y py)) l env = pure true := by
  have ky : env.kindOf y = some .local := hy
  have hb : env.blockKind = .function := by unfold Env.blockKind; rw [hk]; rfl
  unfold swapsWith
  simp only [hb, ky, ha, Expr.pos, hl]
  rfl
end DL

set_option maxHeartbeats 4000000
/-! DLDF: insert, extend -/
namespace DL
open PySem PySem.Spec PyProof.Rows L2
variable [WW]
section
variable {K : PySem.W.Frag} {μ : Mu} {H : Hp}
theorem RepAll.takeR : ∀ {ds : List D} {vs : List V} (k : Nat), RepAll K μ H ds vs → RepAll K μ H (ds.take k) (vs.take k)
  | _, _, 0, _ => by simp; exact .nil
  | _, _, k + 1, .nil => .nil
  | _, _, k + 1, .cons r t => .cons r (RepAll.takeR k t)
theorem RepAll.dropR : ∀ {ds : List D} {vs : List V} (k : Nat), RepAll K μ H ds vs → RepAll K μ H (ds.drop k) (vs.drop k)
  | _, _, 0, r => by simpa using r
  | _, _, k + 1, .nil => .nil
  | _, _, k + 1, .cons r t => RepAll.dropR k t
end
omit [WW] in
def mInsert : RM
  | .ref n, [.int i, d], S, Q => match S[n]? with | some (.lst xs) => xs.length < sizeLine ∧ 0 ≤ i ∧ i < 2 ^ 63 ∧ Q .non (S.set n (.lst (xs.take i.toNat ++ [d] ++ xs.drop i.toNat))) | _ => False
  | _, _, _, _ => False
omit [WW] in
/-- xs.extend(ys), ys another list of the store -/
def mExtend : RM
  | .ref n, [.ref k], S, Q => match S[n]? with
    | some (.lst xs) => (match S[k]? with | some (.lst ys) => xs.length + ys.length ≤ sizeLine ∧ Q .non (S.set n (.lst (xs ++ ys))) | _ => False)
    | _ => False
  | _, _, _, _ => False
def rInsertV : V → List V → Hp → VK → Prop := fun x vs H Q => ∃ (l : Addr) (xs : List V) (i : Int) (y : V), x = .ref l ∧ vs = [.int i, y] ∧ H l = some (.lst xs) ∧ xs.length < sizeLine ∧ 0 ≤ i ∧ i < 2 ^ 63 ∧
    Q .non (upd H l (.lst (xs.take i.toNat ++ [y] ++ xs.drop i.toNat)))
theorem mt_insertV {X : Cx} : MtR X "list.insert" rInsertV := mt_insert
theorem md_insert {K : PySem.W.Frag} : MethD K rInsertV mInsert := by
  intro μ S H x v ds vs Q0 Q m rx r q p
  unfold mInsert at q
  split at q
  · rename_i n i d
    split at q
    · rename_i xs hn
      obtain ⟨a, ys, rfl, h1, h2, h3⟩ := m.at hn rx
      obtain ⟨u, w, rfl, ri, rd⟩ := r.two_inv
      rw [ri.int_inv]
      obtain ⟨q1, q2, q3, q4⟩ := q
      exact ⟨a, ys, i, w, rfl, rfl, h2, by rw [← h3.length]; exact q1, q2, q3, p _ _ q4 _ _ _ (.put m h1 h2) (m.put h1 h2 (((h3.takeR _).append (.one rd)).append (h3.dropR _))) .non⟩
    · exact q.elim
  · exact q.elim
theorem md_extend {K : PySem.W.Frag} : MethD K rExtend mExtend := by
  intro μ S H x v ds vs Q0 Q m rx r q p
  unfold mExtend at q
  split at q
  · rename_i n k
    split at q
    · rename_i xs hn
      split at q
      · rename_i zs hk
        obtain ⟨a, ys, rfl, h1, h2, h3⟩ := m.at hn rx
        obtain ⟨u, rfl, ru⟩ := r.one_inv
        obtain ⟨b, ws, rfl, k1, k2, k3⟩ := m.at hk ru
        exact ⟨a, b, ys, ws, rfl, rfl, h2, k2, by rw [← h3.length, ← k3.length]; exact q.1, p _ _ q.2 _ _ _ (.put m h1 h2) (m.put h1 h2 (h3.append k3)) .non⟩
      · exact q.elim
    · exact q.elim
  · exact q.elim
end DL

set_option maxHeartbeats 4000000
/-! DLM0: max(a, b), min(a, b) of data -/
namespace PySem
open Sem (wp)
open PySem.SeqAt PyProof.Rows
section
variable {prog : Program} {w : World} {A : Around} {E : Value → Shared → Prop} {s : Shared}
theorem call_max_twoH {a b : Value} {Q : Value → Shared → Prop}
    (h : wpAny (model prog w) A.in1 (pyIter (.ref s.heap.objs.size)) (fun it s₂ => ∃ I fp wr G n P St H bt, it = .ref I ∧ WalksS prog w A.in1 I fp wr G n P St ∧ St 0 s₂ ∧ (∀ b ∈ fp, b < s₂.heap.objs.size) ∧ 0 < n ∧
      (∀ b o, H.get? b = some o → b ∉ wr) ∧ (∀ b o, H.get? b = some o → s₂.heap.get? b = some o) ∧ CmpIn prog w A.in1 .Gt H P bt ∧ ∀ v s', P (argBest bt (n - 1)) v → Moved wr G s₂ s' → Q v s') E
      { s with heap := s.heap.push { cls := .type "tuple", data := .seq #[a, b] } }) :
    wpAny (model prog w) A (call (.builtin "max") [a, b]) Q E s := by
  have hname : (toString "max" ++ toString ".loop" : String) = "max.loop" := by decide
  refine call_function_tree F.kind_max F.plain_max F.entry_max (F.args_max2 _ _) ?_
  show wpAny _ A.in1 (Builtin.Builtins.bindParams "max" ["key", "default"] 0 ⟨[], []⟩ >>= _) _ _ s
  refine wpAny_bind (wpAny_of_eq (show Builtin.Builtins.bindParams "max" ["key", "default"] 0 ⟨[], []⟩ = pure [none, none] from rfl) ?_)
  show wpAny _ A.in1 (newTuple [a, b] >>= _) _ _ s
  refine wpAny_bind (wpAny_newObj_type ?_)
  refine wpAny_bind (wpAny_mono h (fun it s₂ h₂ => ?_) fun _ _ e => e)
  obtain ⟨I, fp, wr, G, n, P, St, H, bt, rfl, W, hst, hfp, hn, hw, hkeep, hcmp, hQ⟩ := h₂
  refine wpAny_bind (wpAny_newObj_type ?_)
  have hSf : s₂.heap.objs.size ∉ fp := fun hm => Nat.lt_irrefl _ (hfp _ hm)
  rw [hname]
  refine wpAny_pure ⟨plainId_quiet F.plain_max_loop _, codeAny_max_loop_firstH W H hw bt hcmp s₂.heap.objs.size hSf (fresh_in hkeep) _ hn (fun b o e => Heap.get?_push_of_some _ (hkeep b o e)) (W.frame 0 s₂ _ s₂.toks hst (Nat.le_refl _) fun b _ o e => Heap.get?_push_of_some _ e) (Heap.get?_push_size _ rfl) fun v s' hP hm => ?_⟩
  exact hQ v s' hP (Moved.drop_new (tk := s₂.toks) hm (Nat.le_refl _))
theorem call_min_twoH {a b : Value} {Q : Value → Shared → Prop}
    (h : wpAny (model prog w) A.in1 (pyIter (.ref s.heap.objs.size)) (fun it s₂ => ∃ I fp wr G n P St H bt, it = .ref I ∧ WalksS prog w A.in1 I fp wr G n P St ∧ St 0 s₂ ∧ (∀ b ∈ fp, b < s₂.heap.objs.size) ∧ 0 < n ∧
      (∀ b o, H.get? b = some o → b ∉ wr) ∧ (∀ b o, H.get? b = some o → s₂.heap.get? b = some o) ∧ CmpIn prog w A.in1 .Lt H P bt ∧ ∀ v s', P (argBest bt (n - 1)) v → Moved wr G s₂ s' → Q v s') E
      { s with heap := s.heap.push { cls := .type "tuple", data := .seq #[a, b] } }) :
    wpAny (model prog w) A (call (.builtin "min") [a, b]) Q E s := by
  have hname : (toString "min" ++ toString ".loop" : String) = "min.loop" := by decide
  refine call_function_tree F.kind_min F.plain_min F.entry_min (F.args_min2 _ _) ?_
  show wpAny _ A.in1 (Builtin.Builtins.bindParams "min" ["key", "default"] 0 ⟨[], []⟩ >>= _) _ _ s
  refine wpAny_bind (wpAny_of_eq (show Builtin.Builtins.bindParams "min" ["key", "default"] 0 ⟨[], []⟩ = pure [none, none] from rfl) ?_)
  show wpAny _ A.in1 (newTuple [a, b] >>= _) _ _ s
  refine wpAny_bind (wpAny_newObj_type ?_)
  refine wpAny_bind (wpAny_mono h (fun it s₂ h₂ => ?_) fun _ _ e => e)
  obtain ⟨I, fp, wr, G, n, P, St, H, bt, rfl, W, hst, hfp, hn, hw, hkeep, hcmp, hQ⟩ := h₂
  refine wpAny_bind (wpAny_newObj_type ?_)
  have hSf : s₂.heap.objs.size ∉ fp := fun hm => Nat.lt_irrefl _ (hfp _ hm)
  rw [hname]
  refine wpAny_pure ⟨plainId_quiet F.plain_min_loop _, codeAny_min_loop_firstH W H hw bt hcmp s₂.heap.objs.size hSf (fresh_in hkeep) _ hn (fun b o e => Heap.get?_push_of_some _ (hkeep b o e)) (W.frame 0 s₂ _ s₂.toks hst (Nat.le_refl _) fun b _ o e => Heap.get?_push_of_some _ e) (Heap.get?_push_size _ rfl) fun v s' hP hm => ?_⟩
  exact hQ v s' hP (Moved.drop_new (tk := s₂.toks) hm (Nat.le_refl _))
end
end PySem
namespace PySem.W
open PySem PySem.SeqAt PyProof.Rows
section
variable {prog : Program} {w : World} {A : Around} {E : Value → Shared → Prop} {s : Shared}
theorem max_two_data {a b : Value} {x y : PyData} {as bs : List Addr} {Q : Value → Shared → Prop} (hh : A.handled = none) (ra : Reads s.heap a x as) (rb : Reads s.heap b y bs) (hal : AlikeAll [x, y]) (hu : A.units + 1 + PyData.depthAll [x, y] < cLine)
    (h : ∀ h' tk, (∀ b o, s.heap.get? b = some o → h'.get? b = some o) → Q (if dataLt x y = true then b else a) { s with heap := h', toks := tk }) :
    wpAny (model prog w) A (call (.builtin "max") [a, b]) Q E s := by
  have k0 : ∀ c o, s.heap.get? c = some o → (s.heap.push { cls := .type "tuple", data := .seq #[a, b] }).get? c = some o := fun c o e => Heap.get?_push_of_some _ e
  have hT : (s.heap.push { cls := .type "tuple", data := .seq #[a, b] }).IsTuple s.heap.objs.size #[a, b] := ⟨_, Heap.get?_push_size _ rfl, rfl, 0, rfl⟩
  have hr : ReadsAll (s.heap.push { cls := .type "tuple", data := .seq #[a, b] }) (#[a, b] : Array Value).toList [x, y] (as ++ (bs ++ [])) := .cons (reads_keeps k0 ra) (.cons (reads_keeps k0 rb) .nil)
  refine call_max_twoH (iter_tupleW (A := A.in1) (s := { s with heap := s.heap.push { cls := .type "tuple", data := .seq #[a, b] } }) hh hT fun s₂ e W st hfp hw hk => ?_)
  refine ⟨_, _, _, _, _, _, _, _, _, rfl, W, st, hfp, by simp, hw, hk, cmpIn_gt (A := A.in1) hr hal (by show A.units + 1 + _ < _; exact hu), fun v s' hP m => ?_⟩
  obtain ⟨h', tk, rfl, hk'⟩ := moved_old (s := { s with heap := s.heap.push { cls := .type "tuple", data := .seq #[a, b] } }) e rfl m
  have := h h' tk fun c o q => hk' c o (k0 c o q)
  have hv : v = if dataLt x y = true then b else a := by
    cases hc : dataLt x y <;> simp [argBest, hc] at hP <;> simp [hP]
  rw [hv]
  exact this
theorem min_two_data {a b : Value} {x y : PyData} {as bs : List Addr} {Q : Value → Shared → Prop} (hh : A.handled = none) (ra : Reads s.heap a x as) (rb : Reads s.heap b y bs) (hal : AlikeAll [x, y]) (hu : A.units + 1 + PyData.depthAll [x, y] < cLine)
    (h : ∀ h' tk, (∀ b o, s.heap.get? b = some o → h'.get? b = some o) → Q (if dataLt y x = true then b else a) { s with heap := h', toks := tk }) :
    wpAny (model prog w) A (call (.builtin "min") [a, b]) Q E s := by
  have k0 : ∀ c o, s.heap.get? c = some o → (s.heap.push { cls := .type "tuple", data := .seq #[a, b] }).get? c = some o := fun c o e => Heap.get?_push_of_some _ e
  have hT : (s.heap.push { cls := .type "tuple", data := .seq #[a, b] }).IsTuple s.heap.objs.size #[a, b] := ⟨_, Heap.get?_push_size _ rfl, rfl, 0, rfl⟩
  have hr : ReadsAll (s.heap.push { cls := .type "tuple", data := .seq #[a, b] }) (#[a, b] : Array Value).toList [x, y] (as ++ (bs ++ [])) := .cons (reads_keeps k0 ra) (.cons (reads_keeps k0 rb) .nil)
  refine call_min_twoH (iter_tupleW (A := A.in1) (s := { s with heap := s.heap.push { cls := .type "tuple", data := .seq #[a, b] } }) hh hT fun s₂ e W st hfp hw hk => ?_)
  refine ⟨_, _, _, _, _, _, _, _, _, rfl, W, st, hfp, by simp, hw, hk, cmpIn_lt (A := A.in1) hr hal (by show A.units + 1 + _ < _; exact hu), fun v s' hP m => ?_⟩
  obtain ⟨h', tk, rfl, hk'⟩ := moved_old (s := { s with heap := s.heap.push { cls := .type "tuple", data := .seq #[a, b] } }) e rfl m
  have := h h' tk fun c o q => hk' c o (k0 c o q)
  have hv : v = if dataLt y x = true then b else a := by
    cases hc : dataLt y x <;> simp [argBest, hc] at hP <;> simp [hP]
  rw [hv]
  exact this
end
end PySem.W

set_option maxHeartbeats 4000000
/-! DLM: max(a, b), min(a, b) of data; a in b of texts -/
namespace DL
open PySem PySem.Spec PyProof.Rows L2
variable [WW]
mutual
theorem alike_symm : ∀ x y : PyData, PySem.W.alike x y = PySem.W.alike y x
  | .list xs, y => by cases y <;> simp [PySem.W.alike, alikeAll_symm xs]
  | .tuple xs, y => by cases y <;> simp [PySem.W.alike, alikeAll_symm xs]
  | .none, y => by cases y <;> simp [PySem.W.alike]
  | .bool _, y => by cases y <;> simp [PySem.W.alike]
  | .int _, y => by cases y <;> simp [PySem.W.alike]
  | .str _, y => by cases y <;> simp [PySem.W.alike]
  | .dict _, y => by cases y <;> simp [PySem.W.alike]
theorem alikeAll_symm : ∀ xs ys : List PyData, PySem.W.alikeAll xs ys = PySem.W.alikeAll ys xs
  | [], [] => rfl
  | [], _ :: _ => by simp [PySem.W.alikeAll]
  | _ :: _, [] => by simp [PySem.W.alikeAll]
  | x :: xs, y :: ys => by rw [PySem.W.alikeAll, PySem.W.alikeAll, alike_symm x y, alikeAll_symm xs ys]
end
mutual
theorem alike_self : ∀ x : PyData, x.canLay0 = true → PySem.W.alike x x = true
  | .list xs, h => by rw [PySem.W.alike]; exact alikeAll_self xs (by simpa [PyData.canLay0] using h)
  | .tuple xs, h => by rw [PySem.W.alike]; exact alikeAll_self xs (by simpa [PyData.canLay0] using h)
  | .none, _ => rfl
  | .bool _, _ => rfl
  | .int _, _ => rfl
  | .str _, _ => rfl
  | .dict _, h => by simp [PyData.canLay0] at h
theorem alikeAll_self : ∀ xs : List PyData, PyData.canLayAll0 xs = true → PySem.W.alikeAll xs xs = true
  | [], _ => by simp [PySem.W.alikeAll]
  | x :: xs, h => by
    rw [PyData.canLayAll0, Bool.and_eq_true] at h
    rw [PySem.W.alikeAll, alike_self x h.1, alikeAll_self xs h.2]
    rfl
end
def rPickV (K : PySem.W.Frag) (g : Int → Int → Int) (f : PyData → PyData → Bool) : List V → Hp → VK → Prop := fun vs H Q => (∃ i j, vs = [.int i, .int j] ∧ Q (.int (g i j)) H) ∨
  ∃ x y d e, vs = [x, y] ∧ Dp K H x d ∧ Dp K H y e ∧ SeqAt.shaped d = true ∧ SeqAt.shaped e = true ∧ PySem.W.alike d e = true ∧ d ≠ .none ∧ e ≠ .none ∧ Q (if f d e = true then y else x) H
omit [WW] in
def rPick (g : Int → Int → Int) (f : PyData → PyData → Bool) : RC
  | [.int i, .int j], S, Q => Q (.int (g i j)) S
  | [x, y], S, Q => okD x ∧ okD y ∧ alikeD x y ∧ x.py ≠ .none ∧ y.py ≠ .none ∧ Q (if f x.py y.py = true then y else x) S
  | _, _, _ => False
omit [WW] in
abbrev rMax2D : RC := rPick (fun i j => if j > i then j else i) fun d e => PySem.W.dataLt d e
omit [WW] in
abbrev rMin2D : RC := rPick (fun i j => if j < i then j else i) fun d e => PySem.W.dataLt e d
section
variable {X : Cx}
theorem two_ok {d e : PyData} (h : PySem.W.alike d e = true) (hd : d.canLay0 = true) (he : e.canLay0 = true) (n1 : d ≠ .none) (n2 : e ≠ .none) : PySem.W.AlikeAll [d, e] := by
  refine ⟨fun x hx y hy => ?_, fun x hx => ?_⟩
  · simp only [List.mem_cons, List.not_mem_nil, or_false] at hx hy
    rcases hx with rfl | rfl <;> rcases hy with rfl | rfl
    · exact alike_self _ hd
    · exact h
    · rw [alike_symm]; exact h
    · exact alike_self _ he
  · simp only [List.mem_cons, List.not_mem_nil, or_false] at hx
    rcases hx with rfl | rfl
    · exact n1
    · exact n2
theorem two_room {A : Around} {d e : PyData} (hd : SeqAt.shaped d = true) (he : SeqAt.shaped e = true) (hu : A.units + 66 < cLine) : A.units + 1 + PyData.depthAll [d, e] < cLine := by
  have h1 : (d.canLay0 && decide (d.depth ≤ 64)) = true := hd
  have h2 : (e.canLay0 && decide (e.depth ≤ 64)) = true := he
  rw [Bool.and_eq_true, decide_eq_true_eq] at h1 h2
  simp only [PyData.depthAll]
  omega
theorem cr_maxV (hc : X.calm = true) (hu : X.A.units + 66 < cLine) : CallR X (.builtin "max") (rPickV X.K (fun i j => if j > i then j else i) fun d e => PySem.W.dataLt d e) := by
  intro pins s σ H xs us Q I r h
  rcases h with ⟨i, j, rfl, q⟩ | ⟨x, y, d, e, rfl, hd, he, s1, s2, al, n1, n2, q⟩
  · obtain ⟨u, w', rfl, ⟨t, rfl⟩, ⟨t', rfl⟩⟩ := vals2 r
    refine max_two_ints (I.ok.hd hc) fun h' tk k => ⟨_, H, I.kept k, ?_, q⟩
    show L2.RelV (V.int (if j > i then j else i)) _
    by_cases hj : j > i
    · rw [if_pos hj, if_pos hj]; exact ⟨_, rfl⟩
    · rw [if_neg hj, if_neg hj]; exact ⟨_, rfl⟩
  · obtain ⟨u, w', rfl, r1, r2⟩ := vals2 r
    obtain ⟨as, ra⟩ := Dp.reads I d x u hd r1
    obtain ⟨bs, rb⟩ := Dp.reads I e y w' he r2
    refine PySem.W.max_two_data (I.ok.hd hc) ra rb (two_ok al (SeqAt.canLay_of_shaped s1) (SeqAt.canLay_of_shaped s2) n1 n2) (two_room s1 s2 hu) fun h' tk k => ⟨_, H, I.kept k, ?_, q⟩
    split
    · exact r2
    · exact r1
theorem cr_minV (hc : X.calm = true) (hu : X.A.units + 66 < cLine) : CallR X (.builtin "min") (rPickV X.K (fun i j => if j < i then j else i) fun d e => PySem.W.dataLt e d) := by
  intro pins s σ H xs us Q I r h
  rcases h with ⟨i, j, rfl, q⟩ | ⟨x, y, d, e, rfl, hd, he, s1, s2, al, n1, n2, q⟩
  · obtain ⟨u, w', rfl, ⟨t, rfl⟩, ⟨t', rfl⟩⟩ := vals2 r
    refine min_two_ints (I.ok.hd hc) fun h' tk k => ⟨_, H, I.kept k, ?_, q⟩
    show L2.RelV (V.int (if j < i then j else i)) _
    by_cases hj : j < i
    · rw [if_pos hj, if_pos hj]; exact ⟨_, rfl⟩
    · rw [if_neg hj, if_neg hj]; exact ⟨_, rfl⟩
  · obtain ⟨u, w', rfl, r1, r2⟩ := vals2 r
    obtain ⟨as, ra⟩ := Dp.reads I d x u hd r1
    obtain ⟨bs, rb⟩ := Dp.reads I e y w' he r2
    refine PySem.W.min_two_data (I.ok.hd hc) ra rb (two_ok al (SeqAt.canLay_of_shaped s1) (SeqAt.canLay_of_shaped s2) n1 n2) (two_room s1 s2 hu) fun h' tk k => ⟨_, H, I.kept k, ?_, q⟩
    split
    · exact r2
    · exact r1
theorem cd_pick {K : PySem.W.Frag} {g : Int → Int → Int} {f : PyData → PyData → Bool} : CallD K (rPickV K g f) (rPick g f) := by
  intro μ S H ds vs Q0 Q m r q p
  unfold rPick at q
  split at q
  · obtain ⟨v, u, rfl, r1, r2⟩ := r.two_inv
    rw [r1.int_inv, r2.int_inv]
    exact .inl ⟨_, _, rfl, p.now m (.int _) q⟩
  · obtain ⟨v, u, rfl, r1, r2⟩ := r.two_inv
    obtain ⟨q1, q2, q3, q4, q5, q6⟩ := q
    refine .inr ⟨_, _, _, _, rfl, r1.dp (shaped_lay q1), r2.dp (shaped_lay q2), q1, q2, q3, q4, q5, ?_⟩
    split at q6
    · rename_i hk
      rw [if_pos hk]
      exact p.now m r2 q6
    · rename_i hk
      rw [if_neg hk]
      exact p.now m r1 q6
  · exact q.elim
variable {a : Expr} {es : List Expr} {wr : WA} {pos p : Pos}
theorem se_max2D (hc : X.calm = true) (hu : X.A.units + 66 < cLine) (hg : Gl X "max") (hm : X.mg "max" = none) (ha : SA X (a :: es) wr) (he : starEach (a :: es) X.env = (false, eval a X.env) :: starEach es X.env := by rfl) (hpl : (backTo pos (starEach es X.env)).any (·.1) = false := by rfl) : SE X (.Call (.Name "max" p) (a :: es) [] pos) (wCall rMax2D wr) := se_callB cd_pick (cr_maxV hc hu) hg hm (by decide +kernel) ha (by decide) (by decide) he hpl
theorem se_min2D (hc : X.calm = true) (hu : X.A.units + 66 < cLine) (hg : Gl X "min") (hm : X.mg "min" = none) (ha : SA X (a :: es) wr) (he : starEach (a :: es) X.env = (false, eval a X.env) :: starEach es X.env := by rfl) (hpl : (backTo pos (starEach es X.env)).any (·.1) = false := by rfl) : SE X (.Call (.Name "min" p) (a :: es) [] pos) (wCall rMin2D wr) := se_callB cd_pick (cr_minV hc hu) hg hm (by decide +kernel) ha (by decide) (by decide) he hpl
end
/-! a in b, texts too -/
omit [WW] in
def subS (i j : Str) : Bool := !(Builtin.Str.occurrences j i 0 j.length 1).isEmpty
omit [WW] in
def rInI (neg : Bool) : RD := fun x y S Q => match y with
  | .str j => (match x with | .str i => Q (.bl (if neg = true then !subS i j else subS i j)) S | _ => False)
  | _ => rInH neg x y S Q
def rInIV (X : Cx) (neg : Bool) : R2 := fun x y H Q => (rInV X.K neg x y H Q ∨ if neg = true then rNotInDV X.K X.w x y H Q else rInDV X.K X.w x y H Q) ∨ ∃ i j, x = .str i ∧ y = .str j ∧ Q (.bl (if neg = true then !subS i j else subS i j)) H
section
variable {X : Cx} {a b : Expr} {wa wb : WE} {pos : Pos}
theorem op_inI (neg : Bool) (hu : X.A.units + 65 < cLine) : OpR X (compareOp (if neg = true then .NotIn else .In)) (rInIV X neg) := by
  refine (op_inH neg hu).or ?_
  cases neg with
  | false => exact op_in_str
  | true => exact op_notin_str
theorem opd_inI (neg : Bool) (hW : X.w = WW.w) : OpD X.K (rInIV X neg) (rInI neg) := by
  intro μ S H x y vx vy Q0 Q m rx ry q p
  unfold rInI at q
  split at q
  · split at q
    · exact .inr ⟨_, _, rx.str_inv, ry.str_inv, p.now m (.bl _) q⟩
    · exact q.elim
  · refine .inl ?_
    rw [hW]
    exact opd_inH neg μ S H _ _ vx vy Q0 Q m rx ry q p
theorem se_inI (hW : X.w = WW.w) (hu : X.A.units + 65 < cLine) (ha : SE X a wa) (hb : SE X b wb) (hm : behindInMarks .In b = false := by first | exact nomark _ | with_unfolding_all rfl) : SE X (.Compare a [.In] [b] pos) (wOp (rInI false) wa wb) := se_cmpR (opd_inI false hW) (op_inI false hu) ha hb hm
theorem se_notInI (hW : X.w = WW.w) (hu : X.A.units + 65 < cLine) (ha : SE X a wa) (hb : SE X b wb) (hm : behindInMarks .NotIn b = false := by first | exact nomark _ | with_unfolding_all rfl) : SE X (.Compare a [.NotIn] [b] pos) (wOp (rInI true) wa wb) := se_cmpR (opd_inI true hW) (op_inI true hu) ha hb hm
theorem st_inI (hW : X.w = WW.w) (hu : X.A.units + 65 < cLine) (ha : SE X a wa) (hb : SE X b wb) (hm : behindInMarks .In b = false := by first | exact nomark _ | with_unfolding_all rfl) : ST X (.Compare a [.In] [b] pos) (wTest (wOp (rInI false) wa wb)) := st_cmpR (opd_inI false hW) (op_inI false hu) ha hb hm
theorem st_notInI (hW : X.w = WW.w) (hu : X.A.units + 65 < cLine) (ha : SE X a wa) (hb : SE X b wb) (hm : behindInMarks .NotIn b = false := by first | exact nomark _ | with_unfolding_all rfl) : ST X (.Compare a [.NotIn] [b] pos) (wTest (wOp (rInI true) wa wb)) := st_cmpR (opd_inI true hW) (op_inI true hu) ha hb hm
end
end DL

set_option maxHeartbeats 4000000
/-! DLO: plain data (ints, texts, None, tuples of these): equality, keys, order -/
namespace DL
open PySem PySem.Spec PyProof.Rows L2
mutual
def smp : D → Bool
  | .non => true
  | .int _ => true
  | .str x => PyData.strOk x
  | .tup ds => smpL ds
  | _ => false
def smpL : List D → Bool
  | [] => true
  | d :: ds => smp d && smpL ds
end
theorem smpL_iff : ∀ {ds : List D}, smpL ds = true ↔ ∀ d ∈ ds, smp d = true
  | [] => by simp [smpL]
  | d :: ds => by rw [smpL, Bool.and_eq_true, smpL_iff (ds := ds)]; simp
mutual
theorem smp_lay : ∀ {d : D}, smp d = true → d.py.canLay0 = true
  | .non, _ => by simp [D.py, PyData.canLay0]
  | .int _, _ => by simp [D.py, PyData.canLay0]
  | .str x, h => by simpa [D.py, PyData.canLay0, smp] using h
  | .tup ds, h => by
    have := smpL_lay (ds := ds) (by simpa [smp] using h)
    simpa [D.py, PyData.canLay0] using this
  | .bl _, h => by simp [smp] at h
  | .lst _, h => by simp [smp] at h
  | .ref _, h => by simp [smp] at h
theorem smpL_lay : ∀ {ds : List D}, smpL ds = true → PyData.canLayAll0 (pyAll ds) = true
  | [], _ => by simp [pyAll, PyData.canLayAll0]
  | d :: ds, h => by
    rw [smpL, Bool.and_eq_true] at h
    rw [pyAll, PyData.canLayAll0, smp_lay h.1, smpL_lay h.2]
    rfl
end
theorem smp_plain {d : D} (h : smp d = true) : d.py.plain = true := PyData.plain_of_canLay0 _ (smp_lay h)
mutual
theorem eqv_smp : ∀ {x y : D}, smp x = true → smp y = true → (PyData.eqv x.py y.py = true ↔ x = y)
  | .non, y, _, h => by cases y <;> simp [D.py, PyData.eqv, smp] at h ⊢
  | .int i, y, _, h => by cases y <;> simp [D.py, PyData.eqv, smp] at h ⊢
  | .str i, y, _, h => by cases y <;> simp [D.py, PyData.eqv, smp] at h ⊢
  | .tup ds, y, h0, h => by
    cases y with
    | tup es =>
      have := eqv_smpL (xs := ds) (ys := es) (by simpa [smp] using h0) (by simpa [smp] using h)
      simpa [D.py, PyData.eqv] using this
    | _ => simp [D.py, PyData.eqv, smp] at h ⊢
  | .bl _, _, h, _ => by simp [smp] at h
  | .lst _, _, h, _ => by simp [smp] at h
  | .ref _, _, h, _ => by simp [smp] at h
theorem eqv_smpL : ∀ {xs ys : List D}, smpL xs = true → smpL ys = true → (PyData.eqvAll (pyAll xs) (pyAll ys) = true ↔ xs = ys)
  | [], [], _, _ => by simp [pyAll, PyData.eqvAll]
  | [], _ :: _, _, _ => by simp [pyAll, PyData.eqvAll]
  | _ :: _, [], _, _ => by simp [pyAll, PyData.eqvAll]
  | x :: xs, y :: ys, h1, h2 => by
    rw [smpL, Bool.and_eq_true] at h1 h2
    rw [pyAll, pyAll, PyData.eqvAll, Bool.and_eq_true, eqv_smp h1.1 h2.1, eqv_smpL h1.2 h2.2]
    simp
end
theorem eqv_ne {x y : D} (h1 : smp x = true) (h2 : smp y = true) (h : x ≠ y) : eqv x y = false := by
  cases e : eqv x y with
  | false => rfl
  | true => exact absurd ((eqv_smp h1 h2).mp e) h
theorem eqv_self {x : D} (h1 : smp x = true) : eqv x x = true := (eqv_smp h1 h1).mpr rfl
theorem eqv_enc {α : Type} [DecidableEq α] {f : α → D} {a b : α} (h1 : smp (f a) = true) (h2 : smp (f b) = true) (hi : f a = f b → a = b) : eqv (f a) (f b) = decide (a = b) := by
  by_cases e : a = b
  · subst e
    rw [eqv_self h1]
    simp
  · rw [eqv_ne h1 h2 (fun q => e (hi q))]
    simp [e]
mutual
theorem keyD_smp : ∀ {x : D}, smp x = true → ∃ k, keyD x = some k
  | .non, _ => ⟨_, rfl⟩
  | .int _, _ => ⟨_, rfl⟩
  | .str _, _ => ⟨_, rfl⟩
  | .tup ds, h => by
    obtain ⟨ks, e⟩ := keyDs_smp (xs := ds) (by simpa [smp] using h)
    exact ⟨.tup ks, by rw [keyD, e]; rfl⟩
  | .bl _, h => by simp [smp] at h
  | .lst _, h => by simp [smp] at h
  | .ref _, h => by simp [smp] at h
theorem keyDs_smp : ∀ {xs : List D}, smpL xs = true → ∃ k, keyDs xs = some k
  | [], _ => ⟨_, rfl⟩
  | x :: xs, h => by
    rw [smpL, Bool.and_eq_true] at h
    obtain ⟨k, e1⟩ := keyD_smp h.1
    obtain ⟨ks, e2⟩ := keyDs_smp h.2
    exact ⟨k :: ks, by rw [keyDs, e1, e2]⟩
end
mutual
theorem keyD_inj : ∀ {x y : D}, smp x = true → smp y = true → keyD x = keyD y → x = y
  | .non, y, _, h, e => by
    cases y with
    | tup ds =>
      rw [keyD, keyD] at e
      cases q : keyDs ds <;> rw [q] at e <;> simp at e
    | _ => simp [keyD, smp] at h e ⊢
  | .int _, y, _, h, e => by
    cases y with
    | tup ds =>
      rw [keyD, keyD] at e
      cases q : keyDs ds <;> rw [q] at e <;> simp at e
    | _ => simp [keyD, smp] at h e ⊢ <;> exact e
  | .str _, y, _, h, e => by
    cases y with
    | tup ds =>
      rw [keyD, keyD] at e
      cases q : keyDs ds <;> rw [q] at e <;> simp at e
    | _ => simp [keyD, smp] at h e ⊢ <;> exact e
  | .tup ds, y, h0, h, e => by
    have g0 : smpL ds = true := by simpa [smp] using h0
    obtain ⟨ks, e1⟩ := keyDs_smp g0
    cases y with
    | tup es =>
      have g1 : smpL es = true := by simpa [smp] using h
      obtain ⟨ks', e2⟩ := keyDs_smp g1
      rw [keyD, keyD, e1, e2] at e
      have e3 : ks = ks' := by simpa using e
      rw [keyDs_inj g0 g1 (by rw [e1, e2, e3])]
    | _ => simp [keyD, e1, smp] at h e
  | .bl _, _, h, _, _ => by simp [smp] at h
  | .lst _, _, h, _, _ => by simp [smp] at h
  | .ref _, _, h, _, _ => by simp [smp] at h
theorem keyDs_inj : ∀ {xs ys : List D}, smpL xs = true → smpL ys = true → keyDs xs = keyDs ys → xs = ys
  | [], [], _, _, _ => rfl
  | [], y :: ys, _, h, e => by
    rw [smpL, Bool.and_eq_true] at h
    obtain ⟨k, e1⟩ := keyD_smp h.1
    obtain ⟨ks, e2⟩ := keyDs_smp h.2
    rw [keyDs, keyDs, e1, e2] at e
    simp at e
  | x :: xs, [], h, _, e => by
    rw [smpL, Bool.and_eq_true] at h
    obtain ⟨k, e1⟩ := keyD_smp h.1
    obtain ⟨ks, e2⟩ := keyDs_smp h.2
    rw [keyDs, keyDs, e1, e2] at e
    simp at e
  | x :: xs, y :: ys, h1, h2, e => by
    rw [smpL, Bool.and_eq_true] at h1 h2
    obtain ⟨k1, e1⟩ := keyD_smp h1.1
    obtain ⟨ks1, e2⟩ := keyDs_smp h1.2
    obtain ⟨k2, e3⟩ := keyD_smp h2.1
    obtain ⟨ks2, e4⟩ := keyDs_smp h2.2
    rw [keyDs, keyDs, e1, e2, e3, e4] at e
    have e' : k1 = k2 ∧ ks1 = ks2 := by simpa using e
    rw [keyD_inj h1.1 h2.1 (by rw [e1, e3, e'.1]), keyDs_inj h1.2 h2.2 (by rw [e2, e4, e'.2])]
end
/-! order -/
def leD (x y : D) : Bool := PySem.W.dataLe false D.py x y
theorem leD_tot : PySem.W.TotalLe leD := PySem.W.sortLe_total (listOrd itemOrd) false fun b : D => PySem.W.keyToks b.py
theorem leD_eq {x y : D} : leD x y = !ltD y x := rfl
/-- comparable, up to the first place that differs -/
def cmpW (x y : D) : Prop := PySem.W.alikeW x.py y.py = true
theorem toks_inj {x y : PyData} (h : PySem.W.alikeW x y = true) (e : PySem.W.keyToks x = PySem.W.keyToks y) : PyData.eqv x y = true := by
  cases q : PyData.eqv x y with
  | true => rfl
  | false =>
    have h2 := (PySem.W.toks_eqvW x y h).2 q
    rw [e] at h2
    have h3 := h2 [] [.inl 0]
    rw [PySem.W.lex_pre, lex_irrefl] at h3
    cases h3
theorem leD_anti {x y : D} (hx : smp x = true) (hy : smp y = true) (h : cmpW x y) (h1 : leD x y = true) (h2 : leD y x = true) : x = y := by
  have e : PySem.W.keyToks x.py = PySem.W.keyToks y.py := by
    refine (listOrd itemOrd).total _ _ ?_ ?_
    · rw [leD_eq] at h2
      show ltD x y = false
      simpa using h2
    · rw [leD_eq] at h1
      show ltD y x = false
      simpa using h1
  exact (eqv_smp hx hy).mp (toks_inj h e)
theorem sortD_perm (xs : List D) : (sortD xs).Perm xs := List.mergeSort_perm _ _
theorem sortD_pw (xs : List D) : (sortD xs).Pairwise (fun x y => leD x y = true) := PySem.W.sort_pairwise leD_tot xs
theorem pw_uniq {α : Type} {le : α → α → Prop} : ∀ {xs ys : List α}, xs.Perm ys → xs.Pairwise le → ys.Pairwise le → (∀ x ∈ xs, ∀ y ∈ xs, le x y → le y x → x = y) → xs = ys
  | [], ys, p, _, _, _ => (List.nil_perm.mp p).symm
  | x :: xs, [], p, _, _, _ => absurd p.symm (by simp)
  | x :: xs, y :: ys, p, h1, h2, ha => by
    have e : x = y := by
      have m1 : x ∈ y :: ys := p.mem_iff.mp List.mem_cons_self
      have m2 : y ∈ x :: xs := p.mem_iff.mpr List.mem_cons_self
      rcases List.mem_cons.mp m1 with e | m1
      · exact e
      · rcases List.mem_cons.mp m2 with e | m2
        · exact e.symm
        · exact ha x List.mem_cons_self y (List.mem_cons_of_mem _ m2) ((List.pairwise_cons.mp h1).1 y m2) ((List.pairwise_cons.mp h2).1 x m1)
    subst e
    rw [pw_uniq ((List.perm_cons x).mp p) (List.pairwise_cons.mp h1).2 (List.pairwise_cons.mp h2).2 fun a ha' b hb => ha a (List.mem_cons_of_mem _ ha') b (List.mem_cons_of_mem _ hb)]
/-- a list of such data, sorted, is what it is -/
theorem sortD_is {xs ys : List D} (p : ys.Perm xs) (h : ys.Pairwise (fun x y => leD x y = true)) (hs : ∀ x ∈ xs, smp x = true) (ha : ∀ x ∈ xs, ∀ y ∈ xs, cmpW x y) : sortD xs = ys :=
  pw_uniq ((sortD_perm xs).trans p.symm) (sortD_pw xs) h fun x hx y hy h1 h2 => leD_anti (hs x ((sortD_perm xs).mem_iff.mp hx)) (hs y ((sortD_perm xs).mem_iff.mp hy)) (ha x ((sortD_perm xs).mem_iff.mp hx) y ((sortD_perm xs).mem_iff.mp hy)) h1 h2
/-- typed -/
theorem sortD_typed {α : Type} {f : α → D} (xs : List α) : ∃ ys : List α, ys.Perm xs ∧ sortD (xs.map f) = ys.map f ∧ ys.Pairwise (fun x y => leD (f x) (f y) = true) := by
  obtain ⟨ys, h1, h2⟩ := sortD_map (f := f) xs
  refine ⟨ys, h1, h2, ?_⟩
  have := sortD_pw (xs.map f)
  rw [h2] at this
  exact List.pairwise_map.mp this
theorem sortD_typed_is {α : Type} {f : α → D} {xs ys : List α} (p : ys.Perm xs) (h : ys.Pairwise (fun x y => leD (f x) (f y) = true)) (hs : ∀ x ∈ xs, smp (f x) = true) (ha : ∀ x ∈ xs, ∀ y ∈ xs, cmpW (f x) (f y)) : sortD (xs.map f) = ys.map f := by
  refine sortD_is (p.map f) (List.pairwise_map.mpr h) (fun x hx => ?_) fun x hx y hy => ?_
  · obtain ⟨a, ha', rfl⟩ := List.mem_map.mp hx
    exact hs a ha'
  · obtain ⟨a, ha', rfl⟩ := List.mem_map.mp hx
    obtain ⟨b, hb', rfl⟩ := List.mem_map.mp hy
    exact ha a ha' b hb'
theorem sort_okW {α : Type} {f : α → D} {xs : List α} (h : ∀ x ∈ xs, smp (f x) = true ∧ (f x).py.depth ≤ 60) (ht : ∀ x ∈ xs, ∃ a r, (f x).py = .tuple (a :: r)) (ha : ∀ x ∈ xs, ∀ y ∈ xs, cmpW (f x) (f y)) : SortOkD (xs.map f) := by
  refine ⟨⟨fun x hx y hy => ?_, fun x hx => ?_⟩, .inl fun x hx => ?_, okD_lst fun d hd => ?_⟩
  · rw [pyAll_map, List.map_map] at hx hy
    obtain ⟨p, hp, rfl⟩ := List.mem_map.mp hx
    obtain ⟨r, hr, rfl⟩ := List.mem_map.mp hy
    exact ha p hp r hr
  · rw [pyAll_map, List.map_map] at hx
    obtain ⟨p, hp, rfl⟩ := List.mem_map.mp hx
    exact smp_plain (h p hp).1
  · rw [pyAll_map, List.map_map] at hx
    obtain ⟨p, hp, rfl⟩ := List.mem_map.mp hx
    exact ht p hp
  · obtain ⟨p, hp, rfl⟩ := List.mem_map.mp hd
    exact ⟨smp_lay (h p hp).1, (h p hp).2⟩
/-- tuples whose first items differ: these tell -/
theorem ltD_head {a b : D} {r s : List D} (h : cmpW a b) (e : eqv a b = false) : ltD (.tup (a :: r)) (.tup (b :: s)) = ltD a b := by
  unfold ltD
  rw [D.py, D.py, pyAll, pyAll, PySem.W.dataLt_tuple]
  exact PySem.W.dataLt_all_noW h e
theorem ltD_same {a b : D} {r s : List D} (h : cmpW a b) (e : eqv a b = true) : ltD (.tup (a :: r)) (.tup (b :: s)) = ltD (.tup r) (.tup s) := by
  unfold ltD
  rw [D.py, D.py, D.py, D.py, pyAll, pyAll, PySem.W.dataLt_tuple, PySem.W.dataLt_tuple]
  exact PySem.W.dataLt_all_yesW h e
theorem leD_head {a b : D} {r s : List D} (h : cmpW b a) (e : eqv b a = false) : leD (.tup (a :: r)) (.tup (b :: s)) = leD a b := by
  rw [leD_eq, leD_eq, ltD_head h e]
theorem cmpW_cons {a b : D} {r s : List D} (h : cmpW a b) (h2 : eqv a b = true → PySem.W.alikeAllW (pyAll r) (pyAll s) = true) : cmpW (.tup (a :: r)) (.tup (b :: s)) := by
  unfold cmpW
  rw [D.py, D.py, pyAll, pyAll, PySem.W.alikeW, PySem.W.alikeAllW, Bool.and_eq_true, Bool.or_eq_true]
  refine ⟨h, ?_⟩
  cases e : PyData.eqv a.py b.py with
  | false => exact .inl rfl
  | true => exact .inr (h2 e)
theorem cmpW_int {i j : Int} : cmpW (.int i) (.int j) := by simp [cmpW, D.py, PySem.W.alikeW]
theorem cmpW_str {i j : Str} : cmpW (.str i) (.str j) := by simp [cmpW, D.py, PySem.W.alikeW]
/-! dicts of typed keys -/
structure Enc {α : Type} (enc : α → D) (key : α → NestedKey) (P : α → Prop) : Prop where
  kt : ∀ a, P a → kT (enc a) = some (key a)
  inj : ∀ a b, P a → P b → key a = key b → a = b
section
variable {α β : Type} [DecidableEq α] {enc : α → D} {key : α → NestedKey} {P : α → Prop} {f : β → D}
def lookL (l : List (α × β)) (a : α) : Option β := (l.find? fun p => decide (p.1 = a)).map (·.2)
def putL (l : List (α × β)) (a : α) (b : β) : List (α × β) := if (lookL l a).isSome = true then l.map (fun p => if p.1 = a then (p.1, b) else p) else l ++ [(a, b)]
theorem Enc.kd (h : Enc enc key P) {a : α} (ha : P a) : keyD (enc a) = some (key a) := (kT_key (h.kt a ha)).1
theorem Enc.iff (h : Enc enc key P) {a b : α} (ha : P a) (hb : P b) : (keyD (enc a) = some (key b)) ↔ a = b := by
  rw [h.kd ha]
  constructor
  · intro e
    exact h.inj a b ha hb (by simpa using e)
  · intro e
    rw [e]
theorem valT_map (h : Enc enc key P) {a : α} (ha : P a) : ∀ {l : List (α × β)}, (∀ p ∈ l, P p.1) → valT (l.map fun p => (enc p.1, f p.2)) (key a) = (lookL l a).map f
  | [], _ => rfl
  | p :: l, hl => by
    have ih := valT_map h ha (l := l) fun q hq => hl q (List.mem_cons_of_mem _ hq)
    unfold valT lookL at ih ⊢
    by_cases e : p.1 = a
    · have e1 : keyD (enc p.1) = some (key a) := (h.iff (hl p List.mem_cons_self) ha).mpr e
      rw [List.map_cons, List.find?_cons_of_pos (by simpa using e1), List.find?_cons_of_pos (by simpa using e)]
      rfl
    · have e1 : ¬ keyD (enc p.1) = some (key a) := fun q => e ((h.iff (hl p List.mem_cons_self) ha).mp q)
      rw [List.map_cons, List.find?_cons_of_neg (by simpa using e1), List.find?_cons_of_neg (by simpa using e)]
      exact ih
theorem putT_map (h : Enc enc key P) {a : α} {b : β} (ha : P a) {l : List (α × β)} (hl : ∀ p ∈ l, P p.1) : putT (l.map fun p => (enc p.1, f p.2)) (enc a) (key a) (f b) = (putL l a b).map fun p => (enc p.1, f p.2) := by
  unfold putT putL
  rw [valT_map h ha hl]
  rw [Option.isSome_map]
  split
  · rw [List.map_map, List.map_map]
    refine List.map_congr_left fun p hp => ?_
    show (if keyD (enc p.1) = some (key a) then (enc p.1, f b) else (enc p.1, f p.2)) = _
    by_cases e : p.1 = a
    · rw [if_pos ((h.iff (hl p hp) ha).mpr e)]
      simp [e]
    · rw [if_neg (fun q => e ((h.iff (hl p hp) ha).mp q))]
      simp [e]
  · rw [List.map_append]
    rfl
theorem lookL_none {l : List (α × β)} {a : α} : (lookL l a).isSome = true ↔ a ∈ l.map (·.1) := by
  unfold lookL
  rw [Option.isSome_map, List.find?_isSome]
  simp only [decide_eq_true_eq, List.mem_map]
theorem lookL_eq {l : List (α × β)} {a : α} {b : β} (nd : (l.map (·.1)).Nodup) (h : (a, b) ∈ l) : lookL l a = some b := by
  induction l with
  | nil => cases h
  | cons p l ih =>
    rw [List.map_cons, List.nodup_cons] at nd
    unfold lookL
    rw [List.find?_cons]
    rcases List.mem_cons.mp h with e | h
    · subst e
      simp
    · have : p.1 ≠ a := fun e => nd.1 (List.mem_map.mpr ⟨(a, b), h, e.symm⟩)
      simp only [this, decide_false]
      exact ih nd.2 h
theorem putL_keys {l : List (α × β)} {a : α} {b : β} : (putL l a b).map (·.1) = if a ∈ l.map (·.1) then l.map (·.1) else l.map (·.1) ++ [a] := by
  unfold putL
  by_cases h : a ∈ l.map (·.1)
  · rw [if_pos (lookL_none.mpr h), if_pos h, List.map_map]
    refine List.map_congr_left fun p _ => ?_
    show (if p.1 = a then (p.1, b) else p).1 = p.1
    split <;> rfl
  · rw [if_neg (fun q => h (lookL_none.mp q)), if_neg h, List.map_append]
    rfl
theorem putL_nodup {l : List (α × β)} {a : α} {b : β} (nd : (l.map (·.1)).Nodup) : ((putL l a b).map (·.1)).Nodup := by
  rw [putL_keys]
  split
  · exact nd
  · rename_i h
    rw [List.nodup_append]
    refine ⟨nd, by simp, fun x hx y hy => ?_⟩
    rw [List.mem_singleton.mp hy]
    exact fun e => h (e ▸ hx)
theorem putL_len {l : List (α × β)} {a : α} {b : β} : (putL l a b).length ≤ l.length + 1 := by
  unfold putL
  split <;> simp
theorem putL_new {l : List (α × β)} {a : α} {b : β} (h : a ∉ l.map (·.1)) : putL l a b = l ++ [(a, b)] := by
  unfold putL
  rw [if_neg (fun q => h (lookL_none.mp q))]
end
end DL

set_option maxHeartbeats 4000000
/-! DLU: unknowns, terms, lines by content -/
namespace DL
open PySem PySem.Spec PyProof.Rows L2
inductive Unk where
  | gain (nm : Str)
  | free (i : Int)
  | sky (nm : Str) (a b : Int)
  deriving DecidableEq
def unD : Unk → D
  | .gain nm => .tup [.str "gain", .str nm]
  | .free i => .tup [.str "free", .int i]
  | .sky nm a b => .tup [.str "sky", .str nm, .tup [.int a, .int b]]
def Unk.ok : Unk → Prop
  | .gain nm => PyData.strOk nm = true
  | .free _ => True
  | .sky nm _ _ => PyData.strOk nm = true
def unK : Unk → NestedKey
  | .gain nm => .tup [.text "gain", .text nm]
  | .free i => .tup [.text "free", .num i]
  | .sky nm a b => .tup [.text "sky", .text nm, .tup [.num a, .num b]]
theorem smp_un {u : Unk} (h : u.ok) : smp (unD u) = true := by
  cases u with
  | gain nm => simp only [unD, smp, smpL, Bool.and_true, Bool.and_eq_true]; exact ⟨by decide +kernel, h⟩
  | free i => simp only [unD, smp, smpL, Bool.and_true]; decide +kernel
  | sky nm a b => simp only [unD, smp, smpL, Bool.and_true, Bool.and_eq_true]; exact ⟨by decide +kernel, h⟩
theorem gf : ("gain" : Str) ≠ "free" := by decide +kernel
theorem gs : ("gain" : Str) ≠ "sky" := by decide +kernel
theorem fs : ("free" : Str) ≠ "sky" := by decide +kernel
theorem unD_inj {u v : Unk} (h : unD u = unD v) : u = v := by
  cases u <;> cases v <;> unfold unD at h <;> injection h with h <;> injection h with h1 h2
  · injection h2 with h2; injection h2 with h2; rw [h2]
  · injection h1 with h1; exact absurd h1 gf
  · injection h1 with h1; exact absurd h1 gs
  · injection h1 with h1; exact absurd h1.symm gf
  · injection h2 with h2; injection h2 with h2; rw [h2]
  · injection h1 with h1; exact absurd h1 fs
  · injection h1 with h1; exact absurd h1.symm gs
  · injection h1 with h1; exact absurd h1.symm fs
  · injection h2 with h2 h3; injection h2 with h2; injection h3 with h3; injection h3 with h3; injection h3 with h3 h4; injection h4 with h4; injection h3 with h3; injection h4 with h4; rw [h2, h3, h4]
theorem dep_un (u : Unk) : (unD u).py.depth ≤ 2 := by
  cases u <;> simp [unD, D.py, pyAll, PyData.depth, PyData.depthAll]
theorem unEnc : Enc unD unK Unk.ok where
  kt u _ := by cases u <;> rfl
  inj u v _ _ h := by
    cases u <;> cases v <;> unfold unK at h <;> injection h with h <;> injection h with h1 h2
    · injection h2 with h2; injection h2 with h2; rw [h2]
    · injection h1 with h1; exact absurd h1 gf
    · injection h1 with h1; exact absurd h1 gs
    · injection h1 with h1; exact absurd h1.symm gf
    · injection h2 with h2; injection h2 with h2; rw [h2]
    · injection h1 with h1; exact absurd h1 fs
    · injection h1 with h1; exact absurd h1.symm gs
    · injection h1 with h1; exact absurd h1.symm fs
    · injection h2 with h2 h3; injection h2 with h2; injection h3 with h3; injection h3 with h3; injection h3 with h3 h4; injection h4 with h4; injection h3 with h3; injection h4 with h4; rw [h2, h3, h4]
theorem eqv_un {u v : Unk} (h : u.ok) (k : v.ok) : eqv (unD u) (unD v) = decide (u = v) := eqv_enc (smp_un h) (smp_un k) unD_inj
theorem cmp_un (u v : Unk) : cmpW (unD u) (unD v) := by
  cases u <;> cases v
  · exact cmpW_cons cmpW_str fun _ => by simp [pyAll, D.py, PySem.W.alikeAllW, PySem.W.alikeW]
  · exact cmpW_cons cmpW_str fun e => absurd e (by decide +kernel)
  · exact cmpW_cons cmpW_str fun e => absurd e (by decide +kernel)
  · exact cmpW_cons cmpW_str fun e => absurd e (by decide +kernel)
  · exact cmpW_cons cmpW_str fun _ => by simp [pyAll, D.py, PySem.W.alikeAllW, PySem.W.alikeW]
  · exact cmpW_cons cmpW_str fun e => absurd e (by decide +kernel)
  · exact cmpW_cons cmpW_str fun e => absurd e (by decide +kernel)
  · exact cmpW_cons cmpW_str fun e => absurd e (by decide +kernel)
  · exact cmpW_cons cmpW_str fun _ => by simp [pyAll, D.py, PySem.W.alikeAllW, PySem.W.alikeW]
theorem un_tuple (u : Unk) : ∃ a r, (unD u).py = .tuple (a :: r) := by cases u <;> exact ⟨_, _, by simp only [unD, D.py, pyAll]; rfl⟩
/-- an unknown with a factor -/
abbrev Trm := Unk × Int
def trD (t : Trm) : D := .tup [unD t.1, .int t.2]
theorem smp_tr {t : Trm} (h : t.1.ok) : smp (trD t) = true := by simp [trD, smp, smpL, smp_un h]
theorem dep_tr (t : Trm) : (trD t).py.depth ≤ 3 := by
  have := dep_un t.1
  simp only [trD, D.py, pyAll, PyData.depth, PyData.depthAll]
  omega
theorem trD_inj {s t : Trm} (h : trD s = trD t) : s = t := by
  simp only [trD, D.tup.injEq, List.cons.injEq, D.int.injEq, and_true] at h
  exact Prod.ext (unD_inj h.1) h.2
theorem cmp_tr (s t : Trm) : cmpW (trD s) (trD t) := cmpW_cons (cmp_un _ _) fun _ => by simp [pyAll, D.py, PySem.W.alikeAllW, PySem.W.alikeW]
theorem tr_tuple (t : Trm) : ∃ a r, (trD t).py = .tuple (a :: r) := ⟨_, _, by simp only [trD, D.py, pyAll]; rfl⟩
def leU (u v : Unk) : Prop := leD (unD u) (unD v) = true
theorem leU_refl (u : Unk) : leU u u := leD_tot.refl _
theorem leU_trans {u v w : Unk} (h : leU u v) (k : leU v w) : leU u w := leD_tot.trans _ _ _ h k
theorem leU_anti {u v : Unk} (hu : u.ok) (hv : v.ok) (h : leU u v) (k : leU v u) : u = v := unD_inj (leD_anti (smp_un hu) (smp_un hv) (cmp_un _ _) h k)
theorem leD_tr {s t : Trm} (hs : s.1.ok) (ht : t.1.ok) (h : s.1 ≠ t.1) : leD (trD s) (trD t) = leD (unD s.1) (unD t.1) := leD_head (cmp_un _ _) (eqv_ne (smp_un ht) (smp_un hs) fun e => h (unD_inj e).symm)
/-- sorting terms of unlike unknowns goes by their unknowns -/
theorem sort_tr {xs : List Trm} (hok : ∀ t ∈ xs, t.1.ok) (nd : (xs.map (·.1)).Nodup) : ∃ ys : List Trm, ys.Perm xs ∧ sortD (xs.map trD) = ys.map trD ∧ (ys.map (·.1)).Pairwise leU := by
  obtain ⟨ys, h1, h2, h3⟩ := sortD_typed (f := trD) xs
  refine ⟨ys, h1, h2, List.pairwise_map.mpr ?_⟩
  have nd2 : (ys.map (·.1)).Nodup := ((h1.map (·.1)).nodup_iff).mpr nd
  have nd3 := List.pairwise_map.mp nd2
  refine (List.Pairwise.and h3 nd3).imp_of_mem fun {s t} hs ht h => ?_
  have := leD_tr (hok s (h1.mem_iff.mp hs)) (hok t (h1.mem_iff.mp ht)) h.2
  rw [h.1] at this
  exact this.symm
theorem sort_un {xs ys : List Unk} (p : ys.Perm xs) (hok : ∀ u ∈ xs, u.ok) (h : ys.Pairwise leU) : sortD (xs.map unD) = ys.map unD := sortD_typed_is p h (fun u hu => smp_un (hok u hu)) fun u _ v _ => cmp_un u v
theorem sort_un2 {xs : List Unk} (hok : ∀ u ∈ xs, u.ok) : ∃ ys : List Unk, ys.Perm xs ∧ sortD (xs.map unD) = ys.map unD ∧ ys.Pairwise leU := sortD_typed xs
theorem sortOk_un {xs : List Unk} (hok : ∀ u ∈ xs, u.ok) : SortOkD (xs.map unD) := sort_okW (fun u hu => ⟨smp_un (hok u hu), Nat.le_trans (dep_un u) (by omega)⟩) (fun u _ => un_tuple u) fun u _ v _ => cmp_un u v
theorem sortOk_tr {xs : List Trm} (hok : ∀ t ∈ xs, t.1.ok) : SortOkD (xs.map trD) := sort_okW (fun u hu => ⟨smp_tr (hok u hu), Nat.le_trans (dep_tr u) (by omega)⟩) (fun u _ => tr_tuple u) fun u _ v _ => cmp_tr u v
theorem okD_un {u : Unk} (h : u.ok) : okD (unD u) := by
  show ((unD u).py.canLay0 && decide ((unD u).py.depth ≤ 64)) = true
  rw [Bool.and_eq_true, decide_eq_true_eq]
  exact ⟨smp_lay (smp_un h), Nat.le_trans (dep_un u) (by omega)⟩
theorem okD_uns {xs : List Unk} (hok : ∀ u ∈ xs, u.ok) : okD (.lst (xs.map unD)) := okD_lst fun d hd => by
  obtain ⟨u, hu, rfl⟩ := List.mem_map.mp hd
  exact ⟨smp_lay (smp_un (hok u hu)), Nat.le_trans (dep_un u) (by omega)⟩
theorem inD_un {u : Unk} {xs : List Unk} (hu : u.ok) (hok : ∀ u ∈ xs, u.ok) : inD (unD u) (xs.map unD) = decide (u ∈ xs) := by
  unfold inD
  rw [List.any_map]
  induction xs with
  | nil => simp
  | cons v xs ih =>
    rw [List.any_cons, ih fun w hw => hok w (List.mem_cons_of_mem _ hw)]
    show (eqv (unD v) (unD u) || decide (u ∈ xs)) = _
    rw [eqv_un (hok v List.mem_cons_self) hu]
    by_cases e : v = u
    · subst e; simp
    · have e' : ¬ u = v := fun q => e q.symm
      simp [e, e']
theorem pure_un (u : Unk) : pureD (unD u) := by cases u <;> simp [unD, pureD, pureL]
theorem pure_tr (t : Trm) : pureD (trD t) := by
  have := pure_un t.1
  simp [trD, pureD, pureL, this]
mutual
theorem smp_pure : ∀ {d : D}, smp d = true → pureD d
  | .non, _ => by simp [pureD]
  | .int _, _ => by simp [pureD]
  | .str _, _ => by simp [pureD]
  | .tup ds, h => by
    have := smpL_pure (ds := ds) (by simpa [smp] using h)
    simpa [pureD] using this
  | .bl _, h => by simp [smp] at h
  | .lst _, h => by simp [smp] at h
  | .ref _, h => by simp [smp] at h
theorem smpL_pure : ∀ {ds : List D}, smpL ds = true → pureL ds
  | [], _ => by simp [pureL]
  | d :: ds, h => by
    rw [smpL, Bool.and_eq_true] at h
    rw [pureL]
    exact ⟨smp_pure h.1, smpL_pure h.2⟩
end
end DL

set_option maxHeartbeats 4000000
/-! DLN: lists added, whatever lists -/
namespace PySem.AutoSeq1
open PySem MeetsSeq
theorem list_addW (l : Addr) (items : Array Value) (n : Nat) (b : Addr) (items2 : Array Value) (n2 : Nat) (dd dd2 : Option Addr) (sl sl2 : Array (Option Value)) (hc0 : items.size + items2.size ≤ sizeLine) :
    Meets (Builtin.«list.__add__» ⟨[.ref l, .ref b], []⟩) (fun _ R s => s.heap.get? l = some { cls := .type "list", dict := dd, data := .seq items n, slots := sl } ∧ s.heap.get? b = some { cls := .type "list", dict := dd2, data := .seq items2 n2, slots := sl2 } ∧ R (.ok (.ret (Value.ref s.heap.objs.size))) { s with heap := s.heap.push { cls := Value.type "list", data := Data.seq (items ++ items2) }, toks := s.toks }) :=
  .of_wp fun prog w A R s h => by obtain ⟨hp, g, d, tk, os⟩ := s; obtain ⟨hl, hb, h⟩ := h; have f1 := idx_int; have f2 := sub_tuple_tuple; have f3 := sub_list_list; have f4 := sub_tuple_list; have f5 := sub_list_tuple; wp_walk using wpAny_loadPart' hl, wpAny_loadPart' hb; exact ⟨_, rfl, h⟩
end PySem.AutoSeq1
namespace DL
open PySem PySem.Spec PyProof.Rows L2
variable [WW]
def rCatLV (K : PySem.W.Frag) : R2 := fun x y H Q => ∃ a b xs ys, x = .ref a ∧ y = .ref b ∧ SqL K H a xs ∧ SqL K H b ys ∧ xs.length + ys.length ≤ sizeLine ∧ ∀ p, H p = none → Q (.ref p) (upd H p (.lst (xs ++ ys)))
section
variable {X : Cx}
theorem op_catL : OpR X (binaryOp .Add) (rCatLV X.K) := by
  intro pins s σ H x y v u Q I rx ry h
  obtain ⟨a, b, xs, ys, rfl, rfl, ha, hb, hz, q⟩ := h
  cases rx
  cases ry
  obtain ⟨its, r, ⟨⟨cls, dd, data, sl⟩, n, ho, hc, hd, e⟩, _⟩ := I.list ha
  obtain ⟨its2, r2, ⟨⟨cls2, dd2, data2, sl2⟩, n2, ho2, hc2, hd2, e2⟩, _⟩ := I.list hb
  simp only at hc hd e hc2 hd2 e2
  subst hc hd e hc2 hd2 e2
  have ea : its.toArray ++ its2.toArray = (its ++ its2).toArray := by simp
  refine PySem.concat_meets ⟨_, ho, rfl⟩ ⟨_, ho2, rfl⟩ PySem.noFill_list_add PySem.seq_list_add PySem.F.slot_list_add PySem.F.entry_list_add (PySem.F.args_list_add_2 _ _) (PySem.AutoSeq1.list_addW a its.toArray n b its2.toArray n2 _ _ sl sl2 (by rw [List.size_toArray, List.size_toArray, ← r.length, ← r2.length]; exact hz)) ⟨ho, ho2, ?_⟩
  rw [ea]
  exact ⟨.ref _, _, I.lnew (t' := s.toks) (r.append r2) (by rw [List.length_append]; exact hz), rfl, q _ I.fresh⟩
theorem op_addLV : OpR X (binaryOp .Add) (fun x y H Q => rAddV X.K x y H Q ∨ rCatLV X.K x y H Q) := op_addV.or op_catL
end
omit [WW] in
def listD (S : Store) : D → Option (List D)
  | .lst ds => some ds
  | .ref n => (match S[n]? with | some (.lst ds) => some ds | _ => none)
  | _ => none
omit [WW] in
def addL (a : List D) (y : D) (S : Store) (k : List D → Prop) : Prop := match listD S y with | some b => a.length + b.length ≤ sizeLine ∧ k (a ++ b) | none => False
omit [WW] in
/-- x + y: lists too, a value -/
def rAddL : RD := fun x y S Q => match x with
  | .lst a => addL a y S fun c => Q (.lst c) S
  | .ref n => (match S[n]? with | some (.lst a) => addL a y S fun c => Q (.lst c) S | _ => False)
  | _ => rAdd x y S Q
omit [WW] in
/-- .. a new list -/
def rAddLN : RD := fun x y S Q => match x with
  | .lst a => addL a y S fun c => Q (.ref S.length) (S ++ [.lst c])
  | .ref n => (match S[n]? with | some (.lst a) => addL a y S fun c => Q (.ref S.length) (S ++ [.lst c]) | _ => False)
  | _ => rAdd x y S Q
theorem listD_rep {K : PySem.W.Frag} {μ : Mu} {S : Store} {H : Hp} {ds : List D} {v : V} {d : D} (m : Sim K μ S H) (r : Rep K μ H d v) (h : listD S d = some ds) : ∃ a xs, v = .ref a ∧ SqL K H a xs ∧ RepAll K μ H ds xs := by
  cases d with
  | lst es =>
    cases h
    exact r.lstS
  | ref n =>
    have h' : (match S[n]? with | some (.lst ds) => some ds | _ => none) = some ds := h
    split at h'
    · rename_i es he
      cases h'
      obtain ⟨a, xs, rfl, hm, h1, r1⟩ := m.at he r
      exact ⟨a, xs, rfl, SqL.of h1, r1⟩
    · cases h'
  | _ => cases h
section
variable {K : PySem.W.Frag}
theorem addL_ok {μ : Mu} {S : Store} {H : Hp} {x y : D} {vx vy : V} {a : List D} {k : List D → Prop} {Q : VK} (m : Sim K μ S H) (rx : Rep K μ H x vx) (ry : Rep K μ H y vy) (hx : listD S x = some a) (q : addL a y S k) (p : ∀ c xs p, k c → RepAll K μ H c xs → H p = none → Q (.ref p) (upd H p (.lst xs))) : rCatLV K vx vy H Q := by
  unfold addL at q
  split at q
  · rename_i b hb
    obtain ⟨a1, xs, rfl, h1, r1⟩ := listD_rep m rx hx
    obtain ⟨a2, ys, rfl, h2, r2⟩ := listD_rep m ry hb
    exact ⟨a1, a2, xs, ys, rfl, rfl, h1, h2, by rw [← r1.length, ← r2.length]; exact q.1, fun l hl => p _ _ l q.2 (r1.append r2) hl⟩
  · exact q.elim
theorem opd_addL : OpD K (fun x y H Q => rAddV K x y H Q ∨ rCatLV K x y H Q) rAddL := by
  intro μ S H x y vx vy Q0 Q m rx ry q p
  unfold rAddL at q
  split at q
  · exact .inr (addL_ok m rx ry rfl q fun c xs l hk r hl => p _ S hk μ _ _ (.new hl) (m.new hl) (Sim.newL m hl r))
  · rename_i n
    split at q
    · rename_i a ha
      exact .inr (addL_ok m rx ry (show (match S[n]? with | some (.lst ds) => some ds | _ => none) = some a by rw [ha]) q fun c xs l hk r hl => p _ S hk μ _ _ (.new hl) (m.new hl) (Sim.newL m hl r))
    · exact q.elim
  · exact .inl (opd_add μ S H x y vx vy Q0 Q m rx ry q p)
theorem opd_addLN : OpD K (fun x y H Q => rAddV K x y H Q ∨ rCatLV K x y H Q) rAddLN := by
  intro μ S H x y vx vy Q0 Q m rx ry q p
  unfold rAddLN at q
  split at q
  · exact .inr (addL_ok m rx ry rfl q fun c xs l hk r hl => p _ _ hk (μ.add l) _ _ (.alloc hl) (m.alloc hl r) (Rep.refH (Sim.newR m)))
  · rename_i n
    split at q
    · rename_i a ha
      exact .inr (addL_ok m rx ry (show (match S[n]? with | some (.lst ds) => some ds | _ => none) = some a by rw [ha]) q fun c xs l hk r hl => p _ _ hk (μ.add l) _ _ (.alloc hl) (m.alloc hl r) (Rep.refH (Sim.newR m)))
    · exact q.elim
  · exact .inl (opd_add μ S H x y vx vy Q0 Q m rx ry q p)
end
section
variable {X : Cx} {a b : Expr} {wa wb : WE} {pos : Pos}
theorem se_addL (ha : SE X a wa) (hb : SE X b wb) : SE X (.BinOp a .Add b pos) (wOp rAddL wa wb) := se_op opd_addL op_addLV ha hb
theorem se_addLN (ha : SE X a wa) (hb : SE X b wb) : SE X (.BinOp a .Add b pos) (wOp rAddLN wa wb) := se_op opd_addLN op_addLV ha hb
end
section
variable {α β : Type} [DecidableEq α] {enc : α → D} {key : α → NestedKey} {P : α → Prop} {f : β → D} {S : Store} {n : Nat} {l : List (α × β)}
omit [WW] in
theorem getO_typed (E : Enc enc key P) {a : α} (ha : P a) (hS : S[n]? = some (.dT (l.map fun p => (enc p.1, f p.2)))) (hl : ∀ p ∈ l, P p.1) : getO S n (enc a) = some ((lookL l a).map f) := by
  unfold getO
  rw [hS]
  dsimp only
  rw [E.kt a ha]
  dsimp only
  rw [valT_map E ha hl]
omit [WW] in
theorem putO_typed (E : Enc enc key P) {a : α} {b : β} (ha : P a) (hS : S[n]? = some (.dT (l.map fun p => (enc p.1, f p.2)))) (hl : ∀ p ∈ l, P p.1) (hz : l.length < 16777216) : putO S n (enc a) (f b) = some (.dT ((putL l a b).map fun p => (enc p.1, f p.2))) := by
  unfold putO
  rw [hS]
  dsimp only
  rw [E.kt a ha]
  dsimp only
  rw [putT_map E ha hl, if_pos (by simpa using hz)]
end
omit [WW] in
theorem pick_at {ds : List D} {i : Int} {P : D → Prop} (h0 : 0 ≤ i) (h1 : i < ds.length) (h : ∀ x ∈ ds, P x) : (match atD ds i with | some d => P d | none => False) := by
  obtain ⟨d, e, hd⟩ := at_mem h0 h1
  rw [e]
  exact h d hd
omit [WW] in
theorem pick_ints (vs : List Int) {i : Int} {P : D → Prop} (h0 : 0 ≤ i) (h1 : i < vs.length) (h : ∀ v ∈ vs, P (.int v)) : (match atD (vs.map D.int) i with | some d => P d | none => False) :=
  pick_at h0 (by rw [List.length_map]; exact h1) fun x hx => by
    obtain ⟨v, hv, rfl⟩ := List.mem_map.mp hx
    exact h v hv
omit [WW] in
theorem pick_typed {α : Type} (f : α → D) (vs : List α) {i : Int} {P : D → Prop} (h0 : 0 ≤ i) (h1 : i < vs.length) (h : ∀ v ∈ vs, P (f v)) : (match atD (vs.map f) i with | some d => P d | none => False) :=
  pick_at h0 (by rw [List.length_map]; exact h1) fun x hx => by
    obtain ⟨v, hv, rfl⟩ := List.mem_map.mp hx
    exact h v hv
omit [WW] in
theorem pick_str {z : Str} {i : Int} {P : Nat → Prop} (hz : PyData.strOk z = true) (h0 : 0 ≤ i) (h1 : i < z.length) (h : ∀ c, PyData.strOk (chS c) = true → P c) : (match atS z i with | some c => P c | none => False) := by
  obtain ⟨c, e⟩ := atS_int h0 h1
  have hc := strOk_at hz e
  rw [e]
  exact h c hc
omit [WW] in
theorem strOk_cut {z : Str} (hz : PyData.strOk z = true) (lo hi : Option Int) : PyData.strOk (cutS z lo hi) = true := by
  show (Array.all _ _) = true
  rw [Array.all_eq_true_iff_forall_mem]
  intro c hc
  have h1 : c ∈ z.cps.toList := List.mem_of_mem_drop (List.mem_of_mem_take (by simpa [cutS] using hc))
  exact (Array.all_eq_true_iff_forall_mem.mp hz) c (by simpa using h1)
omit [WW] in
theorem cutS_len (z : Str) (lo hi : Option Int) : (cutS z lo hi).length ≤ z.length := by
  show (Array.size _) ≤ z.cps.size
  simp only [cutS, List.size_toArray, List.length_take, List.length_drop, Array.length_toList]
  omega
omit [WW] in
theorem bd_len {a b : Str} {n : Nat} (h1 : a.length ≤ n) (h2 : b.length ≤ 1000) (h : n ≤ 1000000) : a.length + b.length ≤ sizeLine := by
  rw [sizeLine_eq]
  omega
omit [WW] in
theorem items_last {S : Store} {ds : List D} : itemsD (S ++ [.lst ds]) (.ref S.length) = some ds := by
  show (match (S ++ [Ob.lst ds])[S.length]? with | some (.lst ds) => some ds | _ => none) = some ds
  rw [get_last]
omit [WW] in
mutual
theorem pure_closed {n : Nat} : ∀ {d : D}, pureD d → closedD n d
  | .non, _ => by simp [closedD]
  | .bl _, _ => by simp [closedD]
  | .int _, _ => by simp [closedD]
  | .str _, _ => by simp [closedD]
  | .tup ds, h => by
    have := pure_closedL (n := n) (ds := ds) (by simpa [pureD] using h)
    simpa [closedD] using this
  | .lst ds, h => by
    have := pure_closedL (n := n) (ds := ds) (by simpa [pureD] using h)
    simpa [closedD] using this
  | .ref _, h => by simp [pureD] at h
theorem pure_closedL {n : Nat} : ∀ {ds : List D}, pureL ds → closedL n ds
  | [], _ => by simp [closedL]
  | d :: ds, h => by
    have h' : pureD d ∧ pureL ds := by simpa [pureL] using h
    rw [closedL]
    exact ⟨pure_closed h'.1, pure_closedL h'.2⟩
end
end DL

set_option maxHeartbeats 4000000
/-! DLQ: [*a, *b], sum, index, str(int), bit_length -/
namespace DL
open PySem PySem.Spec PyProof.Rows L2
variable [WW]
omit [WW] in
def wStar (w : WE) (wr : WA) : WA := fun ρ S Q => w ρ S fun d S1 => match itemsD S1 d with | some xs => wr ρ S1 fun ds S2 => Q (xs ++ ds) S2 | none => False
section
variable {X : Cx} {e a : Expr} {wa : WE} {pos p : Pos} {es : List Expr} {wr : WA}
theorem sa_star (ha : SE X a wa) (hr : SA X es wr) (hs : starEach (.Starred a p :: es) X.env = (true, eval a X.env) :: starEach es X.env := by rfl) : SA X (.Starred a p :: es) (wStar wa wr) := pa_weak (StX.pa_star ha hr hs) fun σ H Q ⟨μ, S, ρ, Q0, m, en, q, pp⟩ => by
  refine LE.run m en q fun d S1 μ1 v H1 q1 g1 m1 e1 r1 => ?_
  split at q1
  · rename_i xs hx
    obtain ⟨l, vs, rfl, h1, rr⟩ := items_rep m1 r1 hx
    exact ⟨l, vs, rfl, h1.symm, LA.run m1 e1 q1 fun ds S2 μ2 ws H2 q2 g2 m2 e2 r2 => pp _ S2 q2 μ2 _ H2 (g1.trans g2) m2 ((rr.grow g2).append r2)⟩
  · exact q1.elim
end
/-! sum -/
omit [WW] in
def rSumD : RC
  | [x], S, Q => match listD S x with | some ds => ∃ ns : List Int, ds = ns.map .int ∧ Q (.int ns.sum) S | none => False
  | _, _, _ => False
theorem cd_sum {K : PySem.W.Frag} : CallD K (rSum K) rSumD := by
  intro μ S H ds vs Q0 Q m r q p
  unfold rSumD at q
  split at q
  · obtain ⟨v, rfl, r'⟩ := r.one_inv
    split at q
    · rename_i ds hds
      obtain ⟨ns, rfl, q⟩ := q
      obtain ⟨a, xs, rfl, h1, r1⟩ := listD_rep m r' hds
      rw [r1.ints] at h1
      exact ⟨a, ns, rfl, h1, p.now m (.int _) q⟩
    · exact q.elim
  · exact q.elim
/-! index -/
omit [WW] in
def mIndex : RM := fun x ds S Q => match ds with
  | [y] => (match listD S x with | some zs => okD y ∧ okD (.lst zs) ∧ ∃ (j : Nat) (z : D), zs[j]? = some z ∧ eqv z y = true ∧ (∀ (m : Nat) (z' : D), m < j → zs[m]? = some z' → eqv z' y = false) ∧ Q (.int (j : Nat)) S | none => False)
  | _ => False
omit [WW] in
theorem pyAll_get {zs : List D} {j : Nat} : (pyAll zs)[j]? = (zs[j]?).map D.py := by rw [pyAll_map, List.getElem?_map]
theorem md_index {K : PySem.W.Frag} : MethD K (rIndexD K) mIndex := by
  intro μ S H x v ds vs Q0 Q m rx r q p
  unfold mIndex at q
  split at q
  · rename_i y
    obtain ⟨u, rfl, ry⟩ := r.one_inv
    split at q
    · rename_i zs hz
      obtain ⟨oy, oz, j, z, hj, he, hno, q⟩ := q
      obtain ⟨a, xs, rfl, h1, r1⟩ := listD_rep m rx hz
      have hl := r1.dp (by simpa [D.py, PyData.canLay0] using shaped_lay oz)
      refine ⟨a, u, y.py, pyAll zs, j, z.py, rfl, rfl, .lst h1 hl, ry.dp (shaped_lay oy), oz, oy, by rw [pyAll_get, hj]; rfl, he, fun k z' hk hz' => ?_, p.now m (.int _) q⟩
      rw [pyAll_get] at hz'
      obtain ⟨w, hw, rfl⟩ := Option.map_eq_some_iff.mp hz'
      exact hno k w hk hw
    · exact q.elim
  · exact q.elim
/-! str(int), str(text) -/
omit [WW] in
def rStrD : RC
  | [.int i], S, Q => i.natAbs.log2 < 1920 ∧ Q (.str (toString i)) S
  | _, _, _ => False
theorem cd_str {K : PySem.W.Frag} : CallD K (fun xs H Q => ∃ i : Int, xs = [.int i] ∧ i.natAbs.log2 < 1920 ∧ Q (.str (toString i)) H) rStrD := by
  intro μ S H ds vs Q0 Q m r q p
  unfold rStrD at q
  split at q
  · obtain ⟨v, rfl, r'⟩ := r.one_inv
    rw [r'.int_inv]
    exact ⟨_, rfl, q.1, p.now m (.str _) q.2⟩
  · exact q.elim
omit [WW] in
def wBits (w : WE) : WE := fun ρ S Q => w ρ S fun d S1 => match d with | .int i => Q (.int (Builtin.Int.intBits i : Nat)) S1 | _ => False
section
variable {X : Cx} {e a o : Expr} {wa wo : WE} {pos p apos : Pos} {es : List Expr} {wr : WA}
theorem se_sum (hc : X.calm = true) (hg : Gl X "sum") (hm : X.mg "sum" = none) (ha : SA X (a :: es) wr) (he : starEach (a :: es) X.env = (false, eval a X.env) :: starEach es X.env := by rfl) (hpl : (backTo pos (starEach es X.env)).any (·.1) = false := by rfl) : SE X (.Call (.Name "sum" p) (a :: es) [] pos) (wCall rSumD wr) := se_callB cd_sum (cr_sum hc) hg hm (by decide +kernel) ha (by decide) (by decide) he hpl
theorem se_str1 (hg : Gl X "str") (hm : X.mg "str" = none) (ha : SA X (a :: es) wr) (he : starEach (a :: es) X.env = (false, eval a X.env) :: starEach es X.env := by rfl) (hpl : (backTo pos (starEach es X.env)).any (·.1) = false := by rfl) : SE X (.Call (.Name "str" p) (a :: es) [] pos) (wCall rStrD wr) := se_callTy cd_str call_str_int hg hm (by decide +kernel) ha (by decide) (by decide) he hpl
theorem se_bits (ho : SE X o wo) (hbase : attributeBase o "bit_length" X.env (eval o X.env) = eval o X.env := by rfl) (hline : (apos.endLine == pos.line) = true := by rfl) : SE X (.Call (.Attribute o "bit_length" apos) [] [] pos) (wBits wo) := pe_weak (pe_bits ho hbase hline) fun σ H Q ⟨μ, S, ρ, Q0, m, en, q, pp⟩ => by
  refine LE.run m en q fun d S1 μ1 v H1 q1 g1 m1 e1 r1 => ?_
  split at q1
  · rename_i i
    exact ⟨i, r1.int_inv, pp _ S1 q1 μ1 _ H1 g1 m1 (.int _)⟩
  · exact q1.elim
end
end DL

set_option maxHeartbeats 4000000
/-! DLR: tables of typed keys -/
namespace DL
open PySem PySem.Spec PyProof.Rows L2
section
variable {α β : Type} [DecidableEq α]
theorem lookL_nil {a : α} : lookL ([] : List (α × β)) a = none := rfl
theorem lookL_cons {p : α × β} {l : List (α × β)} {a : α} : lookL (p :: l) a = if p.1 = a then some p.2 else lookL l a := by
  unfold lookL
  by_cases h : p.1 = a
  · rw [List.find?_cons_of_pos (by simpa using h), if_pos h]
    rfl
  · rw [List.find?_cons_of_neg (by simpa using h), if_neg h]
theorem lookL_app {l m : List (α × β)} {a : α} : lookL (l ++ m) a = (lookL l a).or (lookL m a) := by
  induction l with
  | nil => rfl
  | cons p l ih =>
    rw [List.cons_append, lookL_cons, lookL_cons, ih]
    split <;> simp
theorem lookL_put {l : List (α × β)} {a c : α} {b : β} : lookL (putL l a b) c = if c = a then some b else lookL l c := by
  unfold putL
  by_cases h : (lookL l a).isSome = true
  · rw [if_pos h]
    have key : ∀ l : List (α × β), lookL (l.map fun p => if p.1 = a then (p.1, b) else p) c = if c = a then (lookL l a).map (fun _ => b) else lookL l c := by
      intro l
      induction l with
      | nil => simp [lookL_nil]
      | cons p l ih =>
        rw [List.map_cons, lookL_cons, ih, lookL_cons, lookL_cons]
        by_cases e : p.1 = a
        · rw [if_pos e, if_pos e]
          dsimp only
          by_cases e2 : c = a
          · rw [if_pos (e.trans e2.symm), if_pos e2]; rfl
          · rw [if_neg (fun q => e2 (q.symm.trans e)), if_neg e2, if_neg e2, if_neg (fun q => e2 (q.symm.trans e))]
        · rw [if_neg e, if_neg e]
          by_cases e2 : c = a
          · rw [if_neg (fun q => e (q.trans e2)), if_pos e2, if_pos e2]
          · rw [if_neg e2, if_neg e2]
    rw [key]
    by_cases e : c = a
    · rw [if_pos e, if_pos e]
      cases q : lookL l a with
      | none => rw [q] at h; cases h
      | some _ => rfl
    · rw [if_neg e, if_neg e]
  · rw [if_neg h, lookL_app, lookL_cons, lookL_nil]
    have hn : lookL l a = none := by simpa using h
    by_cases e : c = a
    · subst e
      rw [hn]
      simp
    · dsimp only
      rw [if_neg (fun q => e q.symm), if_neg e]
      simp
theorem lookL_mem {l : List (α × β)} {a : α} {b : β} (h : lookL l a = some b) : (a, b) ∈ l := by
  unfold lookL at h
  obtain ⟨p, hp, rfl⟩ := Option.map_eq_some_iff.mp h
  have h1 := List.find?_some hp
  have e : p.1 = a := by simpa using h1
  rw [← e]
  exact List.mem_of_find?_eq_some hp
theorem lookL_iff {l : List (α × β)} {a : α} {b : β} (nd : (l.map (·.1)).Nodup) : lookL l a = some b ↔ (a, b) ∈ l := ⟨lookL_mem, lookL_eq nd⟩
end
section
variable {α β : Type} [DecidableEq α] {enc : α → D} {key : α → NestedKey} {P : α → Prop} {f : β → D} {S : Store} {n : Nat} {l : List (α × β)} {o : Obj} {u : HO}
theorem getO_lk (E : Enc enc key P) {a : α} (ha : P a) (hS : S[n]? = some (.fT o u (l.map fun p => (enc p.1, f p.2)))) (hl : ∀ p ∈ l, P p.1) : getO S n (enc a) = some ((lookL l a).map f) := by
  unfold getO
  rw [hS]
  dsimp only
  rw [E.kt a ha]
  dsimp only
  rw [valT_map E ha hl]
end
theorem isDic_of {S : Store} {n : Nat} {kvs : List (D × D)} (h : S[n]? = some (.dT kvs)) : isDic S n = true := by
  unfold isDic
  rw [h]
end DL

set_option maxHeartbeats 4000000
/-! DLT: math.isqrt, == where a list of the store stands -/
namespace L2
open PySem PySem.Spec PyProof.Rows
section
variable {X : Cx}
def rIsqrt : List V → Hp → VK → Prop := fun vs H Q => ∃ a : Int, vs = [.int a] ∧ 0 ≤ a ∧ a < 2 ^ 64 ∧ Q (.int ((Float64.isqrt a.toNat : Nat) : Int)) H
theorem cr_isqrt : CallR X (.builtin "math.isqrt") rIsqrt := by
  intro pins s σ H vs us Q I r h
  obtain ⟨a, rfl, h0, h1, q⟩ := h
  obtain ⟨u, rfl, t, rfl⟩ := Vals.one r
  exact PySem.W.mg_isqrt h0 h1 ⟨.int _, H, I.tok _, ⟨_, rfl⟩, q⟩
end
end L2
namespace DL
open PySem PySem.Spec PyProof.Rows L2
variable [WW]
omit [WW] in
def rIsqrtD : RC
  | [.int a], S, Q => 0 ≤ a ∧ a < 2 ^ 64 ∧ Q (.int ((Float64.isqrt a.toNat : Nat) : Int)) S
  | _, _, _ => False
theorem cd_isqrt {K : PySem.W.Frag} : CallD K rIsqrt rIsqrtD := by
  intro μ S H ds vs Q0 Q m r q p
  unfold rIsqrtD at q
  split at q
  · obtain ⟨v, e1, r'⟩ := r.one_inv
    subst e1
    rw [r'.int_inv]
    exact ⟨_, rfl, q.1, q.2.1, p.now m (.int _) q.2.2⟩
  · exact q.elim
omit [WW] in
theorem isqrt_sq (n : Nat) : Float64.isqrt (n * n) = n := by
  obtain ⟨h1, h2⟩ := Float64.isqrt_spec (n * n)
  have a : Float64.isqrt (n * n) ≤ n := Nat.not_lt.mp fun h => by
    have k1 : (n + 1) * (n + 1) ≤ Float64.isqrt (n * n) * Float64.isqrt (n * n) := Nat.mul_le_mul h h
    have k2 : n * n < (n + 1) * (n + 1) := Nat.mul_lt_mul'' (by omega) (by omega)
    exact absurd (Nat.le_trans k1 h1) (Nat.not_le.mpr k2)
  have b : n ≤ Float64.isqrt (n * n) := Nat.not_lt.mp fun h => by
    have := Nat.mul_le_mul (Nat.succ_le_of_lt h) (Nat.succ_le_of_lt h)
    exact absurd h2 (Nat.not_lt.mpr this)
  omega
section
variable {X : Cx} {e a b : Expr} {wa wb : WE} {pos p : Pos} {es : List Expr} {wr : WA} {x : Str}
/-- from math import isqrt -/
theorem se_isqrt (hg : Gl X x) (hm : X.mg x = some (.builtin "math.isqrt")) (ha : SA X (a :: es) wr) (hdb : (x == ("__debug__" : Str)) = false := by decide)
    (he : starEach (a :: es) X.env = (false, eval a X.env) :: starEach es X.env := by rfl) (hpl : (backTo pos (starEach es X.env)).any (·.1) = false := by rfl) : SE X (.Call (.Name x p) (a :: es) [] pos) (wCall rIsqrtD wr) :=
  se_callx cd_isqrt ha (pe_callBfun cr_isqrt hg hm ha hdb he hpl)
end
/-! == where a list of the store stands -/
omit [WW] in
def valD (S : Store) : D → D
  | .ref n => (match S[n]? with | some (.lst ds) => .lst ds | _ => .ref n)
  | d => d
omit [WW] in
def rEqR : RD := fun x y S Q => okD (valD S x) ∧ okD (valD S y) ∧ Q (.bl (eqv (valD S x) (valD S y))) S
omit [WW] in
def rNeR : RD := fun x y S Q => okD (valD S x) ∧ okD (valD S y) ∧ Q (.bl (!eqv (valD S x) (valD S y))) S
theorem rep_val {K : PySem.W.Frag} {μ : Mu} {S : Store} {H : Hp} {d : D} {v : V} (m : Sim K μ S H) (r : Rep K μ H d v) (c : (valD S d).py.canLay0 = true) : Dp K H v (valD S d).py := by
  cases d with
  | ref n =>
    have e : valD S (.ref n) = (match S[n]? with | some (.lst ds) => .lst ds | _ => .ref n) := rfl
    rw [e] at c ⊢
    cases h : S[n]? with
    | none => rw [h] at c; simp [D.py, PyData.canLay0] at c
    | some o =>
      cases o with
      | lst ds =>
        rw [h] at c
        obtain ⟨a, xs, rfl, hm, h1, r1⟩ := m.at h r
        have c' : PyData.canLayAll0 (pyAll ds) = true := by simpa [D.py, PyData.canLay0] using c
        exact .lst (SqL.of h1) (RepAll.dp r1 c')
      | _ => rw [h] at c; simp [D.py, PyData.canLay0] at c
  | _ => exact r.dp c
section
variable {K : PySem.W.Frag}
theorem opd_eqR : OpD K (rEqV K) rEqR := by
  intro μ S H x y vx vy Q0 Q m rx ry q p
  obtain ⟨q1, q2, q3⟩ := q
  exact .inr ⟨_, _, rep_val m rx (shaped_lay q1), rep_val m ry (shaped_lay q2), q1, q2, p.now m (.bl _) q3⟩
theorem opd_neR : OpD K (rNeV K) rNeR := by
  intro μ S H x y vx vy Q0 Q m rx ry q p
  obtain ⟨q1, q2, q3⟩ := q
  exact .inr ⟨_, _, rep_val m rx (shaped_lay q1), rep_val m ry (shaped_lay q2), q1, q2, p.now m (.bl _) q3⟩
end
section
variable {X : Cx} {a b : Expr} {wa wb : WE} {pos : Pos}
theorem se_eqR (hu : X.A.units + 64 < cLine) (ha : SE X a wa) (hb : SE X b wb) : SE X (.Compare a [.Eq] [b] pos) (wOp rEqR wa wb) := se_cmpR opd_eqR (op_eqV hu) ha hb (nomark _)
theorem se_neR (hu : X.A.units + 64 < cLine) (ha : SE X a wa) (hb : SE X b wb) : SE X (.Compare a [.NotEq] [b] pos) (wOp rNeR wa wb) := se_cmpR opd_neR (op_neV hu) ha hb (nomark _)
theorem st_eqR (hu : X.A.units + 64 < cLine) (ha : SE X a wa) (hb : SE X b wb) : ST X (.Compare a [.Eq] [b] pos) (wTest (wOp rEqR wa wb)) := st_cmpR opd_eqR (op_eqV hu) ha hb (nomark _)
theorem st_neR (hu : X.A.units + 64 < cLine) (ha : SE X a wa) (hb : SE X b wb) : ST X (.Compare a [.NotEq] [b] pos) (wTest (wOp rNeR wa wb)) := st_cmpR opd_neR (op_neV hu) ha hb (nomark _)
end
/-! d.setdefault as a stop of the walk -/
omit [WW] in
inductive SetdG (n : Nat) (y z : D) (S : Store) (Q : D → Store → Prop) : Prop
  | mk (h : setdO n y z S Q)
omit [WW] in
def gSetd (wo wi wx : WE) : WE := fun ρ S Q => wo ρ S fun x S1 => match x with
  | .ref n => isDic S1 n = true ∧ wi ρ S1 fun y S2 => wx ρ S2 fun z S3 => SetdG n y z S3 Q
  | _ => False
omit [WW] in
theorem gSetd_eq {wo wi wx : WE} : gSetd wo wi wx = wSetd wo wi wx := by
  funext ρ S Q
  unfold gSetd wSetd
  congr 1
  funext x S1
  cases x <;> try rfl
  dsimp only
  congr 1
  congr 1
  funext y S2
  congr 1
  funext z S3
  exact propext ⟨fun h => h.1, fun h => ⟨h⟩⟩
/-! the signs of a text -/
omit [WW] in
def wStrI (w : WE) : WI := fun ρ S Q => w ρ S fun d S1 => match d with
  | .str x => Q (x.cps.toList.map fun c => .str (chS c)) (fun _ => True) S1
  | _ => False
theorem isw_str {K : PySem.W.Frag} {μ : Mu} {H : Hp} {x : Str} : IsW K μ H (Its x) (x.cps.toList.map fun c => .str (chS c)) (fun _ => True) where
  go := fun i μ2 H2 S2 hi g m _ => by show i < x.cps.size; simpa using hi
  stop := fun μ2 H2 S2 g m _ => by show x.cps.size ≤ _; simp
  yld := fun i μ2 H2 S2 y H3 hi g m _ z => by
    obtain ⟨rfl, c, hc, rfl⟩ := z
    exact ⟨.str (chS c), by rw [List.getElem?_map, Array.getElem?_toList, hc]; rfl, .refl, m, .str _⟩
theorem si_str {X : Cx} {tg l : Expr} {wa : WE} (ha : SE X l wa) : SI X tg l (wStrI wa) := pi_weak (pi_str ha) fun σ H R ⟨μ, S, ρ, Q0, m, en, q, p⟩ => by
  refine LE.run m en q fun d S1 μ1 v H1 q1 g1 m1 e1 r1 => ?_
  split at q1
  · rename_i x
    exact ⟨x, r1.str_inv, p _ _ S1 q1 μ1 _ H1 g1 m1 isw_str⟩
  · exact q1.elim
end DL

set_option maxHeartbeats 4000000
/-! DLV: a while loop run turn by turn, with so many turns left -/
namespace DL
open PySem PySem.Spec PyProof.Rows L2
def whV (c : WT) (wb : WS) (D0 : EndsD) (n : Nat) (ρ : Env) (S : Store) : Prop :=
  c ρ S fun b S1 => cIf b (wb { D0 with nx := fun ρ' S' => ∃ n', ∃ _ : n' < n, whV c wb D0 n' ρ' S', ct := fun ρ' S' => ∃ n', ∃ _ : n' < n, whV c wb D0 n' ρ' S', bk := D0.nx } ρ S1) (D0.nx ρ S1)
termination_by n
/-- so many turns left -/
structure WhN (c : WT) (wb : WS) (D0 : EndsD) (n : Nat) (ρ : Env) (S : Store) : Prop where
  go : ∃ n', n' < n ∧ whV c wb D0 n' ρ S
theorem whV_step {c : WT} {wb : WS} {D0 : EndsD} {n : Nat} {ρ : Env} {S : Store} (h : c ρ S fun b S1 => cIf b (wb { D0 with nx := WhN c wb D0 n, ct := WhN c wb D0 n, bk := D0.nx } ρ S1) (D0.nx ρ S1)) : whV c wb D0 n ρ S := by
  have e : WhN c wb D0 n = fun ρ' S' => ∃ n', ∃ _ : n' < n, whV c wb D0 n' ρ' S' := by
    funext ρ' S'
    exact propext ⟨fun h => by obtain ⟨n', a, b⟩ := h.go; exact ⟨n', a, b⟩, fun ⟨n', a, b⟩ => ⟨n', a, b⟩⟩
  rw [e] at h
  unfold whV
  exact h
theorem whN_go {c : WT} {wb : WS} {D0 : EndsD} {n : Nat} {ρ : Env} {S : Store} (h : c ρ S fun b S1 => cIf b (wb { D0 with nx := WhN c wb D0 n, ct := WhN c wb D0 n, bk := D0.nx } ρ S1) (D0.nx ρ S1)) : WhN c wb D0 (n + 1) ρ S :=
  ⟨n, Nat.lt_succ_self n, whV_step h⟩
theorem gWhile_go {c : WT} {wb : WS} {D0 : EndsD} {ρ : Env} {S : Store} (n : Nat) (h : c ρ S fun b S1 => cIf b (wb { D0 with nx := WhN c wb D0 n, ct := WhN c wb D0 n, bk := D0.nx } ρ S1) (D0.nx ρ S1)) : gWhile c wb D0 ρ S := by
  refine ⟨whV c wb D0, ⟨n, whV_step h⟩, fun n ρ S h => ?_⟩
  unfold whV at h
  have e : (fun ρ' S' => ∃ n', ∃ _ : n' < n, whV c wb D0 n' ρ' S') = fun ρ' S' => ∃ n', n' < n ∧ whV c wb D0 n' ρ' S' := by
    funext ρ' S'
    exact propext ⟨fun ⟨n', a, b⟩ => ⟨n', a, b⟩, fun ⟨n', a, b⟩ => ⟨n', a, b⟩⟩
  rw [e] at h
  exact h
end DL

set_option maxHeartbeats 4000000
/-! DLEN: enumerate over a tuple or a list -/
namespace PySem
open Sem (wp)
theorem meets_enumerate_newV {v : Value} {o : Obj} {H : Heap → Prop} (B : Begins v o H) :
    Meets (Builtin.«enumerate.__new__» ⟨[.type "enumerate", v], []⟩) (fun _ R s => H s.heap ∧
      R (.ok (.ret (.ref (s.heap.push o).objs.size))) { s with heap := (s.heap.push o).push { cls := .type "enumerate", data := .fields #[.none, .bool false, .ref s.heap.objs.size, rawInt 0, .none, .none] } }) :=
  .of_wp fun prog w A R s h => by
    obtain ⟨hp, g, d, tk, os⟩ := s; obtain ⟨h1, h⟩ := h
    have hsub := sub_enumerate
    have q1 : ∀ {A' : Around} {E : Value → Shared → Prop} {Q : Value → Shared → Prop}, Q (.ref hp.objs.size) ⟨hp.push o, g, d, tk, os⟩ → wpAny (model prog w) A' (pyIter v) Q E ⟨hp, g, d, tk, os⟩ :=
      fun q => B.iter prog w _ _ ⟨hp, g, d, tk, os⟩ _ h1 q
    wp_walk using q1
    refine wpAny_stack_any fun st => wpAny_pure ?_
    split
    · rename_i c _ _ _ _ _
      cases (c == Value.type "enumerate")
      · wp_walk using q1
        exact ⟨_, rfl, h⟩
      · wp_walk using q1
        exact ⟨_, rfl, h⟩
    · wp_walk using q1
      exact ⟨_, rfl, h⟩
section
variable {prog : Program} {w : World} {A : Around} {E : Value → Shared → Prop} {s : Shared}
theorem enum_begins1 {v : Value} {o : Obj} {H : Heap → Prop} {Q : Value → Shared → Prop} (B : Begins v o H) (h1 : H s.heap)
    (h : ∀ h', IsEnum h' (s.heap.objs.size + 1) s.heap.objs.size 0 .none → h'.get? s.heap.objs.size = some o → h'.objs.size = s.heap.objs.size + 2 →
      (∀ b o, s.heap.get? b = some o → h'.get? b = some o) → Q (.ref (s.heap.objs.size + 1)) { s with heap := h' }) :
    wpAny (model prog w) A (call (.type "enumerate") [v]) Q E s := by
  refine callType_new F.called_enumerate (by decide) (F.typeCall_enumerate_1 _) (F.newCall_enumerate_1 _) (fun obj => F.args_object_init_2 obj _) F.entry_enumerate_new
    (meets_enumerate_newV B) ⟨h1, ?_⟩
  have hz : (s.heap.push o).objs.size = s.heap.objs.size + 1 := Heap.size_push ..
  show _ ∧ _
  rw [hz]
  have he : IsEnum ((s.heap.push o).push { cls := .type "enumerate", data := .fields #[.none, .bool false, .ref s.heap.objs.size, rawInt 0, .none, .none] }) (s.heap.objs.size + 1) s.heap.objs.size 0 .none := by
    have := Heap.get?_push_size (s.heap.push o) (o := { cls := .type "enumerate", data := .fields #[.none, .bool false, .ref s.heap.objs.size, rawInt 0, .none, .none] }) rfl
    rw [hz] at this; exact this
  refine ⟨⟨_, he, rfl⟩, h _ he (Heap.get?_push_of_some _ (Heap.get?_push_size _ B.free)) (by rw [Heap.size_push, hz]) fun b o x => Heap.get?_push_of_some _ (Heap.get?_push_of_some _ x)⟩
theorem wpAny_pyNext_enum_endT {e it l : Addr} {i : Nat} {items : Array Value} {old : Value} {Q : Option Value → Shared → Prop} (hh : A.in1.handled = none)
    (he : IsEnum s.heap e it i old) (hit : s.heap.IsTupleIter it l i) (hl : s.heap.IsTuple l items) (hx : items[i]? = none)
    (hQ : ∀ h', Heap.ExtBut it s.heap h' → Q none { s with heap := h' }) : wpAny (model prog w) A (pyNext (.ref e)) Q E s := by
  have hT : s.TypeIs (.ref e) "enumerate" := ⟨_, he, rfl⟩
  unfold pyNext
  refine wpAny_bind (wpAny_attempt (wpAny_callSpecial?_slot (name := Str.ofString "__next__") hT F.slot_enumerate_next
    (wpAny_call_entry F.slot_enumerate_next hT F.entry_enumerate_next ?_ (F.args_enumerate_next_1 _))))
  show wpAny _ _ (field (.ref e) 2 >>= _) _ _ _
  refine wpAny_bind (wpAny_field he rfl (x := .ref it) rfl ?_)
  refine wpAny_bind (wpAny_nextOf_tuple_end hh hit hl hx fun h' x he' hx' => ?_)
  obtain ⟨o, ho, hc⟩ := hx'
  refine wpAny_bind (wpAny_isInstance (T := "StopIteration") (b := true) ⟨o, ho, hc⟩ isSubtype_stop ?_)
  exact wpAny_pure (hQ _ he')
end
end PySem
namespace L2
open PySem PySem.Spec PyProof.Rows
/-- the tuple at a, each item in a new pair -/
def IteT (K : PySem.W.Frag) (a : Addr) : It :=
  ⟨fun i H => ∃ (xs : List V) (x : V), SqT K H a xs ∧ xs[i]? = some x, fun i H v H' => ∃ T x, v = .ref T ∧ H T = none ∧ H' = upd H T (.tup [.int (i : Nat), x]) ∧ ∀ xs, SqT K H a xs → xs[i]? = some x, fun i H => ∃ xs : List V, SqT K H a xs ∧ xs.length ≤ i⟩
theorem turn_enumT {P : Program} {w : World} {K : PySem.W.Frag} {elts : List Expr} {kk : Nat} {tpos : Pos} (a e it : Addr) :
    Turn P w K (.Tuple elts kk tpos) (IteT K a) [e, it] e (fun i h => (∃ old, IsEnum h e it ((i : Nat) : Int) old) ∧ h.IsTupleIter it a i ∧ e ≠ it ∧ a ≠ it ∧ a ≠ e) where
  mem := by simp
  obj := fun i h st b hb => by
    obtain ⟨⟨old, he⟩, ⟨o, ho, hc, hd⟩, _⟩ := st
    have e' : b = e ∨ b = it := by simpa using hb
    rcases e' with z | z
    · rw [z]; exact ⟨_, he, fun v q => nomatch q⟩
    · rw [z]; exact ⟨o, ho, fun v q => by rw [hd] at q; cases q⟩
  keep := fun i h h' st k => let ⟨⟨old, he⟩, hi, hne⟩ := st; ⟨⟨old, k e (by simp) _ he⟩, hi.at fun o q => k it (by simp) o q, hne⟩
  item := by
    intro X hP hw hK hc i pins s σ H E I hf st hg
    subst hP hw hK
    obtain ⟨⟨old, he⟩, hit, hne, hai, hae⟩ := st
    obtain ⟨xs, x, hq, hx⟩ := hg
    obtain ⟨its, rv, p, hz⟩ := I.tuple hq
    obtain ⟨u, hu, ru⟩ := rv.get hx
    have hel : e < s.heap.objs.size := Heap.lt_size he
    have hil : it < s.heap.objs.size := by obtain ⟨_, q, _⟩ := hit; exact Heap.lt_size q
    have hlt : i < its.toArray.size := by
      obtain ⟨q, _⟩ := List.getElem?_eq_some_iff.mp hu
      simpa using q
    have hcd : X.A.in1.handled = none := I.ok.hd hc
    refine wpAny_pyNext_enum_itemD (Draws.tuple (prog := X.prog) (w := X.w) hcd it a hai its.toArray) he ⟨hit, p⟩ hlt hne (by simp [hne, Ne.symm hae]) fun y h' tk hP ho hs' hT hsz hk => ?_
    have hy : y = u := by
      have h1 : its.toArray[i]? = some y := hP
      have h2 : its.toArray[i]? = some u := by simpa using hu
      exact Option.some.inj (h1.symm.trans h2)
    subst hy
    refine ⟨_, rfl, wpAny_letOwnedTupleGo_enum (s := { s with heap := h', toks := tk + 1 }) ho fun h'' he' sb => ?_⟩
    have hT2 : h''.get? s.heap.objs.size = some { cls := .type "tuple", data := .seq #[.int i tk, y] } := (sb.2 _ (Nat.ne_of_gt hel)).trans hT
    have new : ObjOk X.prog X.w (upd H s.heap.objs.size (.tup [.int (i : Nat), x])) h'' s.heap.objs.size (.tup [.int (i : Nat), x]) :=
      ⟨by show 2 ≤ sizeLine; decide, [.int i tk, y], .cons ⟨_, rfl⟩ (.cons ru .nil), ⟨_, hT2, rfl, _, rfl⟩⟩
    have I1 : Inv X pins σ (upd H s.heap.objs.size (.tup [.int (i : Nat), x])) { s with heap := h'', toks := tk + 1 } :=
      I.turnedNew (ch := [e, it]) (fun b ob hb q => (sb.2 b (fun z => hb (by simp [z]))).trans (hk b ob (fun z => hb (by simp [z])) (fun z => hb (by simp [z])) q)) hf (Nat.le_refl _) new
    refine ⟨.ref s.heap.objs.size, _, I1, rfl, ⟨_, x, rfl, I.hok.fresh (Nat.le_refl _), rfl, fun ys hy => by rw [I.tuple_inj hy hq]; exact hx⟩, ⟨⟨y, ?_⟩, hs'.1.at fun o q => (sb.2 it (Ne.symm hne)).trans q, hne, hai, hae⟩, fun b hb => ?_⟩
    · have e1 : ((i + 1 : Nat) : Int) = (i : Int) + 1 := by omega
      rw [e1]; exact he'
    · have hb' : b < s.heap.objs.size := by
        have e' : b = e ∨ b = it := by simpa using hb
        rcases e' with z | z
        · rw [z]; exact hel
        · rw [z]; exact hil
      rw [upd_ne (Nat.ne_of_lt hb')]
      exact (hf b hb).1
  done := by
    intro X hP hw hK hc i pins s σ H E I hf st hg
    subst hP hw hK
    obtain ⟨⟨old, he⟩, hit, hne, hai, hae⟩ := st
    obtain ⟨xs, hq, hx⟩ := hg
    obtain ⟨its, rv, p, hz⟩ := I.tuple hq
    obtain ⟨f0, f1, f2, f3, f4, f5⟩ := hf it (by simp)
    have hl := rv.length
    have hcd : X.A.in1.handled = none := I.ok.hd hc
    exact wpAny_pyNext_enum_endT hcd he hit p (by simp; omega) fun h' eb => ⟨rfl, I.turned (t' := s.toks) (fun b o hb q => eb b o hb q) f0 f1 f3 f4 f5⟩
  self := fun A i s Q E st h => let ⟨⟨_, he⟩, _⟩ := st; wpAny_pyIter_enum he h
def iEnumA (K : PySem.W.Frag) (ta : TA) : TI := fun σ H R => ta σ H fun vs H1 => ∃ a xs, vs = [.ref a] ∧ ((SqL K H1 a xs ∧ R (Ite K a) H1) ∨ (SqT K H1 a xs ∧ R (IteT K a) H1))
theorem pi_enumA {X : Cx} {e : Expr} {ta : TA} {p pos tpos : Pos} {elts : List Expr} {kk : Nat} (hg : Gl X "enumerate") (hm : X.mg "enumerate" = none) (ha : PA X [e] ta) (hs : starEach [e] X.env = [(false, eval e X.env)] := by rfl) :
    PI X (.Tuple elts kk tpos) (.Call (.Name "enumerate" p) [e] [] pos) (iEnumA X.K ta) := by
  refine ⟨fun pins s σ H R I h => ?_⟩
  refine Call_ (ld_blt I hg hm boot_enumerate (PyProof.Rows.callWith_type1 (thn (ha.run pos pins s σ H _ I h) fun us s1 ⟨vs, H1, I1, r1, q1⟩ => ?_) hs rfl))
  obtain ⟨a, xs, ex, q⟩ := q1
  subst ex
  cases r1 with
  | cons r rr =>
    cases rr
    cases r
    have fresh2 : ∀ b, b ∈ [s1.heap.objs.size + 1, s1.heap.objs.size] → FpOk X pins H1 b := fun b hb => by
      have e' : b = s1.heap.objs.size + 1 ∨ b = s1.heap.objs.size := by simpa using hb
      have hle : s1.heap.objs.size ≤ b := by
        rcases e' with z | z
        · rw [z]; exact Nat.le_add_right _ _
        · rw [z]; exact Nat.le_refl _
      exact I1.fpOk hle (I1.hok.fresh hle)
    rcases q with ⟨hq, q⟩ | ⟨hq, q⟩
    · obtain ⟨its, rv, p', hz⟩ := I1.list hq
      refine call_enumerate_list p'.isList fun h' he hit hsz hk => wpAny_pyIter_enum he ?_
      have I2 : Inv X pins σ H1 { s1 with heap := h' } := I1.kept (t' := s1.toks) hk
      exact ⟨s1.heap.objs.size + 1, [s1.heap.objs.size + 1, s1.heap.objs.size], _, _, H1, rfl, I2, turn_enum a (s1.heap.objs.size + 1) s1.heap.objs.size, ⟨⟨.none, he⟩, hit, Nat.succ_ne_self _⟩, fresh2, q⟩
    · obtain ⟨its, rv, p', hz⟩ := I1.tuple hq
      have hal : a < s1.heap.objs.size := by obtain ⟨o, ho, _⟩ := id p'; exact Heap.lt_size ho
      refine enum_begins1 (begins_tuple a its.toArray) (show s1.heap.IsTuple a its.toArray from p') fun h' he hit hsz hk => wpAny_pyIter_enum he ?_
      have I2 : Inv X pins σ H1 { s1 with heap := h' } := I1.kept (t' := s1.toks) hk
      exact ⟨s1.heap.objs.size + 1, [s1.heap.objs.size + 1, s1.heap.objs.size], _, _, H1, rfl, I2, turn_enumT a (s1.heap.objs.size + 1) s1.heap.objs.size, ⟨⟨.none, he⟩, ⟨_, hit, rfl, rfl⟩, Nat.succ_ne_self _, Nat.ne_of_lt hal, Nat.ne_of_lt (Nat.lt_succ_of_lt hal)⟩, fresh2, q⟩
end L2
namespace DL
open PySem PySem.Spec PyProof.Rows L2
variable [WW] {X : Cx} {a : Expr} {wr : WA} {p pos tpos : Pos}
theorem isw_enumT {K : PySem.W.Frag} {μ : Mu} {H : Hp} {a' : Addr} {xs : List D} {G : Store → Prop} (h : AtT K μ H a' xs G) : IsW K μ H (IteT K a') (enumD 0 xs) G where
  go := fun i μ2 H2 S2 hi g m hG => by
    obtain ⟨vs, h1, h2⟩ := h.at_ μ2 H2 S2 g m hG
    rw [enumD_length, h2.length] at hi
    exact ⟨vs, vs[i], h1, by simp [hi]⟩
  stop := fun μ2 H2 S2 g m hG => by
    obtain ⟨vs, h1, h2⟩ := h.at_ μ2 H2 S2 g m hG
    exact ⟨vs, h1, by rw [enumD_length, h2.length]; exact Nat.le_refl _⟩
  yld := fun i μ2 H2 S2 x H3 hi g m hG y => by
    obtain ⟨vs, h1, h2⟩ := h.at_ μ2 H2 S2 g m hG
    obtain ⟨T, v, rfl, hT, rfl, y⟩ := y
    obtain ⟨d, e1, e2⟩ := h2.getV (y vs h1)
    exact ⟨.tup [.int ((0 + i : Nat) : Int), d], by rw [enumD_get, e1]; rfl, .new hT, m.new hT, Sim.newT (S := S2) hT (.cons (by rw [Nat.zero_add]; exact .int _) (.one e2))⟩
def wEnumerateV (w : WA) : WI := fun ρ S Q => w ρ S fun ds S1 => match ds with
  | [.tup xs] => Q (enumD 0 xs) (fun _ => True) S1
  | [x] => (match guardL S1 x with | some (es, G) => Q (enumD 0 es) G S1 | none => False)
  | _ => False
theorem si_enumerateV {elts : List Expr} {kk : Nat} (hg : Gl X "enumerate") (hm : X.mg "enumerate" = none) (ha : SA X [a] wr) (hs : starEach [a] X.env = [(false, eval a X.env)] := by rfl) :
    SI X (.Tuple elts kk tpos) (.Call (.Name "enumerate" p) [a] [] pos) (wEnumerateV wr) := pi_weak (pi_enumA hg hm ha hs) fun σ H R ⟨μ, S, ρ, Q0, m, en, q, p⟩ => by
  refine LA.run m en q fun ds S1 μ1 vs H1 q1 g1 m1 e1 r1 => ?_
  split at q1
  · obtain ⟨v, rfl, r⟩ := r1.one_inv
    cases r with
    | tup hh r => exact ⟨_, _, rfl, .inr ⟨hh, p _ _ S1 q1 μ1 _ H1 g1 m1 (isw_enumT (atT_tup hh r))⟩⟩
  · rename_i x _
    obtain ⟨v, rfl, r⟩ := r1.one_inv
    split at q1
    · rename_i es G hG
      obtain ⟨l, xs, rfl, h1, h2⟩ := guard_at m1 r hG
      exact ⟨l, xs, rfl, .inl ⟨h1, p _ _ S1 q1 μ1 _ H1 g1 m1 (isw_enum h2)⟩⟩
    · exact q1.elim
  · exact q1.elim
end DL

set_option maxHeartbeats 4000000
/-! DLZ: z = zip(a, b) over tuples; return tuple([.. for .. in z]) -/
namespace L2
open PySem PySem.Spec PyProof.Rows
/-- new objects, each as it stands -/
def updE (H : Hp) : List (Addr × Obj) → Hp
  | [] => H
  | p :: l => upd (updE H l) p.1 (.ext fun h => h.get? p.1 = some p.2)
theorem updE_old {H : Hp} {n : Nat} : ∀ {l : List (Addr × Obj)}, (∀ p ∈ l, n ≤ p.1) → ∀ {b : Addr}, b < n → updE H l b = H b
  | [], _, _, _ => rfl
  | p :: l, hl, b, hb => by
    show upd (updE H l) p.1 _ b = _
    rw [upd_ne (Nat.ne_of_lt (Nat.lt_of_lt_of_le hb (hl p (by simp)))), updE_old (fun q hq => hl q (by simp [hq])) hb]
theorem updE_out {H : Hp} : ∀ {l : List (Addr × Obj)} {b : Addr}, b ∉ l.map (·.1) → updE H l b = H b
  | [], _, _ => rfl
  | p :: l, b, hb => by
    show upd (updE H l) p.1 _ b = _
    simp only [List.map_cons, List.mem_cons, not_or] at hb
    rw [upd_ne hb.1, updE_out hb.2]
theorem updE_get {H : Hp} : ∀ {l : List (Addr × Obj)} {b : Addr} {u : HO}, updE H l b = some u → (∃ o, (b, o) ∈ l ∧ u = .ext fun h => h.get? b = some o) ∨ H b = some u
  | [], _, _, e => .inr e
  | p :: l, b, u, e => by
    by_cases hb : b = p.1
    · subst hb
      replace e : upd (updE H l) p.1 _ p.1 = some u := e
      rw [upd_same] at e
      cases e
      exact .inl ⟨p.2, by simp, rfl⟩
    · replace e : upd (updE H l) p.1 _ b = some u := e
      rw [upd_ne hb] at e
      rcases updE_get e with ⟨o, h1, h2⟩ | h
      · exact .inl ⟨o, by simp [h1], h2⟩
      · exact .inr h
section
variable {X : Cx} {pins : List (Addr × Obj)} {σ : L2.St} {H : Hp} {s : Shared}
theorem Inv.laidE {l : List (Addr × Obj)} {h' : Heap} {t' : Nat} (I : Inv X pins σ H s) (k : ∀ b u, s.heap.get? b = some u → h'.get? b = some u) (hl : ∀ p ∈ l, s.heap.objs.size ≤ p.1 ∧ h'.get? p.1 = some p.2) :
    Inv X pins σ (updE H l) { s with heap := h', toks := t' } := by
  have h1 : ∀ p ∈ l, s.heap.objs.size ≤ p.1 := fun p hp => (hl p hp).1
  have old : ∀ b u, H b = some u → updE H l b = some u := fun b u e => by rw [updE_old h1 (I.hok b u e).lt]; exact e
  refine I.un ⟨fun b u q _ _ _ => k b u q, fun b u q _ _ _ => ⟨u.slots, k b u q⟩, fun b u q n _ => by rw [updE_old h1 (Heap.lt_size q)]; exact n, fun b u q _ => ⟨u, k b u q⟩, fun b xs q => old b _ q, fun b o u q => old b _ q, fun b ps q => ⟨#[], by rw [old b _ q]; simp⟩⟩ ?_
  intro b u e
  rcases updE_get e with ⟨o, h2, rfl⟩ | h2
  · have g := (hl _ h2).2
    exact ⟨g, ⟨_, g⟩, fun a c q z => z _ q⟩
  · exact (I.hok b u h2).stay (fun c v _ q => k c v q) (fun c q => old c _ q) fun c xs q => old c _ q
theorem Inv.dropE : ∀ {l : List (Addr × Obj)}, (l.map (·.1)).Nodup → (∀ p ∈ l, H p.1 = none) → Inv X pins σ (updE H l) s → Inv X pins σ H s
  | [], _, _, I => I
  | p :: l, nd, hn, I => by
    rw [List.map_cons, List.nodup_cons] at nd
    have e : updE H l p.1 = none := by rw [updE_out nd.1]; exact hn p (by simp)
    have I1 := ItX.inv_drop (a := p.1) I (show upd (updE H l) p.1 _ p.1 = _ from upd_same)
    rw [show ItX.dropH (updE H (p :: l)) p.1 = updE H l from ItX.dropH_upd e] at I1
    exact Inv.dropE nd.2 (fun q hq => hn q (by simp [hq])) I1
theorem Inv.fpE {l : List (Addr × Obj)} (I : Inv X pins σ (updE H l) s) {p : Addr × Obj} (hp : p ∈ l) (hn : H p.1 = none) (h0 : X.s_0.heap.objs.size ≤ p.1) : FpOk X pins H p.1 := by
  have hs : ∃ u, updE H l p.1 = some u := by
    cases e : updE H l p.1 with
    | some u => exact ⟨u, rfl⟩
    | none =>
      exfalso
      clear I h0
      induction l with
      | nil => cases hp
      | cons q l ih =>
        by_cases hq : p.1 = q.1
        · rw [hq] at e
          replace e : upd (updE H l) q.1 _ q.1 = none := e
          rw [upd_same] at e
          cases e
        · rcases List.mem_cons.mp hp with rfl | hp
          · exact hq rfl
          · replace e : upd (updE H l) q.1 _ p.1 = none := e
            rw [upd_ne hq] at e
            exact ih hp e
  obtain ⟨u, hu⟩ := hs
  exact ⟨hn, (ItX.inv_fp I hu h0).2⟩
theorem Inv.getE {l : List (Addr × Obj)} (I : Inv X pins σ (updE H l) s) : (l.map (·.1)).Nodup → ∀ p ∈ l, s.heap.get? p.1 = some p.2 := by
  intro nd p hp
  have e : updE H l p.1 = some (.ext fun h => h.get? p.1 = some p.2) := by
    clear I
    induction l with
    | nil => cases hp
    | cons q l ih =>
      rw [List.map_cons, List.nodup_cons] at nd
      rcases List.mem_cons.mp hp with rfl | hp
      · exact upd_same
      · have hq : p.1 ≠ q.1 := fun z => nd.1 (z ▸ List.mem_map.mpr ⟨p, hp, rfl⟩)
        show upd (updE H l) q.1 _ p.1 = _
        rw [upd_ne hq]
        exact ih nd.2 hp
  exact (I.hok _ _ e).1
end
/-- the objects of zip(a, b) -/
structure ZipO (n0 : Nat) (H : Hp) (z TI TO i1 i2 a b : Addr) (l : List (Addr × Obj)) : Prop where
  fst : l.map (·.1) = [z, TI, TO, i1, i2]
  nd : (l.map (·.1)).Nodup
  new : ∀ p ∈ l, H p.1 = none ∧ n0 ≤ p.1
  ap : ZipApart z TI TO i1 i2 a b
  st : ∀ h : Heap, (∀ p ∈ l, h.get? p.1 = some p.2) → IsZip h z TI TO .none ∧ IsPair h TI (.ref i1) (.ref i2) ∧ (∃ x y, IsPair h TO x y) ∧ h.IsTupleIter i1 a 0 ∧ h.IsTupleIter i2 b 0
def rZipV (K : PySem.W.Frag) (n0 : Nat) : List V → Hp → VK → Prop := fun vs H Q => ∃ a b xs ys, vs = [.ref a, .ref b] ∧ SqT K H a xs ∧ SqT K H b ys ∧ ∀ z TI TO i1 i2 l, ZipO n0 H z TI TO i1 i2 a b l → Q (.ref z) (updE H l)
section
variable {X : Cx} {tg : Expr} {k : Nat} {x : Str} {p : Pos}
theorem cr_zipV : CallR X (.type "zip") (rZipV X.K X.s_0.heap.objs.size) := by
  intro pins s σ H xs us Q I r h
  obtain ⟨a, b, xs, ys, rfl, hqx, hqy, q⟩ := h
  cases r with
  | cons r rr =>
    cases rr with
    | cons r' rr =>
      cases rr
      cases r
      cases r'
      obtain ⟨its, rv, p1, _⟩ := I.tuple hqx
      obtain ⟨its2, rv2, p2, _⟩ := I.tuple hqy
      obtain ⟨o1, ho1, _⟩ := id p1
      obtain ⟨o2, ho2, _⟩ := id p2
      refine RZ.call_zipT (show s.heap.IsTuple a its.toArray from p1) (show s.heap.IsTuple b its2.toArray from p2) fun h' hz hTI hTO h1 h2 hsz hk => ?_
      obtain ⟨c1, d1, f1, g1⟩ := h1
      obtain ⟨c2, d2, f2, g2⟩ := h2
      have hN0 : X.s_0.heap.objs.size ≤ s.heap.objs.size := I.sz
      have fr : ∀ j : Addr, s.heap.objs.size ≤ j → H j = none := fun j hj => I.hok.fresh hj
      have hal : a < s.heap.objs.size := Heap.lt_size ho1
      have hbl : b < s.heap.objs.size := Heap.lt_size ho2
      obtain ⟨N, hN⟩ : ∃ N, N = s.heap.objs.size := ⟨_, rfl⟩
      rw [← hN] at hz hTI hTO d1 d2 hN0 fr hal hbl ⊢
      have hl : ∀ p ∈ [((N + 4 : Nat), ({ cls := .type "zip", dict := none, data := .fields #[.none, .bool false, .bool false, .ref (N + 2), .ref (N + 3)], slots := #[] } : Obj)), (N + 2, { cls := .type "tuple", data := .seq #[.ref N, .ref (N + 1)] }), (N + 3, { cls := .type "tuple", data := .seq #[.none, .none] }), (N, c1), (N + 1, c2)], N ≤ p.1 ∧ h'.get? p.1 = some p.2 := by
        intro p hp
        simp only [List.mem_cons, List.not_mem_nil, or_false] at hp
        rcases hp with rfl | rfl | rfl | rfl | rfl
        · exact ⟨Nat.le_add_right _ _, hz⟩
        · exact ⟨Nat.le_add_right _ _, hTI⟩
        · exact ⟨Nat.le_add_right _ _, hTO⟩
        · exact ⟨Nat.le_refl _, d1⟩
        · exact ⟨Nat.le_add_right _ _, d2⟩
      have hne : ∀ i j : Nat, i ≠ j → N + i ≠ N + j := fun i j h e => h (Nat.add_left_cancel e)
      refine ⟨.ref (N + 4), _, I.laidE (t' := s.toks) hk (fun p hp => by rw [← hN]; exact hl p hp), rfl, q (N + 4) (N + 2) (N + 3) N (N + 1) _ ⟨rfl, ?_, fun p hp => ⟨fr _ (hl p hp).1, Nat.le_trans hN0 (hl p hp).1⟩, PySem.W.ktu_apart N a b hal hbl, fun h g => ⟨g _ List.mem_cons_self, g _ (List.mem_cons_of_mem _ List.mem_cons_self), ⟨_, _, g (N + 3, { cls := .type "tuple", data := .seq #[.none, .none] }) (by simp)⟩, ⟨c1, g (N, c1) (by simp), f1, g1⟩, ⟨c2, g (N + 1, c2) (by simp), f2, g2⟩⟩⟩⟩
      simp only [List.map_cons, List.map_nil, List.nodup_cons, List.mem_cons, List.not_mem_nil, or_false, not_or]
      have e0 : N = N + 0 := rfl
      refine ⟨⟨hne 4 2 (by decide), hne 4 3 (by decide), hne 4 0 (by decide), hne 4 1 (by decide)⟩, ⟨hne 2 3 (by decide), hne 2 0 (by decide), hne 2 1 (by decide)⟩, ⟨hne 3 0 (by decide), hne 3 1 (by decide)⟩, hne 0 1 (by decide), by simp, by simp⟩
/-- the name k holds such a zip, nothing else is tracked of it -/
def iZipV (K : PySem.W.Frag) (n0 : Nat) (k : Nat) : TI := fun σ H R => ∃ z TI TO i1 i2 a b l H1, σ[k]? = some (some (.ref z)) ∧ H = updE H1 l ∧ ZipO n0 H1 z TI TO i1 i2 a b l ∧ R (RZ.ItzT K a b) H1
theorem pi_zipV {elts : List Expr} {kk : Nat} {tpos : Pos} (hN : X.N[k]? = some x) (hv : Vis X.env.scope x) (hd : (x == ("__debug__" : Str)) = false := by decide) (hcd : (x == ("__classdict__" : Str)) = false := by decide) : PI X (.Tuple elts kk tpos) (.Name x p) (iZipV X.K X.s_0.heap.objs.size k) := by
  refine ⟨fun pins s σ H R I h => ?_⟩
  obtain ⟨z, TI, TO, i1, i2, a, b, l, H1, hs, rfl, zo, q⟩ := h
  refine thn ((pe_var (pos := p) (i := k) hN hv hd hcd).run pins s σ _ (fun v H2 => v = .ref z ∧ H2 = updE H1 l) I ⟨.ref z, hs, rfl, rfl⟩) fun u s1 ⟨v, H2, I1, r1, ev, eH⟩ => ?_
  subst ev
  subst eH
  cases r1
  have st := zo.st s1.heap (I1.getE zo.nd)
  refine (RZ.turn_zipT (P := X.prog) (w := X.w) (K := X.K) (elts := elts) (kk := kk) (tpos := tpos) zo.ap).self X.A 0 s1 _ _ st ?_
  refine ⟨z, [z, TI, TO, i1, i2], _, _, H1, rfl, I1.dropE zo.nd (fun p hp => (zo.new p hp).1), RZ.turn_zipT zo.ap, st, fun c hc => ?_, q⟩
  rw [← zo.fst] at hc
  obtain ⟨p, hp, rfl⟩ := List.mem_map.mp hc
  exact I1.fpE hp (zo.new p hp).1 (zo.new p hp).2
end
end L2
namespace DL
open PySem PySem.Spec PyProof.Rows L2
variable [WW]
section
variable {X : Cx} {elt tg iter : Expr} {ifs : List Expr} {scope : Scope} {own : List (Str × Nat)} {pos spos : Pos} {g : Tg} {wt : WT} {we : WE}
theorem comp_body {K : PySem.W.Frag} {vs : List Nat} (hsl : ∀ i ∈ g.slots, i ∈ vs) {σ : L2.St} {H1 : Hp} {Q : VK} {μ1 : Mu} {S1 : Store} {ρ : Env} {Q0 : D → Store → Prop} {xs : List D} {G : Store → Prop} {J : It} (m1 : Sim K μ1 S1 H1) (en : EnvR K μ1 H1 ρ σ) (w1 : IsW K μ1 H1 J xs G) (q1 : compR g wt we G (wipeD ρ vs) Q0 xs [] S1)
    (fin : ∀ Dl acc S' μ' H' ys, H1 Dl = none → Dl ∉ μ1.rs → Q0 (.lst acc) S' → Grow μ1 H1 μ' H' → Sim K μ' S' H' → Dl ∈ μ'.rs → H' Dl = some (.lst ys) → RepAll K μ' H' acc ys → Q (.ref Dl) H') :
    ∀ D, H1 D = none → ∃ W : Nat → Nat → Hp → Prop, (∃ m, W 0 m (upd H1 D (.lst []))) ∧ ∀ i m H, W i m H →
      (J.stop i H ∧ Q (.ref D) H) ∨ (J.go i H ∧ ∃ Nx : Hp → Prop, (∀ H', Nx H' → ∃ m', m' < m ∧ W (i + 1) m' H') ∧ ∀ x H', J.yld i H x H' → (g.toV K) x (wipe σ vs) H' fun σ2 H2 => wipe σ2 vs = wipe σ vs ∧ (LT K wt) σ2 H2 fun b H3 =>
        if b = true then (LE K we) σ2 H3 fun y H4 => ∃ acc, H4 D = some (.lst acc) ∧ acc.length < sizeLine ∧ Nx (upd H4 D (.lst (acc ++ [y]))) else Nx H3) := by
  intro Dl hD
  have nD : Dl ∉ μ1.rs := fun z => m1.notin hD (.inr z)
  have nDs : ¬ μ1.has Dl := m1.notin hD
  refine ⟨fun i n H' => n = xs.length - i ∧ i ≤ xs.length ∧ ∃ μ' S' acc ys, Grow μ1 H1 μ' H' ∧ Sim K μ' S' H' ∧ Dl ∈ μ'.rs ∧ H' Dl = some (.lst ys) ∧ RepAll K μ' H' acc ys ∧ compR g wt we G (wipeD ρ vs) Q0 (xs.drop i) acc S',
    ⟨xs.length, by simp, Nat.zero_le _, μ1.res Dl, S1, [], [], .res hD, m1.res hD, List.mem_cons_self, upd_same, .nil, by simpa using q1⟩, ?_⟩
  rintro i n H' ⟨rfl, hi, μ', S', acc, ys, g2, m2, hDl, hH, r2, f⟩
  have hG := compR_G f
  by_cases hlt : i < xs.length
  · refine .inr ⟨w1.go i μ' H' S' hlt g2 m2 hG, fun H2 => ∃ μ2 S2 acc2 ys2, Grow μ1 H1 μ2 H2 ∧ Sim K μ2 S2 H2 ∧ Dl ∈ μ2.rs ∧ H2 Dl = some (.lst ys2) ∧ RepAll K μ2 H2 acc2 ys2 ∧ compR g wt we G (wipeD ρ vs) Q0 (xs.drop (i + 1)) acc2 S2, fun H2 h => ⟨xs.length - (i + 1), by omega, rfl, hlt, h⟩, fun x H3 y => ?_⟩
    obtain ⟨d, hd, g3, m3, r3⟩ := w1.yld i μ' H' S' x H3 hlt g2 m2 hG y
    rw [drop_cons hd] at f
    obtain ⟨_, f⟩ := f
    split at f
    · rename_i ρ3 hb3
      have en1 := wipe_R (en.grow (g2.trans g3)) vs
      refine bind_ok vs g d (wipeD ρ vs) ρ3 x (wipe σ vs) _ hb3 r3 en1 fun σ3 e3 hw3 => ⟨?_, ?_⟩
      · have e : wipe σ3 vs = wipe (wipe σ vs) vs := hw3 hsl
        rw [e]
        apply List.ext_getElem?
        intro j
        by_cases hj : ∃ z, (wipe (wipe σ vs) vs)[j]? = some (some z)
        · obtain ⟨z, hz⟩ := hj
          rw [hz, (wipe_some hz).1]
        · by_cases hj2 : ∃ z, (wipe σ vs)[j]? = some (some z)
          · obtain ⟨z, hz⟩ := hj2
            have hn := (wipe_some hz).2
            exact absurd ⟨z, by rw [wipe_out hn]; exact hz⟩ hj
          · have l1 := wipe_length (wipe σ vs) vs
            rcases h1 : (wipe (wipe σ vs) vs)[j]? with _ | (_ | z)
            · have : (wipe σ vs).length ≤ j := by rw [← l1]; exact List.getElem?_eq_none_iff.mp h1
              rw [List.getElem?_eq_none this]
            · rcases h2 : (wipe σ vs)[j]? with _ | (_ | z)
              · have : (wipe σ vs).length ≤ j := List.getElem?_eq_none_iff.mp h2
                rw [List.getElem?_eq_none (by rw [l1]; exact this)] at h1
                cases h1
              · rfl
              · exact absurd ⟨z, h2⟩ hj2
            · exact absurd ⟨z, h1⟩ hj
      · have hH3 : H3 Dl = some (.lst ys) := (g3.rs Dl hDl).2 _ hH
        refine LT.run m3 e3 f fun k S4 μ4 H4 q4 g4 m4 e4 => ?_
        obtain ⟨hDl4, hk4⟩ := g4.rs Dl hDl
        have hH4 := hk4 _ hH3
        have r4 := r2.grow (g3.trans g4)
        cases k with
        | true =>
          refine LE.run m4 e4 q4 fun dd S5 μ5 v H5 q5 g5 m5 e5 r5 => ?_
          obtain ⟨hDl5, hk5⟩ := g5.rs Dl hDl4
          have hH5 := hk5 _ hH4
          have ra := (r4.grow g5).append (.one r5)
          exact ⟨ys, hH5, by rw [← r2.length]; exact q5.1, μ5, S5, acc ++ [dd], ys ++ [v], (g2.trans (g3.trans (g4.trans g5))).wr hDl5 hH5 nD hD, m5.wr hDl5 hH5, hDl5, upd_same, ra.wrA hDl5 hH5, q5.2⟩
        | false => exact ⟨μ4, S4, acc, ys, g2.trans (g3.trans g4), m4, hDl4, hH4, r4, q4⟩
    · exact f.elim
  · have e : i = xs.length := by omega
    subst e
    rw [List.drop_of_length_le (Nat.le_refl _)] at f
    exact .inl ⟨w1.stop μ' H' S' g2 m2 hG, fin Dl acc S' μ' H' ys hD nD f.2 g2 m2 hDl hH r2⟩
theorem EnvR.hide {K : PySem.W.Frag} {μ : Mu} {H : Hp} {ρ : Env} {σ : L2.St} {k : Nat} {v : V} (e : EnvR K μ H ρ σ) : EnvR K μ H (ρ.set k none) (σ.set k (some v)) := by
  refine ⟨by simpa using e.1, fun j d q => ?_⟩
  by_cases hj : k = j
  · subst hj
    by_cases hi : k < ρ.length
    · rw [List.getElem?_set_self hi] at q
      cases q
    · rw [List.getElem?_eq_none (by simpa using hi)] at q
      cases q
  · rw [List.getElem?_set_ne hj] at q
    rw [List.getElem?_set_ne hj]
    exact e.2 j d q
/-- z = zip(a, b); return tuple([.. for .. in z]) -/
def wZipTup (k : Nat) (wr : WA) (g : Tg) (we : WE) (vs : List Nat) : WS := fun D ρ S => k < ρ.length ∧ wr ρ S fun ds S1 => match ds with
  | [.tup xs, .tup ys] => compG g wYes we (fun _ => True) (wipeD (ρ.set k none) vs) (fun d S' => rTuple [d] S' D.rt) (zipD xs ys) [] S1
  | _ => False
theorem sss_ziptup {k : Nat} {x : Str} {a b : Expr} {elts : List Expr} {kk : Nat} {vs : List Nat} {wr : WA} {tpos p1 p2 p3 p4 p5 p6 p7 p8 : Pos} (hc : X.calm = true) (hN : X.N.Nodup) (hk : X.N[k]? = some x)
    (hgz : Gl X "zip") (hmz : X.mg "zip" = none) (hgt : Gl X "tuple") (hmt : X.mg "tuple" = none) (ha : SA X [a, b] wr)
    (ok : BlkOk X.N X.env.scope scope own) (hv : own.map (·.2) = vs) (hsl : ∀ i ∈ g.slots, i ∈ vs)
    (hg : ∀ (s : Shared) (H : Hp) (C : Addr) (cl : List (Str × Addr)) (fp : List Addr), SG (X.blk s H scope (compEnvC scope cl C X.env) fp) (.Tuple elts kk tpos) g)
    (he : ∀ (s : Shared) (H : Hp) (C : Addr) (cl : List (Str × Addr)) (fp : List Addr), SE (X.blk s H scope (compEnvC scope cl C X.env) fp) elt we)
    (hx : Loc X.env.scope x := by first | exact Or.inl rfl | exact Or.inr rfl) (hvx : Vis X.env.scope x := by first | exact Or.inl rfl | exact Or.inr (Or.inl rfl) | exact Or.inr (Or.inr rfl))
    (hd : (x == ("__debug__" : Str)) = false := by decide) (hcd : (x == ("__classdict__" : Str)) = false := by decide)
    (hs : swapsWith (.Call (.Name "zip" p2) [a, b] [] p3) (some (.Name x p1)) p4.line X.env = pure false := by rfl)
    (hf : X.fn x = true ∨ X.env.scope.names.lookup x = some .local := by first | exact .inl rfl | exact .inr rfl | assumption)
    (h1 : starEach [a, b] X.env = (false, eval a X.env) :: starEach [b] X.env := by rfl) (h2 : (backTo p3 (starEach [b] X.env)).any (·.1) = false := by rfl)
    (hfs : ∀ y, foldedSetIterable (.Name x p6) X.env y = pure y := by intro _; rfl)
    (h3 : starEach [.ListComp elt [⟨.Tuple elts kk tpos, .Name x p6, [], 0⟩] scope pos] X.env = (false, eval (.ListComp elt [⟨.Tuple elts kk tpos, .Name x p6, [], 0⟩] scope pos) X.env) :: starEach [] X.env := by rfl) :
    SSs X [.Assign [.Name x p1] (.Call (.Name "zip" p2) [a, b] [] p3) p4, .Return (some (.Call (.Name "tuple" p5) [.ListComp elt [⟨.Tuple elts kk tpos, .Name x p6, [], 0⟩] scope pos] [] p7)) p8] (wZipTup k wr g we vs) := by
  subst hv
  have z1 : PE X (.Call (.Name "zip" p2) [a, b] [] p3) (tCB (rZipV X.K X.s_0.heap.objs.size) (LA X.K wr)) := pe_callTy cr_zipV hgz hmz (by decide +kernel) ha (by decide) (by decide) h1 h2
  have z2 := pe_lc (ifs := []) (pos := pos) (g := g.toV X.K) (tt := LT X.K wYes) (te := LE X.K we) hc hN (pi_zipV (elts := elts) (kk := kk) (tpos := tpos) (p := p6) (k := k) hk hvx hd hcd) ok hg (fun _ _ _ _ _ => sts_nil) he hfs
  have z3 : PE X (.Call (.Name "tuple" p5) [.ListComp elt [⟨.Tuple elts kk tpos, .Name x p6, [], 0⟩] scope pos] [] p7) _ := pe_callTy call_tuple_of hgt hmt (by decide +kernel) (pa_cons z2 pa_nil h3) (by decide) (by decide) h3 (by rfl)
  refine pss_weak (pss_cons (ps_set hN hk hx z1 hs hf) (pss_one (ps_ret z3))) fun D σ H ⟨μ, S, ρ, D0, m, en, q, p⟩ => ?_
  obtain ⟨hkl, q⟩ := q
  refine LA.run m en q fun ds S1 μ1 us H1 q1 g1 m1 e1 r1 => ?_
  split at q1
  · obtain ⟨v, u, rfl, r, r'⟩ := r1.two_inv
    cases r with
    | tup hh r =>
      cases r' with
      | tup hh' r' =>
        refine ⟨_, _, _, _, rfl, hh, hh', fun z TI TO i1 i2 l zo => ?_⟩
        have hkl' : k < σ.length := by rw [← en.1]; exact hkl
        refine ⟨z, TI, TO, i1, i2, _, _, l, H1, List.getElem?_set_self hkl', rfl, zo, ?_⟩
        have w1 := isw_mono (G' := fun _ => True) (isw_zipT (atT_tup (μ := μ1) hh r) (atT_tup hh' r')) fun _ _ => ⟨trivial, trivial⟩
        rw [compG_eq] at q1
        refine comp_body (Q := fun v H' => rTupleV X.K [v] H' D.rt) hsl m1 (e1.hide (k := k) (v := .ref z)) w1 q1 fun Dl acc S' μ' H' ys hD nD q' g2 m2 hDl hH r2 => ?_
        have r3 : Rep X.K (μ'.unres Dl) H' (.lst acc) (.ref Dl) := .lst (.inl ⟨.inl hH, fun z => by
          rcases z with z | z
          · obtain ⟨n, hn⟩ := List.getElem?_of_mem z
            exact (m2.trk n Dl hn).2 hDl
          · have := (List.mem_filter.mp z).2
            simp at this⟩) (r2.unres (nxd hH))
        exact cd_tuple (μ'.unres Dl) S' H' [.lst acc] [.ref Dl] D0.rt D.rt (m2.unres (nxd hH)) (.one r3) q' (p.rt.go (g1.trans (g2.unres nD)))
  · exact q1.elim
end
end DL

set_option maxHeartbeats 4000000
/-! DLLK: list(d); a dict that an expression names, locked -/
namespace DL
open PySem PySem.Spec PyProof.Rows L2
def rListDV (K : PySem.W.Frag) (w : World) : List V → Hp → VK → Prop := fun vs H Q => ∃ (a : Addr) (xs : List V), vs = [.ref a] ∧ KeysV w H a xs ∧ ∀ p, H p = none → Q (.ref p) (upd H p (.lst xs))
theorem cr_listDV {X : Cx} (hc : X.calm = true) : CallR X (.type "list") (rListDV X.K X.w) := by
  intro pins s σ H vs us Q I r h
  obtain ⟨a, xs, rfl, hq, q⟩ := h
  rw [Vals.ref1 r]
  obtain ⟨ent, ep, raw, lo, rv, hz⟩ := keysV_raw I hq
  refine PySem.W.kdl_call (dict_src lo) (I.ok.hd hc) raw hz fun h' tk acc c k1 hat hacc => ?_
  have e := acc_keys hacc
  rw [← e] at rv
  have hl : xs.length ≤ sizeLine := by rw [rv.length, e, List.length_map, Array.length_toList]; exact hz
  exact ⟨.ref s.heap.objs.size, _, I.laid (t' := tk) k1 (Nat.le_refl _) (show ObjOk X.prog X.w _ h' _ (.lst xs) from ⟨hl, acc.toList, c, rv, by simpa using hat⟩), rfl, q _ (I.hok.fresh (Nat.le_refl _))⟩
variable [WW]
omit [WW] in
/-- list(d), the keys as a value -/
def rListK : RC := fun ds S Q => match ds with
  | [.ref n] => (match S[n]? with | some ob => (match keysD ob with | some ks => Q (.lst ks) S | none => False) | none => False)
  | _ => False
theorem cd_listK {K : PySem.W.Frag} : CallD K (rListDV K WW.w) rListK := by
  intro μ S H ds vs Q0 Q m r q p
  unfold rListK at q
  split at q
  · rename_i n
    obtain ⟨v, rfl, r'⟩ := r.one_inv
    split at q
    · rename_i ob hob
      split at q
      · rename_i ks hks
        cases r' with
        | @ref n a hn =>
        obtain ⟨xs, h1, h2⟩ := keysD_ok m hn hob hks
        exact ⟨a, xs, rfl, h1, fun l hl => p _ _ q _ _ _ (.new hl) (m.new hl) (Sim.newL m hl h2)⟩
      · exact q.elim
    · exact q.elim
  · exact q.elim
theorem se_listK {X : Cx} {a : Expr} {es : List Expr} {wr : WA} {pos p : Pos} (hW : X.w = WW.w) (hc : X.calm = true) (hg : Gl X "list") (hm : X.mg "list" = none) (ha : SA X (a :: es) wr) (he : starEach (a :: es) X.env = (false, eval a X.env) :: starEach es X.env := by rfl) (hpl : (backTo pos (starEach es X.env)).any (·.1) = false := by rfl) : SE X (.Call (.Name "list" p) (a :: es) [] pos) (wCall rListK wr) :=
  se_callTy (r := rListDV X.K X.w) (by rw [hW]; exact cd_listK) (cr_listDV hc) hg hm (by decide +kernel) ha (by decide) (by decide) he hpl
/-! ### a dict locked that the prover names -/
omit [WW] in
structure LockN (w : WS) (D : EndsD) (ρ : Env) (S : Store) : Prop where
  go : ∃ n ob, S[n]? = some ob ∧ canLk ob = true ∧ ∀ o u, w (lockE n o u ob D) ρ (S.set n (lk o u ob))
omit [WW] in
structure LockNE (w : WE) (ρ : Env) (S : Store) (Q : D → Store → Prop) : Prop where
  go : ∃ n ob, S[n]? = some ob ∧ canLk ob = true ∧ ∀ o u, w ρ (S.set n (lk o u ob)) fun d S' => S'[n]? = some (lk o u ob) ∧ Q d (S'.set n ob)
theorem ss_lockN {X : Cx} {st : Stmt} {w : WS} (h : SS X st w) : SS X st (LockN w) := ps_weak (ps_lock h) fun D σ H ⟨μ, S, ρ, D0, m, en, q, p⟩ => by
  obtain ⟨n, ob, hob, c, q⟩ := q.go
  obtain ⟨a, u, h1, h2, hm, k⟩ := m.lock c hob
  refine ⟨a, u, h2, hm, fun o => ?_⟩
  obtain ⟨m1, g1⟩ := k o
  refine ⟨μ, _, ρ, _, m1, en.grow g1, q o u, ?_, ?_, ?_, ?_, .none⟩
  · intro ρ' S' q' μ' σ' H' g m' e'
    obtain ⟨z, m2, g2⟩ := m'.unlock c (g.ref _ _ h1) q'.1
    exact ⟨z, p.nx _ _ q'.2 _ _ _ (g1.trans (g.trans g2)) m2 (e'.grow g2)⟩
  · intro d S' q' μ' v H' g m' r
    obtain ⟨z, m2, g2⟩ := m'.unlock c (g.ref _ _ h1) q'.1
    exact ⟨z, p.rt _ _ q'.2 _ _ _ (g1.trans (g.trans g2)) m2 (r.grow g2)⟩
  · intro ρ' S' q' μ' σ' H' g m' e'
    obtain ⟨z, m2, g2⟩ := m'.unlock c (g.ref _ _ h1) q'.1
    exact ⟨z, p.bk _ _ q'.2 _ _ _ (g1.trans (g.trans g2)) m2 (e'.grow g2)⟩
  · intro ρ' S' q' μ' σ' H' g m' e'
    obtain ⟨z, m2, g2⟩ := m'.unlock c (g.ref _ _ h1) q'.1
    exact ⟨z, p.ct _ _ q'.2 _ _ _ (g1.trans (g.trans g2)) m2 (e'.grow g2)⟩
theorem se_lockN {X : Cx} {e : Expr} {w : WE} (h : SE X e w) : SE X e (LockNE w) := pe_weak (pe_lock h) fun σ H Q ⟨μ, S, ρ, Q0, m, en, q, p⟩ => by
  obtain ⟨n, ob, hob, c, q⟩ := q.go
  obtain ⟨a, u, h1, h2, hm, k⟩ := m.lock c hob
  refine ⟨a, u, h2, hm, fun o => ?_⟩
  obtain ⟨m1, g1⟩ := k o
  refine ⟨μ, _, ρ, _, m1, en.grow g1, q o u, ?_⟩
  intro d S' q' μ' v H' g m' r
  obtain ⟨z, m2, g2⟩ := m'.unlock c (g.ref _ _ h1) q'.1
  exact ⟨z, p _ _ q'.2 _ _ _ (g1.trans (g.trans g2)) m2 (r.grow g2)⟩
end DL

set_option maxHeartbeats 4000000
/-! DLBS: a test less a test -/
namespace DL
open PySem PySem.Spec PyProof.Rows L2
variable [WW]
def rSubBV : R2 := fun x y H Q => ∃ p q, x = .bl p ∧ y = .bl q ∧ Q (.int (b2i p - b2i q)) H
theorem op_subB {X : Cx} : OpR X (binaryOp .Sub) rSubBV := by
  intro pins s σ H x y v u Q I rx ry h
  obtain ⟨i, j, rfl, rfl, q⟩ := h
  obtain rfl := rx
  obtain rfl := ry
  exact sub_bool ⟨.int (b2i i - b2i j), H, I.tok _, ⟨_, rfl⟩, q⟩
omit [WW] in
def rSubB : RD
  | .bl p, .bl q, S, Q => Q (.int (b2i p - b2i q)) S
  | .int i, .int j, S, Q => Q (.int (i - j)) S
  | _, _, _, _ => False
theorem opd_subB {K : PySem.W.Frag} : OpD K (fun x y H Q => rI0 (fun i j => .int (i - j)) x y H Q ∨ rSubBV x y H Q) rSubB := by
  intro μ S H x y vx vy Q0 Q m rx ry q p
  unfold rSubB at q
  split at q
  · exact .inr ⟨_, _, rx.bl_inv, ry.bl_inv, p.now m (.int _) q⟩
  · exact .inl ⟨_, _, rx.int_inv, ry.int_inv, p.now m (.int _) q⟩
  · exact q.elim
theorem se_subB {X : Cx} {a b : Expr} {wa wb : WE} {pos : Pos} (ha : SE X a wa) (hb : SE X b wb) : SE X (.BinOp a .Sub b pos) (wOp rSubB wa wb) := se_op opd_subB (op_sub.or op_subB) ha hb
end DL

set_option maxHeartbeats 4000000
/-! DLEX: defs that raise, raise, try .. except X as e -/
namespace DL
open PySem PySem.Spec PyProof.Rows L2 He
variable [WW]

/-! ### defs that raise -/
omit [WW] in
abbrev ConX := List D → Store → (D → Store → Prop) → (XD → Store → Prop) → Prop
def PostK (K : PySem.W.Frag) (μ : Mu) (H : Hp) (E0 : XD → Store → Prop) (E : XK) : Prop := ∀ x S', E0 x S' → ∀ μ' H' C d vs, Grow μ H μ' H' → Sim K μ' S' H' → WW.ca x.c = some C → ExcAt μ' H' d x.ns vs → RepAll K μ' H' x.ds vs → E (.ref C) d H'
def SpX (K : PySem.W.Frag) (np : Nat) (Γ : ConX) : Sp := fun vs H Q E => ∃ μ S ds Q0 E0, Sim K μ S H ∧ RepAll K μ H ds vs ∧ ds.length = np ∧ Γ ds S Q0 E0 ∧ Post K μ H Q0 Q ∧ PostK K μ H E0 E
omit [WW] in
def ExitX (n0 : Nat) (x : XD) (S1 : Store) (E0 : XD → Store → Prop) : Prop :=
  E0 x S1 ∨ ∃ S' G, S1 = S' ++ G ∧ S'.length = n0 ∧ (∀ o ∈ S', closedO n0 o) ∧ closedL n0 x.ds ∧ E0 x S'
section
variable {K : PySem.W.Frag} {μ μ0 : Mu} {H H0 : Hp} {S0 S1 : Store}
theorem exitX_ok {x : XD} {C : Addr} {d : Option Addr} {vs : List V} {E0 : XD → Store → Prop} {E : XK} (m0 : Sim K μ0 S0 H0) (g : Grow μ0 H0 μ H) (m : Sim K μ S1 H) (ca : WW.ca x.c = some C) (ea : ExcAt μ H d x.ns vs) (r : RepAll K μ H x.ds vs)
    (p : PostK K μ0 H0 E0 E) (h : ExitX S0.length x S1 E0) : E (.ref C) d H := by
  rcases h with h | ⟨S', G, rfl, hl, c, cl, h⟩
  · exact p x S1 h μ H C d vs g m ca ea r
  · have g' := g.cut
    rw [m0.len, ← hl] at g'
    rw [← hl] at cl
    exact p x S' h _ H C d vs g' (m.cut (by rw [hl]; exact c)) ca ea (r.cut cl)
end
section
variable {P : Program} {w : World} {K : PySem.W.Frag} {mg : Str → Option Value} {base : Heap}
theorem fn_xF {x qual : Str} {params : Arguments} {body : List Stmt} {scope : Scope} {f : Addr} {fd : FuncData} {N ps : List Str} {k : Nat} {Γ : ConX} {wb : WS} (F : FunD K x qual params body scope [] [] f fd) (Sc : FnScope N ps scope)
    (hb : ∀ (cdv : Value) (A : Around) (outer : List PySem.Env) (s : Shared) (H : Hp) (E : XK), Room k (A.deeper (envOfC qual scope s.heap.objs.size f cdv)) →
      SSs (cxOf (L2N.CX P w) P w K mg base N qual scope f cdv A outer s H E) body wb)
    (hw : ∀ (ds : List D) (S : Store) (Q0 : D → Store → Prop) (E0 : XD → Store → Prop), ds.length = ps.length → closedS S → closedL S.length ds → Γ ds S Q0 E0 →
      wb { nx := fun _ S1 => Exit S.length .non S1 Q0, rt := fun d S1 => Exit S.length d S1 Q0, ex := fun x _ S1 => ExitX S.length x S1 E0 } (ds.map some ++ List.replicate (N.length - ps.length) none) S) : FnOk P w K mg base (L2N.CX P w) (k + 1) f fd ps (SpX K ps.length Γ) := by
  refine F.ok Sc (fun vs H Q E h => ?_) (fun cdv A outer s H vs Q E hr h => ?_)
  · obtain ⟨μ, S, ds, Q0, E0, m, r, hl, _⟩ := h
    rw [← r.length, hl]
  · obtain ⟨μ, S, ds, Q0, E0, m, r, hl, q, p, pk⟩ := h
    refine ⟨_, hb cdv A outer s H E hr, ?_⟩
    have en := start_R (N := N) r
    rw [hl] at en
    have cl := r.closed
    rw [m.len] at cl
    refine ⟨μ, S, _, _, m, en, hw ds S Q0 E0 hl m.closed cl q, ?_, ?_, ?_, ?_, ?_⟩
    · exact fun ρ' S' q' μ' σ' H' g' m' e' => exit_ok m g' m' .non p q'
    · exact fun d S' q' μ' v H' g' m' r' => exit_ok m g' m' r' p q'
    · exact fun ρ' S' q' => q'.elim
    · exact fun ρ' S' q' => q'.elim
    · exact fun x ρ' S' q' μ' σ' H' C d vs' g' m' e' ca ea r' => wx_of_takes (W := fun cls d _ H => E cls d H) (L2N.takes_of (E := E) rfl rfl rfl rfl) (exitX_ok m g' m' ca ea r' pk q')
/-- .. at the module's name x -/
structure DefX (P : Program) (w : World) (K : PySem.W.Frag) (mg : Str → Option Value) (base : Heap) (k : Nat) (x : Str) (ps : List Str) (Γ : ConX) : Prop where
  ex : ∃ f fd, FnOk P w K mg base (L2N.CX P w) k f fd ps (SpX K ps.length Γ) ∧ mg x = some (.ref f) ∧ PySem.W.keepIn K (.ref f) = true ∧ Binds K fd ps []
theorem DefX.mono {j k : Nat} {x : Str} {ps : List Str} {Γ : ConX} (D : DefX P w K mg base j x ps Γ) (h : j ≤ k) : DefX P w K mg base k x ps Γ :=
  let ⟨f, fd, h1, h2, h3, h4⟩ := D.ex; ⟨f, fd, h1.mono h, h2, h3, h4⟩
end

/-! ### calls -/
omit [WW] in
structure askX (Γ : ConX) (ds : List D) (S : Store) (Q : D → Store → Prop) (E : XD → Store → Prop) : Prop where
  go : Γ ds S Q E
omit [WW] in
def gFnX (Γ : ConX) (n : Nat) (wr : WA) (ex : XD → Env → Store → Prop) : WE := fun ρ S Q => wr ρ S fun ds S1 => ds.length = n ∧ askX Γ ds S1 Q (fun x S2 => ex x ρ S2)
section
variable {X : Cx} {e : Expr} {es : List Expr} {wr : WA} {k n : Nat} {ps : List Str} {Γ : ConX} {x : Str} {p pos : Pos}
def TX (X : Cx) (n : Nat) (Γ : ConX) (wr : WA) : TE := tCallS (SpX X.K n Γ) (fun σ cls d H => wxOf X cls d σ H) (LA X.K wr)
theorem pe_fnX (F : DefX X.prog X.w X.K X.mg X.base k x ps Γ) (hr : Room k X.A) (hg : Gl X x)
    (ha : SA X (e :: es) wr) (hn : ps.length = n := by rfl) (hdb : (x == ("__debug__" : Str)) = false := by decide) (he : starEach (e :: es) X.env = (false, eval e X.env) :: starEach es X.env := by rfl) (hpl : (backTo pos (starEach es X.env)).any (·.1) = false := by rfl) :
    PE X (.Call (.Name x p) (e :: es) [] pos) (TX X n Γ wr) := by
  subst hn
  obtain ⟨f, fd, h1, h2, h3, h4⟩ := F.ex
  exact pe_callS (E := fun σ cls d H => wxOf X cls d σ H) h1 hr hg h2 h3 h4 (fun σ => L2N.passAt (takes_wx X) σ) ha hdb he hpl
theorem tx_run {μ : Mu} {S : Store} {ρ : Env} {σ : L2.St} {H : Hp} {Q0 : D → Store → Prop} {Q : VK} {ex : XD → Env → Store → Prop} (m : Sim X.K μ S H) (en : EnvR X.K μ H ρ σ) (h : gFnX Γ n wr ex ρ S Q0) (px : PostX X.K (wxOf X) μ H ex)
    (k : ∀ d S' μ' v H', Q0 d S' → Grow μ H μ' H' → Sim X.K μ' S' H' → EnvR X.K μ' H' ρ σ → Rep X.K μ' H' d v → Q v H') : TX X n Γ wr σ H Q := by
  show LA X.K wr σ H _
  refine LA.run m en h fun ds S1 μ1 vs H1 q1 g1 m1 e1 r1 => ?_
  refine ⟨μ1, S1, ds, Q0, fun x S2 => ex x ρ S2, m1, r1, q1.1, q1.2.go, ?_, ?_⟩
  · exact fun d S' q μ' v H' g m' r => k d S' μ' v H' q (g1.trans g) m' (e1.grow g) r
  · exact fun x S' q μ' H' C d vs g m' ca ea r => px x ρ S' q μ' σ H' C d vs (g1.trans g) m' (e1.grow g) ca ea r
omit [WW] in
def wDropX (Γ : ConX) (n : Nat) (wr : WA) : WS := fun D ρ S => gFnX Γ n wr D.ex ρ S fun _ S1 => D.nx ρ S1
omit [WW] in
def wRetX (Γ : ConX) (n : Nat) (wr : WA) : WS := fun D ρ S => gFnX Γ n wr D.ex ρ S D.rt
omit [WW] in
def wAsgX (Γ : ConX) (n : Nat) (wr : WA) (g : Tg) : WS := fun D ρ S => gFnX Γ n wr D.ex ρ S fun d S1 => match bindT g d ρ with | some ρ' => D.nx ρ' S1 | none => False
theorem ss_dropX {c : Expr} {pos' : Pos} (he : PE X c (TX X n Γ wr)) (hs : swapsWith c none pos'.line X.env = pure false := by rfl) : SS X (.Expr c pos') (wDropX Γ n wr) := ps_weak (ps_expr he hs) fun D σ H ⟨μ, S, ρ, D0, m, en, q, p⟩ =>
  tx_run m en q p.ex fun d S1 μ1 v H1 q1 g1 m1 e1 r1 => p.nx ρ S1 q1 μ1 σ H1 g1 m1 e1
theorem ss_retX {c : Expr} {pos' : Pos} (he : PE X c (TX X n Γ wr)) : SS X (.Return (some c) pos') (wRetX Γ n wr) := ps_weak (ps_ret he) fun D σ H ⟨μ, S, ρ, D0, m, en, q, p⟩ =>
  tx_run m en q p.ex fun d S1 μ1 v H1 q1 g1 m1 e1 r1 => p.rt d S1 q1 μ1 v H1 g1 m1 r1
theorem ss_asgX {c tg : Expr} {g : Tg} {pos' : Pos} (he : PE X c (TX X n Γ wr)) (hg : SG X tg g) (hs : swapsWithSole [tg] c pos'.line X.env = pure false := by rfl) (hw : swappedStores [tg] c X.env = pure none := by rfl)
    (h1 : (assignEach [tg] X.env).map (·.2) = [assign tg X.env] := by rfl) : SS X (.Assign [tg] c pos') (wAsgX Γ n wr g) := ps_weak (ps_asg he hg hs hw h1) fun D σ H ⟨μ, S, ρ, D0, m, en, q, p⟩ => by
  refine tx_run m en q p.ex fun d S1 μ1 v H1 q1 g1 m1 e1 r1 => ?_
  split at q1
  · rename_i ρ' hb
    exact bind_ok [] g d ρ ρ' v σ _ hb r1 e1 fun σ' e' _ => p.nx ρ' S1 q1 μ1 σ' H1 g1 m1 e'
  · exact q1.elim
end
end DL
namespace DL
open PySem PySem.Spec PyProof.Rows L2 He
/-- the ends of a def that may raise -/
abbrev EXX (S : Store) (Q0 : D → Store → Prop) (E0 : XD → Store → Prop) : EndsD := { nx := fun _ S1 => Exit S.length .non S1 Q0, rt := fun d S1 => Exit S.length d S1 Q0, ex := fun x _ S1 => ExitX S.length x S1 E0 }
theorem askX_in {Γ : ConX} {ds : List D} {S : Store} {Q : D → Store → Prop} {E : XD → Store → Prop} (h : Γ ds S Q E) : askX Γ ds S Q E := ⟨h⟩
theorem ExitX.all {n0 : Nat} {x : XD} {S1 : Store} {E0 : XD → Store → Prop} (h : E0 x S1) : ExitX n0 x S1 E0 := .inl h
theorem ExitX.same {x : XD} {S G : Store} {E0 : XD → Store → Prop} (hc : closedS S) (f : closedL S.length x.ds) (h : E0 x S) : ExitX S.length x (S ++ G) E0 := .inr ⟨S, G, rfl, rfl, hc, f, h⟩
end DL
namespace L2H
open PySem PySem.Spec PyProof.Rows L2
theorem RoomH.units {k : Nat} {A : Around} (r : RoomH k A) : A.units + 64 < cLine := by have := r.un; omega
end L2H
namespace DL
open PySem PySem.Spec PyProof.Rows L2
theorem units65H {k : Nat} {A : Around} (r : L2H.RoomH k A) : A.units + 65 < cLine := by have := r.un; omega
theorem units66H {k : Nat} {A : Around} (r : L2H.RoomH k A) : A.units + 66 < cLine := by have := r.un; omega
theorem units16H {k : Nat} {A : Around} (r : L2H.RoomH k A) : A.units + 16 < cLine := by have := r.un; omega
def clsInit (s : Stmt) (j : Nat) : Stmt := match s with
  | .ClassDef _ _ _ body _ _ _ _ _ _ _ => body.getD j (.Pass ⟨0, 0, 0, 0⟩)
  | _ => .Pass ⟨0, 0, 0, 0⟩
end DL

set_option maxHeartbeats 4000000
/-! DLEX2: __init__ that keeps its arguments, raise -/
namespace DL
open PySem PySem.Spec PyProof.Rows L2 He
variable [WW]

/-- the contract of C's __init__: self, the arguments; the fields ns are set -/
def SpI (K : PySem.W.Frag) (ns : List Str) : Sp := fun vs H Q _ => ∃ (a C : Addr) (ws : List V), vs = .ref a :: ws ∧ ws.length = ns.length ∧ OexC K C ∧ (∀ f ∈ ns, PySem.W.findIn K (.ref C) f = some none) ∧ H a = some (exo a C none) ∧
  ∀ (dx : Addr) (fs : List (Str × V)) (H' : Hp), H dx = none → dx ≠ a → (∀ (i : Nat) (n : Str) (v : V), ns[i]? = some n → ws[i]? = some v → fs.lookup n = some v) → H' a = some (exo a C (some dx)) → H' dx = some (exd dx fs) →
    (∀ b, b ≠ a → b ≠ dx → H' b = H b) → Q .non H'
section
variable {P : Program} {w : World} {K : PySem.W.Frag} {mg : Str → Option Value} {base : Heap}
theorem fn_init1 {x qual s v f1 : Str} {params : Arguments} {p1 p2 p3 pos : Pos} {scope : Scope} {f : Addr} {fd : FuncData} {k : Nat} (F : FunD K x qual params [.Assign [.Attribute (.Name s p1) f1 p2] (.Name v p3) pos] scope [] [] f fd) (Sc : FnScope [s, v] [s, v] scope)
    (hs : Vis scope s := by first | exact Or.inl rfl | exact Or.inr (Or.inl rfl) | exact Or.inr (Or.inr rfl)) (hv : Vis scope v := by first | exact Or.inl rfl | exact Or.inr (Or.inl rfl) | exact Or.inr (Or.inr rfl))
    (ds : (s == ("__debug__" : Str)) = false := by decide) (dv : (v == ("__debug__" : Str)) = false := by decide) (cs : (s == ("__classdict__" : Str)) = false := by decide) (cv : (v == ("__classdict__" : Str)) = false := by decide)
    (hsw : ∀ env : PySem.Env, swapsWith (.Name v p3) (some (.Attribute (.Name s p1) f1 p2)) pos.line env = pure false := by intro _; rfl) :
    FnOk P w K mg base CX0 (k + 1) f fd [s, v] (SpI K [f1]) := by
  refine F.ok Sc (fun vs H Q E h => ?_) (fun cdv A outer s0 H vs Q E hr h => ?_)
  · obtain ⟨a, C, ws, rfl, hl, _⟩ := h
    simpa using hl
  · obtain ⟨a, C, ws, rfl, hl, T, hno, ea, q⟩ := h
    match ws, hl with
    | [y], _ =>
      refine ⟨_, pss_one (ps_ost (pe_var (i := 0) rfl hs ds cs) (pe_var (i := 1) rfl hv dv cv) (hsw _)), ?_⟩
      refine ⟨y, rfl, .ref a, rfl, a, C, rfl, T, hno f1 (by simp), .inl ⟨ea, fun dx n ne => ?_⟩⟩
      refine q dx [(f1, y)] _ n ne (fun i n v h1 h2 => ?_) upd_same (by rw [upd_ne ne]; exact upd_same) (fun b b1 b2 => by rw [upd_ne b1, upd_ne b2])
      match i, h1, h2 with
      | 0, h1, h2 =>
        have e1 : f1 = n := Option.some.inj h1
        have e2 : y = v := Option.some.inj h2
        subst e1 e2
        rw [lookup_put, if_pos rfl]
theorem fn_init2 {x qual s v v2 f1 f2 : Str} {params : Arguments} {p1 p2 p3 pos q1 q2 q3 pos2 : Pos} {scope : Scope} {f : Addr} {fd : FuncData} {k : Nat}
    (F : FunD K x qual params [.Assign [.Attribute (.Name s p1) f1 p2] (.Name v p3) pos, .Assign [.Attribute (.Name s q1) f2 q2] (.Name v2 q3) pos2] scope [] [] f fd) (Sc : FnScope [s, v, v2] [s, v, v2] scope)
    (hf : f1 ≠ f2 := by decide)
    (hs : Vis scope s := by first | exact Or.inl rfl | exact Or.inr (Or.inl rfl) | exact Or.inr (Or.inr rfl)) (hv : Vis scope v := by first | exact Or.inl rfl | exact Or.inr (Or.inl rfl) | exact Or.inr (Or.inr rfl)) (hv2 : Vis scope v2 := by first | exact Or.inl rfl | exact Or.inr (Or.inl rfl) | exact Or.inr (Or.inr rfl))
    (ds : (s == ("__debug__" : Str)) = false := by decide) (dv : (v == ("__debug__" : Str)) = false := by decide) (cs : (s == ("__classdict__" : Str)) = false := by decide) (cv : (v == ("__classdict__" : Str)) = false := by decide)
    (dv2 : (v2 == ("__debug__" : Str)) = false := by decide) (cv2 : (v2 == ("__classdict__" : Str)) = false := by decide)
    (hsw : ∀ env : PySem.Env, swapsWith (.Name v p3) (some (.Attribute (.Name s p1) f1 p2)) pos.line env = pure false := by intro _; rfl)
    (hsw2 : ∀ env : PySem.Env, swapsWith (.Name v2 q3) (some (.Attribute (.Name s q1) f2 q2)) pos2.line env = pure false := by intro _; rfl) :
    FnOk P w K mg base CX0 (k + 1) f fd [s, v, v2] (SpI K [f1, f2]) := by
  refine F.ok Sc (fun vs H Q E h => ?_) (fun cdv A outer s0 H vs Q E hr h => ?_)
  · obtain ⟨a, C, ws, rfl, hl, _⟩ := h
    simpa using hl
  · obtain ⟨a, C, ws, rfl, hl, T, hno, ea, q⟩ := h
    match ws, hl with
    | [y, z], _ =>
      refine ⟨_, pss_cons (ps_ost (pe_var (i := 0) rfl hs ds cs) (pe_var (i := 1) rfl hv dv cv) (hsw _)) (pss_one (ps_ost (pe_var (i := 0) rfl hs ds cs) (pe_var (i := 2) rfl hv2 dv2 cv2) (hsw2 _))), ?_⟩
      refine ⟨y, rfl, .ref a, rfl, a, C, rfl, T, hno f1 (by simp), .inl ⟨ea, fun dx n ne => ?_⟩⟩
      refine ⟨z, rfl, .ref a, rfl, a, C, rfl, T, hno f2 (by simp), .inr ⟨dx, [(f1, y)], upd_same, by rw [upd_ne ne]; exact upd_same, by simp, ?_⟩⟩
      refine q dx [(f2, z), (f1, y)] _ n ne (fun i n v h1 h2 => ?_) (by rw [upd_ne (Ne.symm ne)]; exact upd_same) upd_same (fun b b1 b2 => by rw [upd_ne b2, upd_ne b1, upd_ne b2])
      match i, h1, h2 with
      | 0, h1, h2 =>
        have e1 : f1 = n := Option.some.inj h1
        have e2 : y = v := Option.some.inj h2
        subst e1 e2
        rw [lookup_put, if_neg hf, lookup_put, if_pos rfl]
      | 1, h1, h2 =>
        have e1 : f2 = n := Option.some.inj h1
        have e2 : z = v := Option.some.inj h2
        subst e1 e2
        rw [lookup_put, if_pos rfl]
end

/-! ### C(e, ..) where nothing is handled, its context None -/
theorem pmk_oexN {X : Cx} {CX : CXT} {x : Str} {e : Expr} {es : List Expr} {ta : TA} {p pos : Pos} {C fI : Addr} {k : Nat} {fd : FuncData} {ps : List Str} {sp : Sp} (T : OexC X.K C) (iC : PySem.W.findIn X.K (.ref C) "__init__" = some (some (.ref fI))) (tI : PySem.W.typeIn X.K (.ref fI) = some (.type "function"))
    (F1 : FnOk X.prog X.w X.K X.mg X.base CX k fI fd ps sp) (hr : Room (k + 1) X.A) (hb : Binds X.K fd ps []) (hx : Passes CX X (fun _ _ _ => False)) (hg : Gl X x) (hm : X.mg x = some (.ref C)) (ha : PA X (e :: es) ta)
    (hdb : (x == ("__debug__" : Str)) = false := by decide) (he : starEach (e :: es) X.env = (false, eval e X.env) :: starEach es X.env := by rfl) (hpl : (backTo pos (starEach es X.env)).any (·.1) = false := by rfl) :
    L2N.PMk X (.Call (.Name x p) (e :: es) [] pos) (tMkO C sp [] ta) := by
  intro pins s σ H Q I h
  obtain ⟨nm, q, N, bs, bm, sn, sub, ab, col, dd, k0, k1, k2, k3, k5, hC, hbm⟩ := T.cls
  refine wpAny_Call_Name_kw (ld_glob I hg hm ?_ hdb)
  refine PySem.W.callWith_K (h₀ := X.base) I.ok.mod.kin T.kC (thn (ha.run pos pins s σ H _ I h) fun us s1 ⟨vs, H1, I1, r1, hz, q1⟩ => ⟨I1.kIn, ?_⟩) he hpl
  show wpAny _ _ (call (.ref C) us) _ _ _
  obtain ⟨hp, g, dr, tk, os⟩ := s1
  have hsz : hp.objs.size ≤ hp.objs.size + 1 := Nat.le_succ _
  have hn : H1 (hp.objs.size + 1) = none := I1.hok.fresh hsz
  have hq := q1 (hp.objs.size + 1) hn
  rw [List.append_nil] at hq
  have kk : ∀ b o, hp.get? b = some o → ((hp.push (PySem.W.kdv_tup us)).push (PySem.HandSPX.excO C hp.objs.size)).get? b = some o := fun b o e => Heap.get?_push_of_some _ (Heap.get?_push_of_some _ e)
  have hget : ((hp.push (PySem.W.kdv_tup us)).push (PySem.HandSPX.excO C hp.objs.size)).get? (hp.objs.size + 1) = some (PySem.HandSPX.excO C hp.objs.size) := by heap_get
  have I2 : Inv X pins σ (upd H1 (hp.objs.size + 1) (exo (hp.objs.size + 1) C none)) ⟨(hp.push (PySem.W.kdv_tup us)).push (PySem.HandSPX.excO C hp.objs.size), g, dr, tk, os⟩ :=
    I1.laid (t' := tk) (a := hp.objs.size + 1) (o := exo (hp.objs.size + 1) C none) (h' := (hp.push (PySem.W.kdv_tup us)).push (PySem.HandSPX.excO C hp.objs.size)) kk hsz (exo_ok hget)
  have r2 : Vals (V.ref (hp.objs.size + 1) :: vs) (Value.ref (hp.objs.size + 1) :: us) := .cons rfl r1
  have hl : (Value.ref (hp.objs.size + 1) :: us ++ []).length = ps.length := by
    have e := r2.length
    rw [F1.len _ _ _ _ hq] at e
    rw [List.append_nil]
    exact e.symm
  have hus : us.length ≤ sizeLine := by
    rw [← Paired.length r1, sizeLine_eq]
    omega
  have b2 := hb _ (Value.ref (hp.objs.size + 1) :: us) I2.kIn hl
  rw [List.append_nil] at b2
  refine wpAny_call (PySem.HandSPX.call_own F.excBase_ValueError (fun Y => PySem.HandSPX.refsVE_contains Y bm hbm) (I1.kIn _ _ hC) (PySem.W.looks_findIn I1.kIn iC) (fun self => PySem.W.bind_fn I1.kIn self tI) hus
    (codeAny_mono (F1.run _ X.stack _ _ ⟨Value.ref (hp.objs.size + 1) :: us, []⟩ (Value.ref (hp.objs.size + 1) :: us) _ _ (fun _ _ _ => False) (hr.make C us []) (I2.env0.make C us []) b2 r2 hq) fun r s' hq' => ?_))
  cases r with
  | error er => exact hx pins σ _ _ er s' I2 hq'
  | ok fl =>
    cases fl with
    | ret u =>
      obtain ⟨v, H2, os2, bare2, un2, hok2, rv, ev, d, fs, ea, ed, hd1, q2⟩ := hq'
      subst ev
      obtain ⟨h2, g2, d2, t2, os'⟩ := s'
      obtain ⟨t0, G, J, kG, ge, hoe, na⟩ := mk_end0 (d2 := d2) (t2 := t2) I1 hsz kk un2 hok2 os2 bare2 ea ed hd1
      exact ⟨rv, hp.objs.size + 1, _, _, ⟨G, g2, d2, t2, os'⟩, _, .ref C, some d, rfl, J, kG, ge, hoe, ⟨rfl, rfl, fun vs hv => by cases hv; rfl⟩, rfl, rfl, na, rfl, bare2, raises_own T.exC T.tyC, q2⟩
    | next => exact False.elim hq'
    | brk => exact False.elim hq'
    | cont => exact False.elim hq'

/-! ### raise C(e, ..) -/
structure ClsD (P : Program) (w : World) (K : PySem.W.Frag) (mg : Str → Option Value) (base : Heap) (k : Nat) (c : Str) (ns : List Str) : Prop where
  ex : ∃ (C fI : Addr) (fd : FuncData) (ps : List Str), WW.ca c = some C ∧ mg c = some (.ref C) ∧ OexC K C ∧ PySem.W.findIn K (.ref C) "__init__" = some (some (.ref fI)) ∧ PySem.W.typeIn K (.ref fI) = some (.type "function") ∧
    FnOk P w K mg base CX0 k fI fd ps (SpI K ns) ∧ Binds K fd ps [] ∧ ∀ f ∈ ns, PySem.W.findIn K (.ref C) f = some none
omit [WW] in
def wRaise (c : Str) (ns : List Str) (wr : WA) : WS := fun D ρ S => wr ρ S fun ds S1 => ds.length = ns.length ∧ D.ex ⟨c, ns, ds⟩ ρ S1
theorem ss_raise {X : Cx} {c : Str} {ns : List Str} {k : Nat} {e : Expr} {es : List Expr} {wr : WA} {p pos pos' : Pos} (hc : X.calm = true) (T : ClsD X.prog X.w X.K X.mg X.base k c ns) (hr : Room (k + 1) X.A) (hg : Gl X c) (ha : SA X (e :: es) wr) (hn : ns.length ≤ 1000 := by decide)
    (hdb : (c == ("__debug__" : Str)) = false := by decide) (he : starEach (e :: es) X.env = (false, eval e X.env) :: starEach es X.env := by rfl) (hpl : (backTo pos (starEach es X.env)).any (·.1) = false := by rfl) :
    SS X (.Raise (some (.Call (.Name c p) (e :: es) [] pos)) none pos') (wRaise c ns wr) := by
  obtain ⟨C, fI, fd, ps, ca, hm, T1, iC, tI, F1, hb, hno⟩ := T.ex
  refine ps_weak (L2N.ps_raise hc (takes_wx X) (pmk_oexN T1 iC tI F1 hr hb (fun _ _ _ _ _ _ _ h => h.elim) hg hm ha hdb he hpl)) fun D σ H ⟨μ, S, ρ, D0, m, en, q, p⟩ => ?_
  refine LA.run m en q fun ds S1 μ1 vs H1 q1 g1 m1 e1 r1 => ?_
  obtain ⟨hl, q1⟩ := q1
  have hlv : vs.length = ns.length := by rw [← r1.length]; exact hl
  refine ⟨by omega, fun a na => ?_⟩
  rw [List.append_nil]
  refine ⟨a, C, vs, rfl, hlv, T1, hno, upd_same, fun dx fs H' n1 n2 hf ha' hd' hb' => ⟨rfl, dx, fs, ha', hd', ?_, ?_⟩⟩
  · rwa [upd_ne n2] at n1
  · have hd1 : H1 dx = none := by rwa [upd_ne n2] at n1
    have e : upd (del H' a) dx (.xd fs) = upd H1 dx (.xd fs) := by
      funext b
      by_cases h1 : b = dx
      · subst h1
        rw [upd_same, upd_same]
      · rw [upd_ne h1, upd_ne h1]
        by_cases h2 : b = a
        · subst h2
          rw [del_same, na]
        · rw [del_ne h2, hb' b h2 h1, upd_ne h2]
    rw [e]
    exact p.ex ⟨c, ns, ds⟩ ρ S1 q1 (μ1.res dx) σ _ C (some dx) vs (g1.trans (.res hd1)) (m1.res hd1) (e1.grow (.res hd1)) ca ⟨dx, fs, rfl, List.mem_cons_self, upd_same, hf⟩ (r1.grow (.res hd1))
end DL

set_option maxHeartbeats 4000000
/-! DLEX3: try .. except X as e (the clause that is met), what a suite asks of e -/
namespace DL
open PySem PySem.Spec PyProof.Rows L2 He

/-- what the first clause 'except x as n' wishes, where it is met -/
def wAs1 (K : PySem.W.Frag) (c : Value) (i : Nat) (ts : Addr → Value → Option Addr → TS) (D : Ends) : WX := fun cls d σ H =>
  PySem.W.exmOne K cls c = some true ∧ ∀ a, H a = none → ts a cls d { nx := fun σ' H' => D.nx (σ'.set i none) H', rt := D.rt, bk := fun σ' H' => D.bk (σ'.set i none) H', ct := fun σ' H' => D.ct (σ'.set i none) H' } (σ.set i (some (.ref a))) H
section
variable {X : Cx} {x n : Str} {c : Value} {i : Nat} {body suite : List Stmt} {hds : List ExceptHandler} {b₀ : Stmt} {np pos pos' : Pos} {tb : WX → TS} {ts : Addr → Value → Option Addr → TS}
theorem ps_try_as1 (hs : X.stack = X.env :: X.outer) (hf : X.env.frame = some X.env.locals) (hN : X.N.Nodup) (hi : X.N[i]? = some n) (hln : X.env.kindOf n = some .local) (hc : Names X x c)
    (hb : ∀ (W : WX) (pn : List (Addr × Obj)) (xe : Value → Shared → Prop), L2N.Takes (X.tr pn xe) W → PassesOwn (model X.prog X.w) X.A X.env xe → PSs (X.tr pn xe) body (tb W))
    (hsu : ∀ (a : Addr) (oe : Obj) (cls : Value) (d : Option Addr) (pn : List (Addr × Obj)), L2N.Zn cls d oe → (∃ vs, oe.data = .fields vs) → PSs (X.suite a ((a, oe) :: pn)) (b₀ :: suite) (ts a cls d)) :
    PS X (.Try body (.ExceptHandler (some (.Name x np)) (some n) (b₀ :: suite) pos' :: hds) [] [] pos) (fun D σ H => tb (wAs1 X.K c i ts D) D σ H) := by
  refine ⟨fun pins s σ H D I h => ?_⟩
  have ok := I.ok
  have hfr : X.A.frames = some (X.env :: X.outer) := by rw [ok.frames, hs]
  have hloc : Loc X.env.scope n := .inl hln
  refine wpAny_Try_except ?_
  refine wpAny_mono ((hb (wAs1 X.K c i ts D) (X.pn ++ pins) (fun e s₁ => wpAny (model X.prog X.w) X.A (noteFrame e X.env) (fun _ s₂ => wpAny (model X.prog X.w) X.A (setFlight e none) (fun _ s₃ =>
    wpAny (model X.prog X.w) X.A (handleBy e X.env (.ExceptHandler (some (.Name x np)) (some n) (b₀ :: suite) pos' :: hds)) (SP X pins D) X.xe s₃) X.xe s₂) X.xe s₁) (fun u s' xx => ?_) PassesOwn.looking).run [] s σ H D (I.toTry _) h) (fun f s1 hsp => ?_) (fun e s1 he => he)
  · obtain ⟨a, B, sI, pins', σ', H', cls, d, rfl, J', nb, up, sky, na, os, ag, hb1, hyes⟩ := xx
    have J : Inv X pins σ' H' sI := J'.ofTry ok
    have sky' : Sky B (X.env :: X.outer) a (L2N.Zn cls d) X.env.locals s'.heap := by rw [← hs]; exact sky
    show wpAny (model X.prog X.w) X.A (noteFrame (.ref a) X.env) _ _ _
    refine L2N.Sky.land L2N.Zn.steady hfr hf sky' fun h3 fl3 up3 => ?_
    have J3 : Inv X pins σ' H' { s' with heap := h3 } := J.landed nb fl3.1 (up.trans up3) os ag
    obtain ⟨oe3, vs3, he3, hz3, hd3⟩ := fl3.there
    have notFr : ∀ {h : Heap} {o : Obj} {vs : Array Value}, h.FunFrames B (X.env :: X.outer) → h.get? a = some o → o.data = .fields vs → a ∉ frs (X.env :: X.outer) := fun {h o vs} ff e dd hm => by
      obtain ⟨_, o', e', hnf⟩ := ff.mem hm
      rw [e] at e'; cases e'
      exact hnf _ dd
    have nfr := notFr fl3.2.2.1 he3 hd3
    have nL : a ≠ X.env.locals := fun z => nfr (List.mem_filterMap.mpr ⟨X.env, List.mem_cons_self, by rw [hf, z]⟩)
    have nF : a ∉ X.fs := fun hm => by
      obtain ⟨e, he, q⟩ := List.mem_filterMap.mp hm
      exact nfr (List.mem_filterMap.mpr ⟨e, List.mem_cons_of_mem _ he, q⟩)
    have S3 := J3.suite he3 hd3 na nL nF
    refine wpAny_handleBy_cons (codeAny_handlers_test ?_) (by intro q; cases q)
    have LT : PySem.W.Looks (model X.prog X.w) h3 (typeOf (.ref a)) cls := fun A Q E s k q => wpAny_typeOf_ref (k _ _ he3) (by rw [hz3.1]; exact q)
    have LM := PySem.W.exm_one (M := model X.prog X.w) (J3.kIn) LT hb1
    have test : ∀ {Q : Value → Shared → Prop} {E : Value → Shared → Prop}, Q c { s' with heap := h3 } → wpAny (model X.prog X.w) (X.A.mark (some (.ref a))) (eval (.Name x np) X.env) Q E { s' with heap := h3 } := fun {Q E} q => by
      obtain ⟨hg, hdbg, hm | ⟨hm, hv, hnn⟩⟩ := hc
      · exact ld_glob (X := X.suite a ((a, oe3) :: (X.pn ++ pins))) S3 hg hm q hdbg
      · exact ld_blt (X := X.suite a ((a, oe3) :: (X.pn ++ pins))) S3 hg hm hv q hnn hdbg
    refine test (LM.here ?_)
    refine codeAny_handlers_suite_as ?_
    refine HandSPX.lands_againZ fl3 fun h4 fl4 up4 => ?_
    have J4 : Inv X pins σ' H' { s' with heap := h4 } := J.landed nb fl4.1 ((up.trans up3).trans up4) os ag
    obtain ⟨oe4, vs4, he4, hz4, hd4⟩ := fl4.there
    have S4 := J4.suite he4 hd4 na nL nF
    refine store_ok (X := X.suite a ((a, oe4) :: (X.pn ++ pins))) (v := .ref a) S4 hN hi hloc rfl (fun s5 S5 => ?_) (.inr hln)
    refine wpAny_mono ((hsu a oe4 cls d (X.pn ++ pins) hz4 ⟨_, hd4⟩).run [] s5 _ H' _ S5 (hyes a na)) (fun f s6 hsp => ?_) (fun _ _ z => False.elim z)
    have end_ : ∀ {σ6 : L2.St} {H6 : Hp} {Q : Shared → Prop}, Inv (X.suite a ((a, oe4) :: (X.pn ++ pins))) [] σ6 H6 s6 → (∀ s7, Inv X pins (σ6.set i none) H6 s7 → Q s7) →
        wpAny (model X.prog X.w) X.A (do bindName X.env n .none; unbindBehindTheSuite X.env n pos') (fun _ s7 => Q s7) X.xe s6 := fun {σ6 H6 Q} S6 hq => gone_ok (S6.unsuite ok) hN hi hln hq
    cases f with
    | next =>
      obtain ⟨σ6, H6, S6, q6⟩ := hsp
      exact end_ S6 fun s7 J7 => ⟨_, _, J7, q6⟩
    | brk =>
      obtain ⟨σ6, H6, S6, q6⟩ := hsp
      exact end_ S6 fun s7 J7 => ⟨_, _, J7, q6⟩
    | cont =>
      obtain ⟨σ6, H6, S6, q6⟩ := hsp
      exact end_ S6 fun s7 J7 => ⟨_, _, J7, q6⟩
    | ret u =>
      obtain ⟨v6, σ6, H6, S6, r6, q6⟩ := hsp
      exact end_ S6 fun s7 J7 => ⟨_, _, _, J7, r6, q6⟩
  · cases f with
    | next =>
      obtain ⟨σ', H', J', q⟩ := hsp
      exact wpAny_execs_nil ⟨σ', H', J'.ofTry ok, q⟩
    | brk =>
      obtain ⟨σ', H', J', q⟩ := hsp
      exact ⟨σ', H', J'.ofTry ok, q⟩
    | cont =>
      obtain ⟨σ', H', J', q⟩ := hsp
      exact ⟨σ', H', J'.ofTry ok, q⟩
    | ret u =>
      obtain ⟨v, σ', H', J', r, q⟩ := hsp
      exact ⟨v, σ', H', J'.ofTry ok, r, q⟩
end

variable [WW]
theorem EnvR.none {K : PySem.W.Frag} {μ : Mu} {H : Hp} {ρ : Env} {σ : L2.St} (h : EnvR K μ H ρ σ) (i : Nat) : EnvR K μ H (ρ.set i none) (σ.set i none) := by
  refine ⟨by simpa using h.1, fun j d e => ?_⟩
  by_cases hj : i = j
  · subst hj
    rw [List.getElem?_set] at e
    simp at e
  · rw [List.getElem?_set_ne hj] at e ⊢
    exact h.2 j d e
theorem LS.mono {K : PySem.W.Frag} {W W' : WX} {w : WS} {D : Ends} {σ : L2.St} {H : Hp} (h : LS K W w D σ H) (hw : ∀ cls d σ H, W cls d σ H → W' cls d σ H) : LS K W' w D σ H := by
  obtain ⟨μ, S, ρ, D0, m, en, q, p⟩ := h
  exact ⟨μ, S, ρ, D0, m, en, q, p.nx, p.rt, p.bk, p.ct, fun x r s q m2 σ2 H2 C d vs g m' e ca ea ra => hw _ _ _ _ (p.ex x r s q m2 σ2 H2 C d vs g m' e ca ea ra)⟩
omit [WW] in
/-- try: wb, except .. as i: wh; the one class that is let out there is c -/
def wTry (c : Str) (i : Nat) (wb : WS) (wh : Addr → Option Addr → WS) : WS := fun D ρ S => wb { D with ex := fun x ρ' S' => x.c = c ∧ ∀ a d, wh a d { nx := fun ρ2 S2 => D.nx (ρ2.set i none) S2, rt := D.rt, bk := fun ρ2 S2 => D.bk (ρ2.set i none) S2, ct := fun ρ2 S2 => D.ct (ρ2.set i none) S2 } (ρ'.set i (some (.exc a d x.ns x.ds))) S' } ρ S
theorem ss_try {X : Cx} {c : Str} {cv : Value} {x n : Str} {i : Nat} {body suite : List Stmt} {hds : List ExceptHandler} {b₀ : Stmt} {np pos pos' : Pos} {wb : WS} {wh : Addr → Option Addr → WS} (hs : X.stack = X.env :: X.outer) (hf : X.env.frame = some X.env.locals) (hN : X.N.Nodup) (hi : X.N[i]? = some n) (hln : X.env.kindOf n = some .local) (hc : Names X x cv)
    (hx : ∀ C, WW.ca c = some C → PySem.W.exmOne X.K (.ref C) cv = some true)
    (hb : ∀ (pn : List (Addr × Obj)) (xe : Value → Shared → Prop), PassesOwn (model X.prog X.w) X.A X.env xe → SSs (X.tr pn xe) body wb)
    (hsu : ∀ (a : Addr) (oe : Obj) (C : Addr) (d : Option Addr) (pn : List (Addr × Obj)), WW.ca c = some C → L2N.Zn (.ref C) d oe → (∃ vs, oe.data = .fields vs) → SSs (X.suite a ((a, oe) :: pn)) (b₀ :: suite) (wh a d)) :
    SS X (.Try body (.ExceptHandler (some (.Name x np)) (some n) (b₀ :: suite) pos' :: hds) [] [] pos) (wTry c i wb wh) := by
  refine ps_weak (ps_try_as1 (tb := fun W => LS X.K W wb) (ts := fun a cls d D σ H => ∃ C, cls = .ref C ∧ WW.ca c = some C ∧ LS X.K (fun _ _ _ _ => False) (wh a d) D σ H) hs hf hN hi hln hc (fun W pn xe tk po => ?_) (fun a oe cls d pn hz hfd => ?_)) fun D σ H ⟨μ, S, ρ, D0, m, en, q, p⟩ => ?_
  · exact pss_weak (hb pn xe po) fun D σ H h => h.mono fun cls d σ H w => wx_of_takes tk w
  · refine ⟨fun pins s σ H D I ⟨C, ec, ca, h⟩ => ?_⟩
    subst ec
    exact (pss_weak (hsu a oe C d pn ca hz hfd) fun D σ H h => LS.mono (W := fun _ _ _ _ => False) h fun _ _ _ _ z => z.elim).run pins s σ H D I h
  · refine ⟨μ, S, ρ, _, m, en, q, p.nx, p.rt, p.bk, p.ct, fun x ρ' S' hq μ' σ' H' C d vs g m' e' ca ea r => ?_⟩
    obtain ⟨ec, hq⟩ := hq
    rw [ec] at ca
    refine ⟨hx C ca, fun a na => ⟨C, rfl, ca, μ', S', _, _, m', e'.set (Rep.exc ea r), hq a d, ?_, ?_, ?_, ?_, .none⟩⟩
    · exact fun ρ2 S2 q2 μ2 σ2 H2 g2 m2 e2 => p.nx _ S2 q2 μ2 _ H2 (g.trans g2) m2 (e2.none i)
    · exact p.rt.go g
    · exact fun ρ2 S2 q2 μ2 σ2 H2 g2 m2 e2 => p.bk _ S2 q2 μ2 _ H2 (g.trans g2) m2 (e2.none i)
    · exact fun ρ2 S2 q2 μ2 σ2 H2 g2 m2 e2 => p.ct _ S2 q2 μ2 _ H2 (g.trans g2) m2 (e2.none i)

/-! ### in the suite -/
/-- what the class C must say -/
structure XcC (K : PySem.W.Frag) (C : Addr) : Prop where
  ga : PySem.W.findIn K (.ref C) "__getattribute__" = some (some (.builtin "BaseException.__getattribute__"))
  gg : PySem.W.findIn K (.ref C) "__getattr__" = some none
  exC : PySem.W.subIn K (.ref C) (.type "BaseException") = some true
  hdC : PySem.W.hasDictIn K C = true
  ha : PySem.W.findIn K (.ref C) "__class__" = some (some (.builtin "object.__class__"))
  hn : PySem.W.specialIn K (.builtin "object.__class__") "__get__" = some (some (.builtin "getset_descriptor.__get__"))
  ht : PySem.W.takesIn K (.builtin "object.__class__") = some true
  hm : PySem.W.mroIn K C (.type "object") = some true
omit [WW] in
/-- e.f, e in slot i, f the j-th field -/
def gXf (i : Nat) (a : Addr) (d : Option Addr) (f : Str) (j : Nat) : WE := fun ρ S Q => match ρ[i]? with
  | some (some (.exc a' d' ns ds)) => a' = a ∧ d' = d ∧ ns[j]? = some f ∧ (match ds[j]? with | some x => Q x S | none => False)
  | _ => False
theorem se_xf {X : Cx} {a C : Addr} {oe : Obj} {d : Option Addr} {pn : List (Addr × Obj)} {n : Str} {x : Str} {i j : Nat} {p pos : Pos} (T : XcC X.K C) (hno : PySem.W.findIn X.K (.ref C) n = some none) (hz : L2N.Zn (.ref C) d oe) (hf : ∃ vs, oe.data = .fields vs)
    (he : SE (X.suite a ((a, oe) :: pn)) (.Name x p) (wVar i)) (hb : attributeBase (.Name x p) n X.env (eval (.Name x p) X.env) = eval (.Name x p) X.env := by rfl) :
    SE (X.suite a ((a, oe) :: pn)) (.Attribute (.Name x p) n pos) (gXf i a d n j) := pe_weak (pe_xf (d := d) ⟨T.ga, T.gg, T.exC, T.hdC⟩ hno hz.zc hf he hb) fun σ H Q ⟨μ, S, ρ, Q0, m, en, q, p⟩ => by
  unfold gXf at q
  split at q
  · rename_i a' d' ns ds hr
    obtain ⟨rfl, rfl, hn, q⟩ := q
    split at q
    · rename_i y hy
      refine LE.run (Q0 := fun e S' => e = .exc a' d' ns ds ∧ S' = S) m en (by show (match ρ[i]? with | some (some d) => _ | _ => False); rw [hr]; exact ⟨rfl, rfl⟩) fun e S1 μ1 v H1 q1 g1 m1 e1 r1 => ?_
      obtain ⟨rfl, rfl⟩ := q1
      cases r1 with
      | exc ea ra =>
        obtain ⟨dd, fs, ed, _, hd, hl⟩ := ea
        obtain ⟨v, hv, rv⟩ := ra.get hy
        exact ⟨rfl, rfl, dd, fs, v, ed, hd, hl j n v hn hv, p y _ q μ1 v H1 g1 m1 rv⟩
    · exact q.elim
  · exact q.elim
omit [WW] in
/-- isinstance(e, ..), told by the classes -/
def gIsE (i : Nat) (a : Addr) (d : Option Addr) (b : Bool) : WE := fun ρ S Q => match ρ[i]? with
  | some (some (.exc a' d' _ _)) => a' = a ∧ d' = d ∧ Q (.bl b) S
  | _ => False
section
variable {X : Cx} {a C : Addr} {oe : Obj} {d : Option Addr} {pn : List (Addr × Obj)}
theorem inst_e {s : Shared} (hz : L2N.Zn (.ref C) d oe) (hf : ∃ vs, oe.data = .fields vs) {pins : List (Addr × Obj)} {σ : L2.St} {H : Hp} {dd : Addr} {fs : List (Str × V)} (I : Inv (X.suite a ((a, oe) :: pn)) pins σ H s) (ed : d = some dd) (hd : H dd = some (.xd fs)) :
    ∃ od, PySem.W.InstAt s.heap a oe C (some od) := by
  obtain ⟨ha, _⟩ := I.pin (a, oe) (List.mem_append_left _ List.mem_cons_self)
  obtain ⟨vs, hdv⟩ := hf
  have hx : ObjOk X.prog X.w H s.heap dd (.xd fs) := I.hok dd _ hd
  obtain ⟨mA, hns, hr⟩ := hx
  obtain ⟨od, ho, hl⟩ := lookIn_ns hns
  subst ed
  exact ⟨od, ha, hz.1, by unfold PySem.W.notCls; rw [hdv] <;> rfl, by rw [hz.2.1]; exact ho⟩
omit [WW] in
def rIsX (K : PySem.W.Frag) (C a : Addr) (d : Option Addr) : List V → Hp → VK → Prop := fun xs H Q => ∃ (c : V) (dd : Addr) (fs : List (Str × V)) (b : Bool), xs = [.ref a, c] ∧ d = some dd ∧ H dd = some (.xd fs) ∧ Q (.bl b) H ∧
  ((∃ cv : Value, (∀ u, RelV c u → u = cv) ∧ PySem.W.kitOne K (.ref C) cv = some b) ∨ ∃ (tp : Addr) (vs : List V), c = .ref tp ∧ H tp = some (.tup vs) ∧ ∀ us, Vals vs us → PySem.W.kitAny K (.ref C) us = some b)
theorem call_isX (T : XcC X.K C) (hz : L2N.Zn (.ref C) d oe) (hf : ∃ vs, oe.data = .fields vs) : CallR (X.suite a ((a, oe) :: pn)) (.builtin "isinstance") (rIsX X.K C a d) := by
  intro pins s σ H xs us Q I r h
  obtain ⟨c, dd, fs, b, rfl, ed, hd, q, hcase⟩ := h
  obtain ⟨u1, u2, rfl, r1, r2⟩ := vals2 r
  obtain rfl : u1 = Value.ref a := r1
  obtain ⟨od, J⟩ := inst_e hz hf I ed hd
  have hcl : (PySem.W.clsIn X.K C).isSome = true := by
    obtain ⟨cd, hc, _⟩ := PySem.W.any_some T.hdC
    rw [hc]
    rfl
  rcases hcase with ⟨cv, hcv, e⟩ | ⟨tp, vs, rfl, ht, hk⟩
  · have ec := hcv _ r2
    subst ec
    exact PySem.W.kia_one (PySem.W.kitx_exc hcl T.ga T.gg T.exC T.ha T.hn T.ht T.hm) I.kIn J e (fun z => nomatch z) fun tk => ⟨.bl b, H, I.kept (t' := tk) fun _ _ z => z, rfl, q⟩
  · obtain rfl : u2 = Value.ref tp := r2
    obtain ⟨its, rv, ⟨o, ho, hc, n, hdt⟩, _⟩ := I.tuple (show SqT X.K H tp vs from .inl (.inl ht))
    obtain ⟨oc, od', odt, osl⟩ := o
    simp only at hc hdt
    subst hc hdt
    exact PySem.W.kia_tup (PySem.W.kitx_exc hcl T.ga T.gg T.exC T.ha T.hn T.ht T.hm) I.kIn J ho (hk its rv) (fun z => nomatch z) fun tk => ⟨.bl b, H, I.kept (t' := tk) fun _ _ z => z, rfl, q⟩
def tCs (vs : List V) : TA := fun _ H Q => Q vs H
omit [WW] in
theorem pa_cs_nil {X : Cx} : PA X [] (tCs []) := pa_nil
omit [WW] in
theorem pa_cs_glob {X : Cx} {es : List Expr} {vs : List V} {x : Str} {C2 : Addr} {p : Pos} (hg : Gl X x) (hm : X.mg x = some (.ref C2)) (h : PA X es (tCs vs)) (hd : (x == ("__debug__" : Str)) = false := by decide)
    (hs : starEach (.Name x p :: es) X.env = (false, eval (.Name x p) X.env) :: starEach es X.env := by rfl) : PA X (.Name x p :: es) (tCs (.ref C2 :: vs)) := pa_cons (pe_glob (v := .ref C2) hg hm rfl hd) h hs
omit [WW] in
theorem pa_cs_blt {X : Cx} {es : List Expr} {vs : List V} {x : Str} {T : String} {p : Pos} (hg : Gl X x) (hm : X.mg x = none) (hT : bootBuiltins x = some (.type T)) (h : PA X es (tCs vs)) (hn : x ≠ "__name__" := by decide) (hd : (x == ("__debug__" : Str)) = false := by decide)
    (hs : starEach (.Name x p :: es) X.env = (false, eval (.Name x p) X.env) :: starEach es X.env := by rfl) : PA X (.Name x p :: es) (tCs (.ty T :: vs)) := pa_cons (pe_bltn (v := .ty T) hg hm hT rfl hn hd) h hs
omit [WW] in
def valV : V → Value
  | .ref a => .ref a
  | .ty n => .type n
  | _ => .none
omit [WW] in
/-- a class: of the program, built in -/
def isCl : V → Bool
  | .ref _ => true
  | .ty _ => true
  | _ => false
omit [WW] in
theorem val_cl {c : V} {u : Value} (h : isCl c = true) (r : RelV c u) : u = valV c := by
  cases c with
  | ref a => exact r
  | ty n => exact r
  | _ => cases h
omit [WW] in
theorem vals_cl : ∀ {vs : List V} {us : List Value}, vs.all isCl = true → Vals vs us → us = vs.map valV
  | [], _, _, .nil => rfl
  | c :: vs, _, h, .cons r t => by
    rw [List.all_cons, Bool.and_eq_true] at h
    rw [List.map_cons, val_cl h.1 r, vals_cl h.2 t]
theorem se_isE {i : Nat} {b : Bool} {c : V} {x : Str} {ce : Expr} {p p2 pos : Pos} (T : XcC X.K C) (hz : L2N.Zn (.ref C) d oe) (hf : ∃ vs, oe.data = .fields vs) (hg : Gl X "isinstance") (hm : X.mg "isinstance" = none) (he : SE (X.suite a ((a, oe) :: pn)) (.Name x p) (wVar i))
    (hc : PA (X.suite a ((a, oe) :: pn)) [ce] (tCs [c])) (hcl : isCl c = true) (hk : PySem.W.kitOne X.K (.ref C) (valV c) = some b)
    (hst : starEach [.Name x p, ce] X.env = (false, eval (.Name x p) X.env) :: starEach [ce] X.env := by rfl) (hpl : (backTo pos (starEach [ce] X.env)).any (·.1) = false := by rfl) :
    SE (X.suite a ((a, oe) :: pn)) (.Call (.Name "isinstance" p2) [.Name x p, ce] [] pos) (gIsE i a d b) :=
  pe_weak (pe_callB (call_isX (d := d) T hz hf) hg hm (by decide +kernel) (pa_cons he hc hst) (by decide) (by decide) hst hpl) fun σ H Q ⟨μ, S, ρ, Q0, m, en, q, p⟩ => by
    unfold gIsE at q
    split at q
    · rename_i a' d' ns ds hr
      obtain ⟨rfl, rfl, q⟩ := q
      refine LE.run (Q0 := fun e S' => e = .exc a' d' ns ds ∧ S' = S) m en (by show (match ρ[i]? with | some (some d) => _ | _ => False); rw [hr]; exact ⟨rfl, rfl⟩) fun e S1 μ1 v H1 q1 g1 m1 e1 r1 => ?_
      obtain ⟨rfl, rfl⟩ := q1
      cases r1 with
      | exc ea ra =>
        obtain ⟨dd, fs, ed, _, hd, _⟩ := ea
        exact ⟨c, dd, fs, b, rfl, ed, hd, p _ _ q μ1 _ H1 g1 m1 (.bl b), .inl ⟨_, fun u r => val_cl hcl r, hk⟩⟩
    · exact q.elim
theorem se_isEt {i k : Nat} {b : Bool} {vs : List V} {x : Str} {es : List Expr} {p p2 p3 pos : Pos} (T : XcC X.K C) (hz : L2N.Zn (.ref C) d oe) (hf : ∃ vs, oe.data = .fields vs) (hg : Gl X "isinstance") (hm : X.mg "isinstance" = none) (he : SE (X.suite a ((a, oe) :: pn)) (.Name x p) (wVar i))
    (hc : PA (X.suite a ((a, oe) :: pn)) es (tCs vs)) (hcl : vs.all isCl = true) (hk : PySem.W.kitAny X.K (.ref C) (vs.map valV) = some b) (hl : vs.length ≤ 1000 := by simp)
    (hst : starEach [.Name x p, .Tuple es k p3] X.env = (false, eval (.Name x p) X.env) :: starEach [.Tuple es k p3] X.env := by rfl) (hst2 : starEach [.Tuple es k p3] X.env = (false, eval (.Tuple es k p3) X.env) :: starEach [] X.env := by rfl) (hpl : (backTo pos (starEach [.Tuple es k p3] X.env)).any (·.1) = false := by rfl) :
    SE (X.suite a ((a, oe) :: pn)) (.Call (.Name "isinstance" p2) [.Name x p, .Tuple es k p3] [] pos) (gIsE i a d b) :=
  pe_weak (pe_callB (call_isX (d := d) T hz hf) hg hm (by decide +kernel) (pa_cons he (pa_cons (pe_tup hc) pa_nil hst2) hst) (by decide) (by decide) hst hpl) fun σ H Q ⟨μ, S, ρ, Q0, m, en, q, p⟩ => by
    unfold gIsE at q
    split at q
    · rename_i a' d' ns ds hr
      obtain ⟨rfl, rfl, q⟩ := q
      refine LE.run (Q0 := fun e S' => e = .exc a' d' ns ds ∧ S' = S) m en (by show (match ρ[i]? with | some (some d) => _ | _ => False); rw [hr]; exact ⟨rfl, rfl⟩) fun e S1 μ1 v H1 q1 g1 m1 e1 r1 => ?_
      obtain ⟨rfl, rfl⟩ := q1
      cases r1 with
      | exc ea ra =>
        obtain ⟨dd, fs, ed, _, hd, _⟩ := ea
        refine ⟨by rw [sizeLine_eq]; omega, fun tp ht => ?_⟩
        have nd : dd ≠ tp := fun e => by rw [e, ht] at hd; cases hd
        exact ⟨.ref tp, dd, fs, b, rfl, ed, by rw [upd_ne nd]; exact hd, p _ _ q μ1 _ _ (g1.trans (.new ht)) (m1.new ht) (.bl b), .inr ⟨tp, vs, rfl, upd_same, fun us r => by rw [vals_cl hcl r]; exact hk⟩⟩
    · exact q.elim
end

/-! ### defs called in a suite -/
section
variable {P : Program} {w : World} {K : PySem.W.Frag} {mg : Str → Option Value} {base : Heap}
theorem fn_okH {x qual : Str} {params : Arguments} {body : List Stmt} {scope : Scope} {f : Addr} {fd : FuncData} {N ps : List Str} {k : Nat} {Γ : Con} {wb : WS} (F : FunD K x qual params body scope [] [] f fd) (Sc : FnScope N ps scope)
    (hb : ∀ (cdv : Value) (A : Around) (outer : List PySem.Env) (s : Shared) (H : Hp) (E : XK) (p : Addr × Obj), L2H.Hot1 A p → L2H.RoomH k (A.deeper (envOfC qual scope s.heap.objs.size f cdv)) →
      SSs (L2H.cxH CX0 P w K mg base N qual scope f cdv A outer s H E p).nox body wb)
    (hw : ∀ (ds : List D) (S : Store) (Q0 : D → Store → Prop), ds.length = ps.length → closedS S → closedL S.length ds → Γ ds S Q0 →
      wb { nx := fun _ S1 => Exit S.length .non S1 Q0, rt := fun d S1 => Exit S.length d S1 Q0 } (ds.map some ++ List.replicate (N.length - ps.length) none) S) : L2H.FnH P w K mg base CX0 (k + 1) f fd ps (SpD K ps.length Γ) := by
  obtain ⟨oc, od, dV, kV, doc, pm, an, cdv, ct, osl, rfl, lk, hcd, _, _⟩ := F.ex
  refine L2H.fn_ofH lk hcd Sc (fun vs H Q E h => ?_) fun A outer s H vs Q E p hot hr h => ?_
  · obtain ⟨μ, S, ds, Q0, m, r, hl, _⟩ := h
    rw [← r.length, hl]
  · obtain ⟨μ, S, ds, Q0, m, r, hl, q, p1⟩ := h
    refine ⟨_, PSs.nox (hb cdv A outer s H E p hot hr), ?_⟩
    have en := start_R (N := N) r
    rw [hl] at en
    have cl := r.closed
    rw [m.len] at cl
    refine ⟨μ, S, _, _, m, en, hw ds S Q0 hl m.closed cl q, ?_, ?_, ?_, ?_, .none⟩
    · exact fun ρ' S' q' μ' σ' H' g' m' e' => exit_ok m g' m' .non p1 q'
    · exact fun d S' q' μ' v H' g' m' r' => exit_ok m g' m' r' p1 q'
    · exact fun ρ' S' q' => q'.elim
    · exact fun ρ' S' q' => q'.elim
structure DefH (P : Program) (w : World) (K : PySem.W.Frag) (mg : Str → Option Value) (base : Heap) (k : Nat) (x : Str) (ps : List Str) (Γ : Con) : Prop where
  ex : ∃ f fd, L2H.FnH P w K mg base CX0 k f fd ps (SpD K ps.length Γ) ∧ mg x = some (.ref f) ∧ PySem.W.keepIn K (.ref f) = true ∧ Binds K fd ps []
end
omit [WW] in
theorem hot_suite {X : Cx} {a : Addr} {oe : Obj} {cls : Value} {d : Option Addr} {pn : List (Addr × Obj)} (hz : L2N.Zn cls d oe) (hf : ∃ vs, oe.data = .fields vs) : L2H.HotC (X.suite a ((a, oe) :: pn)) := by
  obtain ⟨vs, hv⟩ := hf
  exact ⟨(a, oe), ⟨rfl, vs, hv, hz.2.2 vs hv⟩, List.mem_cons_self⟩
theorem se_fnH {X : Cx} {e : Expr} {es : List Expr} {wr : WA} {k n : Nat} {ps : List Str} {Γ : Con} {x : Str} {p pos : Pos} (F : DefH X.prog X.w X.K X.mg X.base k x ps Γ) (hc : L2H.HotC X) (hr : L2H.RoomH k X.A) (hg : Gl X x)
    (ha : SA X (e :: es) wr) (hn : ps.length = n := by rfl) (hdb : (x == ("__debug__" : Str)) = false := by decide) (he : starEach (e :: es) X.env = (false, eval e X.env) :: starEach es X.env := by rfl) (hpl : (backTo pos (starEach es X.env)).any (·.1) = false := by rfl) :
    SE X (.Call (.Name x p) (e :: es) [] pos) (wFn Γ n wr) := by
  subst hn
  obtain ⟨f, fd, h1, h2, h3, h4⟩ := F.ex
  exact pe_weak (L2H.pe_callH (E := fun _ => E0) h1 hr hc hg h2 h3 h4 (fun _ _ _ _ _ _ _ z => z.elim) ha hdb he hpl) fun σ H Q ⟨μ, S, ρ, Q0, m, en, q, p⟩ => by
    refine LA.run m en q fun ds S1 μ1 vs H1 q1 g1 m1 e1 r1 => ?_
    exact ⟨μ1, S1, ds, Q0, m1, r1, q1.1, q1.2, p.go g1⟩
end DL

set_option maxHeartbeats 4000000
/-! DLEX4: what the program says of its exception classes (facts of K) -/
namespace DL
open PySem PySem.Spec PyProof.Rows L2 He

/-- an exception class of the program, by its name, with an own __init__ -/
def oexI (K : PySem.W.Frag) (C : Addr) : Bool := match K.lookup C with
  | some ⟨.type "type", _, .cls cd, sl⟩ => (match cd.mro, sl.toList with
    | .ref C' :: bm, [_, _, _, _, some (.builtin n), _] => C' == C && n == "ValueError.__new__" && !cd.hasDel && cd.hasDict && PySem.HandSPX.refsVE bm
    | _, _ => false)
  | _ => false
def oexB (x : Str) (K : PySem.W.Frag) : Bool := oexI K (ga K x) && (eqO (PySem.W.findIn K (.ref (ga K x)) "__setattr__") (some (some (.builtin "object.__setattr__"))) && (decide (PySem.W.subIn K (.ref (ga K x)) (.type "BaseException") = some true) &&
  (decide (PySem.W.typeIn K (.ref (ga K x)) = some (.type "type")) && PySem.W.keepIn K (.ref (ga K x)))))
theorem oexB_ok {x : Str} {K : PySem.W.Frag} (c : oexB x K = true) : OexC K (ga K x) := by
  obtain ⟨c1, c⟩ := ba c
  obtain ⟨c2, c⟩ := ba c
  obtain ⟨c3, c⟩ := ba c
  obtain ⟨c4, c5⟩ := ba c
  refine ⟨?_, eqO_ok c2, of_decide_eq_true c3, of_decide_eq_true c4, c5⟩
  generalize ga K x = C at *
  unfold oexI at c1
  split at c1
  · rename_i dd cd sl ho
    split at c1
    · rename_i C' bm k0 k1 k2 k3 n k5 hm hs
      simp only [Bool.and_eq_true, beq_iff_eq, Bool.not_eq_true'] at c1
      obtain ⟨⟨⟨⟨rfl, rfl⟩, hdel⟩, hd⟩, hr⟩ := c1
      obtain ⟨nm, bs, mro, ns, qn, hdct, sn, sub, ab, col, del⟩ := cd
      dsimp only at hm hdel hd
      subst hm hdel hd
      have hsl : sl = #[k0, k1, k2, k3, some (.builtin "ValueError.__new__"), k5] := by
        obtain ⟨l⟩ := sl
        simp only at hs
        rw [hs]
      subst hsl
      exact ⟨nm, qn, ns, bs, bm, sn, sub, ab, col, dd, k0, k1, k2, k3, k5, ho, hr⟩
    · cases c1
  · cases c1
def initB (x : Str) (K : PySem.W.Frag) : Bool := eqO (PySem.W.findIn K (.ref (ga K x)) "__init__") (some (some (.ref (ma K (ga K x) "__init__")))) && decide (PySem.W.typeIn K (.ref (ma K (ga K x) "__init__")) = some (.type "function"))
theorem initB_ok {x : Str} {K : PySem.W.Frag} (c : initB x K = true) : PySem.W.findIn K (.ref (ga K x)) "__init__" = some (some (.ref (ma K (ga K x) "__init__"))) ∧ PySem.W.typeIn K (.ref (ma K (ga K x) "__init__")) = some (.type "function") := by
  obtain ⟨c1, c2⟩ := ba c
  exact ⟨eqO_ok c1, of_decide_eq_true c2⟩
def nofB (x f : Str) (K : PySem.W.Frag) : Bool := eqO (PySem.W.findIn K (.ref (ga K x)) f) (some none)
def nofsB (x : Str) (ns : List Str) (K : PySem.W.Frag) : Bool := ns.all fun f => nofB x f K
theorem nofsB_ok {x : Str} {ns : List Str} {K : PySem.W.Frag} (c : nofsB x ns K = true) : ∀ f ∈ ns, PySem.W.findIn K (.ref (ga K x)) f = some none := fun f hf => eqO_ok (List.all_eq_true.mp c f hf)
def xcB (x : Str) (K : PySem.W.Frag) : Bool := eqO (PySem.W.findIn K (.ref (ga K x)) "__getattribute__") (some (some (.builtin "BaseException.__getattribute__"))) && (eqO (PySem.W.findIn K (.ref (ga K x)) "__getattr__") (some none) && (decide (PySem.W.subIn K (.ref (ga K x)) (.type "BaseException") = some true) &&
  (PySem.W.hasDictIn K (ga K x) && (eqO (PySem.W.findIn K (.ref (ga K x)) "__class__") (some (some (.builtin "object.__class__"))) && (eqO (PySem.W.specialIn K (.builtin "object.__class__") "__get__") (some (some (.builtin "getset_descriptor.__get__"))) &&
  (decide (PySem.W.takesIn K (.builtin "object.__class__") = some true) && decide (PySem.W.mroIn K (ga K x) (.type "object") = some true)))))))
theorem xcB_ok {x : Str} {K : PySem.W.Frag} (c : xcB x K = true) : XcC K (ga K x) := by
  obtain ⟨c1, c⟩ := ba c
  obtain ⟨c2, c⟩ := ba c
  obtain ⟨c3, c⟩ := ba c
  obtain ⟨c4, c⟩ := ba c
  obtain ⟨c5, c⟩ := ba c
  obtain ⟨c6, c⟩ := ba c
  obtain ⟨c7, c8⟩ := ba c
  exact ⟨eqO_ok c1, eqO_ok c2, of_decide_eq_true c3, c4, eqO_ok c5, eqO_ok c6, of_decide_eq_true c7, of_decide_eq_true c8⟩
/-- a class by its name: the program's, else a built-in one -/
inductive Cn where
  | own (x : Str)
  | blt (T : String)
def Cn.v (K : PySem.W.Frag) : Cn → V
  | .own x => .ref (ga K x)
  | .blt T => .ty T
def exB (x : Str) (y : Cn) (K : PySem.W.Frag) : Bool := decide (PySem.W.exmOne K (.ref (ga K x)) (valV (y.v K)) = some true)
theorem exB_ok {x : Str} {y : Cn} {K : PySem.W.Frag} (c : exB x y K = true) : PySem.W.exmOne K (.ref (ga K x)) (valV (y.v K)) = some true := of_decide_eq_true c
def isB (x : Str) (y : Cn) (b : Bool) (K : PySem.W.Frag) : Bool := decide (PySem.W.kitOne K (.ref (ga K x)) (valV (y.v K)) = some b)
theorem isB_ok {x : Str} {y : Cn} {b : Bool} {K : PySem.W.Frag} (c : isB x y b K = true) : PySem.W.kitOne K (.ref (ga K x)) (valV (y.v K)) = some b := of_decide_eq_true c
def isAB (x : Str) (ys : List Cn) (b : Bool) (K : PySem.W.Frag) : Bool := decide (PySem.W.kitAny K (.ref (ga K x)) ((ys.map fun y => y.v K).map valV) = some b)
theorem isAB_ok {x : Str} {ys : List Cn} {b : Bool} {K : PySem.W.Frag} (c : isAB x ys b K = true) : PySem.W.kitAny K (.ref (ga K x)) ((ys.map fun y => y.v K).map valV) = some b := of_decide_eq_true c
theorem Cn.cl {K : PySem.W.Frag} (y : Cn) : isCl (y.v K) = true := by cases y <;> rfl
variable [WW]
/-- the class c, as the raising defs need it -/
theorem clsD_of {P : Program} {w : World} {K : PySem.W.Frag} {mg : Str → Option Value} {base : Heap} {k : Nat} {c : Str} {ns : List Str} {fd : FuncData} {ps : List Str} (ca : WW.ca c = some (ga K c)) (hm : mg c = some (.ref (ga K c))) (T : OexC K (ga K c))
    (hi : PySem.W.findIn K (.ref (ga K c)) "__init__" = some (some (.ref (ma K (ga K c) "__init__"))) ∧ PySem.W.typeIn K (.ref (ma K (ga K c) "__init__")) = some (.type "function"))
    (F : FnOk P w K mg base CX0 k (ma K (ga K c) "__init__") fd ps (SpI K ns)) (hb : Binds K fd ps []) (hn : ∀ f ∈ ns, PySem.W.findIn K (.ref (ga K c)) f = some none) : ClsD P w K mg base k c ns :=
  ⟨_, _, _, _, ca, hm, T, hi.1, hi.2, F, hb, hn⟩
end DL

set_option maxHeartbeats 4000000
/-! DLES: enumerate over a text; sep.join -/
namespace PySem
section
variable {prog : Program} {w : World} {A : Around} {E : Value → Shared → Prop} {s : Shared}
theorem pyNext_enum_endD {e it : Addr} {fp : List Addr} {n : Nat} {P : Nat → Value → Prop} {St : Nat → Heap → Prop} {old : Value} {Q : Option Value → Shared → Prop}
    (D : Draws prog w A.in1 it fp n P St) (he : IsEnum s.heap e it n old) (hst : St n s.heap) (hQ : ∀ h', Heap.ExtBut it s.heap h' → Q none { s with heap := h' }) : wpAny (model prog w) A (pyNext (.ref e)) Q E s := by
  have hT : s.TypeIs (.ref e) "enumerate" := ⟨_, he, rfl⟩
  unfold pyNext
  refine wpAny_bind (wpAny_attempt (wpAny_callSpecial?_slot (name := Str.ofString "__next__") hT F.slot_enumerate_next
    (wpAny_call_entry F.slot_enumerate_next hT F.entry_enumerate_next ?_ (F.args_enumerate_next_1 _))))
  show wpAny _ _ (field (.ref e) 2 >>= _) _ _ _
  refine wpAny_bind (wpAny_field he rfl (x := .ref it) rfl ?_)
  refine wpAny_bind (D.done s _ _ hst fun h' x he' hx' => ?_)
  obtain ⟨o, ho, hc⟩ := hx'
  refine wpAny_bind (wpAny_isInstance (T := "StopIteration") (b := true) ⟨o, ho, hc⟩ isSubtype_stop ?_)
  exact wpAny_pure (hQ _ he')
end
end PySem
namespace L2
open PySem PySem.Spec PyProof.Rows
def IteS (x : Str) : It :=
  ⟨fun i _ => i < x.cps.size, fun i H v H' => ∃ T c, v = .ref T ∧ H T = none ∧ H' = upd H T (.tup [.int (i : Nat), .str ⟨#[c]⟩]) ∧ x.cps[i]? = some c, fun i _ => x.cps.size ≤ i⟩
theorem turn_enumS {P : Program} {w : World} {K : PySem.W.Frag} {elts : List Expr} {kk : Nat} {tpos : Pos} (e it : Addr) (x : Str) (t : Tok) (ty : String) (hty : ty = "str_ascii_iterator" ∨ ty = "str_iterator") :
    Turn P w K (.Tuple elts kk tpos) (IteS x) [e, it] e (fun i h => i ≤ x.cps.size ∧ (∃ old, IsEnum h e it ((i : Nat) : Int) old) ∧ h.IsStrIter it ty x t i ∧ e ≠ it) where
  mem := by simp
  obj := fun i h st b hb => by
    obtain ⟨_, ⟨old, he⟩, ⟨o, ho, hc, hd⟩, _⟩ := st
    have e' : b = e ∨ b = it := by simpa using hb
    rcases e' with z | z
    · rw [z]; exact ⟨_, he, fun v q => nomatch q⟩
    · rw [z]; exact ⟨o, ho, fun v q => by rw [hd] at q; cases q⟩
  keep := fun i h h' st k => let ⟨hl, ⟨old, he⟩, ⟨o, ho, r⟩, hne⟩ := st; ⟨hl, ⟨old, k e (by simp) _ he⟩, ⟨o, k it (by simp) o ho, r⟩, hne⟩
  item := by
    intro X hP hw hK hc i pins s σ H E I hf st hg
    subst hP hw hK
    obtain ⟨_, ⟨old, he⟩, hit, hne⟩ := st
    have hg : i < x.cps.size := hg
    have hel : e < s.heap.objs.size := Heap.lt_size he
    have hil : it < s.heap.objs.size := by obtain ⟨_, q, _⟩ := hit; exact Heap.lt_size q
    have hcd : X.A.in1.handled = none := I.ok.hd hc
    have Dr : Draws X.prog X.w X.A.in1 it [it] x.cps.size (fun i v => ∃ c u, x.cps[i]? = some c ∧ v = .str ⟨#[c]⟩ u) (fun i h => h.IsStrIter it ty x t i) := by
      rcases hty with z | z
      · rw [z]; exact Draws.strAscii hcd it x t
      · rw [z]; exact Draws.strWide hcd it x t
    refine wpAny_pyNext_enum_itemD Dr he hit hg hne (by simp [hne]) fun y h' tk hP ho hs' hT hsz hk => ?_
    obtain ⟨c, u, hcx, rfl⟩ := hP
    refine ⟨_, rfl, wpAny_letOwnedTupleGo_enum (s := { s with heap := h', toks := tk + 1 }) ho fun h'' he' sb => ?_⟩
    have hT2 : h''.get? s.heap.objs.size = some { cls := .type "tuple", data := .seq #[.int i tk, .str ⟨#[c]⟩ u] } := (sb.2 _ (Nat.ne_of_gt hel)).trans hT
    have new : ObjOk X.prog X.w (upd H s.heap.objs.size (.tup [.int (i : Nat), .str ⟨#[c]⟩])) h'' s.heap.objs.size (.tup [.int (i : Nat), .str ⟨#[c]⟩]) :=
      ⟨by show 2 ≤ sizeLine; decide, [.int i tk, .str ⟨#[c]⟩ u], .cons ⟨_, rfl⟩ (.cons ⟨_, rfl⟩ .nil), ⟨_, hT2, rfl, _, rfl⟩⟩
    have I1 : Inv X pins σ (upd H s.heap.objs.size (.tup [.int (i : Nat), .str ⟨#[c]⟩])) { s with heap := h'', toks := tk + 1 } :=
      I.turnedNew (ch := [e, it]) (fun b ob hb q => (sb.2 b (fun z => hb (by simp [z]))).trans (hk b ob (fun z => hb (by simp [z])) (fun z => hb (by simp [z])) q)) hf (Nat.le_refl _) new
    refine ⟨.ref s.heap.objs.size, _, I1, rfl, ⟨_, c, rfl, I.hok.fresh (Nat.le_refl _), rfl, hcx⟩, ⟨hg, ⟨.str ⟨#[c]⟩ u, ?_⟩, ?_, hne⟩, fun b hb => ?_⟩
    · have e1 : ((i + 1 : Nat) : Int) = (i : Int) + 1 := by omega
      rw [e1]; exact he'
    · obtain ⟨o, ho', r⟩ := hs'
      exact ⟨o, (sb.2 it (Ne.symm hne)).trans ho', r⟩
    · have hb' : b < s.heap.objs.size := by
        have e' : b = e ∨ b = it := by simpa using hb
        rcases e' with z | z
        · rw [z]; exact hel
        · rw [z]; exact hil
      rw [upd_ne (Nat.ne_of_lt hb')]
      exact (hf b hb).1
  done := by
    intro X hP hw hK hc i pins s σ H E I hf st hg
    subst hP hw hK
    obtain ⟨hle, ⟨old, he⟩, hit, hne⟩ := st
    have hg : x.cps.size ≤ i := hg
    have ei : i = x.cps.size := by omega
    subst ei
    obtain ⟨f0, f1, f2, f3, f4, f5⟩ := hf it (by simp)
    have hcd : X.A.in1.handled = none := I.ok.hd hc
    have Dr : Draws X.prog X.w X.A.in1 it [it] x.cps.size (fun i v => ∃ c u, x.cps[i]? = some c ∧ v = .str ⟨#[c]⟩ u) (fun i h => h.IsStrIter it ty x t i) := by
      rcases hty with z | z
      · rw [z]; exact Draws.strAscii hcd it x t
      · rw [z]; exact Draws.strWide hcd it x t
    exact pyNext_enum_endD Dr he hit fun h' eb => ⟨rfl, I.turned (t' := s.toks) (fun b o hb q => eb b o hb q) f0 f1 f3 f4 f5⟩
  self := fun A i s Q E st h => let ⟨_, ⟨_, he⟩, _⟩ := st; wpAny_pyIter_enum he h
def iEnumS (ta : TA) : TI := fun σ H R => ta σ H fun vs H1 => ∃ x, vs = [.str x] ∧ R (IteS x) H1
theorem pi_enumS {X : Cx} {e : Expr} {ta : TA} {p pos tpos : Pos} {elts : List Expr} {kk : Nat} (hg : Gl X "enumerate") (hm : X.mg "enumerate" = none) (ha : PA X [e] ta) (hs : starEach [e] X.env = [(false, eval e X.env)] := by rfl) :
    PI X (.Tuple elts kk tpos) (.Call (.Name "enumerate" p) [e] [] pos) (iEnumS ta) := by
  refine ⟨fun pins s σ H R I h => ?_⟩
  refine Call_ (ld_blt I hg hm boot_enumerate (PyProof.Rows.callWith_type1 (thn (ha.run pos pins s σ H _ I h) fun us s1 ⟨vs, H1, I1, r1, q1⟩ => ?_) hs rfl))
  obtain ⟨x, ex, q⟩ := q1
  subst ex
  cases r1 with
  | cons r rr =>
    cases rr
    obtain ⟨t, rfl⟩ := r
    have fresh2 : ∀ b, b ∈ [s1.heap.objs.size + 1, s1.heap.objs.size] → FpOk X pins H1 b := fun b hb => by
      have e' : b = s1.heap.objs.size + 1 ∨ b = s1.heap.objs.size := by simpa using hb
      have hle : s1.heap.objs.size ≤ b := by
        rcases e' with z | z
        · rw [z]; exact Nat.le_add_right _ _
        · rw [z]; exact Nat.le_refl _
      exact I1.fpOk hle (I1.hok.fresh hle)
    have hty : strIterType x = "str_ascii_iterator" ∨ strIterType x = "str_iterator" := by
      unfold strIterType
      split
      · exact .inl rfl
      · exact .inr rfl
    refine enum_begins1 (begins_text x t) trivial fun h' he hit hsz hk => wpAny_pyIter_enum he ?_
    have I2 : Inv X pins σ H1 { s1 with heap := h' } := I1.kept (t' := s1.toks) hk
    exact ⟨s1.heap.objs.size + 1, [s1.heap.objs.size + 1, s1.heap.objs.size], _, _, H1, rfl, I2, turn_enumS (s1.heap.objs.size + 1) s1.heap.objs.size x t _ hty, ⟨Nat.zero_le _, ⟨.none, he⟩, ⟨_, hit, rfl, rfl⟩, Nat.succ_ne_self _⟩, fresh2, q⟩
end L2
namespace DL
open PySem PySem.Spec PyProof.Rows L2
variable [WW] {X : Cx} {a e o : Expr} {wa wo : WE} {wr : WA} {p pos tpos : Pos}
omit [WW] in
def wEnumS (w : WA) : WI := fun ρ S Q => w ρ S fun ds S1 => match ds with
  | [.str x] => Q (enumD 0 (x.cps.toList.map fun c => .str (chS c))) (fun _ => True) S1
  | _ => False
theorem isw_enumS {K : PySem.W.Frag} {μ : Mu} {H : Hp} {x : Str} : IsW K μ H (IteS x) (enumD 0 (x.cps.toList.map fun c => .str (chS c))) (fun _ => True) where
  go := fun i μ2 H2 S2 hi g m _ => by
    rw [enumD_length] at hi
    show i < x.cps.size
    simpa using hi
  stop := fun μ2 H2 S2 g m _ => by
    rw [enumD_length]
    show x.cps.size ≤ _
    simp
  yld := fun i μ2 H2 S2 y H3 hi g m _ z => by
    obtain ⟨T, c, rfl, hT, rfl, hc⟩ := z
    exact ⟨.tup [.int ((0 + i : Nat) : Int), .str (chS c)], by rw [enumD_get, List.getElem?_map, Array.getElem?_toList, hc]; rfl, .new hT, m.new hT, Sim.newT (S := S2) hT (.cons (by rw [Nat.zero_add]; exact .int _) (.one (.str _)))⟩
theorem si_enumS {elts : List Expr} {kk : Nat} (hg : Gl X "enumerate") (hm : X.mg "enumerate" = none) (ha : SA X [a] wr) (hs : starEach [a] X.env = [(false, eval a X.env)] := by rfl) :
    SI X (.Tuple elts kk tpos) (.Call (.Name "enumerate" p) [a] [] pos) (wEnumS wr) := pi_weak (pi_enumS hg hm ha hs) fun σ H R ⟨μ, S, ρ, Q0, m, en, q, p⟩ => by
  refine LA.run m en q fun ds S1 μ1 vs H1 q1 g1 m1 e1 r1 => ?_
  split at q1
  · obtain ⟨v, rfl, r⟩ := r1.one_inv
    exact ⟨_, by rw [r.str_inv], p _ _ S1 q1 μ1 _ H1 g1 m1 isw_enumS⟩
  · exact q1.elim

/-! ### methods of a text -/
omit [WW] in
def wMethS (R : RM) (wo : WE) (wr : WA) : WE := fun ρ S Q => wo ρ S fun x S1 => (match x with | .str _ => wr ρ S1 fun ds S2 => R x ds S2 Q | _ => False)
theorem se_methS {r : V → List V → Hp → VK → Prop} {R : RM} (hd : MethD X.K r R) (hp : PE X e (tBM X.K "str" r (LE X.K wo) (LA X.K wr))) : SE X e (wMethS R wo wr) := pe_weak hp fun σ H Q ⟨μ, S, ρ, Q0, m, en, q, p⟩ => by
  refine LE.run m en q fun x S1 μ1 v H1 q1 g1 m1 e1 r1 => ?_
  split at q1
  · rename_i z
    have ez := r1.str_inv
    subst ez
    exact ⟨rfl, LA.run m1 e1 q1 fun ds S2 μ2 vs H2 q2 g2 m2 e2 r2 => hd μ2 S2 H2 _ _ ds vs Q0 Q m2 (r1.grow g2) r2 q2 (p.go (g1.trans g2))⟩
  · exact q1.elim
omit [WW] in
def mJoin : RM
  | .str a, [x], S, Q => match itemsD S x with | some ds => ∃ ys : List Str, ds = ys.map .str ∧ (ys.map (·.length)).sum + ys.length * a.length ≤ 16777216 ∧ Q (.str (Txt.join a ys)) S | none => False
  | _, _, _, _ => False
def rJoin (K : PySem.W.Frag) : V → List V → Hp → VK → Prop := fun x xs H Q => ∃ a p, ∃ ys : List Str, x = .str a ∧ xs = [.ref p] ∧ (SqL K H p (ys.map V.str) ∨ SqT K H p (ys.map V.str)) ∧
    (ys.map (·.length)).sum + ys.length * a.length ≤ 16777216 ∧ Q (.str (Txt.join a ys)) H
theorem RepAll.strs {K : PySem.W.Frag} {μ : Mu} {H : Hp} : ∀ {ys : List Str} {vs : List V}, RepAll K μ H (ys.map D.str) vs → vs = ys.map V.str
  | [], _, h => by cases h; rfl
  | y :: ys, _, h => by
    cases h with
    | cons r t =>
      cases r
      rw [RepAll.strs t]
      rfl
theorem md_join {K : PySem.W.Frag} : MethD K (rJoin K) mJoin := by
  intro μ S H x v ds vs Q0 Q m rx r q p
  unfold mJoin at q
  split at q
  · rename_i a y
    obtain ⟨u, rfl, ry⟩ := r.one_inv
    split at q
    · rename_i es hes
      obtain ⟨ys, rfl, hz, q⟩ := q
      obtain ⟨l, xs, rfl, hs, ra⟩ := items_rep m ry hes
      have ex := RepAll.strs ra
      subst ex
      exact ⟨a, l, ys, rx.str_inv, rfl, hs, hz, p.now m (.str _) q⟩
    · exact q.elim
  · exact q.elim
omit [WW] in
theorem join0_len : ∀ ys : List Str, (Str.join (Str.ofString "") ys).length = (ys.map (·.length)).sum
  | [] => rfl
  | [x] => by
    show x.length = _
    simp
  | x :: y :: r => by
    have h := join0_len (y :: r)
    have e0 : (Str.ofString "").length = 0 := by decide +kernel
    show (x ++ Str.ofString "" ++ Str.join (Str.ofString "") (y :: r)).length = _
    rw [Str.length_append, Str.length_append, h, e0]
    simp only [List.map_cons, List.sum_cons]
    omega
omit [WW] in
theorem join_len0 (ys : List Str) : (Txt.join (Str.ofString "") ys).length = (ys.map (·.length)).sum := by
  show (Builtin.Str.glued (Str.ofString "") ys).length = _
  rw [StrLaws.glued_eq_join, join0_len]
end DL
namespace DL
open PySem PySem.Spec PyProof.Rows L2
variable [WW]
/-- f() -/
theorem se_fn0 {X : Cx} {k : Nat} {Γ : Con} {x : Str} {p pos : Pos} (F : Def X.prog X.w X.K X.mg X.base k x [] Γ) (hr : Room k X.A) (hg : Gl X x) (hdb : (x == ("__debug__" : Str)) = false := by decide) : SE X (.Call (.Name x p) [] [] pos) (wFn Γ 0 wNil) := by
  obtain ⟨f, fd, h1, h2, h3, h4⟩ := F.ex
  exact pe_weak (pe_call0 (E := E0) h1 hr hg h2 h3 h4 .nil pass0 hdb) fun σ H Q ⟨μ, S, ρ, Q0, m, en, q, p⟩ => ⟨μ, S, [], Q0, m, .nil, rfl, q.2, p⟩
end DL

set_option maxHeartbeats 4000000
/-! the text: the defs by places, scopes -/
namespace K01
open PySem PySem.Spec PyProof.Rows L2 DL
def top (i : Nat) : Stmt := PySem.Challenge.pw_everygain_k01_names_and_dials_checked.main.body.getD i (.Pass ⟨0, 0, 0, 0⟩)
abbrev s_is_integer : Stmt := top 13
theorem sc_is_integer : FnScope ["thing"] ["thing"] (defScope s_is_integer) := ⟨rfl, rfl, rfl, by decide +kernel, rfl, by decide +kernel, by decide +kernel⟩
abbrev s_name_fault : Stmt := top 14
theorem sc_name_fault : FnScope ["thing", "at", "sign"] ["thing"] (defScope s_name_fault) := ⟨rfl, rfl, rfl, by decide +kernel, rfl, by decide +kernel, by decide +kernel⟩
abbrev s_check_name : Stmt := top 15
theorem sc_check_name : FnScope ["thing", "at"] ["thing"] (defScope s_check_name) := ⟨rfl, rfl, rfl, by decide +kernel, rfl, by decide +kernel, by decide +kernel⟩
abbrev s_dial_fault : Stmt := top 17
theorem sc_dial_fault : FnScope ["thing", "size", "turn"] ["thing"] (defScope s_dial_fault) := ⟨rfl, rfl, rfl, by decide +kernel, rfl, by decide +kernel, by decide +kernel⟩
abbrev s_check_dial : Stmt := top 18
theorem sc_check_dial : FnScope ["thing", "word"] ["thing"] (defScope s_check_dial) := ⟨rfl, rfl, rfl, by decide +kernel, rfl, by decide +kernel, by decide +kernel⟩
abbrev s__law_pool : Stmt := top 20
theorem sc__law_pool : FnScope ["script", "salt", "cells", "mixed", "cell"] ["script", "salt"] (defScope s__law_pool) := ⟨rfl, rfl, rfl, by decide +kernel, rfl, by decide +kernel, by decide +kernel⟩
abbrev s__law_draw : Stmt := top 21
theorem sc__law_draw : FnScope ["pool", "many", "cell", "digit"] ["pool", "many"] (defScope s__law_draw) := ⟨rfl, rfl, rfl, by decide +kernel, rfl, by decide +kernel, by decide +kernel⟩
abbrev s__law_whole : Stmt := top 22
theorem sc__law_whole : FnScope ["thing"] ["thing"] (defScope s__law_whole) := ⟨rfl, rfl, rfl, by decide +kernel, rfl, by decide +kernel, by decide +kernel⟩
abbrev s__law_letters : Stmt := top 23
theorem sc__law_letters : FnScope [] [] (defScope s__law_letters) := ⟨rfl, rfl, rfl, by decide +kernel, rfl, by decide +kernel, by decide +kernel⟩
abbrev s__law_name : Stmt := top 24
theorem sc__law_name : FnScope ["pool", "many", "signs", "both", "place"] ["pool", "many"] (defScope s__law_name) := ⟨rfl, rfl, rfl, by decide +kernel, rfl, by decide +kernel, by decide +kernel⟩
abbrev s__law_sign : Stmt := top 25
theorem sc__law_sign : FnScope ["pool", "near", "whole"] ["pool"] (defScope s__law_sign) := ⟨rfl, rfl, rfl, by decide +kernel, rfl, by decide +kernel, by decide +kernel⟩
abbrev s__law_spoilt : Stmt := top 26
theorem sc__law_spoilt : FnScope ["name", "place", "sign"] ["name", "place", "sign"] (defScope s__law_spoilt) := ⟨rfl, rfl, rfl, by decide +kernel, rfl, by decide +kernel, by decide +kernel⟩
abbrev s__law_wrong_place : Stmt := top 27
theorem sc__law_wrong_place : FnScope ["thing", "place", "letter"] ["thing"] (defScope s__law_wrong_place) := ⟨rfl, rfl, rfl, by decide +kernel, rfl, by decide +kernel, by decide +kernel⟩
abbrev s__law_asks_name : Stmt := top 28
theorem sc__law_asks_name : FnScope ["thing", "due", "told", "e"] ["thing"] (defScope s__law_asks_name) := ⟨rfl, rfl, rfl, by decide +kernel, rfl, by decide +kernel, by decide +kernel⟩
abbrev s__law_names : Stmt := top 29
theorem sc__law_names : FnScope ["pool", "things", "name", "place", "one", "long"] ["pool"] (defScope s__law_names) := ⟨rfl, rfl, rfl, by decide +kernel, rfl, by decide +kernel, by decide +kernel⟩
abbrev s__law_strangers : Stmt := top 30
theorem sc__law_strangers : FnScope ["pool", "name", "many", "found", "turn"] ["pool"] (defScope s__law_strangers) := ⟨rfl, rfl, rfl, by decide +kernel, rfl, by decide +kernel, by decide +kernel⟩
abbrev s__law_dial_word : Stmt := top 31
theorem sc__law_dial_word : FnScope ["thing", "many", "turn"] ["thing"] (defScope s__law_dial_word) := ⟨rfl, rfl, rfl, by decide +kernel, rfl, by decide +kernel, by decide +kernel⟩
abbrev s__law_asks_dial : Stmt := top 32
theorem sc__law_asks_dial : FnScope ["thing", "due", "told", "e"] ["thing"] (defScope s__law_asks_dial) := ⟨rfl, rfl, rfl, by decide +kernel, rfl, by decide +kernel, by decide +kernel⟩
abbrev s__law_size : Stmt := top 33
theorem sc__law_size : FnScope ["pool", "habit"] ["pool"] (defScope s__law_size) := ⟨rfl, rfl, rfl, by decide +kernel, rfl, by decide +kernel, by decide +kernel⟩
abbrev s__law_turns : Stmt := top 34
theorem sc__law_turns : FnScope ["many", "turn"] ["many"] (defScope s__law_turns) := ⟨rfl, rfl, rfl, by decide +kernel, rfl, by decide +kernel, by decide +kernel⟩
abbrev s__law_dials : Stmt := top 35
theorem sc__law_dials : FnScope ["pool", "many", "turns", "turn", "small", "others", "other", "things", "bent", "turned"] ["pool"] (defScope s__law_dials) := ⟨rfl, rfl, rfl, by decide +kernel, rfl, by decide +kernel, by decide +kernel⟩
abbrev s_law : Stmt := top 36
theorem sc_law : FnScope ["script", "pool", "thing", "name", "kept"] ["script"] (defScope s_law) := ⟨rfl, rfl, rfl, by decide +kernel, rfl, by decide +kernel, by decide +kernel⟩
abbrev si_BadDial : Stmt := clsInit (top 8) 0
theorem sc_init_BadDial : FnScope ["self", "word"] ["self", "word"] (defScope si_BadDial) := ⟨rfl, rfl, rfl, by decide +kernel, rfl, by decide +kernel, by decide +kernel⟩
abbrev si_BadName : Stmt := clsInit (top 7) 0
theorem sc_init_BadName : FnScope ["self", "at"] ["self", "at"] (defScope si_BadName) := ⟨rfl, rfl, rfl, by decide +kernel, rfl, by decide +kernel, by decide +kernel⟩
def k_DIAL_MOST : DL.D := (DL.D.int (10000))
def k_FIGURES : DL.D := (DL.D.str "0123456789")
def k_LETTERS : DL.D := (DL.D.str "abcdefghijklmnopqrstuvwxyz")
def k_NAME_MOST : DL.D := (DL.D.int (8))
/-- what the top leaves -/
structure Txt [WW] (K : PySem.W.Frag) (mg : Str → Option Value) : Prop where
  f_abs : mg "abs" = none
  f_bool : mg "bool" = none
  f_enumerate : mg "enumerate" = none
  f_int : mg "int" = none
  f_isinstance : mg "isinstance" = none
  f_len : mg "len" = none
  f_list : mg "list" = none
  f_range : mg "range" = none
  f_str : mg "str" = none
  f_tuple : mg "tuple" = none
  k_DIAL_MOST : Cst K mg "DIAL_MOST" k_DIAL_MOST
  k_FIGURES : Cst K mg "FIGURES" k_FIGURES
  k_LETTERS : Cst K mg "LETTERS" k_LETTERS
  k_NAME_MOST : Cst K mg "NAME_MOST" k_NAME_MOST
  m_BadDial : mg "BadDial" = some (.ref (He.ga K "BadDial"))
  m_BadName : mg "BadName" = some (.ref (He.ga K "BadName"))
  m_CallError : mg "CallError" = some (.ref (He.ga K "CallError"))
  m_DataError : mg "DataError" = some (.ref (He.ga K "DataError"))
  m_DeskError : mg "DeskError" = some (.ref (He.ga K "DeskError"))
  m_GainError : mg "GainError" = some (.ref (He.ga K "GainError"))
  m_TextError : mg "TextError" = some (.ref (He.ga K "TextError"))
  ca_BadName : WW.ca "BadName" = some (He.ga K "BadName")
  ca_BadDial : WW.ca "BadDial" = some (He.ga K "BadDial")
  ex_BadName_GainError : PySem.W.exmOne K (.ref (He.ga K "BadName")) (valV (Cn.v K (.own "GainError"))) = some true
  xc_BadName : XcC K (He.ga K "BadName")
  is_BadName_BadName : PySem.W.kitOne K (.ref (He.ga K "BadName")) (valV (Cn.v K (.own "BadName"))) = some true
  is_BadName_DataError : PySem.W.kitOne K (.ref (He.ga K "BadName")) (valV (Cn.v K (.own "DataError"))) = some true
  isa_BadName_BadDial_CallError_TextError_DeskError : PySem.W.kitAny K (.ref (He.ga K "BadName")) (([(.own "BadDial"), (.own "CallError"), (.own "TextError"), (.own "DeskError")] : List Cn).map (fun y => y.v K) |>.map valV) = some false
  no_BadName_at : PySem.W.findIn K (.ref (He.ga K "BadName")) "at" = some none
  ex_BadDial_GainError : PySem.W.exmOne K (.ref (He.ga K "BadDial")) (valV (Cn.v K (.own "GainError"))) = some true
  xc_BadDial : XcC K (He.ga K "BadDial")
  is_BadDial_BadDial : PySem.W.kitOne K (.ref (He.ga K "BadDial")) (valV (Cn.v K (.own "BadDial"))) = some true
  is_BadDial_DataError : PySem.W.kitOne K (.ref (He.ga K "BadDial")) (valV (Cn.v K (.own "DataError"))) = some true
  isa_BadDial_BadName_CallError_TextError_DeskError : PySem.W.kitAny K (.ref (He.ga K "BadDial")) (([(.own "BadName"), (.own "CallError"), (.own "TextError"), (.own "DeskError")] : List Cn).map (fun y => y.v K) |>.map valV) = some false
  no_BadDial_word : PySem.W.findIn K (.ref (He.ga K "BadDial")) "word" = some none
end K01

set_option maxHeartbeats 4000000
/-! what each def promises, by content -/
namespace K01
open PySem PySem.Spec PyProof.Rows L2 DL
structure PoolSt where
  cs : List Int
  a : Int
  b : Int
def mkP (p : PoolSt) (G : Store) : Store := .lst (p.cs.map .int) :: .lst [.int p.a, .int p.b, .ref 0] :: G
def PoolSt.Ok (p : PoolSt) : Prop := 0 ≤ p.a ∧ 0 ≤ p.b ∧ p.b ≤ 4294967296
def L26 : Str := "abcdefghijklmnopqrstuvwxyz"
def F10 : Str := "0123456789"
def isIntD : D → Bool
  | .int _ => true
  | _ => false
/-- a wrong sign at the place i of z -/
def badI (z : Str) (i : Nat) : Bool := match z.cps.toList[i]? with
  | some c => !subS (chS c) L26 && (decide (i = 0) || !subS (chS c) F10)
  | none => false
def nmF (z : Str) : D := match (List.range z.length).find? (badI z) with
  | some i => .int (i : Int)
  | none => .non
def nameF : D → D
  | .str z => if 1 ≤ z.length ∧ z.length ≤ 8 then nmF z else .int (-1)
  | _ => .int (-1)
def dialP (n t : Int) : D := if n < 0 ∨ n = 1 ∨ 10000 < n then .str "limit" else if n = 0 then (if t = 1 ∨ t = -1 then .non else .str "turn") else if 1 ≤ t ∧ t < n ∧ t * t % n = 1 then .non else .str "turn"
def dialF : D → D
  | .tup [.int n, .int t] => dialP n t
  | _ => .str "shape"
def stOk : D → Prop
  | .str z => z.length ≤ 20000
  | _ => True
def Thing (d : D) : Prop := pureD d ∧ stOk d
def c_is_integer : Con := fun ds S Q => ∃ d : D, ds = [d] ∧ pureD d ∧ Q (.bl (isIntD d)) S
def c_name_fault : Con := fun ds S Q => ∃ d : D, ds = [d] ∧ Thing d ∧ Q (nameF d) S
def c_check_name : ConX := fun ds S Q E => ∃ d : D, ds = [d] ∧ Thing d ∧ (nameF d = .non → Q .non S) ∧ ∀ i : Int, nameF d = .int i → E ⟨"BadName", ["at"], [.int i]⟩ S
def c_dial_fault : Con := fun ds S Q => ∃ d : D, ds = [d] ∧ Thing d ∧ Q (dialF d) S
def c_check_dial : ConX := fun ds S Q E => ∃ d : D, ds = [d] ∧ Thing d ∧ (dialF d = .non → Q .non S) ∧ ∀ z : Str, dialF d = .str z → E ⟨"BadDial", ["word"], [.str z]⟩ S
def c__law_pool : Con := fun ds S Q => ∃ (ns : List Int) (salt : Int), ds = [.lst (ns.map .int), .int salt] ∧ S = [] ∧ ns.length ≤ 63 ∧ 0 ≤ salt ∧ salt ≤ 1000 ∧ ∀ p : PoolSt, p.Ok → Q (.ref 1) (mkP p [])
def c__law_draw : Con := fun ds S Q => ∃ (many : Int) (p : PoolSt) (G : Store), ds = [.ref 1, .int many] ∧ S = mkP p G ∧ p.Ok ∧ 0 < many ∧ many < 2 ^ 60 ∧ ∀ (d : Int) (p' : PoolSt), p'.Ok → 0 ≤ d → d < many → Q (.int d) (mkP p' G)
def c__law_whole : Con := c_is_integer
def c__law_letters : Con := fun ds S Q => ds = [] ∧ Q (.str L26) S
def c__law_name : Con := fun ds S Q => ∃ (many : Int) (p : PoolSt) (G : Store), ds = [.ref 1, .int many] ∧ S = mkP p G ∧ p.Ok ∧ 1 ≤ many ∧ many ≤ 2000 ∧ ∀ (z : Str) (p' : PoolSt), p'.Ok → (z.length : Int) = many → Q (.str z) (mkP p' G)
def c__law_sign : Con := fun ds S Q => ∃ (p : PoolSt) (G : Store), ds = [.ref 1] ∧ S = mkP p G ∧ p.Ok ∧ ∀ (z : Str) (p' : PoolSt), p'.Ok → z.length = 1 → Q (.str z) (mkP p' G)
def c__law_spoilt : Con := fun ds S Q => ∃ (nm sg : Str) (i : Int), ds = [.str nm, .int i, .str sg] ∧ 0 ≤ i ∧ i ≤ 5000 ∧ nm.length ≤ 1000 ∧ sg.length = 1 ∧ ∀ z : Str, z.length ≤ 2 * nm.length + 1 → Q (.str z) S
def c__law_wrong_place : Con := c_name_fault
def c__law_asks_name : Con := fun ds S Q => ∃ d : D, ds = [d] ∧ Thing d ∧ Q (.bl true) S
def c__law_names : Con := fun ds S Q => ∃ (p : PoolSt) (G : Store), ds = [.ref 1] ∧ S = mkP p G ∧ p.Ok ∧ ∀ (xs : List D) (p' : PoolSt), p'.Ok → (∀ x ∈ xs, Thing x) → xs.length ≤ 100 → Q (.lst xs) (mkP p' G)
def c__law_strangers : Con := c__law_names
def c__law_dial_word : Con := c_dial_fault
def c__law_asks_dial : Con := c__law_asks_name
def c__law_size : Con := fun ds S Q => ∃ (p : PoolSt) (G : Store), ds = [.ref 1] ∧ S = mkP p G ∧ p.Ok ∧ ∀ (d : Int) (p' : PoolSt), p'.Ok → 2 ≤ d → d ≤ 10000 → Q (.int d) (mkP p' G)
def c__law_turns : Con := fun ds S Q => ∃ m : Int, ds = [.int m] ∧ 2 ≤ m ∧ m ≤ 10000 ∧ ∀ ts : List Int, ts ≠ [] → ts.length ≤ 10000 → (∀ t ∈ ts, 1 ≤ t ∧ t < m) → Q (.lst (ts.map .int)) S
def c__law_dials : Con := c__law_names
def c_law : Con := fun ds S Q => ∃ ns : List Int, ds = [.lst (ns.map .int)] ∧ S = [] ∧ ns.length ≤ 63 ∧ Q (.bl true) []
theorem law_in {ns : List Int} (h : ns.length ≤ 63) : c_law [.lst (ns.map .int)] [] (fun d _ => d = .bl true) := ⟨ns, rfl, rfl, h, rfl⟩
end K01

set_option maxHeartbeats 4000000
/-! each def: its reading by content, and that the text has it -/
namespace K01
open PySem PySem.Spec PyProof.Rows L2 DL
def w_is_integer : WS := (wRet (gAndV (gIsT (wVar 0) .int) (wNotV (gIsT (wVar 0) .bool))))
def w_name_fault_for0 : WS := (gIf (gAnd (wTest (wOp (DL.rInI true) (wVar 2) (wC k_LETTERS))) (gOr (wTest (wOp DL.rEq (wVar 1) (wC (DL.D.int (0))))) (wTest (wOp (DL.rInI true) (wVar 2) (wC k_FIGURES))))) (wRet (wVar 1)) wNext)
def w_name_fault : WS := (wSeq (gIf (gOr (wNot (wTru (gIsT (wVar 0) .str))) (wNot (wTest (gChain DL.rLeD DL.rLeD (wC (DL.D.int (1))) (wCall rLen (wCons (wVar 0) wNil)) (wC k_NAME_MOST))))) (wRet (wNeg (wC (DL.D.int (1))))) wNext)
  (wSeq (gFor (wEnumS (wCons (wVar 0) wNil)) (Tg.tup [(Tg.name 1), (Tg.name 2)]) w_name_fault_for0)
  (wRet (wC DL.D.non))))
def w_check_name : WS := (wSeq (wAsg (gFn c_name_fault 1 (wCons (wVar 0) wNil)) (Tg.name 1))
  (gIf (wTest (wOp DL.rIsNot (wVar 1) (wC DL.D.non))) (wRaise "BadName" ["at"] (wCons (wVar 1) wNil)) wNext))
def w_dial_fault : WS := (wSeq (gIf (gOr (wNot (wTru (gIsT (wVar 0) .tuple))) (wTest (wOp DL.rNe (wCall rLen (wCons (wVar 0) wNil)) (wC (DL.D.int (2)))))) (wRet (wC (DL.D.str "shape"))) wNext)
  (wSeq (wAsg (wVar 0) (Tg.tup [(Tg.name 1), (Tg.name 2)]))
  (wSeq (gIf (gOr (wNot (wTru (gFn c_is_integer 1 (wCons (wVar 1) wNil)))) (wNot (wTru (gFn c_is_integer 1 (wCons (wVar 2) wNil))))) (wRet (wC (DL.D.str "shape"))) wNext)
  (wSeq (gIf (gOr (wTest (wOp DL.rLtD (wVar 1) (wC (DL.D.int (0))))) (gOr (wTest (wOp DL.rEq (wVar 1) (wC (DL.D.int (1))))) (wTest (wOp DL.rGtD (wVar 1) (wC k_DIAL_MOST))))) (wRet (wC (DL.D.str "limit"))) wNext)
  (wSeq (gIf (wTest (wOp DL.rEq (wVar 1) (wC (DL.D.int (0))))) (wRet (gIfE (gOr (wTest (wOp DL.rEq (wVar 2) (wC (DL.D.int (1))))) (wTest (wOp DL.rEq (wVar 2) (wNeg (wC (DL.D.int (1))))))) (wC DL.D.non) (wC (DL.D.str "turn")))) wNext)
  (wSeq (gIf (gOr (wNot (wTest (gChain DL.rLeD DL.rLtD (wC (DL.D.int (1))) (wVar 2) (wVar 1)))) (wTest (wOp DL.rNe (wOp DL.rMod (wOp rMulG (wVar 2) (wVar 2)) (wVar 1)) (wC (DL.D.int (1)))))) (wRet (wC (DL.D.str "turn"))) wNext)
  (wRet (wC DL.D.non))))))))
def w_check_dial : WS := (wSeq (wAsg (gFn c_dial_fault 1 (wCons (wVar 0) wNil)) (Tg.name 1))
  (gIf (wTest (wOp DL.rIsNot (wVar 1) (wC DL.D.non))) (wRaise "BadDial" ["word"] (wCons (wVar 1) wNil)) wNext))
def w__law_pool_for0 : WS := (wAsg (wOp DL.rMod (wOp rAddL (wOp rAddL (wOp rMulG (wVar 3) (wC (DL.D.int (16807)))) (wOp DL.rMod (wCall rInt (wCons (wVar 4) wNil)) (wC (DL.D.int (2147483587))))) (wC (DL.D.int (29)))) (wC (DL.D.int (2147483647)))) (Tg.name 3))
def w__law_pool : WS := (wSeq (wAsg (gCompN (wSeqI (wVar 0)) (Tg.name 4) wYes (wCall rAbs (wCons (wCall rInt (wCons (wVar 4) wNil)) wNil)) [4]) (Tg.name 2))
  (wSeq (wAsg (wVar 1) (Tg.name 3))
  (wSeq (gFor (wSeqI (wVar 2)) (Tg.name 4) w__law_pool_for0)
  (wRet (wNew (wCons (wC (DL.D.int (0))) (wCons (wOp rAddL (wVar 3) (wC (DL.D.int (1)))) (wCons (wVar 2) wNil))))))))
def w__law_draw_s1 : WS := (wSeq (gIf (wTest (wOp DL.rGtD (wOp DL.rIxG (wVar 0) (wC (DL.D.int (0)))) (wC (DL.D.int (0))))) (wSeq (wAsg (wOp DL.rMod (wCall rInt (wCons (wOp DL.rIxG (wVar 0) (wC (DL.D.int (0)))) wNil)) (wVar 1)) (Tg.name 3))
  (wSeq (wPut (wOp DL.rDiv (wOp DL.rIxG (wVar 0) (wC (DL.D.int (0)))) (wVar 1)) (wVar 0) (wC (DL.D.int (0))))
  (wRet (wVar 3)))) wNext)
  (wSeq (wPut (wOp DL.rMod (wOp rAddL (wOp rMulG (wOp DL.rIxG (wVar 0) (wC (DL.D.int (1)))) (wC (DL.D.int (16807)))) (wC (DL.D.int (54321)))) (wC (DL.D.int (2147483647)))) (wVar 0) (wC (DL.D.int (1))))
  (wSeq (wPut (wOp DL.rMod (wOp rAddL (wOp rMulG (wOp DL.rIxG (wVar 0) (wC (DL.D.int (1)))) (wC (DL.D.int (39373)))) (wC (DL.D.int (11)))) (wC (DL.D.int (2147483647)))) (wVar 0) (wC (DL.D.int (1))))
  (wRet (wOp DL.rMod (wOp DL.rDiv (wOp DL.rIxG (wVar 0) (wC (DL.D.int (1)))) (wC (DL.D.int (29)))) (wVar 1))))))
def w__law_draw : WS := (wSeq (gIf (gAnd (wTest (wOp DL.rEq (wOp DL.rIxG (wVar 0) (wC (DL.D.int (0)))) (wC (DL.D.int (0))))) (wTest (wOp DL.rGtD (wCall rLen (wCons (wOp DL.rIxG (wVar 0) (wC (DL.D.int (2)))) wNil)) (wC (DL.D.int (0)))))) (wSeq (wAsg (wMeth mPopAt (wOp DL.rIxG (wVar 0) (wC (DL.D.int (2)))) (wCons (wC (DL.D.int (0))) wNil)) (Tg.name 2))
  (gIf (wTest (wOp DL.rGeD (wVar 2) (wOp DL.rPow (wC (DL.D.int (10))) (wC (DL.D.int (18)))))) (wPut (wVar 2) (wVar 0) (wC (DL.D.int (0)))) (wPut (wOp rAddL (wOp DL.rMod (wOp rAddL (wOp rMulG (wOp DL.rIxG (wVar 0) (wC (DL.D.int (1)))) (wC (DL.D.int (39373)))) (wCall rInt (wCons (wVar 2) wNil))) (wC (DL.D.int (2147483647)))) (wC (DL.D.int (1)))) (wVar 0) (wC (DL.D.int (1)))))) wNext)
  (Tail w__law_draw_s1))
def w__law_whole : WS := (wRet (gAndV (gIsT (wVar 0) .int) (wNotV (gIsT (wVar 0) .bool))))
def w__law_letters : WS := (wRet (wC (DL.D.str "abcdefghijklmnopqrstuvwxyz")))
def w__law_name_for0 : WS := (wDrop (wMeth mAppend (wVar 2) (wCons (wOp DL.rIxG (wVar 3) (gFn c__law_draw 2 (wCons (wVar 0) (wCons (wC (DL.D.int (36))) wNil)))) wNil)))
def w__law_name : WS := (wSeq (wAsg (wNew (wCons (wOp DL.rIxG (gFn c__law_letters 0 wNil) (gFn c__law_draw 2 (wCons (wVar 0) (wCons (wC (DL.D.int (26))) wNil)))) wNil)) (Tg.name 2))
  (wSeq (wAsg (wOp rAddL (gFn c__law_letters 0 wNil) (wC (DL.D.str "0123456789"))) (Tg.name 3))
  (wSeq (gFor (wRange1 (wCons (wOp DL.rSub (wVar 1) (wC (DL.D.int (1)))) wNil)) (Tg.name 4) w__law_name_for0)
  (wRet (wMethS mJoin (wC (DL.D.str "")) (wCons (wVar 2) wNil))))))
def w__law_sign : WS := (wSeq (wAsg (wC (DL.D.str "`{/:@\x5bAZBM0 _-.+")) (Tg.name 1))
  (wSeq (wAsg (wC (DL.D.str " !\"#$&'()*+,-./0123456789:;<=>?@ABCDEFGHIJKLMNOPQRSTUVWXYZ[\\]^_`abcdefghijklmnopqrstuvwxyz{|}~")) (Tg.name 2))
  (wSeq (gIf (wTest (wOp DL.rEq (gFn c__law_draw 2 (wCons (wVar 0) (wCons (wC (DL.D.int (2))) wNil))) (wC (DL.D.int (0))))) (wRet (wOp DL.rIxG (wVar 1) (gFn c__law_draw 2 (wCons (wVar 0) (wCons (wCall rLen (wCons (wVar 1) wNil)) wNil))))) wNext)
  (wRet (wOp DL.rIxG (wVar 2) (gFn c__law_draw 2 (wCons (wVar 0) (wCons (wCall rLen (wCons (wVar 2) wNil)) wNil))))))))
def w__law_spoilt : WS := (wRet (wOp rAddL (wOp rAddL (wSl DL.rSl (wVar 0) wNoPart (wPart (wVar 1))) (wVar 2)) (wSl DL.rSl (wVar 0) (wPart (wOp rAddL (wVar 1) (wC (DL.D.int (1))))) wNoPart)))
def w__law_wrong_place_for0 : WS := (wSeq (wAsg (wOp (DL.rInI false) (wOp DL.rIxG (wVar 0) (wVar 1)) (gFn c__law_letters 0 wNil)) (Tg.name 2))
  (gIf (gAnd (wNot (wTru (wVar 2))) (gOr (wTest (wOp DL.rEq (wVar 1) (wC (DL.D.int (0))))) (wTest (wOp (DL.rInI true) (wOp DL.rIxG (wVar 0) (wVar 1)) (wC (DL.D.str "0123456789")))))) (wRet (wVar 1)) wNext))
def w__law_wrong_place : WS := (wSeq (gIf (gOr (wNot (wTru (gIsT (wVar 0) .str))) (gOr (wTest (wOp DL.rLtD (wCall rLen (wCons (wVar 0) wNil)) (wC (DL.D.int (1))))) (wTest (wOp DL.rGtD (wCall rLen (wCons (wVar 0) wNil)) (wC (DL.D.int (8))))))) (wRet (wNeg (wC (DL.D.int (1))))) wNext)
  (wSeq (gFor (wRange1 (wCons (wCall rLen (wCons (wVar 0) wNil)) wNil)) (Tg.name 1) w__law_wrong_place_for0)
  (wRet (wC DL.D.non))))
def w__law_asks_name : WS := (wSeq (wAsg (gFn c__law_wrong_place 1 (wCons (wVar 0) wNil)) (Tg.name 1))
  (wSeq (wTry "BadName" 3 (wAsgX c_check_name 1 (wCons (wVar 0) wNil) (Tg.name 2))
  (fun a d => (wSeq (gIf (gOr (wTest (wOp DL.rIs (wVar 1) (wC DL.D.non))) (gOr (wNot (wTru (gIsE 3 a d true))) (wNot (wTru (gIsE 3 a d true))))) (wRet (wC (DL.D.bl false))) wNext)
  (wSeq (gIf (wTru (gIsE 3 a d false)) (wRet (wC (DL.D.bl false))) wNext)
  (wRet (gAndV (gFn c__law_whole 1 (wCons (gXf 3 a d "at" 0) wNil)) (wOp DL.rEq (gXf 3 a d "at" 0) (wVar 1))))))))
  (wRet (gAndV (wOp DL.rIs (wVar 1) (wC DL.D.non)) (wOp DL.rIs (wVar 2) (wC DL.D.non))))))
def w__law_names_s12 : WS := (wSeq (wDrop (wMeth mAppend (wVar 1) (wCons (gFn c__law_name 2 (wCons (wVar 0) (wCons (wC (DL.D.int (9))) wNil))) wNil)))
  (wSeq (wDrop (wMeth mAppend (wVar 1) (wCons (gFn c__law_spoilt 3 (wCons (gFn c__law_name 2 (wCons (wVar 0) (wCons (wC (DL.D.int (9))) wNil))) (wCons (gFn c__law_draw 2 (wCons (wVar 0) (wCons (wC (DL.D.int (9))) wNil))) (wCons (gFn c__law_sign 1 (wCons (wVar 0) wNil)) wNil)))) wNil)))
  (wSeq (wDrop (wMeth mAppend (wVar 1) (wCons (wOp rMulG (wOp rAddL (wMethS mJoin (wC (DL.D.str "")) (wCons (wLst (wCons (gFn c__law_name 2 (wCons (wVar 0) (wCons (wC (DL.D.int (1))) wNil))) wNil)) wNil)) (wC (DL.D.str "7"))) (wVar 5)) wNil)))
  (wSeq (wDrop (wMeth mAppend (wVar 1) (wCons (wC (DL.D.str "")) wNil)))
  (wRet (wVar 1))))))
def w__law_names : WS := (wSeq (wAsg (wNew (wCons (gFn c__law_name 2 (wCons (wVar 0) (wCons (wC (DL.D.int (1))) wNil))) (wCons (gFn c__law_name 2 (wCons (wVar 0) (wCons (wC (DL.D.int (8))) wNil))) (wCons (gFn c__law_name 2 (wCons (wVar 0) (wCons (wOp rAddL (wC (DL.D.int (2))) (gFn c__law_draw 2 (wCons (wVar 0) (wCons (wC (DL.D.int (6))) wNil)))) wNil))) wNil)))) (Tg.name 1))
  (wSeq (wAsg (gFn c__law_name 2 (wCons (wVar 0) (wCons (wOp rAddL (wC (DL.D.int (1))) (gFn c__law_draw 2 (wCons (wVar 0) (wCons (wC (DL.D.int (8))) wNil)))) wNil))) (Tg.name 2))
  (wSeq (wAsg (gFn c__law_draw 2 (wCons (wVar 0) (wCons (wCall rLen (wCons (wVar 2) wNil)) wNil))) (Tg.name 3))
  (wSeq (wDrop (wMeth mAppend (wVar 1) (wCons (gFn c__law_spoilt 3 (wCons (wVar 2) (wCons (wVar 3) (wCons (gFn c__law_sign 1 (wCons (wVar 0) wNil)) wNil)))) wNil)))
  (wSeq (wAsg (gFn c__law_name 2 (wCons (wVar 0) (wCons (wOp rAddL (wC (DL.D.int (2))) (gFn c__law_draw 2 (wCons (wVar 0) (wCons (wC (DL.D.int (7))) wNil)))) wNil))) (Tg.name 2))
  (wSeq (wAsg (wOp rAddL (wC (DL.D.int (1))) (gFn c__law_draw 2 (wCons (wVar 0) (wCons (wOp DL.rSub (wCall rLen (wCons (wVar 2) wNil)) (wC (DL.D.int (1)))) wNil)))) (Tg.name 3))
  (wSeq (wDrop (wMeth mAppend (wVar 1) (wCons (gFn c__law_spoilt 3 (wCons (wVar 2) (wCons (wVar 3) (wCons (gFn c__law_sign 1 (wCons (wVar 0) wNil)) wNil)))) wNil)))
  (wSeq (wAsg (gFn c__law_draw 2 (wCons (wVar 0) (wCons (wCall rLen (wCons (wVar 2) wNil)) wNil))) (Tg.name 4))
  (wSeq (wDrop (wMeth mAppend (wVar 1) (wCons (gFn c__law_spoilt 3 (wCons (gFn c__law_spoilt 3 (wCons (wVar 2) (wCons (wVar 3) (wCons (gFn c__law_sign 1 (wCons (wVar 0) wNil)) wNil)))) (wCons (wVar 4) (wCons (gFn c__law_sign 1 (wCons (wVar 0) wNil)) wNil)))) wNil)))
  (wSeq (wDrop (wMeth mAppend (wVar 1) (wCons (wOp rAddL (wOp DL.rIxG (wC (DL.D.str "0123456789")) (gFn c__law_draw 2 (wCons (wVar 0) (wCons (wC (DL.D.int (10))) wNil)))) (gFn c__law_name 2 (wCons (wVar 0) (wCons (wOp rAddL (wC (DL.D.int (1))) (gFn c__law_draw 2 (wCons (wVar 0) (wCons (wC (DL.D.int (7))) wNil)))) wNil)))) wNil)))
  (wSeq (wAsg (wOp rAddL (wC (DL.D.int (9))) (gFn c__law_draw 2 (wCons (wVar 0) (wCons (wC (DL.D.int (5))) wNil)))) (Tg.name 5))
  (wSeq (gIf (wTest (wOp DL.rEq (gFn c__law_draw 2 (wCons (wVar 0) (wCons (wC (DL.D.int (13))) wNil))) (wC (DL.D.int (6))))) (wAsg (wOp rAddL (wC (DL.D.int (1))) (gFn c__law_draw 2 (wCons (wVar 0) (wCons (wC (DL.D.int (2000))) wNil)))) (Tg.name 5)) wNext)
  (Tail w__law_names_s12)))))))))))))
def w__law_strangers_for0 : WS := (wDrop (wMeth mAppend (wVar 3) (wCons (wOp DL.rIxG (wVar 2) (gFn c__law_draw 2 (wCons (wVar 0) (wCons (wCall rLen (wCons (wVar 2) wNil)) wNil)))) wNil)))
def w__law_strangers : WS := (wSeq (wAsg (gFn c__law_name 2 (wCons (wVar 0) (wCons (wOp rAddL (wC (DL.D.int (1))) (gFn c__law_draw 2 (wCons (wVar 0) (wCons (wC (DL.D.int (8))) wNil)))) wNil))) (Tg.name 1))
  (wSeq (wAsg (wLst (wCons (wC DL.D.non) (wCons (wC (DL.D.bl true)) (wCons (wC (DL.D.bl false)) (wCons (wC (DL.D.int (0))) (wCons (wC (DL.D.int (1))) (wCons (gFn c__law_draw 2 (wCons (wVar 0) (wCons (wOp DL.rPow (wC (DL.D.int (10))) (wC (DL.D.int (9)))) wNil))) (wCons (wOp DL.rSub (wNeg (wC (DL.D.int (1)))) (gFn c__law_draw 2 (wCons (wVar 0) (wCons (wOp DL.rPow (wC (DL.D.int (10))) (wC (DL.D.int (9)))) wNil)))) (wCons (wTup wNil) (wCons (wTup (wCons (wVar 1) wNil)) (wCons (wTup (wCons (wVar 1) (wCons (wVar 1) wNil))) (wCons (wTup (wCons (wTup (wCons (wVar 1) wNil)) (wCons (wC DL.D.non) wNil))) (wCons (wLst wNil) (wCons (wLst (wCons (wVar 1) wNil)) (wCons (wLst (wCons (wVar 1) (wCons (wLst (wCons (wVar 1) (wCons (wC (DL.D.int (1))) wNil))) wNil))) wNil))))))))))))))) (Tg.name 2))
  (wSeq (wAsg (wNew wNil) (Tg.name 3))
  (wSeq (gFor (wRange1 (wCons (wC (DL.D.int (3))) wNil)) (Tg.name 4) w__law_strangers_for0)
  (wRet (wVar 3))))))
def w__law_dial_word : WS := (wSeq (gIf (gOr (wNot (wTru (gIsT (wVar 0) .tuple))) (wTest (wOp DL.rNe (wCall rLen (wCons (wVar 0) wNil)) (wC (DL.D.int (2)))))) (wRet (wC (DL.D.str "shape"))) wNext)
  (wSeq (gIf (gOr (wNot (wTru (gFn c__law_whole 1 (wCons (wOp DL.rIxG (wVar 0) (wC (DL.D.int (0)))) wNil)))) (wNot (wTru (gFn c__law_whole 1 (wCons (wOp DL.rIxG (wVar 0) (wC (DL.D.int (1)))) wNil))))) (wRet (wC (DL.D.str "shape"))) wNext)
  (wSeq (wAsg (wOp DL.rIxG (wVar 0) (wC (DL.D.int (0)))) (Tg.name 1))
  (wSeq (wAsg (wOp DL.rIxG (wVar 0) (wC (DL.D.int (1)))) (Tg.name 2))
  (wSeq (gIf (gOr (wTest (wOp DL.rLtD (wVar 1) (wC (DL.D.int (0))))) (gOr (wTest (wOp DL.rEq (wVar 1) (wC (DL.D.int (1))))) (wTest (wOp DL.rGtD (wVar 1) (wC (DL.D.int (10000))))))) (wRet (wC (DL.D.str "limit"))) wNext)
  (wSeq (gIf (wTest (wOp DL.rEq (wVar 1) (wC (DL.D.int (0))))) (wSeq (gIf (gOr (wTest (wOp DL.rEq (wVar 2) (wC (DL.D.int (1))))) (wTest (wOp DL.rEq (wVar 2) (wNeg (wC (DL.D.int (1))))))) (wRet (wC DL.D.non)) wNext)
  (wRet (wC (DL.D.str "turn")))) wNext)
  (wSeq (gIf (gOr (wTest (wOp DL.rLtD (wVar 2) (wC (DL.D.int (1))))) (gOr (wTest (wOp DL.rGeD (wVar 2) (wVar 1))) (wTest (wOp DL.rNe (wOp DL.rMod (wCall rInt (wCons (wOp DL.rSub (wOp rMulG (wVar 2) (wVar 2)) (wC (DL.D.int (1)))) wNil)) (wVar 1)) (wC (DL.D.int (0))))))) (wRet (wC (DL.D.str "turn"))) wNext)
  (wRet (wC DL.D.non)))))))))
def w__law_asks_dial : WS := (wSeq (wAsg (gFn c__law_dial_word 1 (wCons (wVar 0) wNil)) (Tg.name 1))
  (wSeq (wTry "BadDial" 3 (wAsgX c_check_dial 1 (wCons (wVar 0) wNil) (Tg.name 2))
  (fun a d => (wSeq (gIf (gOr (wTest (wOp DL.rIs (wVar 1) (wC DL.D.non))) (gOr (wNot (wTru (gIsE 3 a d true))) (wNot (wTru (gIsE 3 a d true))))) (wRet (wC (DL.D.bl false))) wNext)
  (wSeq (gIf (wTru (gIsE 3 a d false)) (wRet (wC (DL.D.bl false))) wNext)
  (wRet (gAndV (gIsT (gXf 3 a d "word" 0) .str) (wOp DL.rEq (gXf 3 a d "word" 0) (wVar 1))))))))
  (wRet (gAndV (wOp DL.rIs (wVar 1) (wC DL.D.non)) (wOp DL.rIs (wVar 2) (wC DL.D.non))))))
def w__law_size : WS := (wSeq (wAsg (gFn c__law_draw 2 (wCons (wVar 0) (wCons (wC (DL.D.int (7))) wNil))) (Tg.name 1))
  (wSeq (gIf (wTest (wOp DL.rLtD (wVar 1) (wC (DL.D.int (3))))) (wRet (wOp rAddL (wC (DL.D.int (2))) (gFn c__law_draw 2 (wCons (wVar 0) (wCons (wC (DL.D.int (23))) wNil))))) wNext)
  (wSeq (gIf (wTest (wOp DL.rLtD (wVar 1) (wC (DL.D.int (6))))) (wRet (wOp rAddL (wC (DL.D.int (2))) (gFn c__law_draw 2 (wCons (wVar 0) (wCons (wC (DL.D.int (300))) wNil))))) wNext)
  (wRet (wOp rAddL (wC (DL.D.int (9000))) (gFn c__law_draw 2 (wCons (wVar 0) (wCons (wC (DL.D.int (1001))) wNil))))))))
def w__law_turns : WS := (wRet (gComp (wRange2 (wCons (wC (DL.D.int (1))) (wCons (wVar 0) wNil))) (Tg.name 1) (wTest (wOp DL.rEq (wOp DL.rMod (wCall rInt (wCons (wOp rMulG (wVar 1) (wVar 1)) wNil)) (wVar 0)) (wC (DL.D.int (1))))) (wVar 1) [1]))
def w__law_dials_for0 : WS := (wDrop (wMeth mAppend (wVar 7) (wCons (wOp DL.rIxG (wVar 8) (gFn c__law_draw 2 (wCons (wVar 0) (wCons (wCall rLen (wCons (wVar 8) wNil)) wNil)))) wNil)))
def w__law_dials : WS := (wSeq (wAsg (gFn c__law_size 1 (wCons (wVar 0) wNil)) (Tg.name 1))
  (wSeq (wAsg (gFn c__law_turns 1 (wCons (wVar 1) wNil)) (Tg.name 2))
  (wSeq (wAsg (wOp DL.rIxG (wVar 2) (gFn c__law_draw 2 (wCons (wVar 0) (wCons (wCall rLen (wCons (wVar 2) wNil)) wNil)))) (Tg.name 3))
  (wSeq (wAsg (wOp DL.rIxG (wLst (wCons (wC (DL.D.int (8))) (wCons (wC (DL.D.int (12))) (wCons (wC (DL.D.int (15))) (wCons (wC (DL.D.int (16))) (wCons (wC (DL.D.int (20))) (wCons (wC (DL.D.int (21))) (wCons (wC (DL.D.int (24))) (wCons (wC (DL.D.int (35))) (wCons (wC (DL.D.int (40))) (wCons (wC (DL.D.int (60))) (wCons (wC (DL.D.int (63))) (wCons (wC (DL.D.int (80))) (wCons (wC (DL.D.int (120))) (wCons (wC (DL.D.int (168))) wNil))))))))))))))) (gFn c__law_draw 2 (wCons (wVar 0) (wCons (wC (DL.D.int (14))) wNil)))) (Tg.name 4))
  (wSeq (wAsg (gFn c__law_turns 1 (wCons (wVar 4) wNil)) (Tg.name 5))
  (wSeq (wAsg (wOp DL.rIxG (wVar 5) (gFn c__law_draw 2 (wCons (wVar 0) (wCons (wCall rLen (wCons (wVar 5) wNil)) wNil)))) (Tg.name 6))
  (wSeq (wAsg (wNew (wCons (wTup (wCons (wC (DL.D.int (0))) (wCons (wOp DL.rSub (wC (DL.D.int (1))) (wOp rMulG (wC (DL.D.int (2))) (gFn c__law_draw 2 (wCons (wVar 0) (wCons (wC (DL.D.int (2))) wNil))))) wNil))) (wCons (wTup (wCons (wVar 1) (wCons (wVar 3) wNil))) (wCons (wTup (wCons (wVar 1) (wCons (wOp DL.rSub (wVar 1) (wC (DL.D.int (1)))) wNil))) (wCons (wTup (wCons (wVar 4) (wCons (wVar 6) wNil))) (wCons (wTup (wCons (wC (DL.D.int (2))) (wCons (wC (DL.D.int (1))) wNil))) (wCons (wTup (wCons (wC (DL.D.int (10000))) (wCons (wOp DL.rIxG (wLst (wCons (wC (DL.D.int (1))) (wCons (wC (DL.D.int (9999))) (wCons (wC (DL.D.int (4999))) (wCons (wC (DL.D.int (5001))) (wCons (wC (DL.D.int (1249))) (wCons (wC (DL.D.int (8751))) (wCons (wC (DL.D.int (6249))) (wCons (wC (DL.D.int (3751))) wNil))))))))) (gFn c__law_draw 2 (wCons (wVar 0) (wCons (wC (DL.D.int (8))) wNil)))) wNil))) wNil))))))) (Tg.name 7))
  (wSeq (wDrop (wMeth mAppend (wVar 7) (wCons (wTup (wCons (wOp rAddL (wC (DL.D.int (9999))) (gFn c__law_draw 2 (wCons (wVar 0) (wCons (wC (DL.D.int (3))) wNil)))) (wCons (wC (DL.D.int (1))) wNil))) wNil)))
  (wSeq (wDrop (wMeth mAppend (wVar 7) (wCons (wTup (wCons (wVar 1) (wCons (wOp rAddL (wVar 3) (wOp rMulG (wVar 1) (wOp rAddL (wC (DL.D.int (1))) (gFn c__law_draw 2 (wCons (wVar 0) (wCons (wC (DL.D.int (2))) wNil)))))) wNil))) wNil)))
  (wSeq (wDrop (wMeth mAppend (wVar 7) (wCons (wTup (wCons (wVar 1) (wCons (wOp DL.rIxG (wLst (wCons (wC (DL.D.int (0))) (wCons (wNeg (wC (DL.D.int (1)))) (wCons (wNeg (wVar 3)) (wCons (wVar 1) (wCons (wOp rAddL (wVar 3) (wC (DL.D.int (1)))) (wCons (gFn c__law_draw 2 (wCons (wVar 0) (wCons (wOp DL.rPow (wC (DL.D.int (10))) (wC (DL.D.int (9)))) wNil))) wNil))))))) (gFn c__law_draw 2 (wCons (wVar 0) (wCons (wC (DL.D.int (6))) wNil)))) wNil))) wNil)))
  (wSeq (wDrop (wMeth mAppend (wVar 7) (wCons (wTup (wCons (wVar 1) (wCons (gFn c__law_draw 2 (wCons (wVar 0) (wCons (wOp rAddL (wVar 1) (wC (DL.D.int (2)))) wNil))) wNil))) wNil)))
  (wSeq (wDrop (wMeth mAppend (wVar 7) (wCons (wTup (wCons (wC (DL.D.int (0))) (wCons (wOp DL.rIxG (wLst (wCons (wC (DL.D.int (0))) (wCons (wC (DL.D.int (2))) (wCons (wNeg (wC (DL.D.int (2)))) (wCons (wOp DL.rPow (wC (DL.D.int (10))) (wC (DL.D.int (64)))) (wCons (gFn c__law_draw 2 (wCons (wVar 0) (wCons (wOp DL.rPow (wC (DL.D.int (10))) (wC (DL.D.int (9)))) wNil))) wNil)))))) (gFn c__law_draw 2 (wCons (wVar 0) (wCons (wC (DL.D.int (5))) wNil)))) wNil))) wNil)))
  (wSeq (wDrop (wMeth mAppend (wVar 7) (wCons (wTup (wCons (wC (DL.D.int (1))) (wCons (wOp DL.rSub (gFn c__law_draw 2 (wCons (wVar 0) (wCons (wC (DL.D.int (3))) wNil))) (wC (DL.D.int (1)))) wNil))) wNil)))
  (wSeq (wDrop (wMeth mAppend (wVar 7) (wCons (wTup (wCons (wOp DL.rSub (wNeg (wC (DL.D.int (1)))) (gFn c__law_draw 2 (wCons (wVar 0) (wCons (wC (DL.D.int (12))) wNil)))) (wCons (wOp DL.rIxG (wLst (wCons (wC (DL.D.int (1))) (wCons (wNeg (wC (DL.D.int (1)))) (wCons (wC (DL.D.int (0))) (wCons (wC (DL.D.int (5))) wNil))))) (gFn c__law_draw 2 (wCons (wVar 0) (wCons (wC (DL.D.int (4))) wNil)))) wNil))) wNil)))
  (wSeq (wDrop (wMeth mAppend (wVar 7) (wCons (wTup (wCons (wOp rAddL (wC (DL.D.int (10001))) (gFn c__law_draw 2 (wCons (wVar 0) (wCons (wOp DL.rPow (wC (DL.D.int (10))) (wC (DL.D.int (9)))) wNil)))) (wCons (wOp DL.rIxG (wLst (wCons (wC (DL.D.int (1))) (wCons (wC (DL.D.int (0))) (wCons (wNeg (wC (DL.D.int (1)))) (wCons (wC (DL.D.int (10000))) (wCons (wOp DL.rPow (wC (DL.D.int (10))) (wC (DL.D.int (64)))) wNil)))))) (gFn c__law_draw 2 (wCons (wVar 0) (wCons (wC (DL.D.int (5))) wNil)))) wNil))) wNil)))
  (wSeq (wAsg (wLst (wCons (wLst (wCons (wVar 1) (wCons (wVar 3) wNil))) (wCons (wTup (wCons (wVar 1) wNil)) (wCons (wTup (wCons (wVar 1) (wCons (wVar 3) (wCons (wC (DL.D.int (1))) wNil)))) (wCons (wTup (wCons (wVar 1) (wCons (wVar 3) (wCons (wVar 3) wNil)))) (wCons (wTup (wCons (wC (DL.D.bl true)) (wCons (wC (DL.D.int (1))) wNil))) (wCons (wTup (wCons (wVar 1) (wCons (wC (DL.D.bl true)) wNil))) (wCons (wTup (wCons (wC (DL.D.bl false)) (wCons (wC (DL.D.int (1))) wNil))) (wCons (wTup (wCons (wVar 1) (wCons (wC DL.D.non) wNil))) (wCons (wTup (wCons (wTup (wCons (wVar 1) (wCons (wVar 3) wNil))) wNil)) (wCons (wTup (wCons (wC DL.D.non) (wCons (wVar 3) wNil))) (wCons (wTup (wCons (wC (DL.D.str "2")) (wCons (wC (DL.D.int (1))) wNil))) (wCons (wC (DL.D.str "21")) (wCons (wVar 1) (wCons (wC DL.D.non) (wCons (wLst wNil) (wCons (wTup wNil) (wCons (wLst (wCons (wTup (wCons (wC (DL.D.int (0))) (wCons (wC (DL.D.int (1))) wNil))) wNil)) (wCons (wTup (wCons (wTup (wCons (wVar 1) (wCons (wC (DL.D.int (1))) wNil))) (wCons (wTup (wCons (wVar 3) (wCons (wC (DL.D.int (1))) wNil))) wNil))) (wCons (wTup (wCons (wC (DL.D.int (0))) (wCons (wC (DL.D.bl true)) wNil))) (wCons (wTup (wCons (wC (DL.D.bl true)) (wCons (wC (DL.D.int (0))) wNil))) (wCons (wTup (wCons (wVar 1) (wCons (wLst (wCons (wVar 3) wNil)) wNil))) wNil)))))))))))))))))))))) (Tg.name 8))
  (wSeq (gFor (wRange1 (wCons (wC (DL.D.int (3))) wNil)) (Tg.name 9) w__law_dials_for0)
  (wRet (wVar 7)))))))))))))))))))
def w_law_for0 : WS := (gIf (wNot (wTru (gFn c__law_asks_name 1 (wCons (wVar 2) wNil)))) (wRet (wC (DL.D.bl false))) wNext)
def w_law_for1 : WS := (gIf (wNot (wTru (gFn c__law_asks_name 1 (wCons (wVar 2) wNil)))) (wRet (wC (DL.D.bl false))) wNext)
def w_law_for2 : WS := (gIf (wNot (wTru (gFn c__law_asks_dial 1 (wCons (wVar 2) wNil)))) (wRet (wC (DL.D.bl false))) wNext)
def w_law : WS := (wSeq (wAsg (gFn c__law_pool 2 (wCons (wVar 0) (wCons (wC (DL.D.int (101))) wNil))) (Tg.name 1))
  (wSeq (gFor (wSeqI (gFn c__law_names 1 (wCons (wVar 1) wNil))) (Tg.name 2) w_law_for0)
  (wSeq (gFor (wSeqI (gFn c__law_strangers 1 (wCons (wVar 1) wNil))) (Tg.name 2) w_law_for1)
  (wSeq (gFor (wSeqI (gFn c__law_dials 1 (wCons (wVar 1) wNil))) (Tg.name 2) w_law_for2)
  (wSeq (wAsg (gFn c__law_name 2 (wCons (wVar 1) (wCons (wC (DL.D.int (3))) wNil))) (Tg.name 3))
  (wSeq (wAsg (wLst (wCons (wVar 3) (wCons (wLst (wCons (wVar 3) (wCons (wC (DL.D.int (3))) wNil))) wNil))) (Tg.name 4))
  (wSeq (gIf (gOr (wNot (wTru (gFn c__law_asks_name 1 (wCons (wVar 4) wNil)))) (wNot (wTru (gFn c__law_asks_dial 1 (wCons (wVar 4) wNil))))) (wRet (wC (DL.D.bl false))) wNext)
  (wSeq (gIf (gOr (wTest (wOp DL.rNe (wCall rLen (wCons (wVar 4) wNil)) (wC (DL.D.int (2))))) (gOr (wNot (wTru (gIsT (wOp DL.rIxG (wVar 4) (wC (DL.D.int (0)))) .str))) (gOr (wTest (wOp DL.rNe (wOp DL.rIxG (wVar 4) (wC (DL.D.int (0)))) (wVar 3))) (wNot (wTru (gIsT (wOp DL.rIxG (wVar 4) (wC (DL.D.int (1)))) .list)))))) (wRet (wC (DL.D.bl false))) wNext)
  (wRet (gAndV (wOp DL.rEq (wCall rLen (wCons (wOp DL.rIxG (wVar 4) (wC (DL.D.int (1)))) wNil)) (wC (DL.D.int (2)))) (gAndV (gIsT (wOp DL.rIxG (wOp DL.rIxG (wVar 4) (wC (DL.D.int (1)))) (wC (DL.D.int (0)))) .str) (gAndV (wOp DL.rEq (wOp DL.rIxG (wOp DL.rIxG (wVar 4) (wC (DL.D.int (1)))) (wC (DL.D.int (0)))) (wVar 3)) (gFn c__law_whole 1 (wCons (wOp DL.rIxG (wOp DL.rIxG (wVar 4) (wC (DL.D.int (1)))) (wC (DL.D.int (1)))) wNil))))))))))))))
end K01

set_option maxHeartbeats 1000000
namespace K01
open PySem PySem.Spec PyProof.Rows L2 DL
set_option pp.deepTerms false
set_option pp.deepTerms.threshold 4
set_option pp.maxSteps 400
local macro_rules | `(tactic| walk_at "w") => `(tactic| conv => whnf)
local macro_rules | `(tactic| walk_at "side") => `(tactic| first | exact True.intro | omega | with_reducible assumption | (simp only [sizeLine_eq, List.length_append, List.length_cons, List.length_nil, List.length_map, List.length_set]; omega) | exact (rfl : _ = _) | exact Int.mul_pos (by omega) (by omega) | exact DL.MulOk.l (by omega) (by omega) | exact DL.MulOk.r (by omega) (by omega) | exact DL.MulOk.big (by omega) (by omega) | exact DL.DivOk.of (by omega) (by omega) | (unfold CPow; decide) | exact DL.isL_of DL.get_last | (rw [sizeLine_eq]; decide +kernel) | (dsimp only; split <;> omega) | (focus (intro hh; simp [D.py] at hh; done)) | (focus (intro hh; cases hh; done)))
local macro_rules | `(tactic| walk_at "call") => `(tactic| fail "no contract")
local macro_rules | `(tactic| walk_at "go1") => `(tactic| ((conv => whnf); first | (refine And.intro ?_ ?_; ((walk_at "side"))) | walk_at "call" | (refine cIf_t rfl ?_) | refine cIf_f rfl ?_))
local macro_rules | `(tactic| walk_at "go") => `(tactic| ((repeat (walk_at "go1")); try (conv => whnf)))
local macro_rules | `(tactic| walk_at "yes") => `(tactic| (refine cIf_t (by first | rfl | simp | (simp; omega)) ?_; walk_at "go"))
local macro_rules | `(tactic| walk_at "no") => `(tactic| (refine cIf_f (by first | rfl | simp | (simp; omega)) ?_; walk_at "go"))
local macro_rules | `(tactic| walk_at "goS") => `(tactic| ((repeat' (first | walk_at "go1" | ((conv => whnf); refine cIf_d (fun h => ?_) (fun h => ?_)) | ((conv => whnf); refine cIf_b (fun h => ?_) (fun h => ?_)))); all_goals (try (conv => whnf))))
theorem v_is_integer (ds : List D) (S : Store) (Q0 : D → Store → Prop) (hl : ds.length = 1) (hc : closedS S) (hd : closedL S.length ds) (h : c_is_integer ds S Q0) : w_is_integer (EX S Q0) (ds.map some ++ List.replicate 0 none) S := by
  obtain ⟨d, rfl, hp, q⟩ := h
  cases d with
  | non => walk_at "go"; exact Exit.all q
  | bl b => walk_at "go"; exact Exit.all q
  | int b => walk_at "go"; exact Exit.all q
  | str b => walk_at "go"; exact Exit.all q
  | tup b => walk_at "go"; exact Exit.all q
  | lst b => walk_at "go"; exact Exit.all q
  | ref n => exact absurd hp (by simp [pureD])
  | exc a d ns ds => exact absurd hp (by simp [pureD])
theorem isint_k {d : D} {S : Store} {Q : D → Store → Prop} (hp : pureD d) (q : Q (.bl (isIntD d)) S) : askC c_is_integer [d] S Q := ask_in ⟨d, rfl, hp, q⟩
theorem v__law_whole (ds : List D) (S : Store) (Q0 : D → Store → Prop) (hl : ds.length = 1) (hc : closedS S) (hd : closedL S.length ds) (h : c__law_whole ds S Q0) : w__law_whole (EX S Q0) (ds.map some ++ List.replicate 0 none) S := by
  obtain ⟨d, rfl, hp, q⟩ := h
  cases d with
  | non => walk_at "go"; exact Exit.all q
  | bl b => walk_at "go"; exact Exit.all q
  | int b => walk_at "go"; exact Exit.all q
  | str b => walk_at "go"; exact Exit.all q
  | tup b => walk_at "go"; exact Exit.all q
  | lst b => walk_at "go"; exact Exit.all q
  | ref n => exact absurd hp (by simp [pureD])
  | exc a d ns ds => exact absurd hp (by simp [pureD])
theorem whole_k {d : D} {S : Store} {Q : D → Store → Prop} (hp : pureD d) (q : Q (.bl (isIntD d)) S) : askC c__law_whole [d] S Q := ask_in ⟨d, rfl, hp, q⟩
theorem v__law_letters (ds : List D) (S : Store) (Q0 : D → Store → Prop) (hl : ds.length = 0) (hc : closedS S) (hd : closedL S.length ds) (h : c__law_letters ds S Q0) : w__law_letters (EX S Q0) (ds.map some ++ List.replicate 0 none) S := by
  obtain ⟨rfl, q⟩ := h
  walk_at "go"
  exact Exit.all q
theorem letters_k {S : Store} {Q : D → Store → Prop} (q : Q (.str L26) S) : askC c__law_letters [] S Q := ask_in ⟨rfl, q⟩
local macro_rules | `(tactic| walk_at "call") => `(tactic| ((with_reducible show askC c__law_letters _ _ _); refine letters_k ?_))
theorem nmF_at {z : Str} {i : Nat} (hi : i < z.length) (hb : badI z i = true) (h : ∀ j, j < i → badI z j = false) : nmF z = .int (i : Int) := by
  unfold nmF
  rw [List.find?_range_eq_some.mpr ⟨hb, List.mem_range.mpr hi, fun j hj => by rw [h j hj] <;> rfl⟩]
theorem nmF_no {z : Str} (h : ∀ j, j < z.length → badI z j = false) : nmF z = .non := by
  unfold nmF
  rw [List.find?_range_eq_none.mpr fun j hj => by rw [h j hj] <;> rfl]
theorem badI_at {z : Str} {i c : Nat} (hc : z.cps.toList[i]? = some c) : badI z i = (!subS (chS c) L26 && (decide (i = 0) || !subS (chS c) F10)) := by
  unfold badI
  rw [hc]
theorem pass_on {z : Str} {i : Nat} (h : ∀ j, j < i → badI z j = false) (hb : badI z i = false) : ∀ j, j < i + 1 → badI z j = false := fun j hj => by
  by_cases e : j = i
  · rw [e]; exact hb
  · exact h j (by omega)
theorem v_name_fault (ds : List D) (S : Store) (Q0 : D → Store → Prop) (hl : ds.length = 1) (hc : closedS S) (hd : closedL S.length ds) (h : c_name_fault ds S Q0) : w_name_fault (EX S Q0) (ds.map some ++ List.replicate 2 none) S := by
  obtain ⟨d, rfl, hp, q⟩ := h
  cases d with
  | non => walk_at "go"; exact Exit.all q
  | bl b => walk_at "go"; exact Exit.all q
  | int b => walk_at "go"; exact Exit.all q
  | tup b => walk_at "go"; exact Exit.all q
  | lst b => walk_at "go"; exact Exit.all q
  | ref n => exact absurd hp.1 (by simp [pureD])
  | exc a d ns ds => exact absurd hp.1 (by simp [pureD])
  | str z =>
    have hz : z.length ≤ 20000 := hp.2
    walk_at "go"
    have hs : z.length ≤ sizeLine := by unfold sizeLine; omega
    have out : ¬ (1 ≤ z.length ∧ z.length ≤ 8) → Exit S.length (.int (-1)) S Q0 := fun h => by
      have e : nameF (.str z) = .int (-1) := if_neg h
      rw [e] at q
      exact Exit.all q
    refine cIf_b (fun e1 => ?_) (fun e1 => ?_)
    · have e1 : (1 : Int) ≤ z.length := of_decide_eq_true e1
      walk_at "go"
      refine cIf_b (fun e2 => ?_) (fun e2 => ?_)
      · have e2 : ¬ (z.length : Int) ≤ 8 := by simpa using e2
        walk_at "go"
        exact out fun h => e2 (by omega)
      · have e2 : (z.length : Int) ≤ 8 := by simpa using e2
        have e : nameF (.str z) = nmF z := if_pos ⟨by omega, by omega⟩
        rw [e] at q
        walk_at "go"
        refine forG_enum (α := Nat) (enc := fun c => D.str (chS c)) (ys := z.cps.toList) (fun i ρ S' => ∃ x y, ρ = [some (.str z), x, y] ∧ S' = S ∧ ∀ j, j < i → badI z j = false) ⟨_, _, rfl, rfl, fun j hj => by omega⟩ ?_ ?_
        · rintro i c ρ S' k hcc ⟨x, y, rfl, rfl, hb⟩ hk
          have hi : i < z.length := by
            have := (List.getElem?_eq_some_iff.mp hcc).1
            show i < z.cps.size
            simpa using this
          refine ⟨trivial, _, rfl, ?_⟩
          have hbi := badI_at hcc
          walk_at "go"
          refine cIf_b (fun k1 => ?_) (fun k1 => ?_)
          · have k1 : (!subS (chS c) L26) = true := k1
            rw [k1, Bool.true_and] at hbi
            walk_at "go"
            refine cIf_d (fun k2 => ?_) (fun k2 => ?_)
            · have k2 : i = 0 := by omega
              rw [decide_eq_true k2, Bool.true_or] at hbi
              rw [nmF_at hi hbi hb] at q
              walk_at "go"
              exact Exit.all q
            · have k2 : ¬ i = 0 := by omega
              rw [decide_eq_false k2, Bool.false_or] at hbi
              walk_at "go"
              refine cIf_b (fun k3 => ?_) (fun k3 => ?_)
              · have k3 : (!subS (chS c) F10) = true := k3
                rw [k3] at hbi
                rw [nmF_at hi hbi hb] at q
                walk_at "go"
                exact Exit.all q
              · have k3 : (!subS (chS c) F10) = false := k3
                rw [k3] at hbi
                walk_at "go"
                exact hk _ _ ⟨_, _, rfl, rfl, pass_on hb hbi⟩
          · have k1 : (!subS (chS c) L26) = false := k1
            rw [k1, Bool.false_and] at hbi
            walk_at "go"
            exact hk _ _ ⟨_, _, rfl, rfl, pass_on hb hbi⟩
        · rintro ρ S' ⟨x, y, rfl, rfl, hb⟩
          refine ⟨trivial, ?_⟩
          rw [nmF_no fun j hj => hb j (by have : j < z.cps.size := hj; simpa using this)] at q
          walk_at "go"
          exact Exit.all q
    · have e1 : ¬ (1 : Int) ≤ z.length := of_decide_eq_false e1
      walk_at "go"
      exact out fun h => e1 (by omega)
theorem nfault_k {d : D} {S : Store} {Q : D → Store → Prop} (hp : Thing d) (q : Q (nameF d) S) : askC c_name_fault [d] S Q := ask_in ⟨d, rfl, hp, q⟩
theorem nameF_cases (d : D) : nameF d = .non ∨ ∃ i : Int, nameF d = .int i := by
  unfold nameF
  split
  · split
    · unfold nmF
      split
      · exact .inr ⟨_, rfl⟩
      · exact .inl rfl
    · exact .inr ⟨_, rfl⟩
  · exact .inr ⟨_, rfl⟩
theorem v_check_name (ds : List D) (S : Store) (Q0 : D → Store → Prop) (E0 : XD → Store → Prop) (hl : ds.length = 1) (hc : closedS S) (hd : closedL S.length ds) (h : c_check_name ds S Q0 E0) : w_check_name (EXX S Q0 E0) (ds.map some ++ List.replicate 1 none) S := by
  obtain ⟨d, rfl, hp, q, e⟩ := h
  walk_at "go"
  refine nfault_k hp ?_
  rcases nameF_cases d with h | ⟨i, h⟩
  · rw [h]
    walk_at "go"
    exact Exit.all (q h)
  · rw [h]
    walk_at "go"
    exact ExitX.all (e i h)
end K01

set_option maxHeartbeats 1000000
namespace K01
open PySem PySem.Spec PyProof.Rows L2 DL
local macro_rules | `(tactic| walk_at "w") => `(tactic| conv => whnf)
local macro_rules | `(tactic| walk_at "side") => `(tactic| first | exact True.intro | omega | with_reducible assumption | (simp only [sizeLine_eq, List.length_append, List.length_cons, List.length_nil, List.length_map, List.length_set]; omega) | exact (rfl : _ = _) | exact Int.mul_pos (by omega) (by omega) | exact DL.MulOk.l (by omega) (by omega) | exact DL.MulOk.r (by omega) (by omega) | exact DL.MulOk.big (by omega) (by omega) | exact DL.DivOk.of (by omega) (by omega) | (unfold CPow; decide) | exact DL.isL_of DL.get_last | (rw [sizeLine_eq]; decide +kernel) | (dsimp only; split <;> omega) | (focus (intro hh; simp [D.py] at hh; done)) | (focus (intro hh; cases hh; done)))
local macro_rules | `(tactic| walk_at "call") => `(tactic| fail "no contract")
local macro_rules | `(tactic| walk_at "go1") => `(tactic| ((conv => whnf); first | (refine And.intro ?_ ?_; ((walk_at "side"))) | walk_at "call" | (refine cIf_t rfl ?_) | refine cIf_f rfl ?_))
local macro_rules | `(tactic| walk_at "go") => `(tactic| ((repeat (walk_at "go1")); try (conv => whnf)))
local macro_rules | `(tactic| walk_at "yes") => `(tactic| (refine cIf_t (by first | rfl | simp | (simp; omega)) ?_; walk_at "go"))
local macro_rules | `(tactic| walk_at "no") => `(tactic| (refine cIf_f (by first | rfl | simp | (simp; omega)) ?_; walk_at "go"))
local macro_rules | `(tactic| walk_at "goS") => `(tactic| ((repeat' (first | walk_at "go1" | ((conv => whnf); refine cIf_d (fun h => ?_) (fun h => ?_)) | ((conv => whnf); refine cIf_b (fun h => ?_) (fun h => ?_)))); all_goals (try (conv => whnf))))
local macro_rules | `(tactic| walk_at "call") => `(tactic| ((with_reducible show askC c__law_letters _ _ _); refine letters_k ?_))
theorem dialF_sh {a b : D} (h : isIntD a = false ∨ isIntD b = false) : dialF (.tup [a, b]) = .str "shape" := by
  cases a <;> cases b <;> first | rfl | (rcases h with h | h <;> cases h)
theorem dialF_no {d : D} (h : ∀ a b, d ≠ .tup [a, b]) : dialF d = .str "shape" := by
  unfold dialF
  split
  · rename_i n t
    exact absurd rfl (h _ _)
  · rfl
theorem isInt_ex {d : D} (h : isIntD d = true) : ∃ n, d = .int n := by
  cases d with
  | int n => exact ⟨n, rfl⟩
  | _ => cases h
theorem dP_lim {n t : Int} {Q : D → Prop} (h : n < 0 ∨ n = 1 ∨ 10000 < n) (q : Q (dialP n t)) : Q (.str "limit") := by
  have e : dialP n t = .str "limit" := if_pos h
  rwa [e] at q
theorem dP_0y {n t : Int} {Q : D → Prop} (h : n = 0) (h1 : t = 1 ∨ t = -1) (q : Q (dialP n t)) : Q .non := by
  unfold dialP at q
  rwa [if_neg (by omega), if_pos h, if_pos h1] at q
theorem dP_0n {n t : Int} {Q : D → Prop} (h : n = 0) (h1 : ¬ (t = 1 ∨ t = -1)) (q : Q (dialP n t)) : Q (.str "turn") := by
  unfold dialP at q
  rwa [if_neg (by omega), if_pos h, if_neg h1] at q
theorem dP_y {n t : Int} {Q : D → Prop} (h : ¬ (n < 0 ∨ n = 1 ∨ 10000 < n)) (h0 : n ≠ 0) (h1 : 1 ≤ t ∧ t < n ∧ t * t % n = 1) (q : Q (dialP n t)) : Q .non := by
  unfold dialP at q
  rwa [if_neg h, if_neg h0, if_pos h1] at q
theorem dP_n {n t : Int} {Q : D → Prop} (h : ¬ (n < 0 ∨ n = 1 ∨ 10000 < n)) (h0 : n ≠ 0) (h1 : ¬ (1 ≤ t ∧ t < n ∧ t * t % n = 1)) (q : Q (dialP n t)) : Q (.str "turn") := by
  unfold dialP at q
  rwa [if_neg h, if_neg h0, if_neg h1] at q
theorem v_dial_fault (ds : List D) (S : Store) (Q0 : D → Store → Prop) (hl : ds.length = 1) (hc : closedS S) (hd : closedL S.length ds) (h : c_dial_fault ds S Q0) : w_dial_fault (EX S Q0) (ds.map some ++ List.replicate 2 none) S := by
  obtain ⟨d, rfl, hp, q⟩ := h
  cases d with
  | non => walk_at "go"; exact Exit.all q
  | bl b => walk_at "go"; exact Exit.all q
  | int b => walk_at "go"; exact Exit.all q
  | str b => walk_at "go"; exact Exit.all q
  | lst b => walk_at "go"; exact Exit.all q
  | ref n => exact absurd hp.1 (by simp [pureD])
  | exc a d ns ds => exact absurd hp.1 (by simp [pureD])
  | tup ds =>
    have hpl : pureL ds := by simpa [pureD] using hp.1
    match ds, hpl with
    | [], _ => walk_at "go"; exact Exit.all q
    | [a], _ =>
      rw [dialF_no (by intro x y e; cases e)] at q
      walk_at "go"
      exact Exit.all q
    | a :: b :: c :: l, _ =>
      rw [dialF_no (by intro x y e; cases e)] at q
      walk_at "go"
      exact Exit.all q
    | [a, b], hpl =>
      have ha : pureD a ∧ pureD b := by simpa [pureL] using hpl
      walk_at "go"
      refine isint_k ha.1 ?_
      cases ea : isIntD a with
      | false =>
        rw [dialF_sh (.inl ea)] at q
        walk_at "go"
        exact Exit.all q
      | true =>
        walk_at "go"
        refine isint_k ha.2 ?_
        cases eb : isIntD b with
        | false =>
          rw [dialF_sh (.inr eb)] at q
          walk_at "go"
          exact Exit.all q
        | true =>
          obtain ⟨n, rfl⟩ := isInt_ex ea
          obtain ⟨t, rfl⟩ := isInt_ex eb
          have q : Q0 (dialP n t) S := q
          walk_at "goS"
          all_goals (try simp only [decide_eq_true_eq, decide_eq_false_iff_not, Bool.not_eq_true', Bool.not_eq_false', Bool.not_eq_true, Bool.not_eq_false, Bool.not_eq_eq_eq_not, Bool.not_true, Bool.not_false] at *)
          all_goals first | exact Exit.all (dP_lim (Q := fun d => Q0 d S) (by omega) q) | exact Exit.all (dP_0y (Q := fun d => Q0 d S) (by omega) (by omega) q) | exact Exit.all (dP_0n (Q := fun d => Q0 d S) (by omega) (by omega) q) | exact Exit.all (dP_y (Q := fun d => Q0 d S) (by omega) (by omega) (by omega) q) | exact Exit.all (dP_n (Q := fun d => Q0 d S) (by omega) (by omega) (by omega) q) | (refine ⟨DL.MulOk.l (by omega) (by omega), ?_⟩; walk_at "goS")
          all_goals (try simp only [decide_eq_true_eq, decide_eq_false_iff_not, Bool.not_eq_true', Bool.not_eq_false', Bool.not_eq_true, Bool.not_eq_false, Bool.not_eq_eq_eq_not, Bool.not_true, Bool.not_false] at *)
          all_goals first | exact Exit.all (dP_lim (Q := fun d => Q0 d S) (by omega) q) | exact Exit.all (dP_0y (Q := fun d => Q0 d S) (by omega) (by omega) q) | exact Exit.all (dP_0n (Q := fun d => Q0 d S) (by omega) (by omega) q) | exact Exit.all (dP_y (Q := fun d => Q0 d S) (by omega) (by omega) (by omega) q) | exact Exit.all (dP_n (Q := fun d => Q0 d S) (by omega) (by omega) (by omega) q) | trace_state
theorem dfault_k {d : D} {S : Store} {Q : D → Store → Prop} (hp : Thing d) (q : Q (dialF d) S) : askC c_dial_fault [d] S Q := ask_in ⟨d, rfl, hp, q⟩
theorem dialF_cases (d : D) : dialF d = .non ∨ ∃ z : Str, dialF d = .str z := by
  unfold dialF
  split
  · unfold dialP
    split
    · exact .inr ⟨_, rfl⟩
    · split
      · split
        · exact .inl rfl
        · exact .inr ⟨_, rfl⟩
      · split
        · exact .inl rfl
        · exact .inr ⟨_, rfl⟩
  · exact .inr ⟨_, rfl⟩
theorem v_check_dial (ds : List D) (S : Store) (Q0 : D → Store → Prop) (E0 : XD → Store → Prop) (hl : ds.length = 1) (hc : closedS S) (hd : closedL S.length ds) (h : c_check_dial ds S Q0 E0) : w_check_dial (EXX S Q0 E0) (ds.map some ++ List.replicate 1 none) S := by
  obtain ⟨d, rfl, hp, q, e⟩ := h
  walk_at "go"
  refine dfault_k hp ?_
  rcases dialF_cases d with h | ⟨i, h⟩
  · rw [h]
    walk_at "go"
    exact Exit.all (q h)
  · rw [h]
    walk_at "go"
    exact ExitX.all (e i h)
end K01

set_option maxHeartbeats 1000000
namespace K01
open PySem PySem.Spec PyProof.Rows L2 DL
local macro_rules | `(tactic| walk_at "w") => `(tactic| conv => whnf)
local macro_rules | `(tactic| walk_at "side") => `(tactic| first | exact True.intro | omega | with_reducible assumption | (simp only [sizeLine_eq, List.length_append, List.length_cons, List.length_nil, List.length_map, List.length_set]; omega) | exact (rfl : _ = _) | exact Int.mul_pos (by omega) (by omega) | exact DL.MulOk.l (by omega) (by omega) | exact DL.MulOk.r (by omega) (by omega) | exact DL.MulOk.big (by omega) (by omega) | exact DL.DivOk.of (by omega) (by omega) | (unfold CPow; decide) | exact DL.isL_of DL.get_last | (rw [sizeLine_eq]; decide +kernel) | (dsimp only; split <;> omega) | (focus (intro hh; simp [D.py] at hh; done)) | (focus (intro hh; cases hh; done)))
local macro_rules | `(tactic| walk_at "call") => `(tactic| fail "no contract")
local macro_rules | `(tactic| walk_at "go1") => `(tactic| ((conv => whnf); first | (refine And.intro ?_ ?_; ((walk_at "side"))) | walk_at "call" | (refine cIf_t rfl ?_) | refine cIf_f rfl ?_))
local macro_rules | `(tactic| walk_at "go") => `(tactic| ((repeat (walk_at "go1")); try (conv => whnf)))
local macro_rules | `(tactic| walk_at "yes") => `(tactic| (refine cIf_t (by first | rfl | simp | (simp; omega)) ?_; walk_at "go"))
local macro_rules | `(tactic| walk_at "no") => `(tactic| (refine cIf_f (by first | rfl | simp | (simp; omega)) ?_; walk_at "go"))
local macro_rules | `(tactic| walk_at "goS") => `(tactic| ((repeat' (first | walk_at "go1" | ((conv => whnf); refine cIf_d (fun h => ?_) (fun h => ?_)) | ((conv => whnf); refine cIf_b (fun h => ?_) (fun h => ?_)))); all_goals (try (conv => whnf))))
local macro_rules | `(tactic| walk_at "call") => `(tactic| ((with_reducible show askC c__law_letters _ _ _); refine letters_k ?_))
theorem v__law_wrong_place (ds : List D) (S : Store) (Q0 : D → Store → Prop) (hl : ds.length = 1) (hc : closedS S) (hd : closedL S.length ds) (h : c__law_wrong_place ds S Q0) : w__law_wrong_place (EX S Q0) (ds.map some ++ List.replicate 2 none) S := by
  obtain ⟨d, rfl, hp, q⟩ := h
  cases d with
  | non => walk_at "go"; exact Exit.all q
  | bl b => walk_at "go"; exact Exit.all q
  | int b => walk_at "go"; exact Exit.all q
  | tup b => walk_at "go"; exact Exit.all q
  | lst b => walk_at "go"; exact Exit.all q
  | ref n => exact absurd hp.1 (by simp [pureD])
  | exc a d ns ds => exact absurd hp.1 (by simp [pureD])
  | str z =>
    have hz : z.length ≤ 20000 := hp.2
    have hs : z.length ≤ sizeLine := by unfold sizeLine; omega
    have out : ¬ (1 ≤ z.length ∧ z.length ≤ 8) → Exit S.length (.int (-1)) S Q0 := fun h => by
      have e : nameF (.str z) = .int (-1) := if_neg h
      rw [e] at q
      exact Exit.all q
    walk_at "go"
    refine cIf_b (fun e1 => ?_) (fun e1 => ?_)
    · have e1 : (z.length : Int) < 1 := by simpa using e1
      walk_at "go"
      exact out fun h => by omega
    · have e1 : ¬ (z.length : Int) < 1 := by simpa using e1
      walk_at "go"
      refine cIf_b (fun e2 => ?_) (fun e2 => ?_)
      · have e2 : (8 : Int) < z.length := by simpa using e2
        walk_at "go"
        exact out fun h => by omega
      · have e2 : ¬ (8 : Int) < z.length := by simpa using e2
        have e : nameF (.str z) = nmF z := if_pos ⟨by omega, by omega⟩
        rw [e] at q
        walk_at "go"
        rw [Int.toNat_natCast]
        refine forG_range0 (n := z.length) (fun i ρ S' => ∃ x y, ρ = [some (.str z), x, y] ∧ S' = S ∧ ∀ j, j < i → badI z j = false) ⟨_, _, rfl, rfl, fun j hj => by omega⟩ ?_ ?_
        · rintro i ρ S' k hi ⟨x, y, rfl, rfl, hb⟩ hk
          obtain ⟨c, hat, hc0⟩ := atS_get hi
          have hcc : z.cps.toList[i]? = some c := by rw [Array.getElem?_toList]; exact hc0
          refine ⟨trivial, _, rfl, ?_⟩
          have hbi := badI_at hcc
          walk_at "go"
          rw [hat]
          walk_at "go"
          cases k1 : subS (chS c) L26 with
          | true =>
            rw [k1] at hbi
            walk_at "go"
            exact hk _ _ ⟨_, _, rfl, rfl, pass_on hb hbi⟩
          | false =>
            rw [k1] at hbi
            walk_at "go"
            refine cIf_d (fun k2 => ?_) (fun k2 => ?_)
            · have k2 : i = 0 := by omega
              rw [decide_eq_true k2] at hbi
              rw [nmF_at hi hbi hb] at q
              walk_at "go"
              exact Exit.all q
            · have k2 : ¬ i = 0 := by omega
              rw [decide_eq_false k2, Bool.false_or] at hbi
              walk_at "go"
              rw [hat]
              walk_at "go"
              refine cIf_b (fun k3 => ?_) (fun k3 => ?_)
              · have k3 : (!subS (chS c) F10) = true := k3
                rw [k3] at hbi
                rw [nmF_at hi hbi hb] at q
                walk_at "go"
                exact Exit.all q
              · have k3 : (!subS (chS c) F10) = false := k3
                rw [k3] at hbi
                walk_at "go"
                exact hk _ _ ⟨_, _, rfl, rfl, pass_on hb hbi⟩
        · rintro ρ S' ⟨x, y, rfl, rfl, hb⟩
          refine ⟨trivial, ?_⟩
          rw [nmF_no hb] at q
          walk_at "go"
          exact Exit.all q
theorem wplace_k {d : D} {S : Store} {Q : D → Store → Prop} (hp : Thing d) (q : Q (nameF d) S) : askC c__law_wrong_place [d] S Q := ask_in ⟨d, rfl, hp, q⟩
theorem mod_one {a n : Int} (h : 2 ≤ n) : (a - 1) % n = 0 ↔ a % n = 1 := by
  rw [← Int.emod_emod_of_dvd (a - 1) (Int.dvd_refl n)]
  constructor
  · intro h1
    have h2 : a % n = 1 % n := Int.emod_emod_of_dvd a (Int.dvd_refl n) ▸ (Int.emod_eq_emod_iff_emod_sub_eq_zero.mpr (by simpa using h1))
    rw [h2, Int.emod_eq_of_lt (by omega) (by omega)]
  · intro h1
    have h2 : a % n = 1 % n := by rw [h1, Int.emod_eq_of_lt (by omega) (by omega)]
    have := Int.emod_eq_emod_iff_emod_sub_eq_zero.mp h2
    simpa using this
theorem v__law_dial_word (ds : List D) (S : Store) (Q0 : D → Store → Prop) (hl : ds.length = 1) (hc : closedS S) (hd : closedL S.length ds) (h : c__law_dial_word ds S Q0) : w__law_dial_word (EX S Q0) (ds.map some ++ List.replicate 2 none) S := by
  obtain ⟨d, rfl, hp, q⟩ := h
  cases d with
  | non => walk_at "go"; exact Exit.all q
  | bl b => walk_at "go"; exact Exit.all q
  | int b => walk_at "go"; exact Exit.all q
  | str b => walk_at "go"; exact Exit.all q
  | lst b => walk_at "go"; exact Exit.all q
  | ref n => exact absurd hp.1 (by simp [pureD])
  | exc a d ns ds => exact absurd hp.1 (by simp [pureD])
  | tup ds =>
    have hpl : pureL ds := by simpa [pureD] using hp.1
    match ds, hpl with
    | [], _ => walk_at "go"; exact Exit.all q
    | [a], _ =>
      rw [dialF_no (by intro x y e; cases e)] at q
      walk_at "go"
      exact Exit.all q
    | a :: b :: c :: l, _ =>
      rw [dialF_no (by intro x y e; cases e)] at q
      walk_at "go"
      exact Exit.all q
    | [a, b], hpl =>
      have ha : pureD a ∧ pureD b := by simpa [pureL] using hpl
      walk_at "go"
      refine whole_k ha.1 ?_
      cases ea : isIntD a with
      | false =>
        rw [dialF_sh (.inl ea)] at q
        walk_at "go"
        exact Exit.all q
      | true =>
        walk_at "go"
        refine whole_k ha.2 ?_
        cases eb : isIntD b with
        | false =>
          rw [dialF_sh (.inr eb)] at q
          walk_at "go"
          exact Exit.all q
        | true =>
          obtain ⟨n, rfl⟩ := isInt_ex ea
          obtain ⟨t, rfl⟩ := isInt_ex eb
          have q : Q0 (dialP n t) S := q
          walk_at "goS"
          all_goals (try simp only [decide_eq_true_eq, decide_eq_false_iff_not, Bool.not_eq_true', Bool.not_eq_false', Bool.not_eq_true, Bool.not_eq_false, Bool.not_eq_eq_eq_not, Bool.not_true, Bool.not_false] at *)
          all_goals first | exact Exit.all (dP_lim (Q := fun d => Q0 d S) (by omega) q) | exact Exit.all (dP_0y (Q := fun d => Q0 d S) (by omega) (by omega) q) | exact Exit.all (dP_0n (Q := fun d => Q0 d S) (by omega) (by omega) q) | exact Exit.all (dP_y (Q := fun d => Q0 d S) (by omega) (by omega) (by omega) q) | exact Exit.all (dP_n (Q := fun d => Q0 d S) (by omega) (by omega) (by omega) q) | skip
          all_goals (try simp only [decide_eq_true_eq, decide_eq_false_iff_not, Bool.not_eq_true', Bool.not_eq_false', Bool.not_eq_true, Bool.not_eq_false, Bool.not_eq_eq_eq_not, Bool.not_true, Bool.not_false] at *)
          all_goals (rename_i hz; first | rw [mod_one (by omega)] at hz | skip)
          all_goals first | exact Exit.all (dP_lim (Q := fun d => Q0 d S) (by omega) q) | exact Exit.all (dP_0y (Q := fun d => Q0 d S) (by omega) (by omega) q) | exact Exit.all (dP_0n (Q := fun d => Q0 d S) (by omega) (by omega) q) | exact Exit.all (dP_y (Q := fun d => Q0 d S) (by omega) (by omega) (by omega) q) | exact Exit.all (dP_n (Q := fun d => Q0 d S) (by omega) (by omega) (by omega) q) | trace_state
theorem dword_k {d : D} {S : Store} {Q : D → Store → Prop} (hp : Thing d) (q : Q (dialF d) S) : askC c__law_dial_word [d] S Q := ask_in ⟨d, rfl, hp, q⟩
end K01

set_option maxHeartbeats 1000000
namespace K01
open PySem PySem.Spec PyProof.Rows L2 DL
local macro_rules | `(tactic| walk_at "w") => `(tactic| conv => whnf)
local macro_rules | `(tactic| walk_at "side") => `(tactic| first | exact True.intro | omega | with_reducible assumption | (simp only [sizeLine_eq, List.length_append, List.length_cons, List.length_nil, List.length_map, List.length_set]; omega) | exact (rfl : _ = _) | exact Int.mul_pos (by omega) (by omega) | exact DL.MulOk.l (by omega) (by omega) | exact DL.MulOk.r (by omega) (by omega) | exact DL.MulOk.big (by omega) (by omega) | exact DL.DivOk.of (by omega) (by omega) | (unfold CPow; decide) | exact DL.isL_of DL.get_last | (rw [sizeLine_eq]; decide +kernel) | (dsimp only; split <;> omega) | (focus (intro hh; simp [D.py] at hh; done)) | (focus (intro hh; cases hh; done)))
local macro_rules | `(tactic| walk_at "call") => `(tactic| fail "no contract")
local macro_rules | `(tactic| walk_at "go1") => `(tactic| ((conv => whnf); first | (refine And.intro ?_ ?_; ((walk_at "side"))) | walk_at "call" | (refine cIf_t rfl ?_) | refine cIf_f rfl ?_))
local macro_rules | `(tactic| walk_at "go") => `(tactic| ((repeat (walk_at "go1")); try (conv => whnf)))
local macro_rules | `(tactic| walk_at "yes") => `(tactic| (refine cIf_t (by first | rfl | simp | (simp; omega)) ?_; walk_at "go"))
local macro_rules | `(tactic| walk_at "no") => `(tactic| (refine cIf_f (by first | rfl | simp | (simp; omega)) ?_; walk_at "go"))
local macro_rules | `(tactic| walk_at "goS") => `(tactic| ((repeat' (first | walk_at "go1" | ((conv => whnf); refine cIf_d (fun h => ?_) (fun h => ?_)) | ((conv => whnf); refine cIf_b (fun h => ?_) (fun h => ?_)))); all_goals (try (conv => whnf))))
local macro_rules | `(tactic| walk_at "call") => `(tactic| ((with_reducible show askC c__law_letters _ _ _); refine letters_k ?_))
theorem v__law_asks_name (ds : List D) (S : Store) (Q0 : D → Store → Prop) (hl : ds.length = 1) (hc : closedS S) (hd : closedL S.length ds) (h : c__law_asks_name ds S Q0) : w__law_asks_name (EX S Q0) (ds.map some ++ List.replicate 3 none) S := by
  obtain ⟨d, rfl, hp, q⟩ := h
  walk_at "go"
  refine wplace_k hp ?_
  walk_at "go"
  refine askX_in ⟨d, rfl, hp, fun h => ?_, fun i h => ?_⟩
  · rw [h]
    walk_at "go"
    exact Exit.all q
  · rw [h]
    refine ⟨rfl, fun a dd => ?_⟩
    walk_at "go"
    refine whole_k (d := .int i) (by simp [pureD]) ?_
    walk_at "go"
    rw [decide_eq_true (rfl : i = i)]
    exact Exit.all q
theorem asksn_k {d : D} {S : Store} {Q : D → Store → Prop} (hp : Thing d) (q : Q (.bl true) S) : askC c__law_asks_name [d] S Q := ask_in ⟨d, rfl, hp, q⟩
theorem v__law_asks_dial (ds : List D) (S : Store) (Q0 : D → Store → Prop) (hl : ds.length = 1) (hc : closedS S) (hd : closedL S.length ds) (h : c__law_asks_dial ds S Q0) : w__law_asks_dial (EX S Q0) (ds.map some ++ List.replicate 3 none) S := by
  obtain ⟨d, rfl, hp, q⟩ := h
  walk_at "go"
  refine dword_k hp ?_
  walk_at "go"
  refine askX_in ⟨d, rfl, hp, fun h => ?_, fun i h => ?_⟩
  · rw [h]
    walk_at "go"
    exact Exit.all q
  · rw [h]
    refine ⟨rfl, fun a dd => ?_⟩
    walk_at "go"
    rw [decide_eq_true (rfl : i = i)]
    exact Exit.all q
theorem asksd_k {d : D} {S : Store} {Q : D → Store → Prop} (hp : Thing d) (q : Q (.bl true) S) : askC c__law_asks_dial [d] S Q := ask_in ⟨d, rfl, hp, q⟩
theorem mkP_len {p : PoolSt} {G : Store} : (mkP p G).length = G.length + 2 := rfl
theorem v__law_pool (ds : List D) (S : Store) (Q0 : D → Store → Prop) (hl : ds.length = 2) (hc : closedS S) (hd : closedL S.length ds) (h : c__law_pool ds S Q0) : w__law_pool (EX S Q0) (ds.map some ++ List.replicate 3 none) S := by
  obtain ⟨ns, salt, rfl, rfl, hn, s0, s1, q⟩ := h
  walk_at "go"
  refine compG_map (α := Int) (enc := D.int) (f := fun i => D.int (if i < 0 then -i else i)) (ys := ns) trivial (by omega) (fun i hi => ?_) ?_
  · refine ⟨_, rfl, fun Q q => ?_⟩
    walk_at "go"
    exact q
  rw [show (ns.map fun i => D.int (if i < 0 then -i else i)) = (ns.map fun i => if i < 0 then -i else i).map D.int by rw [List.map_map]; rfl]
  generalize hds : (ns.map fun i => if i < 0 then -i else i) = cs
  have hcl : cs.length ≤ 63 := by rw [← hds]; simpa using hn
  walk_at "go"
  refine forG_list (enc := D.int) (ys := cs) (fun i ρ S' => ∃ (m : Int) (x : Option D), ρ = [some (.lst (ns.map .int)), some (.int salt), some (.ref 0), some (.int m), x] ∧ S' = [.lst (cs.map .int)] ∧ 0 ≤ m ∧ m ≤ 2147483647) ⟨salt, _, rfl, rfl, by omega, by omega⟩ ?_ ?_
  · rintro i c ρ S' k hi ⟨m, x, rfl, rfl, m0, m1⟩ hk
    refine ⟨rfl, _, rfl, ?_⟩
    walk_at "go"
    exact hk _ _ ⟨_, _, rfl, rfl, Int.emod_nonneg _ (by omega), by have := Int.emod_lt_of_pos (m * 16807 + c % 2147483587 + 29) (show (0 : Int) < 2147483647 by omega); omega⟩
  · rintro ρ S' ⟨m, x, rfl, rfl, m0, m1⟩
    refine ⟨rfl, ?_⟩
    walk_at "go"
    exact Exit.all (q ⟨cs, 0, m + 1⟩ ⟨by show (0 : Int) ≤ 0; omega, by show 0 ≤ m + 1; omega, by show m + 1 ≤ _; omega⟩)
theorem draw_s1 {many : Int} {p t0 : PoolSt} {G : Store} {Q0 : D → Store → Prop} {x y : Option D} (ok : p.Ok) (h0 : 0 < many) (h1 : many < 2 ^ 60) (q : ∀ (d : Int) (p' : PoolSt), p'.Ok → 0 ≤ d → d < many → Q0 (.int d) (mkP p' G)) : Tail w__law_draw_s1 (EX (mkP t0 G) Q0) [some (.ref 1), some (.int many), x, y] (mkP p G) := by
  obtain ⟨cs, a, b⟩ := p
  obtain ⟨a0, b0, b1⟩ := ok
  dsimp only at a0 b0 b1
  refine ⟨?_⟩
  walk_at "go"
  refine cIf_b (fun e => ?_) (fun e => ?_)
  · walk_at "go"
    exact Exit.all (q _ ⟨cs, a / many, b⟩ ⟨Int.ediv_nonneg a0 (by omega), b0, b1⟩ (Int.emod_nonneg _ (by omega)) (Int.emod_lt_of_pos _ h0))
  · walk_at "go"
    have hx : ∀ x : Int, 0 ≤ x % 2147483647 ∧ x % 2147483647 ≤ 4294967296 := fun x => by
      have := Int.emod_nonneg x (show (2147483647 : Int) ≠ 0 by omega)
      have := Int.emod_lt_of_pos x (show (0 : Int) < 2147483647 by omega)
      omega
    exact Exit.all (q _ ⟨cs, a, ((b * 16807 + 54321) % 2147483647 * 39373 + 11) % 2147483647⟩ ⟨a0, hx _⟩ (Int.emod_nonneg _ (by omega)) (Int.emod_lt_of_pos _ h0))
theorem v__law_draw (ds : List D) (S : Store) (Q0 : D → Store → Prop) (hl : ds.length = 2) (hc : closedS S) (hd : closedL S.length ds) (h : c__law_draw ds S Q0) : w__law_draw (EX S Q0) (ds.map some ++ List.replicate 2 none) S := by
  obtain ⟨many, p, G, rfl, rfl, ok, h0, h1, q⟩ := h
  obtain ⟨cs, a, b⟩ := p
  obtain ⟨a0, b0, b1⟩ := ok
  dsimp only at a0 b0 b1
  walk_at "go"
  refine cIf_d (fun e => ?_) (fun e => ?_)
  · have e : a = 0 := e
    subst e
    walk_at "go"
    cases cs with
    | nil =>
      walk_at "go"
      exact draw_s1 (p := ⟨[], 0, b⟩) ⟨by show (0 : Int) ≤ 0; omega, b0, b1⟩ h0 h1 q
    | cons c cs =>
      refine cIf_b (fun k1 => ?_) (fun k1 => ?_)
      · walk_at "go"
        refine cIf_d (fun k2 => ?_) (fun k2 => ?_)
        · have k2 : (10 : Int) ^ (Int.toNat 18) ≤ c := k2
          have e18 : (10 : Int) ^ (Int.toNat 18) = 1000000000000000000 := by decide
          walk_at "go"
          exact draw_s1 (p := ⟨cs, c, b⟩) ⟨by show 0 ≤ c; omega, b0, b1⟩ h0 h1 q
        · walk_at "go"
          have := Int.emod_nonneg (b * 39373 + c) (show (2147483647 : Int) ≠ 0 by omega)
          have := Int.emod_lt_of_pos (b * 39373 + c) (show (0 : Int) < 2147483647 by omega)
          exact draw_s1 (p := ⟨cs, 0, (b * 39373 + c) % 2147483647 + 1⟩) ⟨by show (0 : Int) ≤ 0; omega, by show 0 ≤ (b * 39373 + c) % 2147483647 + 1; omega, by show (b * 39373 + c) % 2147483647 + 1 ≤ _; omega⟩ h0 h1 q
      · have k1 : ¬ (0 : Int) < ((c :: cs).map D.int).length := of_decide_eq_false k1
        simp only [List.length_map, List.length_cons] at k1
        omega
  · walk_at "go"
    exact draw_s1 (p := ⟨cs, a, b⟩) ⟨a0, b0, b1⟩ h0 h1 q
theorem draw_k {many : Int} {p : PoolSt} {G : Store} {Q : D → Store → Prop} (ok : p.Ok) (h0 : 0 < many) (h1 : many < 2 ^ 60) (q : ∀ (d : Int) (p' : PoolSt), p'.Ok → 0 ≤ d → d < many → Q (.int d) (mkP p' G)) : askC c__law_draw [.ref 1, .int many] (mkP p G) Q := ask_in ⟨many, p, G, rfl, rfl, ok, h0, h1, q⟩
local macro_rules | `(tactic| walk_at "call") => `(tactic| ((with_reducible show askC c__law_draw _ _ _); refine draw_k (by assumption) ?_ ?_ ?_; (walk_at "side"); (walk_at "side"); intro d p' ok' d0 d1))
theorem chS_len (c : Nat) : (chS c).length = 1 := rfl
theorem v__law_sign (ds : List D) (S : Store) (Q0 : D → Store → Prop) (hl : ds.length = 1) (hc : closedS S) (hd : closedL S.length ds) (h : c__law_sign ds S Q0) : w__law_sign (EX S Q0) (ds.map some ++ List.replicate 2 none) S := by
  obtain ⟨p, G, rfl, rfl, ok, q⟩ := h
  walk_at "go"
  rename_i d p2 ok2 d0 d1
  have n1 : (Str.ofString "`{/:@\x5bAZBM0 _-.+").length = 16 := by decide +kernel
  have n2 : (Str.ofString " !\"#$&'()*+,-./0123456789:;<=>?@ABCDEFGHIJKLMNOPQRSTUVWXYZ[\\]^_`abcdefghijklmnopqrstuvwxyz{|}~").length = 94 := by decide +kernel
  have s1 : (16 : Nat) ≤ sizeLine := by unfold sizeLine; omega
  refine cIf_d (fun e => ?_) (fun e => ?_)
  · walk_at "go"
    rename_i i p3 ok3 i0 i1
    obtain ⟨c, hc⟩ := atS_int i0 i1
    rw [hc]
    walk_at "go"
    exact Exit.all (q _ p3 ok3 (chS_len c))
  · walk_at "go"
    rename_i i p3 ok3 i0 i1
    obtain ⟨c, hc⟩ := atS_int i0 i1
    rw [hc]
    walk_at "go"
    exact Exit.all (q _ p3 ok3 (chS_len c))
theorem v__law_spoilt (ds : List D) (S : Store) (Q0 : D → Store → Prop) (hl : ds.length = 3) (hc : closedS S) (hd : closedL S.length ds) (h : c__law_spoilt ds S Q0) : w__law_spoilt (EX S Q0) (ds.map some ++ List.replicate 0 none) S := by
  obtain ⟨nm, sg, i, rfl, i0, i1, hn, hs, q⟩ := h
  have c1 : ∀ lo hi, (cutS nm lo hi).length ≤ nm.length := fun lo hi => cutS_len nm lo hi
  have h1 : nm.length ≤ sizeLine := by unfold sizeLine; omega
  walk_at "go"
  refine ⟨by have := c1 none (some i); unfold sizeLine; omega, ?_⟩
  walk_at "go"
  have hb : (cutS nm none (some i) ++ sg ++ cutS nm (some (i + 1)) none).length ≤ 2 * nm.length + 1 := by
    rw [Str.length_append, Str.length_append]
    have := c1 none (some i)
    have := c1 (some (i + 1)) none
    omega
  refine ⟨by rw [← Str.length_append]; unfold sizeLine; omega, ?_⟩
  exact Exit.all (q _ hb)
theorem sign_k {p : PoolSt} {G : Store} {Q : D → Store → Prop} (ok : p.Ok) (q : ∀ (z : Str) (p' : PoolSt), p'.Ok → z.length = 1 → Q (.str z) (mkP p' G)) : askC c__law_sign [.ref 1] (mkP p G) Q := ask_in ⟨p, G, rfl, rfl, ok, q⟩
local macro_rules | `(tactic| walk_at "call") => `(tactic| ((with_reducible show askC c__law_sign _ _ _); refine sign_k (by assumption) ?_; intro z p' ok' hz))
theorem spoilt_k {nm sg : Str} {i : Int} {S : Store} {Q : D → Store → Prop} (i0 : 0 ≤ i) (i1 : i ≤ 5000) (hn : nm.length ≤ 1000) (hs : sg.length = 1) (q : ∀ z : Str, z.length ≤ 2 * nm.length + 1 → Q (.str z) S) : askC c__law_spoilt [.str nm, .int i, .str sg] S Q := ask_in ⟨nm, sg, i, rfl, i0, i1, hn, hs, q⟩
local macro_rules | `(tactic| walk_at "call") => `(tactic| ((with_reducible show askC c__law_spoilt _ _ _); refine spoilt_k ?_ ?_ ?_ ?_ ?_; (walk_at "side"); (walk_at "side"); (walk_at "side"); (walk_at "side"); intro z hz))
theorem mkT_snoc {p : PoolSt} {G : Store} {x : Ob} : mkP p G ++ [x] = mkP p (G ++ [x]) := rfl
theorem mkT_set {p : PoolSt} {G : Store} {x : Ob} {n : Nat} : (mkP p G).set (n + 2) x = mkP p (G.set n x) := rfl
theorem mkT_get {p : PoolSt} {G : Store} {n : Nat} : (mkP p G)[n + 2]? = G[n]? := rfl
theorem gT_last {p : PoolSt} {H : Store} {x : Ob} : (mkP p (H ++ [x]))[H.length + 2]? = some x := by
  rw [mkT_get]
  exact get_last
theorem sT_last {p : PoolSt} {H : Store} {x y : Ob} : (mkP p (H ++ [x])).set (H.length + 2) y = mkP p (H ++ [y]) := by
  rw [mkT_set, set_last]
theorem iT_last {p : PoolSt} {H : Store} {ds : List D} : itemsD (mkP p (H ++ [.lst ds])) (.ref (H.length + 2)) = some ds := y_it_ref gT_last
theorem closedT {p p' : PoolSt} {G : Store} (h : closedS (mkP p G)) : closedS (mkP p' G) := by
  intro o ho
  rcases List.mem_cons.mp ho with rfl | ho
  · exact pure_closedL (pure_map (fun i => by simp [pureD]) _)
  · rcases List.mem_cons.mp ho with rfl | ho
    · refine ⟨trivial, trivial, ?_, trivial⟩
      show 0 < G.length + 2
      omega
    · exact h o (List.mem_cons_of_mem _ (List.mem_cons_of_mem _ ho))
theorem exit_T {p p' : PoolSt} {G X : Store} {d : D} {Q0 : D → Store → Prop} (hc : closedS (mkP p G)) (hp : pureD d) (q : Q0 d (mkP p' G)) : Exit (mkP p G).length d (mkP p' (G ++ X)) Q0 := Exit.fin (S := mkP p' G) (G := X) rfl (closedT hc) (frz_pure hp) q
end K01

set_option maxHeartbeats 1000000
namespace K01
open PySem PySem.Spec PyProof.Rows L2 DL
local macro_rules | `(tactic| walk_at "w") => `(tactic| conv => whnf)
local macro_rules | `(tactic| walk_at "side") => `(tactic| first | exact True.intro | omega | with_reducible assumption | (simp only [sizeLine_eq, List.length_append, List.length_cons, List.length_nil, List.length_map, List.length_set]; omega) | exact (rfl : _ = _) | exact Int.mul_pos (by omega) (by omega) | exact DL.MulOk.l (by omega) (by omega) | exact DL.MulOk.r (by omega) (by omega) | exact DL.MulOk.big (by omega) (by omega) | exact DL.DivOk.of (by omega) (by omega) | (unfold CPow; decide) | exact DL.isL_of DL.get_last | (rw [sizeLine_eq]; decide +kernel) | (dsimp only; split <;> omega) | (focus (intro hh; simp [D.py] at hh; done)) | (focus (intro hh; cases hh; done)))
local macro_rules | `(tactic| walk_at "call") => `(tactic| fail "no contract")
local macro_rules | `(tactic| walk_at "go1") => `(tactic| ((conv => whnf); first | (refine And.intro ?_ ?_; ((walk_at "side"))) | walk_at "call" | (refine cIf_t rfl ?_) | refine cIf_f rfl ?_))
local macro_rules | `(tactic| walk_at "go") => `(tactic| ((repeat (walk_at "go1")); try (conv => whnf)))
local macro_rules | `(tactic| walk_at "yes") => `(tactic| (refine cIf_t (by first | rfl | simp | (simp; omega)) ?_; walk_at "go"))
local macro_rules | `(tactic| walk_at "no") => `(tactic| (refine cIf_f (by first | rfl | simp | (simp; omega)) ?_; walk_at "go"))
local macro_rules | `(tactic| walk_at "goS") => `(tactic| ((repeat' (first | walk_at "go1" | ((conv => whnf); refine cIf_d (fun h => ?_) (fun h => ?_)) | ((conv => whnf); refine cIf_b (fun h => ?_) (fun h => ?_)))); all_goals (try (conv => whnf))))
local macro_rules | `(tactic| walk_at "call") => `(tactic| ((with_reducible show askC c__law_letters _ _ _); refine letters_k ?_))
local macro_rules | `(tactic| walk_at "call") => `(tactic| ((with_reducible show askC c__law_draw _ _ _); refine draw_k (by assumption) ?_ ?_ ?_; (walk_at "side"); (walk_at "side"); intro d p' ok' d0 d1))
local macro_rules | `(tactic| walk_at "call") => `(tactic| ((with_reducible show askC c__law_sign _ _ _); refine sign_k (by assumption) ?_; intro z p' ok' hz))
local macro_rules | `(tactic| walk_at "call") => `(tactic| ((with_reducible show askC c__law_spoilt _ _ _); refine spoilt_k ?_ ?_ ?_ ?_ ?_; (walk_at "side"); (walk_at "side"); (walk_at "side"); (walk_at "side"); intro z hz))
theorem l26_len : L26.length = 26 := by decide +kernel
theorem l36_len : (L26 ++ F10).length = 36 := by decide +kernel
theorem v__law_name (ds : List D) (S : Store) (Q0 : D → Store → Prop) (hl : ds.length = 2) (hc : closedS S) (hd : closedL S.length ds) (h : c__law_name ds S Q0) : w__law_name (EX S Q0) (ds.map some ++ List.replicate 3 none) S := by
  obtain ⟨many, p, G, rfl, rfl, ok, h0, h1, q⟩ := h
  have n26 := l26_len
  walk_at "go"
  rename_i d p1 ok1 d0 d1
  obtain ⟨c, hcc⟩ := atS_int (z := L26) d0 (by omega)
  rw [hcc]
  have n36 : (L26 ++ Str.ofString "0123456789").length = 36 := l36_len
  walk_at "go"
  rw [mkT_snoc, mkP_len]
  generalize hB : L26 ++ Str.ofString "0123456789" = B at *
  refine forG_range0 (n := (many - 1).toNat) (fun i ρ S' => ∃ (ys : List Str) (p' : PoolSt) (x : Option D), ρ = [some (.ref 1), some (.int many), some (.ref (G.length + 2)), some (.str B), x] ∧ S' = mkP p' (G ++ [.lst (ys.map .str)]) ∧ p'.Ok ∧ ys.length = i + 1 ∧ (ys.map (·.length)).sum = i + 1) ⟨[chS c], p1, _, rfl, rfl, ok1, rfl, rfl⟩ ?_ ?_
  · rintro i ρ S' k hi ⟨ys, p2, x, rfl, rfl, ok2, y1, y2⟩ hk
    refine ⟨trivial, _, rfl, ?_⟩
    walk_at "go"
    rename_i e p3 ok3 e0 e1
    obtain ⟨c2, hc2⟩ := atS_int (z := B) e0 (by omega)
    rw [hc2]
    walk_at "go"
    rw [gT_last]
    dsimp only
    refine ⟨by rw [List.length_map]; unfold sizeLine; omega, ?_⟩
    rw [sT_last]
    exact hk _ _ ⟨ys ++ [chS c2], p3, _, rfl, by rw [List.map_append]; rfl, ok3, by simp; omega, by rw [List.map_append, List.sum_append, y2]; rfl⟩
  · rintro ρ S' ⟨ys, p2, x, rfl, rfl, ok2, y1, y2⟩
    refine ⟨trivial, ?_⟩
    walk_at "go"
    rw [iT_last]
    dsimp only
    have e0 : (Str.ofString "").length = 0 := by decide +kernel
    refine ⟨ys, rfl, by rw [e0]; omega, ?_⟩
    refine exit_T hc trivial (q _ p2 ok2 ?_)
    rw [join_len0, y2]
    omega
theorem name_k {many : Int} {p : PoolSt} {G : Store} {Q : D → Store → Prop} (ok : p.Ok) (h0 : 1 ≤ many) (h1 : many ≤ 2000) (q : ∀ (z : Str) (p' : PoolSt), p'.Ok → (z.length : Int) = many → Q (.str z) (mkP p' G)) : askC c__law_name [.ref 1, .int many] (mkP p G) Q := ask_in ⟨many, p, G, rfl, rfl, ok, h0, h1, q⟩
local macro_rules | `(tactic| walk_at "call") => `(tactic| ((with_reducible show askC c__law_name _ _ _); refine name_k (by assumption) ?_ ?_ ?_; (walk_at "side"); (walk_at "side"); intro z p' ok' hz))
theorem v__law_size (ds : List D) (S : Store) (Q0 : D → Store → Prop) (hl : ds.length = 1) (hc : closedS S) (hd : closedL S.length ds) (h : c__law_size ds S Q0) : w__law_size (EX S Q0) (ds.map some ++ List.replicate 1 none) S := by
  obtain ⟨p, G, rfl, rfl, ok, q⟩ := h
  walk_at "go"
  refine cIf_b (fun e => ?_) (fun e => ?_)
  · walk_at "go"
    rename_i d p2 ok2 d0 d1
    exact Exit.all (q _ p2 ok2 (by omega) (by omega))
  · walk_at "go"
    refine cIf_b (fun e => ?_) (fun e => ?_)
    · walk_at "go"
      rename_i d p2 ok2 d0 d1
      exact Exit.all (q _ p2 ok2 (by omega) (by omega))
    · walk_at "go"
      rename_i d p2 ok2 d0 d1
      exact Exit.all (q _ p2 ok2 (by omega) (by omega))
theorem size_k {p : PoolSt} {G : Store} {Q : D → Store → Prop} (ok : p.Ok) (q : ∀ (d : Int) (p' : PoolSt), p'.Ok → 2 ≤ d → d ≤ 10000 → Q (.int d) (mkP p' G)) : askC c__law_size [.ref 1] (mkP p G) Q := ask_in ⟨p, G, rfl, rfl, ok, q⟩
local macro_rules | `(tactic| walk_at "call") => `(tactic| ((with_reducible show askC c__law_size _ _ _); refine size_k (by assumption) ?_; intro d p' ok' d0 d1))
theorem v__law_turns (ds : List D) (S : Store) (Q0 : D → Store → Prop) (hl : ds.length = 1) (hc : closedS S) (hd : closedL S.length ds) (h : c__law_turns ds S Q0) : w__law_turns (EX S Q0) (ds.map some ++ List.replicate 1 none) S := by
  obtain ⟨m, rfl, h0, h1, q⟩ := h
  walk_at "go"
  unfold intsD
  refine compG_filter (α := Nat) (enc := fun i : Nat => D.int (1 + (i : Int))) (f := fun i : Nat => D.int (1 + (i : Int))) (t := fun i : Nat => decide ((1 + (i : Int)) * (1 + (i : Int)) % m = 1)) (ys := List.range (m - 1).toNat) trivial (by rw [List.length_range]; omega) (fun i hi => ?_) ?_
  · have hi' : i < (m - 1).toNat := List.mem_range.mp hi
    refine ⟨_, rfl, fun Q q => ?_, fun _ Q q => ?_⟩
    · walk_at "go"
      exact q
    · walk_at "go"
      exact q
  have q2 := q (((List.range (m - 1).toNat).filter fun i : Nat => decide ((1 + (i : Int)) * (1 + (i : Int)) % m = 1)).map fun i : Nat => 1 + (i : Int)) (fun e => ?_) ?_ fun t ht => ?_
  · rw [List.map_map] at q2
    exact Exit.all q2
  · have hm : (0 : Nat) ∈ (List.range (m - 1).toNat).filter fun i : Nat => decide ((1 + (i : Int)) * (1 + (i : Int)) % m = 1) := by
      refine List.mem_filter.mpr ⟨List.mem_range.mpr (by omega), decide_eq_true ?_⟩
      show (1 + ((0 : Nat) : Int)) * (1 + ((0 : Nat) : Int)) % m = 1
      exact Int.emod_eq_of_lt (by omega) (by omega)
    rw [List.map_eq_nil_iff] at e
    rw [e] at hm
    cases hm
  · rw [List.length_map]
    exact Nat.le_trans (List.length_filter_le _ _) (by rw [List.length_range]; omega)
  · obtain ⟨i, hi, rfl⟩ := List.mem_map.mp ht
    have := List.mem_range.mp (List.mem_filter.mp hi).1
    omega
theorem turns_k {m : Int} {S : Store} {Q : D → Store → Prop} (h0 : 2 ≤ m) (h1 : m ≤ 10000) (q : ∀ ts : List Int, ts ≠ [] → ts.length ≤ 10000 → (∀ t ∈ ts, 1 ≤ t ∧ t < m) → Q (.lst (ts.map .int)) S) : askC c__law_turns [.int m] S Q := ask_in ⟨m, rfl, h0, h1, q⟩
end K01

set_option maxHeartbeats 1000000
namespace K01
open PySem PySem.Spec PyProof.Rows L2 DL
local macro_rules | `(tactic| walk_at "w") => `(tactic| conv => whnf)
local macro_rules | `(tactic| walk_at "side") => `(tactic| first | exact True.intro | omega | with_reducible assumption | (simp only [sizeLine_eq, List.length_append, List.length_cons, List.length_nil, List.length_map, List.length_set]; omega) | exact (rfl : _ = _) | exact Int.mul_pos (by omega) (by omega) | exact DL.MulOk.l (by omega) (by omega) | exact DL.MulOk.r (by omega) (by omega) | exact DL.MulOk.big (by omega) (by omega) | exact DL.DivOk.of (by omega) (by omega) | (unfold CPow; decide) | exact DL.isL_of DL.get_last | (rw [sizeLine_eq]; decide +kernel) | (dsimp only; split <;> omega) | (focus (intro hh; simp [D.py] at hh; done)) | (focus (intro hh; cases hh; done)))
local macro_rules | `(tactic| walk_at "call") => `(tactic| fail "no contract")
local macro_rules | `(tactic| walk_at "go1") => `(tactic| ((conv => whnf); first | (refine And.intro ?_ ?_; ((walk_at "side"))) | walk_at "call" | (refine cIf_t rfl ?_) | refine cIf_f rfl ?_))
local macro_rules | `(tactic| walk_at "go") => `(tactic| ((repeat (walk_at "go1")); try (conv => whnf)))
local macro_rules | `(tactic| walk_at "yes") => `(tactic| (refine cIf_t (by first | rfl | simp | (simp; omega)) ?_; walk_at "go"))
local macro_rules | `(tactic| walk_at "no") => `(tactic| (refine cIf_f (by first | rfl | simp | (simp; omega)) ?_; walk_at "go"))
local macro_rules | `(tactic| walk_at "goS") => `(tactic| ((repeat' (first | walk_at "go1" | ((conv => whnf); refine cIf_d (fun h => ?_) (fun h => ?_)) | ((conv => whnf); refine cIf_b (fun h => ?_) (fun h => ?_)))); all_goals (try (conv => whnf))))
local macro_rules | `(tactic| walk_at "call") => `(tactic| ((with_reducible show askC c__law_letters _ _ _); refine letters_k ?_))
local macro_rules | `(tactic| walk_at "call") => `(tactic| ((with_reducible show askC c__law_draw _ _ _); refine draw_k (by assumption) ?_ ?_ ?_; (walk_at "side"); (walk_at "side"); intro d p' ok' d0 d1))
local macro_rules | `(tactic| walk_at "call") => `(tactic| ((with_reducible show askC c__law_sign _ _ _); refine sign_k (by assumption) ?_; intro z p' ok' hz))
local macro_rules | `(tactic| walk_at "call") => `(tactic| ((with_reducible show askC c__law_spoilt _ _ _); refine spoilt_k ?_ ?_ ?_ ?_ ?_; (walk_at "side"); (walk_at "side"); (walk_at "side"); (walk_at "side"); intro z hz))
local macro_rules | `(tactic| walk_at "call") => `(tactic| ((with_reducible show askC c__law_name _ _ _); refine name_k (by assumption) ?_ ?_ ?_; (walk_at "side"); (walk_at "side"); intro z p' ok' hz))
local macro_rules | `(tactic| walk_at "call") => `(tactic| ((with_reducible show askC c__law_size _ _ _); refine size_k (by assumption) ?_; intro d p' ok' d0 d1))
structure SL (L : List D) (n : Nat) : Prop where
  all : ∀ x ∈ L, Thing x
  len : L.length ≤ n
theorem SL.add {L : List D} {n : Nat} {x : D} (h : SL L n) (hx : Thing x) : SL (L ++ [x]) (n + 1) :=
  ⟨fun y hy => by
    rcases List.mem_append.mp hy with hy | hy
    · exact h.all y hy
    · rw [List.mem_singleton.mp hy]; exact hx, by rw [List.length_append]; have := h.len; simp; omega⟩
theorem thing_s {z : Str} (h : z.length ≤ 20000) : Thing (.str z) := ⟨by simp [pureD], h⟩
theorem sl_pure {L : List D} {n : Nat} (h : SL L n) : pureL L := pureL_of fun d hd => (h.all d hd).1
theorem exit_L {p p' : PoolSt} {G : Store} {L : List D} {n : Nat} {Q0 : D → Store → Prop} (hc : closedS (mkP p G)) (h : SL L n) (hn : n ≤ 100) (q : ∀ (xs : List D) (p' : PoolSt), p'.Ok → (∀ x ∈ xs, Thing x) → xs.length ≤ 100 → Q0 (.lst xs) (mkP p' G)) (ok : p'.Ok) :
    Exit (mkP p G).length (.ref (G.length + 2)) (mkP p' (G ++ [.lst L])) Q0 :=
  Exit.fin (S := mkP p' G) (G := [.lst L]) rfl (closedT hc) (.new (Nat.le_refl _) gT_last (frzL_pure (sl_pure h))) (q L p' ok h.all (by have := h.len; omega))
theorem names_s12 {p t0 : PoolSt} {G : Store} {L : List D} {Q0 : D → Store → Prop} {long : Int} {x2 x3 x4 : Option D} (hc : closedS (mkP t0 G)) (ok : p.Ok) (hL : SL L 10) (l0 : 1 ≤ long) (l1 : long ≤ 2000) (q : ∀ (xs : List D) (p' : PoolSt), p'.Ok → (∀ x ∈ xs, Thing x) → xs.length ≤ 100 → Q0 (.lst xs) (mkP p' G)) :
    Tail w__law_names_s12 (EX (mkP t0 G) Q0) [some (.ref 1), some (.ref (G.length + 2)), x2, x3, x4, some (.int long)] (mkP p (G ++ [.lst L])) := by
  refine ⟨?_⟩
  walk_at "go"
  rename_i z1 p1 ok1 hz1
  rw [gT_last]
  dsimp only
  refine ⟨by have := hL.len; unfold sizeLine; omega, ?_⟩
  rw [sT_last]
  have hL := hL.add (thing_s (z := z1) (by omega))
  generalize L ++ [D.str z1] = L at hL
  walk_at "go"
  rename_i z2 p2 ok2 hz2 d3 p3 ok3 d30 d31 z4 p4 ok4 hz4 z5 hz5
  rw [gT_last]
  dsimp only
  refine ⟨by have := hL.len; unfold sizeLine; omega, ?_⟩
  rw [sT_last]
  have hL := hL.add (thing_s (z := z5) (by omega))
  generalize L ++ [D.str z5] = L at hL
  walk_at "go"
  rename_i z6 p6 ok6 hz6
  have e0 : (Str.ofString "").length = 0 := by decide +kernel
  have e7 : (Str.ofString "7").length = 1 := by decide +kernel
  refine ⟨[z6], rfl, by rw [e0]; simp; omega, ?_⟩
  have hj : (Txt.join (Str.ofString "") [z6]).length = 1 := by
    rw [join_len0]
    simp
    omega
  generalize Txt.join (Str.ofString "") [z6] = z7 at hj
  walk_at "go"
  have hr : (repS (z7 ++ Str.ofString "7") long.toNat).length = 2 * long.toNat := by rw [repS_len, Str.length_append, hj, e7]
  refine ⟨⟨by omega, by omega, by rw [Str.length_append, hj, e7]; omega⟩, ?_⟩
  generalize repS (z7 ++ Str.ofString "7") long.toNat = z8 at hr
  walk_at "go"
  rw [gT_last]
  dsimp only
  refine ⟨by have := hL.len; unfold sizeLine; omega, ?_⟩
  rw [sT_last]
  have hL := hL.add (thing_s (z := z8) (by omega))
  generalize L ++ [D.str (z8)] = L at hL
  walk_at "go"
  rw [gT_last]
  dsimp only
  refine ⟨by have := hL.len; unfold sizeLine; omega, ?_⟩
  rw [sT_last]
  have hL := hL.add (thing_s (z := Str.ofString "") (by rw [e0]; omega))
  generalize L ++ [D.str (Str.ofString "")] = L at hL
  walk_at "go"
  exact exit_L hc hL (by omega) q ok6
theorem v__law_names (ds : List D) (S : Store) (Q0 : D → Store → Prop) (hl : ds.length = 1) (hc : closedS S) (hd : closedL S.length ds) (h : c__law_names ds S Q0) : w__law_names (EX S Q0) (ds.map some ++ List.replicate 5 none) S := by
  obtain ⟨p, G, rfl, rfl, ok, q⟩ := h
  walk_at "go"
  rename_i z1 p1 ok1 hz1 z2 p2 ok2 hz2 d3 p3 ok3 d30 d31 z3 p4 ok4 hz3 d5 p5 ok5 d50 d51 z6 p6 ok6 hz6 d7 p7 ok7 d70 d71 z8 p8 ok8 hz8 z9 hz9
  rw [List.append_eq, mkP_len, gT_last]
  dsimp only
  refine ⟨by unfold sizeLine; simp, ?_⟩
  rw [sT_last]
  have hL : SL [D.str z1, D.str z2, D.str z3] 3 := ⟨fun x hx => by
    simp only [List.mem_cons, List.not_mem_nil, or_false] at hx
    rcases hx with rfl | rfl | rfl <;> exact thing_s (by omega), by simp⟩
  have hL := hL.add (thing_s (z := z9) (by omega))
  generalize [D.str z1, D.str z2, D.str z3] ++ [D.str z9] = L at hL
  walk_at "go"
  rename_i e1 r1 ko1 e10 e11 y2 r2 ko2 hy2 e3 r3 ko3 e30 e31 y4 r4 ko4 hy4 y5 hy5
  rw [gT_last]
  dsimp only
  refine ⟨by have := hL.len; unfold sizeLine; omega, ?_⟩
  rw [sT_last]
  have hL := hL.add (thing_s (z := y5) (by omega))
  generalize L ++ [D.str y5] = L at hL
  walk_at "go"
  rename_i f1 v1 vk1 f10 f11 w2 v2 vk2 hw2 w3 hw3 w4 hw4
  rw [gT_last]
  dsimp only
  refine ⟨by have := hL.len; unfold sizeLine; omega, ?_⟩
  rw [sT_last]
  have hL := hL.add (thing_s (z := w4) (by omega))
  generalize L ++ [D.str w4] = L at hL
  walk_at "go"
  rename_i g1 v3 vk3 g10 g11
  have n10 : (Str.ofString "0123456789").length = 10 := by decide +kernel
  obtain ⟨c, hcc⟩ := atS_int (z := Str.ofString "0123456789") g10 (by rw [n10]; omega)
  rw [hcc]
  walk_at "go"
  rename_i g2 v4 vk4 g20 g21 w5 v5 vk5 hw5
  have hcl : (chS c).length = 1 := chS_len c
  have hw6 : (chS c ++ w5).length ≤ 20 := by rw [Str.length_append, hcl]; omega
  refine ⟨by rw [hcl]; unfold sizeLine; omega, ?_⟩
  generalize chS c ++ w5 = w6 at hw6
  walk_at "go"
  rw [gT_last]
  dsimp only
  refine ⟨by have := hL.len; unfold sizeLine; omega, ?_⟩
  rw [sT_last]
  have hL := hL.add (thing_s (z := w6) (by omega))
  generalize L ++ [D.str (w6)] = L at hL
  walk_at "go"
  rename_i k1 u1 uk1 k10 k11 k2 u2 uk2 k20 k21
  refine cIf_d (fun e => ?_) (fun e => ?_)
  · walk_at "go"
    rename_i k3 u3 uk3 k30 k31
    exact names_s12 hc uk3 (hL := ⟨hL.all, by have := hL.len; omega⟩) (by omega) (by omega) q
  · walk_at "go"
    exact names_s12 hc uk2 (hL := ⟨hL.all, by have := hL.len; omega⟩) (by omega) (by omega) q
theorem names_k {p : PoolSt} {G : Store} {Q : D → Store → Prop} (ok : p.Ok) (q : ∀ (xs : List D) (p' : PoolSt), p'.Ok → (∀ x ∈ xs, Thing x) → xs.length ≤ 100 → Q (.lst xs) (mkP p' G)) : askC c__law_names [.ref 1] (mkP p G) Q := ask_in ⟨p, G, rfl, rfl, ok, q⟩
end K01

set_option maxHeartbeats 1000000
namespace K01
open PySem PySem.Spec PyProof.Rows L2 DL
local macro_rules | `(tactic| walk_at "w") => `(tactic| conv => whnf)
local macro_rules | `(tactic| walk_at "side") => `(tactic| first | exact True.intro | omega | with_reducible assumption | (simp only [sizeLine_eq, List.length_append, List.length_cons, List.length_nil, List.length_map, List.length_set]; omega) | exact (rfl : _ = _) | exact Int.mul_pos (by omega) (by omega) | exact DL.MulOk.l (by omega) (by omega) | exact DL.MulOk.r (by omega) (by omega) | exact DL.MulOk.big (by omega) (by omega) | exact DL.DivOk.of (by omega) (by omega) | (unfold CPow; decide) | exact DL.isL_of DL.get_last | (rw [sizeLine_eq]; decide +kernel) | (dsimp only; split <;> omega) | (focus (intro hh; simp [D.py] at hh; done)) | (focus (intro hh; cases hh; done)))
local macro_rules | `(tactic| walk_at "call") => `(tactic| fail "no contract")
local macro_rules | `(tactic| walk_at "go1") => `(tactic| ((conv => whnf); first | (refine And.intro ?_ ?_; ((walk_at "side"))) | walk_at "call" | (refine cIf_t rfl ?_) | refine cIf_f rfl ?_))
local macro_rules | `(tactic| walk_at "go") => `(tactic| ((repeat (walk_at "go1")); try (conv => whnf)))
local macro_rules | `(tactic| walk_at "yes") => `(tactic| (refine cIf_t (by first | rfl | simp | (simp; omega)) ?_; walk_at "go"))
local macro_rules | `(tactic| walk_at "no") => `(tactic| (refine cIf_f (by first | rfl | simp | (simp; omega)) ?_; walk_at "go"))
local macro_rules | `(tactic| walk_at "goS") => `(tactic| ((repeat' (first | walk_at "go1" | ((conv => whnf); refine cIf_d (fun h => ?_) (fun h => ?_)) | ((conv => whnf); refine cIf_b (fun h => ?_) (fun h => ?_)))); all_goals (try (conv => whnf))))
local macro_rules | `(tactic| walk_at "call") => `(tactic| ((with_reducible show askC c__law_letters _ _ _); refine letters_k ?_))
local macro_rules | `(tactic| walk_at "call") => `(tactic| ((with_reducible show askC c__law_draw _ _ _); refine draw_k (by assumption) ?_ ?_ ?_; (walk_at "side"); (walk_at "side"); intro d p' ok' d0 d1))
local macro_rules | `(tactic| walk_at "call") => `(tactic| ((with_reducible show askC c__law_sign _ _ _); refine sign_k (by assumption) ?_; intro z p' ok' hz))
local macro_rules | `(tactic| walk_at "call") => `(tactic| ((with_reducible show askC c__law_spoilt _ _ _); refine spoilt_k ?_ ?_ ?_ ?_ ?_; (walk_at "side"); (walk_at "side"); (walk_at "side"); (walk_at "side"); intro z hz))
local macro_rules | `(tactic| walk_at "call") => `(tactic| ((with_reducible show askC c__law_name _ _ _); refine name_k (by assumption) ?_ ?_ ?_; (walk_at "side"); (walk_at "side"); intro z p' ok' hz))
local macro_rules | `(tactic| walk_at "call") => `(tactic| ((with_reducible show askC c__law_size _ _ _); refine size_k (by assumption) ?_; intro d p' ok' d0 d1))
theorem e9 : (10 : Int) ^ (Int.toNat 9) = 1000000000 := by decide
theorem thing_p {d : D} (h : pureD d) (n : ∀ z, d ≠ .str z) : Thing d := ⟨h, by
  cases d with
  | str z => exact absurd rfl (n z)
  | _ => trivial⟩
theorem ints_at {ns : List Int} {i : Int} (h0 : 0 ≤ i) (h1 : i < ns.length) : ∃ t, atD (ns.map D.int) i = some (.int t) ∧ t ∈ ns := by
  obtain ⟨y, hy, hm⟩ := at_mem (ds := ns.map D.int) h0 (by rw [List.length_map]; exact h1)
  obtain ⟨t, ht, rfl⟩ := List.mem_map.mp hm
  exact ⟨t, hy, ht⟩
theorem v__law_strangers (ds : List D) (S : Store) (Q0 : D → Store → Prop) (hl : ds.length = 1) (hc : closedS S) (hd : closedL S.length ds) (h : c__law_strangers ds S Q0) : w__law_strangers (EX S Q0) (ds.map some ++ List.replicate 4 none) S := by
  obtain ⟨p, G, rfl, rfl, ok, q⟩ := h
  walk_at "go"
  rename_i d p1 ok1 d0 d1 z p2 ok2 hz
  rw [e9]
  walk_at "go"
  rename_i d3 p3 ok3 d30 d31
  rw [e9]
  walk_at "go"
  rename_i d4 p4 ok4 d40 d41
  obtain ⟨M, hM⟩ : ∃ M : List D, M = [.non, .bl true, .bl false, .int 0, .int 1, .int d3, .int (-1 - d4), .tup [], .tup [.str z], .tup [.str z, .str z], .tup [.tup [.str z], .non], .lst [], .lst [.str z], .lst [.str z, .lst [.str z, .int 1]]] := ⟨_, rfl⟩
  have hT : ∀ x ∈ M, Thing x := fun x hx => by
    rw [hM] at hx
    simp only [List.mem_cons, List.not_mem_nil, or_false] at hx
    rcases hx with rfl | rfl | rfl | rfl | rfl | rfl | rfl | rfl | rfl | rfl | rfl | rfl | rfl | rfl <;> exact thing_p (by simp [pureD, pureL]) (by intro w e; cases e)
  have hl14 : M.length = 14 := by rw [hM]; rfl
  refine forG_range0 (n := 3) (fun i ρ S' => ∃ (L : List D) (p' : PoolSt) (x : Option D), ρ = [some (.ref 1), some (.str z), some (.lst M), some (.ref (G.length + 2)), x] ∧ S' = mkP p' (G ++ [.lst L]) ∧ p'.Ok ∧ SL L i) ⟨[], p4, none, by rw [hM]; rfl, rfl, ok4, ⟨by simp, by simp⟩⟩ ?_ ?_
  · rintro i ρ S' k hi ⟨L, p5, x, rfl, rfl, ok5, hL⟩ hk
    refine ⟨trivial, _, rfl, ?_⟩
    walk_at "go"
    rename_i e p6 ok6 e0 e1
    obtain ⟨y, hy, hym⟩ := at_mem (ds := M) e0 e1
    rw [hy]
    walk_at "go"
    rw [gT_last]
    dsimp only
    refine ⟨by have := hL.len; unfold sizeLine; omega, ?_⟩
    rw [sT_last]
    exact hk _ _ ⟨L ++ [y], p6, _, rfl, rfl, ok6, hL.add (hT y hym)⟩
  · rintro ρ S' ⟨L, p5, x, rfl, rfl, ok5, hL⟩
    refine ⟨trivial, ?_⟩
    walk_at "go"
    exact exit_L hc hL (by omega) q ok5
theorem strangers_k {p : PoolSt} {G : Store} {Q : D → Store → Prop} (ok : p.Ok) (q : ∀ (xs : List D) (p' : PoolSt), p'.Ok → (∀ x ∈ xs, Thing x) → xs.length ≤ 100 → Q (.lst xs) (mkP p' G)) : askC c__law_strangers [.ref 1] (mkP p G) Q := ask_in ⟨p, G, rfl, rfl, ok, q⟩
theorem thing_2 {a b : Int} : Thing (.tup [.int a, .int b]) := thing_p (by simp [pureD, pureL]) (by intro w e; cases e)
theorem ints_of {L : List D} {i : Int} (h0 : 0 ≤ i) (h1 : i < L.length) (h : ∀ x ∈ L, ∃ j : Int, x = .int j) : ∃ j : Int, atD L i = some (.int j) := by
  obtain ⟨y, hy, hm⟩ := at_mem h0 h1
  obtain ⟨j, rfl⟩ := h y hm
  exact ⟨j, hy⟩
theorem v__law_dials (ds : List D) (S : Store) (Q0 : D → Store → Prop) (hl : ds.length = 1) (hc : closedS S) (hd : closedL S.length ds) (h : c__law_dials ds S Q0) : w__law_dials (EX S Q0) (ds.map some ++ List.replicate 9 none) S := by
  obtain ⟨p, G, rfl, rfl, ok, q⟩ := h
  walk_at "go"
  rename_i m p1 ok1 m0 m1
  refine turns_k m0 m1 fun ts tn tl tb => ?_
  have tp : 0 < ts.length := List.length_pos_iff.mpr tn
  walk_at "go"
  rename_i e1 p2 ok2 e10 e11
  obtain ⟨t, ht, htm⟩ := ints_at (ns := ts) e10 (by simpa using e11)
  rw [ht]
  have htb := tb t htm
  walk_at "go"
  rename_i e2 p3 ok3 e20 e21
  obtain ⟨y, hy, hym⟩ := at_mem (ds := [.int 8, .int 12, .int 15, .int 16, .int 20, .int 21, .int 24, .int 35, .int 40, .int 60, .int 63, .int 80, .int 120, .int 168]) e20 e21
  rw [hy]
  obtain ⟨sm, rfl, s0, s1⟩ : ∃ sm : Int, y = .int sm ∧ 2 ≤ sm ∧ sm ≤ 10000 := by
    simp only [List.mem_cons, List.not_mem_nil, or_false] at hym
    rcases hym with rfl | rfl | rfl | rfl | rfl | rfl | rfl | rfl | rfl | rfl | rfl | rfl | rfl | rfl <;> exact ⟨_, rfl, by omega, by omega⟩
  walk_at "go"
  refine turns_k s0 s1 fun us un ul ub => ?_
  have up : 0 < us.length := List.length_pos_iff.mpr un
  walk_at "go"
  rename_i e3 p4 ok4 e30 e31
  obtain ⟨u, hu, hum⟩ := ints_at (ns := us) e30 (by simpa using e31)
  rw [hu]
  have hub := ub u hum
  walk_at "go"
  rename_i e4 p5 ok5 e40 e41 e5 p6 ok6 e50 e51
  obtain ⟨w, hw⟩ := ints_of (L := [.int 1, .int 9999, .int 4999, .int 5001, .int 1249, .int 8751, .int 6249, .int 3751]) e50 e51 (by simp)
  rw [hw]
  walk_at "go"
  rename_i e6 p7 ok7 e60 e61
  rw [List.append_eq, mkP_len, gT_last]
  dsimp only
  refine ⟨by unfold sizeLine; simp, ?_⟩
  rw [sT_last]
  have hL : SL [.tup [.int 0, .int (1 - 2 * e4)], .tup [.int m, .int t], .tup [.int m, .int (m - 1)], .tup [.int sm, .int u], .tup [.int 2, .int 1], .tup [.int 10000, .int w]] 6 := ⟨fun x hx => by
    simp only [List.mem_cons, List.not_mem_nil, or_false] at hx
    rcases hx with rfl | rfl | rfl | rfl | rfl | rfl <;> exact thing_2, by simp⟩
  have hL := hL.add (thing_2 (a := 9999 + e6) (b := 1))
  generalize ([.tup [.int 0, .int (1 - 2 * e4)], .tup [.int m, .int t], .tup [.int m, .int (m - 1)], .tup [.int sm, .int u], .tup [.int 2, .int 1], .tup [.int 10000, .int w]] : List D) ++ [.tup [.int (9999 + e6), .int 1]] = L at hL ⊢
  walk_at "go"
  rename_i e7 p8 ok8 e70 e71
  rw [gT_last]
  dsimp only
  refine ⟨by have := hL.len; unfold sizeLine; omega, ?_⟩
  rw [sT_last]
  have hL := hL.add (thing_2 (a := m) (b := t + m * (1 + e7)))
  generalize L ++ [D.tup [.int (m), .int (t + m * (1 + e7))]] = L at hL ⊢
  walk_at "go"
  rw [e9]
  walk_at "go"
  rename_i e8 p9 ok9 e80 e81 e10 p11 ok11 e100 e101
  obtain ⟨w2, hw2⟩ := ints_of (L := [.int 0, .int (-1), .int (-t), .int m, .int (t + 1), .int e8]) e100 e101 (by simp)
  rw [hw2]
  walk_at "go"
  rw [gT_last]
  dsimp only
  refine ⟨by have := hL.len; unfold sizeLine; omega, ?_⟩
  rw [sT_last]
  have hL := hL.add (thing_2 (a := m) (b := w2))
  generalize L ++ [D.tup [.int (m), .int (w2)]] = L at hL ⊢
  walk_at "go"
  rename_i f1 v1 vk1 f10 f11
  rw [gT_last]
  dsimp only
  refine ⟨by have := hL.len; unfold sizeLine; omega, ?_⟩
  rw [sT_last]
  have hL := hL.add (thing_2 (a := m) (b := f1))
  generalize L ++ [D.tup [.int (m), .int (f1)]] = L at hL ⊢
  walk_at "go"
  rw [e9]
  walk_at "go"
  rename_i f2 v2 vk2 f20 f21 f3 v3 vk3 f30 f31
  obtain ⟨w3, hw3⟩ := ints_of (L := [.int 0, .int 2, .int (-2), .int (10 ^ (Int.toNat 64)), .int f2]) f30 f31 (by simp)
  rw [hw3]
  walk_at "go"
  rw [gT_last]
  dsimp only
  refine ⟨by have := hL.len; unfold sizeLine; omega, ?_⟩
  rw [sT_last]
  have hL := hL.add (thing_2 (a := 0) (b := w3))
  generalize L ++ [D.tup [.int (0), .int (w3)]] = L at hL ⊢
  walk_at "go"
  rename_i f4 v4 vk4 f40 f41
  rw [gT_last]
  dsimp only
  refine ⟨by have := hL.len; unfold sizeLine; omega, ?_⟩
  rw [sT_last]
  have hL := hL.add (thing_2 (a := 1) (b := f4 - 1))
  generalize L ++ [D.tup [.int (1), .int (f4 - 1)]] = L at hL ⊢
  walk_at "go"
  rename_i f5 v5 vk5 f50 f51 f6 v6 vk6 f60 f61
  obtain ⟨w4, hw4⟩ := ints_of (L := [.int 1, .int (-1), .int 0, .int 5]) f60 f61 (by simp)
  rw [hw4]
  walk_at "go"
  rw [gT_last]
  dsimp only
  refine ⟨by have := hL.len; unfold sizeLine; omega, ?_⟩
  rw [sT_last]
  have hL := hL.add (thing_2 (a := -1 - f5) (b := w4))
  generalize L ++ [D.tup [.int (-1 - f5), .int (w4)]] = L at hL ⊢
  walk_at "go"
  rw [e9]
  walk_at "go"
  rename_i f7 v7 vk7 f70 f71 f8 v8 vk8 f80 f81
  obtain ⟨w5, hw5⟩ := ints_of (L := [.int 1, .int 0, .int (-1), .int 10000, .int (10 ^ (Int.toNat 64))]) f80 f81 (by simp)
  rw [hw5]
  walk_at "go"
  rw [gT_last]
  dsimp only
  refine ⟨by have := hL.len; unfold sizeLine; omega, ?_⟩
  rw [sT_last]
  have hL := hL.add (thing_2 (a := 10001 + f7) (b := w5))
  generalize L ++ [D.tup [.int (10001 + f7), .int (w5)]] = L at hL ⊢
  walk_at "go"
  obtain ⟨M, hM⟩ : ∃ M : List D, M = [.lst [.int m, .int t], .tup [.int m], .tup [.int m, .int t, .int 1], .tup [.int m, .int t, .int t], .tup [.bl true, .int 1], .tup [.int m, .bl true], .tup [.bl false, .int 1], .tup [.int m, .non], .tup [.tup [.int m, .int t]], .tup [.non, .int t], .tup [.str "2", .int 1], .str "21", .int m, .non, .lst [], .tup [], .lst [.tup [.int 0, .int 1]], .tup [.tup [.int m, .int 1], .tup [.int t, .int 1]], .tup [.int 0, .bl true], .tup [.bl true, .int 0], .tup [.int m, .lst [.int t]]] := ⟨_, rfl⟩
  have hT : ∀ x ∈ M, Thing x := fun x hx => by
    rw [hM] at hx
    simp only [List.mem_cons, List.not_mem_nil, or_false] at hx
    rcases hx with rfl | rfl | rfl | rfl | rfl | rfl | rfl | rfl | rfl | rfl | rfl | rfl | rfl | rfl | rfl | rfl | rfl | rfl | rfl | rfl | rfl <;> first | exact thing_s (by decide +kernel) | exact thing_p (by simp [pureD, pureL]) (by intro w e; cases e)
  have hl21 : M.length = 21 := by rw [hM]; rfl
  have hL : SL L 20 := ⟨hL.all, by have := hL.len; omega⟩
  refine forG_range0 (n := 3) (fun i ρ S' => ∃ (L : List D) (p' : PoolSt) (x : Option D), ρ = [some (.ref 1), some (.int m), some (.lst (ts.map .int)), some (.int t), some (.int sm), some (.lst (us.map .int)), some (.int u), some (.ref (G.length + 2)), some (.lst M), x] ∧ S' = mkP p' (G ++ [.lst L]) ∧ p'.Ok ∧ SL L (20 + i)) ⟨L, v8, none, by rw [hM]; rfl, rfl, vk8, hL⟩ ?_ ?_
  · rintro i ρ S' k hi ⟨L, p5, x, rfl, rfl, ok5, hL⟩ hk
    refine ⟨trivial, _, rfl, ?_⟩
    walk_at "go"
    rename_i e p6 ok6 e0 e1
    obtain ⟨y, hy, hym⟩ := at_mem (ds := M) e0 e1
    rw [hy]
    walk_at "go"
    rw [gT_last]
    dsimp only
    refine ⟨by have := hL.len; unfold sizeLine; omega, ?_⟩
    rw [sT_last]
    exact hk _ _ ⟨L ++ [y], p6, _, rfl, rfl, ok6, hL.add (hT y hym)⟩
  · rintro ρ S' ⟨L, p5, x, rfl, rfl, ok5, hL⟩
    refine ⟨trivial, ?_⟩
    walk_at "go"
    exact exit_L hc hL (by omega) q ok5
theorem dials_k {p : PoolSt} {G : Store} {Q : D → Store → Prop} (ok : p.Ok) (q : ∀ (xs : List D) (p' : PoolSt), p'.Ok → (∀ x ∈ xs, Thing x) → xs.length ≤ 100 → Q (.lst xs) (mkP p' G)) : askC c__law_dials [.ref 1] (mkP p G) Q := ask_in ⟨p, G, rfl, rfl, ok, q⟩
theorem v_law (ds : List D) (S : Store) (Q0 : D → Store → Prop) (hl : ds.length = 1) (hc : closedS S) (hd : closedL S.length ds) (h : c_law ds S Q0) : w_law (EX S Q0) (ds.map some ++ List.replicate 4 none) S := by
  obtain ⟨ns, rfl, rfl, hn, q⟩ := h
  walk_at "go"
  refine ask_in ⟨ns, 101, rfl, rfl, hn, by omega, by omega, fun p ok => ?_⟩
  walk_at "go"
  refine names_k ok fun xs p2 ok2 hx hxl => ?_
  walk_at "go"
  refine forG_rule (fun i ρ S' => ∃ x : Option D, ρ = [some (.lst (ns.map .int)), some (.ref 1), x, none, none] ∧ S' = mkP p2 []) ⟨_, rfl, rfl⟩ ?_ ?_
  · rintro i y ρ S' k hy ⟨x, rfl, rfl⟩ hk
    refine ⟨trivial, _, rfl, ?_⟩
    walk_at "go"
    refine asksn_k (hx y (List.mem_of_getElem? hy)) ?_
    walk_at "go"
    exact hk _ _ ⟨_, rfl, rfl⟩
  rintro ρ S' ⟨x, rfl, rfl⟩
  refine ⟨trivial, ?_⟩
  walk_at "go"
  refine strangers_k ok2 fun ys p3 ok3 ty hyl => ?_
  walk_at "go"
  refine forG_rule (fun i ρ S' => ∃ x : Option D, ρ = [some (.lst (ns.map .int)), some (.ref 1), x, none, none] ∧ S' = mkP p3 []) ⟨_, rfl, rfl⟩ ?_ ?_
  · rintro i y ρ S' k hy ⟨x, rfl, rfl⟩ hk
    refine ⟨trivial, _, rfl, ?_⟩
    walk_at "go"
    refine asksn_k (ty y (List.mem_of_getElem? hy)) ?_
    walk_at "go"
    exact hk _ _ ⟨_, rfl, rfl⟩
  rintro ρ S' ⟨x, rfl, rfl⟩
  refine ⟨trivial, ?_⟩
  walk_at "go"
  refine dials_k ok3 fun zs p4 ok4 hz hzl => ?_
  walk_at "go"
  refine forG_rule (fun i ρ S' => ∃ x : Option D, ρ = [some (.lst (ns.map .int)), some (.ref 1), x, none, none] ∧ S' = mkP p4 []) ⟨_, rfl, rfl⟩ ?_ ?_
  · rintro i y ρ S' k hy ⟨x, rfl, rfl⟩ hk
    refine ⟨trivial, _, rfl, ?_⟩
    walk_at "go"
    refine asksd_k (hz y (List.mem_of_getElem? hy)) ?_
    walk_at "go"
    exact hk _ _ ⟨_, rfl, rfl⟩
  rintro ρ S' ⟨x, rfl, rfl⟩
  refine ⟨trivial, ?_⟩
  walk_at "go"
  rename_i nm p5 ok5 hnm
  have hk : Thing (.lst [.str nm, .lst [.str nm, .int 3]]) := thing_p (by simp [pureD, pureL]) (by intro w e; cases e)
  refine asksn_k hk ?_
  walk_at "go"
  refine asksd_k hk ?_
  walk_at "go"
  rw [decide_eq_true (rfl : nm = nm)]
  walk_at "go"
  refine cIf_d (fun e => ?_) (fun e => absurd rfl e)
  walk_at "go"
  refine whole_k (d := .int 3) (by simp [pureD]) ?_
  have ex : Exit ([] : Store).length (D.bl true) ([] ++ mkP p5 []) Q0 := Exit.val hc trivial q
  exact ex
end K01

set_option maxHeartbeats 4000000
namespace K01
open PySem PySem.Spec PyProof.Rows L2 DL
section
variable [WW] {P : Program} {w : World} {K : PySem.W.Frag} {mg : Str → Option Value} {base : Heap}
theorem b_is_integer (hW : w = WW.w) (T : Txt K mg)  (fa : Addr) (cdv : Value) (A : Around) (outer : List PySem.Env) (s : Shared) (H : Hp) (E : XK) (hr : Room 0 (A.deeper (envOfC "is_integer" (defScope s_is_integer) s.heap.objs.size fa cdv))) :
    SSs (cxOf CX0 P w K mg base ["thing"] "is_integer" (defScope s_is_integer) fa cdv A outer s H E).nox (defBody s_is_integer) w_is_integer :=
  (ss_one (ss_ret (se_eqv gAndV_eq (se_and (se_eqv (gIsT_eq .int) (se_isT (Tn := "int") (by rfl) T.f_isinstance (by rfl) T.f_int (by decide +kernel) (se_var 0))) (se_one (se_not (se_eqv (gIsT_eq .bool) (se_isT (Tn := "bool") (by rfl) T.f_isinstance (by rfl) T.f_bool (by decide +kernel) (se_var 0)))))))))
theorem b_name_fault (hW : w = WW.w) (T : Txt K mg)  (fa : Addr) (cdv : Value) (A : Around) (outer : List PySem.Env) (s : Shared) (H : Hp) (E : XK) (hr : Room 0 (A.deeper (envOfC "name_fault" (defScope s_name_fault) s.heap.objs.size fa cdv))) :
    SSs (cxOf CX0 P w K mg base ["thing", "at", "sign"] "name_fault" (defScope s_name_fault) fa cdv A outer s H E).nox (defBody s_name_fault) w_name_fault :=
  (ss_cons (ss_eqv gIf_eq (ss_if (st_bool (sw_eqv gOr_eq (sw_or (st_not (st_tru (se_eqv (gIsT_eq .str) (se_isT (Tn := "str") (by rfl) T.f_isinstance (by rfl) T.f_str (by decide +kernel) (se_var 0))))) (sw_or1 (st_not (st_eqv (congrArg wTest gChain_eq) (st_chain opd_leD (op_leV hr.units) opd_leD (op_leV hr.units) se_int (se_len (by rfl) T.f_len (sa_cons (se_var 0) sa_nil)) (se_cst T.k_NAME_MOST (by rfl))))))))) (ss_one (ss_ret (se_neg se_int))) ss_nil))
  (ss_cons (ss_eqv gFor_eq (ss_for PassesOwn.never rfl (si_enumS (by rfl) T.f_enumerate (sa_cons (se_var 0) sa_nil)) (sg_tup rfl (sgs_cons (sg_name sc_name_fault.nd) (sgs_cons (sg_name sc_name_fault.nd) sgs_nil))) (ss_one (ss_eqv gIf_eq (ss_if (st_bool (sw_eqv gAnd_eq (sw_and (st_notInI hW (units65 hr) (se_var 2) (se_cst T.k_LETTERS (by rfl))) (sw_and1 (st_bool (sw_eqv gOr_eq (sw_or (st_eq hr.units (se_var 1) se_int) (sw_or1 (st_notInI hW (units65 hr) (se_var 2) (se_cst T.k_FIGURES (by rfl))))))))))) (ss_one (ss_ret (se_var 1))) ss_nil)))))
  (ss_one (ss_ret se_non))))
theorem b_check_name (hW : w = WW.w) (T : Txt K mg) (x_BadName : ClsD P w K mg base 1 "BadName" ["at"]) (d_name_fault : Def P w K mg base 1 "name_fault" ["thing"] c_name_fault) (fa : Addr) (cdv : Value) (A : Around) (outer : List PySem.Env) (s : Shared) (H : Hp) (E : XK) (hr : Room 2 (A.deeper (envOfC "check_name" (defScope s_check_name) s.heap.objs.size fa cdv))) :
    SSs (cxOf (L2N.CX P w) P w K mg base ["thing", "at"] "check_name" (defScope s_check_name) fa cdv A outer s H E) (defBody s_check_name) w_check_name :=
  (ss_cons (ss_set (i := 1) sc_check_name.nd (se_eqv gFn_eq (se_fn d_name_fault (hr.mono (by decide)) (by rfl) (sa_cons (se_var 0) sa_nil))))
  (ss_one (ss_eqv gIf_eq (ss_if (st_isNot (se_var 1) se_non) (ss_one (ss_raise rfl x_BadName (hr.mono (by decide)) (by rfl) (sa_cons (se_var 1) sa_nil))) ss_nil))))
theorem b_dial_fault (hW : w = WW.w) (T : Txt K mg) (d_is_integer : Def P w K mg base 1 "is_integer" ["thing"] c_is_integer) (fa : Addr) (cdv : Value) (A : Around) (outer : List PySem.Env) (s : Shared) (H : Hp) (E : XK) (hr : Room 1 (A.deeper (envOfC "dial_fault" (defScope s_dial_fault) s.heap.objs.size fa cdv))) :
    SSs (cxOf CX0 P w K mg base ["thing", "size", "turn"] "dial_fault" (defScope s_dial_fault) fa cdv A outer s H E).nox (defBody s_dial_fault) w_dial_fault :=
  (ss_cons (ss_eqv gIf_eq (ss_if (st_bool (sw_eqv gOr_eq (sw_or (st_not (st_tru (se_eqv (gIsT_eq .tuple) (se_isT (Tn := "tuple") (by rfl) T.f_isinstance (by rfl) T.f_tuple (by decide +kernel) (se_var 0))))) (sw_or1 (st_ne hr.units (se_len (by rfl) T.f_len (sa_cons (se_var 0) sa_nil)) se_int))))) (ss_one (ss_ret se_str)) ss_nil))
  (ss_cons (ss_asg (se_var 0) (sg_tup rfl (sgs_cons (sg_name sc_dial_fault.nd) (sgs_cons (sg_name sc_dial_fault.nd) sgs_nil))))
  (ss_cons (ss_eqv gIf_eq (ss_if (st_bool (sw_eqv gOr_eq (sw_or (st_not (st_tru (se_eqv gFn_eq (se_fn d_is_integer (hr.mono (by decide)) (by rfl) (sa_cons (se_var 1) sa_nil))))) (sw_or1 (st_not (st_tru (se_eqv gFn_eq (se_fn d_is_integer (hr.mono (by decide)) (by rfl) (sa_cons (se_var 2) sa_nil))))))))) (ss_one (ss_ret se_str)) ss_nil))
  (ss_cons (ss_eqv gIf_eq (ss_if (st_bool (sw_eqv gOr_eq (sw_or (st_ltD hr.units (se_var 1) se_int) (sw_eqv gOr_eq (sw_or (st_eq hr.units (se_var 1) se_int) (sw_or1 (st_gtD hr.units (se_var 1) (se_cst T.k_DIAL_MOST (by rfl))))))))) (ss_one (ss_ret se_str)) ss_nil))
  (ss_cons (ss_eqv gIf_eq (ss_if (st_eq hr.units (se_var 1) se_int) (ss_one (ss_ret (se_eqv gIfE_eq (se_if (st_bool (sw_eqv gOr_eq (sw_or (st_eq hr.units (se_var 2) se_int) (sw_or1 (st_eq hr.units (se_var 2) (se_neg se_int)))))) se_non se_str)))) ss_nil))
  (ss_cons (ss_eqv gIf_eq (ss_if (st_bool (sw_eqv gOr_eq (sw_or (st_not (st_eqv (congrArg wTest gChain_eq) (st_chain opd_leD (op_leV hr.units) opd_ltD (op_ltV hr.units) se_int (se_var 2) (se_var 1)))) (sw_or1 (st_ne hr.units (se_mod (se_mulG (se_var 2) (se_var 2)) (se_var 1)) se_int))))) (ss_one (ss_ret se_str)) ss_nil))
  (ss_one (ss_ret se_non))))))))
theorem b_check_dial (hW : w = WW.w) (T : Txt K mg) (x_BadDial : ClsD P w K mg base 1 "BadDial" ["word"]) (d_dial_fault : Def P w K mg base 2 "dial_fault" ["thing"] c_dial_fault) (fa : Addr) (cdv : Value) (A : Around) (outer : List PySem.Env) (s : Shared) (H : Hp) (E : XK) (hr : Room 2 (A.deeper (envOfC "check_dial" (defScope s_check_dial) s.heap.objs.size fa cdv))) :
    SSs (cxOf (L2N.CX P w) P w K mg base ["thing", "word"] "check_dial" (defScope s_check_dial) fa cdv A outer s H E) (defBody s_check_dial) w_check_dial :=
  (ss_cons (ss_set (i := 1) sc_check_dial.nd (se_eqv gFn_eq (se_fn d_dial_fault (hr.mono (by decide)) (by rfl) (sa_cons (se_var 0) sa_nil))))
  (ss_one (ss_eqv gIf_eq (ss_if (st_isNot (se_var 1) se_non) (ss_one (ss_raise rfl x_BadDial (hr.mono (by decide)) (by rfl) (sa_cons (se_var 1) sa_nil))) ss_nil))))
theorem b__law_pool (hW : w = WW.w) (T : Txt K mg)  (fa : Addr) (cdv : Value) (A : Around) (outer : List PySem.Env) (s : Shared) (H : Hp) (E : XK) (hr : Room 0 (A.deeper (envOfC "_law_pool" (defScope s__law_pool) s.heap.objs.size fa cdv))) :
    SSs (cxOf CX0 P w K mg base ["script", "salt", "cells", "mixed", "cell"] "_law_pool" (defScope s__law_pool) fa cdv A outer s H E).nox (defBody s__law_pool) w__law_pool :=
  (ss_cons (ss_eqv (congrArg (fun w => wAsg w (Tg.name 2)) gCompN_eq) (ss_setLcN (i := 2) rfl sc__law_pool.nd rfl rfl (sw_true rfl rfl rfl (by decide +kernel)) (si_seq (se_var 0)) (blkOk_by (N := ["script", "salt", "cells", "mixed", "cell"]) (sc := defScope s__law_pool) (own := [("cell", 4)]) (by decide +kernel)) rfl (by decide) (fun _ _ _ _ _ => (sg_name sc__law_pool.nd)) (fun _ _ _ _ _ => sts_nil) (fun _ _ _ _ _ => (se_abs (by rfl) T.f_abs (sa_cons (se_cint (by rfl) T.f_int (sa_cons (se_var 4) sa_nil)) sa_nil)))))
  (ss_cons (ss_set (i := 3) sc__law_pool.nd (se_var 1))
  (ss_cons (ss_eqv gFor_eq (ss_for PassesOwn.never rfl (si_seq (se_var 2)) (sg_name sc__law_pool.nd) (ss_one (ss_set (i := 3) sc__law_pool.nd (se_mod (se_addL (se_addL (se_mulG (se_var 3) se_int) (se_mod (se_cint (by rfl) T.f_int (sa_cons (se_var 4) sa_nil)) se_int)) se_int) se_int)))))
  (ss_one (ss_ret (se_new (sa_cons se_int (sa_cons (se_addL (se_var 3) se_int) (sa_cons (se_var 2) sa_nil)))))))))
theorem b__law_draw (hW : w = WW.w) (T : Txt K mg)  (fa : Addr) (cdv : Value) (A : Around) (outer : List PySem.Env) (s : Shared) (H : Hp) (E : XK) (hr : Room 0 (A.deeper (envOfC "_law_draw" (defScope s__law_draw) s.heap.objs.size fa cdv))) :
    SSs (cxOf CX0 P w K mg base ["pool", "many", "cell", "digit"] "_law_draw" (defScope s__law_draw) fa cdv A outer s H E).nox (defBody s__law_draw) w__law_draw :=
  (ss_cons (ss_eqv gIf_eq (ss_if (st_bool (sw_eqv gAnd_eq (sw_and (st_eq hr.units (se_ixG (se_var 0) se_int) se_int) (sw_and1 (st_gtD hr.units (se_len (by rfl) T.f_len (sa_cons (se_ixG (se_var 0) se_int) sa_nil)) se_int))))) (ss_cons (ss_set (i := 2) sc__law_draw.nd (se_meth md_popAt (pe_bm PySem.F.plainAttrs_list PySem.F.slot_list_pop PySem.F.type_list_pop mt_popAt (se_ixG (se_var 0) se_int) (sa_cons se_int sa_nil))))
  (ss_one (ss_eqv gIf_eq (ss_if (st_geD hr.units (se_var 2) (se_pow se_int se_int)) (ss_one (ss_put (se_var 2) (se_var 0) se_int)) (ss_one (ss_put (se_addL (se_mod (se_addL (se_mulG (se_ixG (se_var 0) se_int) se_int) (se_cint (by rfl) T.f_int (sa_cons (se_var 2) sa_nil))) se_int) se_int) (se_var 0) se_int)))))) ss_nil))
  (sss_eqv tail_eq (ss_cons (ss_eqv gIf_eq (ss_if (st_gtD hr.units (se_ixG (se_var 0) se_int) se_int) (ss_cons (ss_set (i := 3) sc__law_draw.nd (se_mod (se_cint (by rfl) T.f_int (sa_cons (se_ixG (se_var 0) se_int) sa_nil)) (se_var 1)))
  (ss_cons (ss_put (se_div (se_ixG (se_var 0) se_int) (se_var 1)) (se_var 0) se_int)
  (ss_one (ss_ret (se_var 3))))) ss_nil))
  (ss_cons (ss_put (se_mod (se_addL (se_mulG (se_ixG (se_var 0) se_int) se_int) se_int) se_int) (se_var 0) se_int)
  (ss_cons (ss_put (se_mod (se_addL (se_mulG (se_ixG (se_var 0) se_int) se_int) se_int) se_int) (se_var 0) se_int)
  (ss_one (ss_ret (se_mod (se_div (se_ixG (se_var 0) se_int) se_int) (se_var 1)))))))))
theorem bh__law_whole (hW : w = WW.w) (T : Txt K mg)  (fa : Addr) (cdv : Value) (A : Around) (outer : List PySem.Env) (s : Shared) (H : Hp) (E : XK) (p : Addr × Obj) (hot : L2H.Hot1 A p) (hr : L2H.RoomH 0 (A.deeper (envOfC "_law_whole" (defScope s__law_whole) s.heap.objs.size fa cdv))) :
    SSs (L2H.cxH CX0 P w K mg base ["thing"] "_law_whole" (defScope s__law_whole) fa cdv A outer s H E p).nox (defBody s__law_whole) w__law_whole :=
  (ss_one (ss_ret (se_eqv gAndV_eq (se_and (se_eqv (gIsT_eq .int) (se_isT (Tn := "int") (by rfl) T.f_isinstance (by rfl) T.f_int (by decide +kernel) (se_var 0))) (se_one (se_not (se_eqv (gIsT_eq .bool) (se_isT (Tn := "bool") (by rfl) T.f_isinstance (by rfl) T.f_bool (by decide +kernel) (se_var 0)))))))))
theorem b__law_whole (hW : w = WW.w) (T : Txt K mg)  (fa : Addr) (cdv : Value) (A : Around) (outer : List PySem.Env) (s : Shared) (H : Hp) (E : XK) (hr : Room 0 (A.deeper (envOfC "_law_whole" (defScope s__law_whole) s.heap.objs.size fa cdv))) :
    SSs (cxOf CX0 P w K mg base ["thing"] "_law_whole" (defScope s__law_whole) fa cdv A outer s H E).nox (defBody s__law_whole) w__law_whole :=
  (ss_one (ss_ret (se_eqv gAndV_eq (se_and (se_eqv (gIsT_eq .int) (se_isT (Tn := "int") (by rfl) T.f_isinstance (by rfl) T.f_int (by decide +kernel) (se_var 0))) (se_one (se_not (se_eqv (gIsT_eq .bool) (se_isT (Tn := "bool") (by rfl) T.f_isinstance (by rfl) T.f_bool (by decide +kernel) (se_var 0)))))))))
theorem b__law_letters (hW : w = WW.w) (T : Txt K mg)  (fa : Addr) (cdv : Value) (A : Around) (outer : List PySem.Env) (s : Shared) (H : Hp) (E : XK) (hr : Room 0 (A.deeper (envOfC "_law_letters" (defScope s__law_letters) s.heap.objs.size fa cdv))) :
    SSs (cxOf CX0 P w K mg base [] "_law_letters" (defScope s__law_letters) fa cdv A outer s H E).nox (defBody s__law_letters) w__law_letters :=
  (ss_one (ss_ret se_str))
theorem b__law_name (hW : w = WW.w) (T : Txt K mg) (d__law_letters : Def P w K mg base 1 "_law_letters" [] c__law_letters) (d__law_draw : Def P w K mg base 1 "_law_draw" ["pool", "many"] c__law_draw) (fa : Addr) (cdv : Value) (A : Around) (outer : List PySem.Env) (s : Shared) (H : Hp) (E : XK) (hr : Room 1 (A.deeper (envOfC "_law_name" (defScope s__law_name) s.heap.objs.size fa cdv))) :
    SSs (cxOf CX0 P w K mg base ["pool", "many", "signs", "both", "place"] "_law_name" (defScope s__law_name) fa cdv A outer s H E).nox (defBody s__law_name) w__law_name :=
  (ss_cons (ss_set (i := 2) sc__law_name.nd (se_new (sa_cons (se_ixG (se_eqv gFn_eq (se_fn0 d__law_letters (hr.mono (by decide)) (by rfl))) (se_eqv gFn_eq (se_fn d__law_draw (hr.mono (by decide)) (by rfl) (sa_cons (se_var 0) (sa_cons se_int sa_nil))))) sa_nil)))
  (ss_cons (ss_set (i := 3) sc__law_name.nd (se_addL (se_eqv gFn_eq (se_fn0 d__law_letters (hr.mono (by decide)) (by rfl))) se_str))
  (ss_cons (ss_eqv gFor_eq (ss_for PassesOwn.never rfl (si_range1 (by rfl) T.f_range (sa_cons (se_sub (se_var 1) se_int) sa_nil)) (sg_name sc__law_name.nd) (ss_one (ss_expr (se_meth md_append (pe_bm PySem.F.plainAttrs_list PySem.F.slot_list_append PySem.F.type_list_append mt_append (se_var 2) (sa_cons (se_ixG (se_var 3) (se_eqv gFn_eq (se_fn d__law_draw (hr.mono (by decide)) (by rfl) (sa_cons (se_var 0) (sa_cons se_int sa_nil))))) sa_nil)))))))
  (ss_one (ss_ret (se_methS md_join (pe_bm PySem.F.plainAttrs_str PySem.F.slot_str_join PySem.F.type_str_join mt_join se_str (sa_cons (se_var 2) sa_nil))))))))
theorem b__law_sign (hW : w = WW.w) (T : Txt K mg) (d__law_draw : Def P w K mg base 1 "_law_draw" ["pool", "many"] c__law_draw) (fa : Addr) (cdv : Value) (A : Around) (outer : List PySem.Env) (s : Shared) (H : Hp) (E : XK) (hr : Room 1 (A.deeper (envOfC "_law_sign" (defScope s__law_sign) s.heap.objs.size fa cdv))) :
    SSs (cxOf CX0 P w K mg base ["pool", "near", "whole"] "_law_sign" (defScope s__law_sign) fa cdv A outer s H E).nox (defBody s__law_sign) w__law_sign :=
  (ss_cons (ss_set (i := 1) sc__law_sign.nd se_str)
  (ss_cons (ss_set (i := 2) sc__law_sign.nd se_str)
  (ss_cons (ss_eqv gIf_eq (ss_if (st_eq hr.units (se_eqv gFn_eq (se_fn d__law_draw (hr.mono (by decide)) (by rfl) (sa_cons (se_var 0) (sa_cons se_int sa_nil)))) se_int) (ss_one (ss_ret (se_ixG (se_var 1) (se_eqv gFn_eq (se_fn d__law_draw (hr.mono (by decide)) (by rfl) (sa_cons (se_var 0) (sa_cons (se_len (by rfl) T.f_len (sa_cons (se_var 1) sa_nil)) sa_nil))))))) ss_nil))
  (ss_one (ss_ret (se_ixG (se_var 2) (se_eqv gFn_eq (se_fn d__law_draw (hr.mono (by decide)) (by rfl) (sa_cons (se_var 0) (sa_cons (se_len (by rfl) T.f_len (sa_cons (se_var 2) sa_nil)) sa_nil))))))))))
theorem b__law_spoilt (hW : w = WW.w) (T : Txt K mg)  (fa : Addr) (cdv : Value) (A : Around) (outer : List PySem.Env) (s : Shared) (H : Hp) (E : XK) (hr : Room 0 (A.deeper (envOfC "_law_spoilt" (defScope s__law_spoilt) s.heap.objs.size fa cdv))) :
    SSs (cxOf CX0 P w K mg base ["name", "place", "sign"] "_law_spoilt" (defScope s__law_spoilt) fa cdv A outer s H E).nox (defBody s__law_spoilt) w__law_spoilt :=
  (ss_one (ss_ret (se_addL (se_addL (se_slice (se_var 0) so_none (so_some (se_var 1))) (se_var 2)) (se_slice (se_var 0) (so_some (se_addL (se_var 1) se_int)) so_none))))
theorem b__law_wrong_place (hW : w = WW.w) (T : Txt K mg) (d__law_letters : Def P w K mg base 1 "_law_letters" [] c__law_letters) (fa : Addr) (cdv : Value) (A : Around) (outer : List PySem.Env) (s : Shared) (H : Hp) (E : XK) (hr : Room 1 (A.deeper (envOfC "_law_wrong_place" (defScope s__law_wrong_place) s.heap.objs.size fa cdv))) :
    SSs (cxOf CX0 P w K mg base ["thing", "place", "letter"] "_law_wrong_place" (defScope s__law_wrong_place) fa cdv A outer s H E).nox (defBody s__law_wrong_place) w__law_wrong_place :=
  (ss_cons (ss_eqv gIf_eq (ss_if (st_bool (sw_eqv gOr_eq (sw_or (st_not (st_tru (se_eqv (gIsT_eq .str) (se_isT (Tn := "str") (by rfl) T.f_isinstance (by rfl) T.f_str (by decide +kernel) (se_var 0))))) (sw_eqv gOr_eq (sw_or (st_ltD hr.units (se_len (by rfl) T.f_len (sa_cons (se_var 0) sa_nil)) se_int) (sw_or1 (st_gtD hr.units (se_len (by rfl) T.f_len (sa_cons (se_var 0) sa_nil)) se_int))))))) (ss_one (ss_ret (se_neg se_int))) ss_nil))
  (ss_cons (ss_eqv gFor_eq (ss_for PassesOwn.never rfl (si_range1 (by rfl) T.f_range (sa_cons (se_len (by rfl) T.f_len (sa_cons (se_var 0) sa_nil)) sa_nil)) (sg_name sc__law_wrong_place.nd) (ss_cons (ss_set (i := 2) sc__law_wrong_place.nd (se_inI hW (units65 hr) (se_ixG (se_var 0) (se_var 1)) (se_eqv gFn_eq (se_fn0 d__law_letters (hr.mono (by decide)) (by rfl)))))
  (ss_one (ss_eqv gIf_eq (ss_if (st_bool (sw_eqv gAnd_eq (sw_and (st_not (st_tru (se_var 2))) (sw_and1 (st_bool (sw_eqv gOr_eq (sw_or (st_eq hr.units (se_var 1) se_int) (sw_or1 (st_notInI hW (units65 hr) (se_ixG (se_var 0) (se_var 1)) se_str))))))))) (ss_one (ss_ret (se_var 1))) ss_nil))))))
  (ss_one (ss_ret se_non))))
theorem b__law_asks_name (hW : w = WW.w) (T : Txt K mg) (d__law_wrong_place : Def P w K mg base 2 "_law_wrong_place" ["thing"] c__law_wrong_place) (d_check_name : DefX P w K mg base 3 "check_name" ["thing"] c_check_name) (dh__law_whole : DefH P w K mg base 1 "_law_whole" ["thing"] c__law_whole) (fa : Addr) (cdv : Value) (A : Around) (outer : List PySem.Env) (s : Shared) (H : Hp) (E : XK) (hr : Room 3 (A.deeper (envOfC "_law_asks_name" (defScope s__law_asks_name) s.heap.objs.size fa cdv))) :
    SSs (cxOf CX0 P w K mg base ["thing", "due", "told", "e"] "_law_asks_name" (defScope s__law_asks_name) fa cdv A outer s H E).nox (defBody s__law_asks_name) w__law_asks_name :=
  (ss_cons (ss_set (i := 1) sc__law_asks_name.nd (se_eqv gFn_eq (se_fn d__law_wrong_place (hr.mono (by decide)) (by rfl) (sa_cons (se_var 0) sa_nil))))
  (ss_cons (ss_try (c := "BadName") (x := "GainError") (n := "e") (i := 3) (cv := .ref (He.ga K "GainError")) rfl rfl sc__law_asks_name.nd rfl rfl ⟨by rfl, by decide, .inl T.m_GainError⟩ (fun C ca => by cases T.ca_BadName.symm.trans ca; exact T.ex_BadName_GainError) (fun pn xe po => (ss_one (ss_asgX (pe_fnX d_check_name (hr.mono (by decide)) (by rfl) (sa_cons (se_var 0) sa_nil)) (sg_name sc__law_asks_name.nd)))) (fun a oe C d pn ca hz hf => by cases T.ca_BadName.symm.trans ca; exact (ss_cons (ss_eqv gIf_eq (ss_if (st_bool (sw_eqv gOr_eq (sw_or (st_is (se_var 1) se_non) (sw_eqv gOr_eq (sw_or (st_not (st_tru (se_isE T.xc_BadName hz hf (by rfl) T.f_isinstance (se_var 3) (pa_cs_glob (by rfl) T.m_BadName pa_cs_nil) rfl T.is_BadName_BadName))) (sw_or1 (st_not (st_tru (se_isE T.xc_BadName hz hf (by rfl) T.f_isinstance (se_var 3) (pa_cs_glob (by rfl) T.m_DataError pa_cs_nil) rfl T.is_BadName_DataError))))))))) (ss_one (ss_ret se_bl)) ss_nil))
  (ss_cons (ss_eqv gIf_eq (ss_if (st_tru (se_isEt T.xc_BadName hz hf (by rfl) T.f_isinstance (se_var 3) (pa_cs_glob (by rfl) T.m_BadDial (pa_cs_glob (by rfl) T.m_CallError (pa_cs_glob (by rfl) T.m_TextError (pa_cs_glob (by rfl) T.m_DeskError pa_cs_nil)))) rfl T.isa_BadName_BadDial_CallError_TextError_DeskError)) (ss_one (ss_ret se_bl)) ss_nil))
  (ss_one (ss_ret (se_eqv gAndV_eq (se_and (se_eqv gFn_eq (se_fnH dh__law_whole (hot_suite hz hf) (L2H.roomH_mark (hr.mono (by decide)) _) (by rfl) (sa_cons (se_xf (n := "at") T.xc_BadName T.no_BadName_at hz hf (se_var 3)) sa_nil))) (se_one (se_eq hr.units (se_xf (n := "at") T.xc_BadName T.no_BadName_at hz hf (se_var 3)) (se_var 1)))))))))))
  (ss_one (ss_ret (se_eqv gAndV_eq (se_and (se_is (se_var 1) se_non) (se_one (se_is (se_var 2) se_non))))))))
theorem b__law_names (hW : w = WW.w) (T : Txt K mg) (d__law_name : Def P w K mg base 2 "_law_name" ["pool", "many"] c__law_name) (d__law_draw : Def P w K mg base 1 "_law_draw" ["pool", "many"] c__law_draw) (d__law_spoilt : Def P w K mg base 1 "_law_spoilt" ["name", "place", "sign"] c__law_spoilt) (d__law_sign : Def P w K mg base 2 "_law_sign" ["pool"] c__law_sign) (fa : Addr) (cdv : Value) (A : Around) (outer : List PySem.Env) (s : Shared) (H : Hp) (E : XK) (hr : Room 2 (A.deeper (envOfC "_law_names" (defScope s__law_names) s.heap.objs.size fa cdv))) :
    SSs (cxOf CX0 P w K mg base ["pool", "things", "name", "place", "one", "long"] "_law_names" (defScope s__law_names) fa cdv A outer s H E).nox (defBody s__law_names) w__law_names :=
  (ss_cons (ss_set (i := 1) sc__law_names.nd (se_new (sa_cons (se_eqv gFn_eq (se_fn d__law_name (hr.mono (by decide)) (by rfl) (sa_cons (se_var 0) (sa_cons se_int sa_nil)))) (sa_cons (se_eqv gFn_eq (se_fn d__law_name (hr.mono (by decide)) (by rfl) (sa_cons (se_var 0) (sa_cons se_int sa_nil)))) (sa_cons (se_eqv gFn_eq (se_fn d__law_name (hr.mono (by decide)) (by rfl) (sa_cons (se_var 0) (sa_cons (se_addL se_int (se_eqv gFn_eq (se_fn d__law_draw (hr.mono (by decide)) (by rfl) (sa_cons (se_var 0) (sa_cons se_int sa_nil))))) sa_nil)))) sa_nil)))))
  (ss_cons (ss_set (i := 2) sc__law_names.nd (se_eqv gFn_eq (se_fn d__law_name (hr.mono (by decide)) (by rfl) (sa_cons (se_var 0) (sa_cons (se_addL se_int (se_eqv gFn_eq (se_fn d__law_draw (hr.mono (by decide)) (by rfl) (sa_cons (se_var 0) (sa_cons se_int sa_nil))))) sa_nil)))))
  (ss_cons (ss_set (i := 3) sc__law_names.nd (se_eqv gFn_eq (se_fn d__law_draw (hr.mono (by decide)) (by rfl) (sa_cons (se_var 0) (sa_cons (se_len (by rfl) T.f_len (sa_cons (se_var 2) sa_nil)) sa_nil)))))
  (ss_cons (ss_expr (se_meth md_append (pe_bm PySem.F.plainAttrs_list PySem.F.slot_list_append PySem.F.type_list_append mt_append (se_var 1) (sa_cons (se_eqv gFn_eq (se_fn d__law_spoilt (hr.mono (by decide)) (by rfl) (sa_cons (se_var 2) (sa_cons (se_var 3) (sa_cons (se_eqv gFn_eq (se_fn d__law_sign (hr.mono (by decide)) (by rfl) (sa_cons (se_var 0) sa_nil))) sa_nil))))) sa_nil))))
  (ss_cons (ss_set (i := 2) sc__law_names.nd (se_eqv gFn_eq (se_fn d__law_name (hr.mono (by decide)) (by rfl) (sa_cons (se_var 0) (sa_cons (se_addL se_int (se_eqv gFn_eq (se_fn d__law_draw (hr.mono (by decide)) (by rfl) (sa_cons (se_var 0) (sa_cons se_int sa_nil))))) sa_nil)))))
  (ss_cons (ss_set (i := 3) sc__law_names.nd (se_addL se_int (se_eqv gFn_eq (se_fn d__law_draw (hr.mono (by decide)) (by rfl) (sa_cons (se_var 0) (sa_cons (se_sub (se_len (by rfl) T.f_len (sa_cons (se_var 2) sa_nil)) se_int) sa_nil))))))
  (ss_cons (ss_expr (se_meth md_append (pe_bm PySem.F.plainAttrs_list PySem.F.slot_list_append PySem.F.type_list_append mt_append (se_var 1) (sa_cons (se_eqv gFn_eq (se_fn d__law_spoilt (hr.mono (by decide)) (by rfl) (sa_cons (se_var 2) (sa_cons (se_var 3) (sa_cons (se_eqv gFn_eq (se_fn d__law_sign (hr.mono (by decide)) (by rfl) (sa_cons (se_var 0) sa_nil))) sa_nil))))) sa_nil))))
  (ss_cons (ss_set (i := 4) sc__law_names.nd (se_eqv gFn_eq (se_fn d__law_draw (hr.mono (by decide)) (by rfl) (sa_cons (se_var 0) (sa_cons (se_len (by rfl) T.f_len (sa_cons (se_var 2) sa_nil)) sa_nil)))))
  (ss_cons (ss_expr (se_meth md_append (pe_bm PySem.F.plainAttrs_list PySem.F.slot_list_append PySem.F.type_list_append mt_append (se_var 1) (sa_cons (se_eqv gFn_eq (se_fn d__law_spoilt (hr.mono (by decide)) (by rfl) (sa_cons (se_eqv gFn_eq (se_fn d__law_spoilt (hr.mono (by decide)) (by rfl) (sa_cons (se_var 2) (sa_cons (se_var 3) (sa_cons (se_eqv gFn_eq (se_fn d__law_sign (hr.mono (by decide)) (by rfl) (sa_cons (se_var 0) sa_nil))) sa_nil))))) (sa_cons (se_var 4) (sa_cons (se_eqv gFn_eq (se_fn d__law_sign (hr.mono (by decide)) (by rfl) (sa_cons (se_var 0) sa_nil))) sa_nil))))) sa_nil))))
  (ss_cons (ss_expr (se_meth md_append (pe_bm PySem.F.plainAttrs_list PySem.F.slot_list_append PySem.F.type_list_append mt_append (se_var 1) (sa_cons (se_addL (se_ixG se_str (se_eqv gFn_eq (se_fn d__law_draw (hr.mono (by decide)) (by rfl) (sa_cons (se_var 0) (sa_cons se_int sa_nil))))) (se_eqv gFn_eq (se_fn d__law_name (hr.mono (by decide)) (by rfl) (sa_cons (se_var 0) (sa_cons (se_addL se_int (se_eqv gFn_eq (se_fn d__law_draw (hr.mono (by decide)) (by rfl) (sa_cons (se_var 0) (sa_cons se_int sa_nil))))) sa_nil))))) sa_nil))))
  (ss_cons (ss_set (i := 5) sc__law_names.nd (se_addL se_int (se_eqv gFn_eq (se_fn d__law_draw (hr.mono (by decide)) (by rfl) (sa_cons (se_var 0) (sa_cons se_int sa_nil))))))
  (ss_cons (ss_eqv gIf_eq (ss_if (st_eq hr.units (se_eqv gFn_eq (se_fn d__law_draw (hr.mono (by decide)) (by rfl) (sa_cons (se_var 0) (sa_cons se_int sa_nil)))) se_int) (ss_one (ss_set (i := 5) sc__law_names.nd (se_addL se_int (se_eqv gFn_eq (se_fn d__law_draw (hr.mono (by decide)) (by rfl) (sa_cons (se_var 0) (sa_cons se_int sa_nil))))))) ss_nil))
  (sss_eqv tail_eq (ss_cons (ss_expr (se_meth md_append (pe_bm PySem.F.plainAttrs_list PySem.F.slot_list_append PySem.F.type_list_append mt_append (se_var 1) (sa_cons (se_eqv gFn_eq (se_fn d__law_name (hr.mono (by decide)) (by rfl) (sa_cons (se_var 0) (sa_cons se_int sa_nil)))) sa_nil))))
  (ss_cons (ss_expr (se_meth md_append (pe_bm PySem.F.plainAttrs_list PySem.F.slot_list_append PySem.F.type_list_append mt_append (se_var 1) (sa_cons (se_eqv gFn_eq (se_fn d__law_spoilt (hr.mono (by decide)) (by rfl) (sa_cons (se_eqv gFn_eq (se_fn d__law_name (hr.mono (by decide)) (by rfl) (sa_cons (se_var 0) (sa_cons se_int sa_nil)))) (sa_cons (se_eqv gFn_eq (se_fn d__law_draw (hr.mono (by decide)) (by rfl) (sa_cons (se_var 0) (sa_cons se_int sa_nil)))) (sa_cons (se_eqv gFn_eq (se_fn d__law_sign (hr.mono (by decide)) (by rfl) (sa_cons (se_var 0) sa_nil))) sa_nil))))) sa_nil))))
  (ss_cons (ss_expr (se_meth md_append (pe_bm PySem.F.plainAttrs_list PySem.F.slot_list_append PySem.F.type_list_append mt_append (se_var 1) (sa_cons (se_mulG (se_addL (se_methS md_join (pe_bm PySem.F.plainAttrs_str PySem.F.slot_str_join PySem.F.type_str_join mt_join se_str (sa_cons (se_lst (sa_cons (se_eqv gFn_eq (se_fn d__law_name (hr.mono (by decide)) (by rfl) (sa_cons (se_var 0) (sa_cons se_int sa_nil)))) sa_nil)) sa_nil))) se_str) (se_var 5)) sa_nil))))
  (ss_cons (ss_expr (se_meth md_append (pe_bm PySem.F.plainAttrs_list PySem.F.slot_list_append PySem.F.type_list_append mt_append (se_var 1) (sa_cons se_str sa_nil))))
  (ss_one (ss_ret (se_var 1))))))))))))))))))))
theorem b__law_strangers (hW : w = WW.w) (T : Txt K mg) (d__law_name : Def P w K mg base 2 "_law_name" ["pool", "many"] c__law_name) (d__law_draw : Def P w K mg base 1 "_law_draw" ["pool", "many"] c__law_draw) (fa : Addr) (cdv : Value) (A : Around) (outer : List PySem.Env) (s : Shared) (H : Hp) (E : XK) (hr : Room 2 (A.deeper (envOfC "_law_strangers" (defScope s__law_strangers) s.heap.objs.size fa cdv))) :
    SSs (cxOf CX0 P w K mg base ["pool", "name", "many", "found", "turn"] "_law_strangers" (defScope s__law_strangers) fa cdv A outer s H E).nox (defBody s__law_strangers) w__law_strangers :=
  (ss_cons (ss_set (i := 1) sc__law_strangers.nd (se_eqv gFn_eq (se_fn d__law_name (hr.mono (by decide)) (by rfl) (sa_cons (se_var 0) (sa_cons (se_addL se_int (se_eqv gFn_eq (se_fn d__law_draw (hr.mono (by decide)) (by rfl) (sa_cons (se_var 0) (sa_cons se_int sa_nil))))) sa_nil)))))
  (ss_cons (ss_set (i := 2) sc__law_strangers.nd (se_lst (sa_cons se_non (sa_cons se_bl (sa_cons se_bl (sa_cons se_int (sa_cons se_int (sa_cons (se_eqv gFn_eq (se_fn d__law_draw (hr.mono (by decide)) (by rfl) (sa_cons (se_var 0) (sa_cons (se_pow se_int se_int) sa_nil)))) (sa_cons (se_sub (se_neg se_int) (se_eqv gFn_eq (se_fn d__law_draw (hr.mono (by decide)) (by rfl) (sa_cons (se_var 0) (sa_cons (se_pow se_int se_int) sa_nil))))) (sa_cons (se_tup sa_nil) (sa_cons (se_tup (sa_cons (se_var 1) sa_nil)) (sa_cons (se_tup (sa_cons (se_var 1) (sa_cons (se_var 1) sa_nil))) (sa_cons (se_tup (sa_cons (se_tup (sa_cons (se_var 1) sa_nil)) (sa_cons se_non sa_nil))) (sa_cons (se_lst sa_nil) (sa_cons (se_lst (sa_cons (se_var 1) sa_nil)) (sa_cons (se_lst (sa_cons (se_var 1) (sa_cons (se_lst (sa_cons (se_var 1) (sa_cons se_int sa_nil))) sa_nil))) sa_nil))))))))))))))))
  (ss_cons (ss_set (i := 3) sc__law_strangers.nd (se_new sa_nil))
  (ss_cons (ss_eqv gFor_eq (ss_for PassesOwn.never rfl (si_range1 (by rfl) T.f_range (sa_cons se_int sa_nil)) (sg_name sc__law_strangers.nd) (ss_one (ss_expr (se_meth md_append (pe_bm PySem.F.plainAttrs_list PySem.F.slot_list_append PySem.F.type_list_append mt_append (se_var 3) (sa_cons (se_ixG (se_var 2) (se_eqv gFn_eq (se_fn d__law_draw (hr.mono (by decide)) (by rfl) (sa_cons (se_var 0) (sa_cons (se_len (by rfl) T.f_len (sa_cons (se_var 2) sa_nil)) sa_nil))))) sa_nil)))))))
  (ss_one (ss_ret (se_var 3)))))))
theorem b__law_dial_word (hW : w = WW.w) (T : Txt K mg) (d__law_whole : Def P w K mg base 1 "_law_whole" ["thing"] c__law_whole) (fa : Addr) (cdv : Value) (A : Around) (outer : List PySem.Env) (s : Shared) (H : Hp) (E : XK) (hr : Room 1 (A.deeper (envOfC "_law_dial_word" (defScope s__law_dial_word) s.heap.objs.size fa cdv))) :
    SSs (cxOf CX0 P w K mg base ["thing", "many", "turn"] "_law_dial_word" (defScope s__law_dial_word) fa cdv A outer s H E).nox (defBody s__law_dial_word) w__law_dial_word :=
  (ss_cons (ss_eqv gIf_eq (ss_if (st_bool (sw_eqv gOr_eq (sw_or (st_not (st_tru (se_eqv (gIsT_eq .tuple) (se_isT (Tn := "tuple") (by rfl) T.f_isinstance (by rfl) T.f_tuple (by decide +kernel) (se_var 0))))) (sw_or1 (st_ne hr.units (se_len (by rfl) T.f_len (sa_cons (se_var 0) sa_nil)) se_int))))) (ss_one (ss_ret se_str)) ss_nil))
  (ss_cons (ss_eqv gIf_eq (ss_if (st_bool (sw_eqv gOr_eq (sw_or (st_not (st_tru (se_eqv gFn_eq (se_fn d__law_whole (hr.mono (by decide)) (by rfl) (sa_cons (se_ixG (se_var 0) se_int) sa_nil))))) (sw_or1 (st_not (st_tru (se_eqv gFn_eq (se_fn d__law_whole (hr.mono (by decide)) (by rfl) (sa_cons (se_ixG (se_var 0) se_int) sa_nil))))))))) (ss_one (ss_ret se_str)) ss_nil))
  (ss_cons (ss_set (i := 1) sc__law_dial_word.nd (se_ixG (se_var 0) se_int))
  (ss_cons (ss_set (i := 2) sc__law_dial_word.nd (se_ixG (se_var 0) se_int))
  (ss_cons (ss_eqv gIf_eq (ss_if (st_bool (sw_eqv gOr_eq (sw_or (st_ltD hr.units (se_var 1) se_int) (sw_eqv gOr_eq (sw_or (st_eq hr.units (se_var 1) se_int) (sw_or1 (st_gtD hr.units (se_var 1) se_int))))))) (ss_one (ss_ret se_str)) ss_nil))
  (ss_cons (ss_eqv gIf_eq (ss_if (st_eq hr.units (se_var 1) se_int) (ss_cons (ss_eqv gIf_eq (ss_if (st_bool (sw_eqv gOr_eq (sw_or (st_eq hr.units (se_var 2) se_int) (sw_or1 (st_eq hr.units (se_var 2) (se_neg se_int)))))) (ss_one (ss_ret se_non)) ss_nil))
  (ss_one (ss_ret se_str))) ss_nil))
  (ss_cons (ss_eqv gIf_eq (ss_if (st_bool (sw_eqv gOr_eq (sw_or (st_ltD hr.units (se_var 2) se_int) (sw_eqv gOr_eq (sw_or (st_geD hr.units (se_var 2) (se_var 1)) (sw_or1 (st_ne hr.units (se_mod (se_cint (by rfl) T.f_int (sa_cons (se_sub (se_mulG (se_var 2) (se_var 2)) se_int) sa_nil)) (se_var 1)) se_int))))))) (ss_one (ss_ret se_str)) ss_nil))
  (ss_one (ss_ret se_non)))))))))
theorem b__law_asks_dial (hW : w = WW.w) (T : Txt K mg) (d__law_dial_word : Def P w K mg base 2 "_law_dial_word" ["thing"] c__law_dial_word) (d_check_dial : DefX P w K mg base 3 "check_dial" ["thing"] c_check_dial) (fa : Addr) (cdv : Value) (A : Around) (outer : List PySem.Env) (s : Shared) (H : Hp) (E : XK) (hr : Room 3 (A.deeper (envOfC "_law_asks_dial" (defScope s__law_asks_dial) s.heap.objs.size fa cdv))) :
    SSs (cxOf CX0 P w K mg base ["thing", "due", "told", "e"] "_law_asks_dial" (defScope s__law_asks_dial) fa cdv A outer s H E).nox (defBody s__law_asks_dial) w__law_asks_dial :=
  (ss_cons (ss_set (i := 1) sc__law_asks_dial.nd (se_eqv gFn_eq (se_fn d__law_dial_word (hr.mono (by decide)) (by rfl) (sa_cons (se_var 0) sa_nil))))
  (ss_cons (ss_try (c := "BadDial") (x := "GainError") (n := "e") (i := 3) (cv := .ref (He.ga K "GainError")) rfl rfl sc__law_asks_dial.nd rfl rfl ⟨by rfl, by decide, .inl T.m_GainError⟩ (fun C ca => by cases T.ca_BadDial.symm.trans ca; exact T.ex_BadDial_GainError) (fun pn xe po => (ss_one (ss_asgX (pe_fnX d_check_dial (hr.mono (by decide)) (by rfl) (sa_cons (se_var 0) sa_nil)) (sg_name sc__law_asks_dial.nd)))) (fun a oe C d pn ca hz hf => by cases T.ca_BadDial.symm.trans ca; exact (ss_cons (ss_eqv gIf_eq (ss_if (st_bool (sw_eqv gOr_eq (sw_or (st_is (se_var 1) se_non) (sw_eqv gOr_eq (sw_or (st_not (st_tru (se_isE T.xc_BadDial hz hf (by rfl) T.f_isinstance (se_var 3) (pa_cs_glob (by rfl) T.m_BadDial pa_cs_nil) rfl T.is_BadDial_BadDial))) (sw_or1 (st_not (st_tru (se_isE T.xc_BadDial hz hf (by rfl) T.f_isinstance (se_var 3) (pa_cs_glob (by rfl) T.m_DataError pa_cs_nil) rfl T.is_BadDial_DataError))))))))) (ss_one (ss_ret se_bl)) ss_nil))
  (ss_cons (ss_eqv gIf_eq (ss_if (st_tru (se_isEt T.xc_BadDial hz hf (by rfl) T.f_isinstance (se_var 3) (pa_cs_glob (by rfl) T.m_BadName (pa_cs_glob (by rfl) T.m_CallError (pa_cs_glob (by rfl) T.m_TextError (pa_cs_glob (by rfl) T.m_DeskError pa_cs_nil)))) rfl T.isa_BadDial_BadName_CallError_TextError_DeskError)) (ss_one (ss_ret se_bl)) ss_nil))
  (ss_one (ss_ret (se_eqv gAndV_eq (se_and (se_eqv (gIsT_eq .str) (se_isT (Tn := "str") (by rfl) T.f_isinstance (by rfl) T.f_str (by decide +kernel) (se_xf (n := "word") T.xc_BadDial T.no_BadDial_word hz hf (se_var 3)))) (se_one (se_eq hr.units (se_xf (n := "word") T.xc_BadDial T.no_BadDial_word hz hf (se_var 3)) (se_var 1)))))))))))
  (ss_one (ss_ret (se_eqv gAndV_eq (se_and (se_is (se_var 1) se_non) (se_one (se_is (se_var 2) se_non))))))))
theorem b__law_size (hW : w = WW.w) (T : Txt K mg) (d__law_draw : Def P w K mg base 1 "_law_draw" ["pool", "many"] c__law_draw) (fa : Addr) (cdv : Value) (A : Around) (outer : List PySem.Env) (s : Shared) (H : Hp) (E : XK) (hr : Room 1 (A.deeper (envOfC "_law_size" (defScope s__law_size) s.heap.objs.size fa cdv))) :
    SSs (cxOf CX0 P w K mg base ["pool", "habit"] "_law_size" (defScope s__law_size) fa cdv A outer s H E).nox (defBody s__law_size) w__law_size :=
  (ss_cons (ss_set (i := 1) sc__law_size.nd (se_eqv gFn_eq (se_fn d__law_draw (hr.mono (by decide)) (by rfl) (sa_cons (se_var 0) (sa_cons se_int sa_nil)))))
  (ss_cons (ss_eqv gIf_eq (ss_if (st_ltD hr.units (se_var 1) se_int) (ss_one (ss_ret (se_addL se_int (se_eqv gFn_eq (se_fn d__law_draw (hr.mono (by decide)) (by rfl) (sa_cons (se_var 0) (sa_cons se_int sa_nil))))))) ss_nil))
  (ss_cons (ss_eqv gIf_eq (ss_if (st_ltD hr.units (se_var 1) se_int) (ss_one (ss_ret (se_addL se_int (se_eqv gFn_eq (se_fn d__law_draw (hr.mono (by decide)) (by rfl) (sa_cons (se_var 0) (sa_cons se_int sa_nil))))))) ss_nil))
  (ss_one (ss_ret (se_addL se_int (se_eqv gFn_eq (se_fn d__law_draw (hr.mono (by decide)) (by rfl) (sa_cons (se_var 0) (sa_cons se_int sa_nil))))))))))
theorem b__law_turns (hW : w = WW.w) (T : Txt K mg)  (fa : Addr) (cdv : Value) (A : Around) (outer : List PySem.Env) (s : Shared) (H : Hp) (E : XK) (hr : Room 0 (A.deeper (envOfC "_law_turns" (defScope s__law_turns) s.heap.objs.size fa cdv))) :
    SSs (cxOf CX0 P w K mg base ["many", "turn"] "_law_turns" (defScope s__law_turns) fa cdv A outer s H E).nox (defBody s__law_turns) w__law_turns :=
  (ss_one (ss_ret (se_eqv gComp_eq (se_lc rfl sc__law_turns.nd (si_range2 (by rfl) T.f_range (sa_cons se_int (sa_cons (se_var 0) sa_nil))) (blkOk_by (N := ["many", "turn"]) (sc := defScope s__law_turns) (own := [("turn", 1)]) (by decide +kernel)) rfl (by decide) (fun _ _ _ _ _ => (sg_name sc__law_turns.nd)) (fun _ _ _ _ _ => (sts_one (st_eq hr.units (se_mod (se_cint (by rfl) T.f_int (sa_cons (se_mulG (se_var 1) (se_var 1)) sa_nil)) (se_var 0)) se_int))) (fun _ _ _ _ _ => (se_var 1))))))
theorem b__law_dials (hW : w = WW.w) (T : Txt K mg) (d__law_size : Def P w K mg base 2 "_law_size" ["pool"] c__law_size) (d__law_turns : Def P w K mg base 1 "_law_turns" ["many"] c__law_turns) (d__law_draw : Def P w K mg base 1 "_law_draw" ["pool", "many"] c__law_draw) (fa : Addr) (cdv : Value) (A : Around) (outer : List PySem.Env) (s : Shared) (H : Hp) (E : XK) (hr : Room 2 (A.deeper (envOfC "_law_dials" (defScope s__law_dials) s.heap.objs.size fa cdv))) :
    SSs (cxOf CX0 P w K mg base ["pool", "many", "turns", "turn", "small", "others", "other", "things", "bent", "turned"] "_law_dials" (defScope s__law_dials) fa cdv A outer s H E).nox (defBody s__law_dials) w__law_dials :=
  (ss_cons (ss_set (i := 1) sc__law_dials.nd (se_eqv gFn_eq (se_fn d__law_size (hr.mono (by decide)) (by rfl) (sa_cons (se_var 0) sa_nil))))
  (ss_cons (ss_set (i := 2) sc__law_dials.nd (se_eqv gFn_eq (se_fn d__law_turns (hr.mono (by decide)) (by rfl) (sa_cons (se_var 1) sa_nil))))
  (ss_cons (ss_set (i := 3) sc__law_dials.nd (se_ixG (se_var 2) (se_eqv gFn_eq (se_fn d__law_draw (hr.mono (by decide)) (by rfl) (sa_cons (se_var 0) (sa_cons (se_len (by rfl) T.f_len (sa_cons (se_var 2) sa_nil)) sa_nil))))))
  (ss_cons (ss_set (i := 4) sc__law_dials.nd (se_ixG (se_lst (sa_cons se_int (sa_cons se_int (sa_cons se_int (sa_cons se_int (sa_cons se_int (sa_cons se_int (sa_cons se_int (sa_cons se_int (sa_cons se_int (sa_cons se_int (sa_cons se_int (sa_cons se_int (sa_cons se_int (sa_cons se_int sa_nil))))))))))))))) (se_eqv gFn_eq (se_fn d__law_draw (hr.mono (by decide)) (by rfl) (sa_cons (se_var 0) (sa_cons se_int sa_nil))))))
  (ss_cons (ss_set (i := 5) sc__law_dials.nd (se_eqv gFn_eq (se_fn d__law_turns (hr.mono (by decide)) (by rfl) (sa_cons (se_var 4) sa_nil))))
  (ss_cons (ss_set (i := 6) sc__law_dials.nd (se_ixG (se_var 5) (se_eqv gFn_eq (se_fn d__law_draw (hr.mono (by decide)) (by rfl) (sa_cons (se_var 0) (sa_cons (se_len (by rfl) T.f_len (sa_cons (se_var 5) sa_nil)) sa_nil))))))
  (ss_cons (ss_set (i := 7) sc__law_dials.nd (se_new (sa_cons (se_tup (sa_cons se_int (sa_cons (se_sub se_int (se_mulG se_int (se_eqv gFn_eq (se_fn d__law_draw (hr.mono (by decide)) (by rfl) (sa_cons (se_var 0) (sa_cons se_int sa_nil)))))) sa_nil))) (sa_cons (se_tup (sa_cons (se_var 1) (sa_cons (se_var 3) sa_nil))) (sa_cons (se_tup (sa_cons (se_var 1) (sa_cons (se_sub (se_var 1) se_int) sa_nil))) (sa_cons (se_tup (sa_cons (se_var 4) (sa_cons (se_var 6) sa_nil))) (sa_cons (se_tup (sa_cons se_int (sa_cons se_int sa_nil))) (sa_cons (se_tup (sa_cons se_int (sa_cons (se_ixG (se_lst (sa_cons se_int (sa_cons se_int (sa_cons se_int (sa_cons se_int (sa_cons se_int (sa_cons se_int (sa_cons se_int (sa_cons se_int sa_nil))))))))) (se_eqv gFn_eq (se_fn d__law_draw (hr.mono (by decide)) (by rfl) (sa_cons (se_var 0) (sa_cons se_int sa_nil))))) sa_nil))) sa_nil))))))))
  (ss_cons (ss_expr (se_meth md_append (pe_bm PySem.F.plainAttrs_list PySem.F.slot_list_append PySem.F.type_list_append mt_append (se_var 7) (sa_cons (se_tup (sa_cons (se_addL se_int (se_eqv gFn_eq (se_fn d__law_draw (hr.mono (by decide)) (by rfl) (sa_cons (se_var 0) (sa_cons se_int sa_nil))))) (sa_cons se_int sa_nil))) sa_nil))))
  (ss_cons (ss_expr (se_meth md_append (pe_bm PySem.F.plainAttrs_list PySem.F.slot_list_append PySem.F.type_list_append mt_append (se_var 7) (sa_cons (se_tup (sa_cons (se_var 1) (sa_cons (se_addL (se_var 3) (se_mulG (se_var 1) (se_addL se_int (se_eqv gFn_eq (se_fn d__law_draw (hr.mono (by decide)) (by rfl) (sa_cons (se_var 0) (sa_cons se_int sa_nil))))))) sa_nil))) sa_nil))))
  (ss_cons (ss_expr (se_meth md_append (pe_bm PySem.F.plainAttrs_list PySem.F.slot_list_append PySem.F.type_list_append mt_append (se_var 7) (sa_cons (se_tup (sa_cons (se_var 1) (sa_cons (se_ixG (se_lst (sa_cons se_int (sa_cons (se_neg se_int) (sa_cons (se_neg (se_var 3)) (sa_cons (se_var 1) (sa_cons (se_addL (se_var 3) se_int) (sa_cons (se_eqv gFn_eq (se_fn d__law_draw (hr.mono (by decide)) (by rfl) (sa_cons (se_var 0) (sa_cons (se_pow se_int se_int) sa_nil)))) sa_nil))))))) (se_eqv gFn_eq (se_fn d__law_draw (hr.mono (by decide)) (by rfl) (sa_cons (se_var 0) (sa_cons se_int sa_nil))))) sa_nil))) sa_nil))))
  (ss_cons (ss_expr (se_meth md_append (pe_bm PySem.F.plainAttrs_list PySem.F.slot_list_append PySem.F.type_list_append mt_append (se_var 7) (sa_cons (se_tup (sa_cons (se_var 1) (sa_cons (se_eqv gFn_eq (se_fn d__law_draw (hr.mono (by decide)) (by rfl) (sa_cons (se_var 0) (sa_cons (se_addL (se_var 1) se_int) sa_nil)))) sa_nil))) sa_nil))))
  (ss_cons (ss_expr (se_meth md_append (pe_bm PySem.F.plainAttrs_list PySem.F.slot_list_append PySem.F.type_list_append mt_append (se_var 7) (sa_cons (se_tup (sa_cons se_int (sa_cons (se_ixG (se_lst (sa_cons se_int (sa_cons se_int (sa_cons (se_neg se_int) (sa_cons (se_pow se_int se_int) (sa_cons (se_eqv gFn_eq (se_fn d__law_draw (hr.mono (by decide)) (by rfl) (sa_cons (se_var 0) (sa_cons (se_pow se_int se_int) sa_nil)))) sa_nil)))))) (se_eqv gFn_eq (se_fn d__law_draw (hr.mono (by decide)) (by rfl) (sa_cons (se_var 0) (sa_cons se_int sa_nil))))) sa_nil))) sa_nil))))
  (ss_cons (ss_expr (se_meth md_append (pe_bm PySem.F.plainAttrs_list PySem.F.slot_list_append PySem.F.type_list_append mt_append (se_var 7) (sa_cons (se_tup (sa_cons se_int (sa_cons (se_sub (se_eqv gFn_eq (se_fn d__law_draw (hr.mono (by decide)) (by rfl) (sa_cons (se_var 0) (sa_cons se_int sa_nil)))) se_int) sa_nil))) sa_nil))))
  (ss_cons (ss_expr (se_meth md_append (pe_bm PySem.F.plainAttrs_list PySem.F.slot_list_append PySem.F.type_list_append mt_append (se_var 7) (sa_cons (se_tup (sa_cons (se_sub (se_neg se_int) (se_eqv gFn_eq (se_fn d__law_draw (hr.mono (by decide)) (by rfl) (sa_cons (se_var 0) (sa_cons se_int sa_nil))))) (sa_cons (se_ixG (se_lst (sa_cons se_int (sa_cons (se_neg se_int) (sa_cons se_int (sa_cons se_int sa_nil))))) (se_eqv gFn_eq (se_fn d__law_draw (hr.mono (by decide)) (by rfl) (sa_cons (se_var 0) (sa_cons se_int sa_nil))))) sa_nil))) sa_nil))))
  (ss_cons (ss_expr (se_meth md_append (pe_bm PySem.F.plainAttrs_list PySem.F.slot_list_append PySem.F.type_list_append mt_append (se_var 7) (sa_cons (se_tup (sa_cons (se_addL se_int (se_eqv gFn_eq (se_fn d__law_draw (hr.mono (by decide)) (by rfl) (sa_cons (se_var 0) (sa_cons (se_pow se_int se_int) sa_nil))))) (sa_cons (se_ixG (se_lst (sa_cons se_int (sa_cons se_int (sa_cons (se_neg se_int) (sa_cons se_int (sa_cons (se_pow se_int se_int) sa_nil)))))) (se_eqv gFn_eq (se_fn d__law_draw (hr.mono (by decide)) (by rfl) (sa_cons (se_var 0) (sa_cons se_int sa_nil))))) sa_nil))) sa_nil))))
  (ss_cons (ss_set (i := 8) sc__law_dials.nd (se_lst (sa_cons (se_lst (sa_cons (se_var 1) (sa_cons (se_var 3) sa_nil))) (sa_cons (se_tup (sa_cons (se_var 1) sa_nil)) (sa_cons (se_tup (sa_cons (se_var 1) (sa_cons (se_var 3) (sa_cons se_int sa_nil)))) (sa_cons (se_tup (sa_cons (se_var 1) (sa_cons (se_var 3) (sa_cons (se_var 3) sa_nil)))) (sa_cons (se_tup (sa_cons se_bl (sa_cons se_int sa_nil))) (sa_cons (se_tup (sa_cons (se_var 1) (sa_cons se_bl sa_nil))) (sa_cons (se_tup (sa_cons se_bl (sa_cons se_int sa_nil))) (sa_cons (se_tup (sa_cons (se_var 1) (sa_cons se_non sa_nil))) (sa_cons (se_tup (sa_cons (se_tup (sa_cons (se_var 1) (sa_cons (se_var 3) sa_nil))) sa_nil)) (sa_cons (se_tup (sa_cons se_non (sa_cons (se_var 3) sa_nil))) (sa_cons (se_tup (sa_cons se_str (sa_cons se_int sa_nil))) (sa_cons se_str (sa_cons (se_var 1) (sa_cons se_non (sa_cons (se_lst sa_nil) (sa_cons (se_tup sa_nil) (sa_cons (se_lst (sa_cons (se_tup (sa_cons se_int (sa_cons se_int sa_nil))) sa_nil)) (sa_cons (se_tup (sa_cons (se_tup (sa_cons (se_var 1) (sa_cons se_int sa_nil))) (sa_cons (se_tup (sa_cons (se_var 3) (sa_cons se_int sa_nil))) sa_nil))) (sa_cons (se_tup (sa_cons se_int (sa_cons se_bl sa_nil))) (sa_cons (se_tup (sa_cons se_bl (sa_cons se_int sa_nil))) (sa_cons (se_tup (sa_cons (se_var 1) (sa_cons (se_lst (sa_cons (se_var 3) sa_nil)) sa_nil))) sa_nil)))))))))))))))))))))))
  (ss_cons (ss_eqv gFor_eq (ss_for PassesOwn.never rfl (si_range1 (by rfl) T.f_range (sa_cons se_int sa_nil)) (sg_name sc__law_dials.nd) (ss_one (ss_expr (se_meth md_append (pe_bm PySem.F.plainAttrs_list PySem.F.slot_list_append PySem.F.type_list_append mt_append (se_var 7) (sa_cons (se_ixG (se_var 8) (se_eqv gFn_eq (se_fn d__law_draw (hr.mono (by decide)) (by rfl) (sa_cons (se_var 0) (sa_cons (se_len (by rfl) T.f_len (sa_cons (se_var 8) sa_nil)) sa_nil))))) sa_nil)))))))
  (ss_one (ss_ret (se_var 7))))))))))))))))))))
theorem b_law (hW : w = WW.w) (T : Txt K mg) (d__law_pool : Def P w K mg base 1 "_law_pool" ["script", "salt"] c__law_pool) (d__law_names : Def P w K mg base 3 "_law_names" ["pool"] c__law_names) (d__law_asks_name : Def P w K mg base 4 "_law_asks_name" ["thing"] c__law_asks_name) (d__law_strangers : Def P w K mg base 3 "_law_strangers" ["pool"] c__law_strangers) (d__law_dials : Def P w K mg base 3 "_law_dials" ["pool"] c__law_dials) (d__law_asks_dial : Def P w K mg base 4 "_law_asks_dial" ["thing"] c__law_asks_dial) (d__law_name : Def P w K mg base 2 "_law_name" ["pool", "many"] c__law_name) (d__law_whole : Def P w K mg base 1 "_law_whole" ["thing"] c__law_whole) (fa : Addr) (cdv : Value) (A : Around) (outer : List PySem.Env) (s : Shared) (H : Hp) (E : XK) (hr : Room 4 (A.deeper (envOfC "law" (defScope s_law) s.heap.objs.size fa cdv))) :
    SSs (cxOf CX0 P w K mg base ["script", "pool", "thing", "name", "kept"] "law" (defScope s_law) fa cdv A outer s H E).nox (defBody s_law) w_law :=
  (ss_cons (ss_set (i := 1) sc_law.nd (se_eqv gFn_eq (se_fn d__law_pool (hr.mono (by decide)) (by rfl) (sa_cons (se_var 0) (sa_cons se_int sa_nil)))))
  (ss_cons (ss_eqv gFor_eq (ss_for PassesOwn.never rfl (si_seq (se_eqv gFn_eq (se_fn d__law_names (hr.mono (by decide)) (by rfl) (sa_cons (se_var 1) sa_nil)))) (sg_name sc_law.nd) (ss_one (ss_eqv gIf_eq (ss_if (st_not (st_tru (se_eqv gFn_eq (se_fn d__law_asks_name (hr.mono (by decide)) (by rfl) (sa_cons (se_var 2) sa_nil))))) (ss_one (ss_ret se_bl)) ss_nil)))))
  (ss_cons (ss_eqv gFor_eq (ss_for PassesOwn.never rfl (si_seq (se_eqv gFn_eq (se_fn d__law_strangers (hr.mono (by decide)) (by rfl) (sa_cons (se_var 1) sa_nil)))) (sg_name sc_law.nd) (ss_one (ss_eqv gIf_eq (ss_if (st_not (st_tru (se_eqv gFn_eq (se_fn d__law_asks_name (hr.mono (by decide)) (by rfl) (sa_cons (se_var 2) sa_nil))))) (ss_one (ss_ret se_bl)) ss_nil)))))
  (ss_cons (ss_eqv gFor_eq (ss_for PassesOwn.never rfl (si_seq (se_eqv gFn_eq (se_fn d__law_dials (hr.mono (by decide)) (by rfl) (sa_cons (se_var 1) sa_nil)))) (sg_name sc_law.nd) (ss_one (ss_eqv gIf_eq (ss_if (st_not (st_tru (se_eqv gFn_eq (se_fn d__law_asks_dial (hr.mono (by decide)) (by rfl) (sa_cons (se_var 2) sa_nil))))) (ss_one (ss_ret se_bl)) ss_nil)))))
  (ss_cons (ss_set (i := 3) sc_law.nd (se_eqv gFn_eq (se_fn d__law_name (hr.mono (by decide)) (by rfl) (sa_cons (se_var 1) (sa_cons se_int sa_nil)))))
  (ss_cons (ss_set (i := 4) sc_law.nd (se_lst (sa_cons (se_var 3) (sa_cons (se_lst (sa_cons (se_var 3) (sa_cons se_int sa_nil))) sa_nil))))
  (ss_cons (ss_eqv gIf_eq (ss_if (st_bool (sw_eqv gOr_eq (sw_or (st_not (st_tru (se_eqv gFn_eq (se_fn d__law_asks_name (hr.mono (by decide)) (by rfl) (sa_cons (se_var 4) sa_nil))))) (sw_or1 (st_not (st_tru (se_eqv gFn_eq (se_fn d__law_asks_dial (hr.mono (by decide)) (by rfl) (sa_cons (se_var 4) sa_nil))))))))) (ss_one (ss_ret se_bl)) ss_nil))
  (ss_cons (ss_eqv gIf_eq (ss_if (st_bool (sw_eqv gOr_eq (sw_or (st_ne hr.units (se_len (by rfl) T.f_len (sa_cons (se_var 4) sa_nil)) se_int) (sw_eqv gOr_eq (sw_or (st_not (st_tru (se_eqv (gIsT_eq .str) (se_isT (Tn := "str") (by rfl) T.f_isinstance (by rfl) T.f_str (by decide +kernel) (se_ixG (se_var 4) se_int))))) (sw_eqv gOr_eq (sw_or (st_ne hr.units (se_ixG (se_var 4) se_int) (se_var 3)) (sw_or1 (st_not (st_tru (se_eqv (gIsT_eq .list) (se_isT (Tn := "list") (by rfl) T.f_isinstance (by rfl) T.f_list (by decide +kernel) (se_ixG (se_var 4) se_int))))))))))))) (ss_one (ss_ret se_bl)) ss_nil))
  (ss_one (ss_ret (se_eqv gAndV_eq (se_and (se_eq hr.units (se_len (by rfl) T.f_len (sa_cons (se_ixG (se_var 4) se_int) sa_nil)) se_int) (se_eqv gAndV_eq (se_and (se_eqv (gIsT_eq .str) (se_isT (Tn := "str") (by rfl) T.f_isinstance (by rfl) T.f_str (by decide +kernel) (se_ixG (se_ixG (se_var 4) se_int) se_int))) (se_eqv gAndV_eq (se_and (se_eq hr.units (se_ixG (se_ixG (se_var 4) se_int) se_int) (se_var 3)) (se_one (se_eqv gFn_eq (se_fn d__law_whole (hr.mono (by decide)) (by rfl) (sa_cons (se_ixG (se_ixG (se_var 4) se_int) se_int) sa_nil))))))))))))))))))))
end
end K01


set_option maxHeartbeats 0
/-! the head, the end -/
namespace K01
open PySem PySem.Spec PyProof.Rows L2 DL He
def dd_is_integer : He.DefD := ⟨("is_integer", none), "is_integer", "is_integer", defArgs s_is_integer, defBody s_is_integer, defScope s_is_integer, [], []⟩
def dd_name_fault : He.DefD := ⟨("name_fault", none), "name_fault", "name_fault", defArgs s_name_fault, defBody s_name_fault, defScope s_name_fault, [], []⟩
def dd_check_name : He.DefD := ⟨("check_name", none), "check_name", "check_name", defArgs s_check_name, defBody s_check_name, defScope s_check_name, [], []⟩
def dd_dial_fault : He.DefD := ⟨("dial_fault", none), "dial_fault", "dial_fault", defArgs s_dial_fault, defBody s_dial_fault, defScope s_dial_fault, [], []⟩
def dd_check_dial : He.DefD := ⟨("check_dial", none), "check_dial", "check_dial", defArgs s_check_dial, defBody s_check_dial, defScope s_check_dial, [], []⟩
def dd__law_pool : He.DefD := ⟨("_law_pool", none), "_law_pool", "_law_pool", defArgs s__law_pool, defBody s__law_pool, defScope s__law_pool, [], []⟩
def dd__law_draw : He.DefD := ⟨("_law_draw", none), "_law_draw", "_law_draw", defArgs s__law_draw, defBody s__law_draw, defScope s__law_draw, [], []⟩
def dd__law_whole : He.DefD := ⟨("_law_whole", none), "_law_whole", "_law_whole", defArgs s__law_whole, defBody s__law_whole, defScope s__law_whole, [], []⟩
def dd__law_letters : He.DefD := ⟨("_law_letters", none), "_law_letters", "_law_letters", defArgs s__law_letters, defBody s__law_letters, defScope s__law_letters, [], []⟩
def dd__law_name : He.DefD := ⟨("_law_name", none), "_law_name", "_law_name", defArgs s__law_name, defBody s__law_name, defScope s__law_name, [], []⟩
def dd__law_sign : He.DefD := ⟨("_law_sign", none), "_law_sign", "_law_sign", defArgs s__law_sign, defBody s__law_sign, defScope s__law_sign, [], []⟩
def dd__law_spoilt : He.DefD := ⟨("_law_spoilt", none), "_law_spoilt", "_law_spoilt", defArgs s__law_spoilt, defBody s__law_spoilt, defScope s__law_spoilt, [], []⟩
def dd__law_wrong_place : He.DefD := ⟨("_law_wrong_place", none), "_law_wrong_place", "_law_wrong_place", defArgs s__law_wrong_place, defBody s__law_wrong_place, defScope s__law_wrong_place, [], []⟩
def dd__law_asks_name : He.DefD := ⟨("_law_asks_name", none), "_law_asks_name", "_law_asks_name", defArgs s__law_asks_name, defBody s__law_asks_name, defScope s__law_asks_name, [], []⟩
def dd__law_names : He.DefD := ⟨("_law_names", none), "_law_names", "_law_names", defArgs s__law_names, defBody s__law_names, defScope s__law_names, [], []⟩
def dd__law_strangers : He.DefD := ⟨("_law_strangers", none), "_law_strangers", "_law_strangers", defArgs s__law_strangers, defBody s__law_strangers, defScope s__law_strangers, [], []⟩
def dd__law_dial_word : He.DefD := ⟨("_law_dial_word", none), "_law_dial_word", "_law_dial_word", defArgs s__law_dial_word, defBody s__law_dial_word, defScope s__law_dial_word, [], []⟩
def dd__law_asks_dial : He.DefD := ⟨("_law_asks_dial", none), "_law_asks_dial", "_law_asks_dial", defArgs s__law_asks_dial, defBody s__law_asks_dial, defScope s__law_asks_dial, [], []⟩
def dd__law_size : He.DefD := ⟨("_law_size", none), "_law_size", "_law_size", defArgs s__law_size, defBody s__law_size, defScope s__law_size, [], []⟩
def dd__law_turns : He.DefD := ⟨("_law_turns", none), "_law_turns", "_law_turns", defArgs s__law_turns, defBody s__law_turns, defScope s__law_turns, [], []⟩
def dd__law_dials : He.DefD := ⟨("_law_dials", none), "_law_dials", "_law_dials", defArgs s__law_dials, defBody s__law_dials, defScope s__law_dials, [], []⟩
def dd_law : He.DefD := ⟨("law", none), "law", "law", defArgs s_law, defBody s_law, defScope s_law, [], []⟩
def dd_init_BadDial : He.DefD := ⟨("BadDial", some "__init__"), "__init__", "BadDial.__init__", defArgs si_BadDial, defBody si_BadDial, defScope si_BadDial, [], []⟩
def dd_init_BadName : He.DefD := ⟨("BadName", some "__init__"), "__init__", "BadName.__init__", defArgs si_BadName, defBody si_BadName, defScope si_BadName, [], []⟩
def fn : List He.DefD := [dd_is_integer, dd_name_fault, dd_check_name, dd_dial_fault, dd_check_dial, dd__law_pool, dd__law_draw, dd__law_whole, dd__law_letters, dd__law_name, dd__law_sign, dd__law_spoilt, dd__law_wrong_place, dd__law_asks_name, dd__law_names, dd__law_strangers, dd__law_dial_word, dd__law_asks_dial, dd__law_size, dd__law_turns, dd__law_dials, dd_law, dd_init_BadDial, dd_init_BadName]
def fa : Facts := [gloB "is_integer", gloB "name_fault", gloB "check_name", gloB "dial_fault", gloB "check_dial", gloB "_law_pool", gloB "_law_draw", gloB "_law_whole", gloB "_law_letters", gloB "_law_name", gloB "_law_sign", gloB "_law_spoilt", gloB "_law_wrong_place", gloB "_law_asks_name", gloB "_law_names", gloB "_law_strangers", gloB "_law_dial_word", gloB "_law_asks_dial", gloB "_law_size", gloB "_law_turns", gloB "_law_dials", gloB "law", freB "abs", freB "bool", freB "enumerate", freB "int", freB "isinstance", freB "len", freB "list", freB "range", freB "str", freB "tuple", cstB "DIAL_MOST" k_DIAL_MOST, cstB "FIGURES" k_FIGURES, cstB "LETTERS" k_LETTERS, cstB "NAME_MOST" k_NAME_MOST, gloB "BadDial", gloB "BadName", gloB "CallError", gloB "DataError", gloB "DeskError", gloB "GainError", gloB "TextError", exB "BadName" (.own "GainError"), xcB "BadName", isB "BadName" (.own "BadName") true, isB "BadName" (.own "DataError") true, isAB "BadName" [(.own "BadDial"), (.own "CallError"), (.own "TextError"), (.own "DeskError")] false, nofB "BadName" "at", exB "BadDial" (.own "GainError"), xcB "BadDial", isB "BadDial" (.own "BadDial") true, isB "BadDial" (.own "DataError") true, isAB "BadDial" [(.own "BadName"), (.own "CallError"), (.own "TextError"), (.own "DeskError")] false, nofB "BadDial" "word", oexB "BadDial", initB "BadDial", nofsB "BadDial" ["word"], oexB "BadName", initB "BadName", nofsB "BadName" ["at"]]
abbrev R : PySem.W.OpenRow := PySem.W.OpenLaw.row PySem.Challenge.rw_everygain_k01_names_and_dials_checked
abbrev hk : PySem.W.Hook := hookX 4 fa fn
def ob (s : PySem.W.SharedT) : He.AlD := obsXG 4 fa fn (HandSHeadRun.getT s)
theorem ob_eq (s : PySem.W.SharedT) : ob s = hk.obs s.abs := obsXG_eq (HandSHeadRun.getT_eq s)
def loose0 : List Str := ["NAME_MOST", "DIAL_MOST", "LETTERS", "FIGURES", "GainError", "DataError", "BadName", "BadDial", "CallError", "TextError"]
def loose1 : List Str := ["DeskError", "is_integer", "name_fault", "check_name", "dial_fault", "check_dial", "_law_pool", "_law_draw", "_law_whole", "_law_letters"]
def loose2 : List Str := ["_law_name", "_law_sign", "_law_spoilt", "_law_wrong_place", "_law_asks_name", "_law_names", "_law_strangers", "_law_dial_word", "_law_asks_dial", "_law_size"]
def loose3 : List Str := ["_law_turns", "_law_dials"]
def loose : List Str := loose0 ++ loose1 ++ loose2 ++ loose3
theorem run (w : World) : HandSHeadRun.RunEq R (PySem.W.view R.prog [36]) hk ob 8000 loose w := by
  intro os
  kernel_rfl
theorem facts [WW] {P : Program} {w : World} (hW : w = WW.w) {K : PySem.W.Frag} (hca : ∀ n, WW.ca n = some (He.ga K n)) {h : Heap} {mg : Str → Option Value} {f : Addr} (X : K.In h) (G : h.Ns mainGlobals mg) (hfa : mg ("law" : Str) = some (.ref f)) (c : SaysX fa fn K) :
    ∃ fd : FuncData, (∀ (s : Shared) (v : Value), BindsTo s fd ⟨[v], []⟩ [("script", v)]) ∧ ∀ base : Heap, K.In base → base.Ns mainGlobals mg → FnD P w K mg base 5 f fd ["script"] c_law := by
  obtain ⟨fd_is_integer, F_is_integer⟩ := c.def_ 0 (d := dd_is_integer) rfl
  obtain ⟨fd_name_fault, F_name_fault⟩ := c.def_ 1 (d := dd_name_fault) rfl
  obtain ⟨fd_check_name, F_check_name⟩ := c.def_ 2 (d := dd_check_name) rfl
  obtain ⟨fd_dial_fault, F_dial_fault⟩ := c.def_ 3 (d := dd_dial_fault) rfl
  obtain ⟨fd_check_dial, F_check_dial⟩ := c.def_ 4 (d := dd_check_dial) rfl
  obtain ⟨fd__law_pool, F__law_pool⟩ := c.def_ 5 (d := dd__law_pool) rfl
  obtain ⟨fd__law_draw, F__law_draw⟩ := c.def_ 6 (d := dd__law_draw) rfl
  obtain ⟨fd__law_whole, F__law_whole⟩ := c.def_ 7 (d := dd__law_whole) rfl
  obtain ⟨fd__law_letters, F__law_letters⟩ := c.def_ 8 (d := dd__law_letters) rfl
  obtain ⟨fd__law_name, F__law_name⟩ := c.def_ 9 (d := dd__law_name) rfl
  obtain ⟨fd__law_sign, F__law_sign⟩ := c.def_ 10 (d := dd__law_sign) rfl
  obtain ⟨fd__law_spoilt, F__law_spoilt⟩ := c.def_ 11 (d := dd__law_spoilt) rfl
  obtain ⟨fd__law_wrong_place, F__law_wrong_place⟩ := c.def_ 12 (d := dd__law_wrong_place) rfl
  obtain ⟨fd__law_asks_name, F__law_asks_name⟩ := c.def_ 13 (d := dd__law_asks_name) rfl
  obtain ⟨fd__law_names, F__law_names⟩ := c.def_ 14 (d := dd__law_names) rfl
  obtain ⟨fd__law_strangers, F__law_strangers⟩ := c.def_ 15 (d := dd__law_strangers) rfl
  obtain ⟨fd__law_dial_word, F__law_dial_word⟩ := c.def_ 16 (d := dd__law_dial_word) rfl
  obtain ⟨fd__law_asks_dial, F__law_asks_dial⟩ := c.def_ 17 (d := dd__law_asks_dial) rfl
  obtain ⟨fd__law_size, F__law_size⟩ := c.def_ 18 (d := dd__law_size) rfl
  obtain ⟨fd__law_turns, F__law_turns⟩ := c.def_ 19 (d := dd__law_turns) rfl
  obtain ⟨fd__law_dials, F__law_dials⟩ := c.def_ 20 (d := dd__law_dials) rfl
  obtain ⟨fd_law, F_law⟩ := c.def_ 21 (d := dd_law) rfl
  obtain ⟨fdi_BadDial, Fi_BadDial⟩ := c.def_ 22 (d := dd_init_BadDial) rfl
  obtain ⟨fdi_BadName, Fi_BadName⟩ := c.def_ 23 (d := dd_init_BadName) rfl
  have T : Txt K mg := ⟨freB_ok X G (c.fact 22 (f := freB "abs") rfl), freB_ok X G (c.fact 23 (f := freB "bool") rfl), freB_ok X G (c.fact 24 (f := freB "enumerate") rfl), freB_ok X G (c.fact 25 (f := freB "int") rfl), freB_ok X G (c.fact 26 (f := freB "isinstance") rfl), freB_ok X G (c.fact 27 (f := freB "len") rfl), freB_ok X G (c.fact 28 (f := freB "list") rfl), freB_ok X G (c.fact 29 (f := freB "range") rfl), freB_ok X G (c.fact 30 (f := freB "str") rfl), freB_ok X G (c.fact 31 (f := freB "tuple") rfl), cstB_ok X G (c.fact 32 (f := cstB "DIAL_MOST" k_DIAL_MOST) rfl), cstB_ok X G (c.fact 33 (f := cstB "FIGURES" k_FIGURES) rfl), cstB_ok X G (c.fact 34 (f := cstB "LETTERS" k_LETTERS) rfl), cstB_ok X G (c.fact 35 (f := cstB "NAME_MOST" k_NAME_MOST) rfl), gloB_ok X G (c.fact 36 (f := gloB "BadDial") rfl), gloB_ok X G (c.fact 37 (f := gloB "BadName") rfl), gloB_ok X G (c.fact 38 (f := gloB "CallError") rfl), gloB_ok X G (c.fact 39 (f := gloB "DataError") rfl), gloB_ok X G (c.fact 40 (f := gloB "DeskError") rfl), gloB_ok X G (c.fact 41 (f := gloB "GainError") rfl), gloB_ok X G (c.fact 42 (f := gloB "TextError") rfl), hca "BadName", hca "BadDial", exB_ok (c.fact 43 (f := exB "BadName" (.own "GainError")) rfl), xcB_ok (c.fact 44 (f := xcB "BadName") rfl), isB_ok (c.fact 45 (f := isB "BadName" (.own "BadName") true) rfl), isB_ok (c.fact 46 (f := isB "BadName" (.own "DataError") true) rfl), isAB_ok (c.fact 47 (f := isAB "BadName" [(.own "BadDial"), (.own "CallError"), (.own "TextError"), (.own "DeskError")] false) rfl), He.eqO_ok (c.fact 48 (f := nofB "BadName" "at") rfl), exB_ok (c.fact 49 (f := exB "BadDial" (.own "GainError")) rfl), xcB_ok (c.fact 50 (f := xcB "BadDial") rfl), isB_ok (c.fact 51 (f := isB "BadDial" (.own "BadDial") true) rfl), isB_ok (c.fact 52 (f := isB "BadDial" (.own "DataError") true) rfl), isAB_ok (c.fact 53 (f := isAB "BadDial" [(.own "BadName"), (.own "CallError"), (.own "TextError"), (.own "DeskError")] false) rfl), He.eqO_ok (c.fact 54 (f := nofB "BadDial" "word") rfl)⟩
  have g_is_integer := gloB_ok X G (c.fact 0 (f := gloB "is_integer") rfl)
  have g_name_fault := gloB_ok X G (c.fact 1 (f := gloB "name_fault") rfl)
  have g_check_name := gloB_ok X G (c.fact 2 (f := gloB "check_name") rfl)
  have g_dial_fault := gloB_ok X G (c.fact 3 (f := gloB "dial_fault") rfl)
  have g_check_dial := gloB_ok X G (c.fact 4 (f := gloB "check_dial") rfl)
  have g__law_pool := gloB_ok X G (c.fact 5 (f := gloB "_law_pool") rfl)
  have g__law_draw := gloB_ok X G (c.fact 6 (f := gloB "_law_draw") rfl)
  have g__law_whole := gloB_ok X G (c.fact 7 (f := gloB "_law_whole") rfl)
  have g__law_letters := gloB_ok X G (c.fact 8 (f := gloB "_law_letters") rfl)
  have g__law_name := gloB_ok X G (c.fact 9 (f := gloB "_law_name") rfl)
  have g__law_sign := gloB_ok X G (c.fact 10 (f := gloB "_law_sign") rfl)
  have g__law_spoilt := gloB_ok X G (c.fact 11 (f := gloB "_law_spoilt") rfl)
  have g__law_wrong_place := gloB_ok X G (c.fact 12 (f := gloB "_law_wrong_place") rfl)
  have g__law_asks_name := gloB_ok X G (c.fact 13 (f := gloB "_law_asks_name") rfl)
  have g__law_names := gloB_ok X G (c.fact 14 (f := gloB "_law_names") rfl)
  have g__law_strangers := gloB_ok X G (c.fact 15 (f := gloB "_law_strangers") rfl)
  have g__law_dial_word := gloB_ok X G (c.fact 16 (f := gloB "_law_dial_word") rfl)
  have g__law_asks_dial := gloB_ok X G (c.fact 17 (f := gloB "_law_asks_dial") rfl)
  have g__law_size := gloB_ok X G (c.fact 18 (f := gloB "_law_size") rfl)
  have g__law_turns := gloB_ok X G (c.fact 19 (f := gloB "_law_turns") rfl)
  have g__law_dials := gloB_ok X G (c.fact 20 (f := gloB "_law_dials") rfl)
  have g_law := gloB_ok X G (c.fact 21 (f := gloB "law") rfl)
  have e := hfa.symm.trans g_law
  cases e
  have n_is_integer : Binds K fd_is_integer ["thing"] [] := FunD.bindsN F_is_integer fun _ _ _ _ _ _ us hl => match us, hl with | [_], _ => rfl
  have n_name_fault : Binds K fd_name_fault ["thing"] [] := FunD.bindsN F_name_fault fun _ _ _ _ _ _ us hl => match us, hl with | [_], _ => rfl
  have n_check_name : Binds K fd_check_name ["thing"] [] := FunD.bindsN F_check_name fun _ _ _ _ _ _ us hl => match us, hl with | [_], _ => rfl
  have n_dial_fault : Binds K fd_dial_fault ["thing"] [] := FunD.bindsN F_dial_fault fun _ _ _ _ _ _ us hl => match us, hl with | [_], _ => rfl
  have n_check_dial : Binds K fd_check_dial ["thing"] [] := FunD.bindsN F_check_dial fun _ _ _ _ _ _ us hl => match us, hl with | [_], _ => rfl
  have n__law_pool : Binds K fd__law_pool ["script", "salt"] [] := FunD.bindsN F__law_pool fun _ _ _ _ _ _ us hl => match us, hl with | [_, _], _ => rfl
  have n__law_draw : Binds K fd__law_draw ["pool", "many"] [] := FunD.bindsN F__law_draw fun _ _ _ _ _ _ us hl => match us, hl with | [_, _], _ => rfl
  have n__law_whole : Binds K fd__law_whole ["thing"] [] := FunD.bindsN F__law_whole fun _ _ _ _ _ _ us hl => match us, hl with | [_], _ => rfl
  have n__law_letters : Binds K fd__law_letters [] [] := FunD.bindsN F__law_letters fun _ _ _ _ _ _ us hl => match us, hl with | [], _ => rfl
  have n__law_name : Binds K fd__law_name ["pool", "many"] [] := FunD.bindsN F__law_name fun _ _ _ _ _ _ us hl => match us, hl with | [_, _], _ => rfl
  have n__law_sign : Binds K fd__law_sign ["pool"] [] := FunD.bindsN F__law_sign fun _ _ _ _ _ _ us hl => match us, hl with | [_], _ => rfl
  have n__law_spoilt : Binds K fd__law_spoilt ["name", "place", "sign"] [] := FunD.bindsN F__law_spoilt fun _ _ _ _ _ _ us hl => match us, hl with | [_, _, _], _ => rfl
  have n__law_wrong_place : Binds K fd__law_wrong_place ["thing"] [] := FunD.bindsN F__law_wrong_place fun _ _ _ _ _ _ us hl => match us, hl with | [_], _ => rfl
  have n__law_asks_name : Binds K fd__law_asks_name ["thing"] [] := FunD.bindsN F__law_asks_name fun _ _ _ _ _ _ us hl => match us, hl with | [_], _ => rfl
  have n__law_names : Binds K fd__law_names ["pool"] [] := FunD.bindsN F__law_names fun _ _ _ _ _ _ us hl => match us, hl with | [_], _ => rfl
  have n__law_strangers : Binds K fd__law_strangers ["pool"] [] := FunD.bindsN F__law_strangers fun _ _ _ _ _ _ us hl => match us, hl with | [_], _ => rfl
  have n__law_dial_word : Binds K fd__law_dial_word ["thing"] [] := FunD.bindsN F__law_dial_word fun _ _ _ _ _ _ us hl => match us, hl with | [_], _ => rfl
  have n__law_asks_dial : Binds K fd__law_asks_dial ["thing"] [] := FunD.bindsN F__law_asks_dial fun _ _ _ _ _ _ us hl => match us, hl with | [_], _ => rfl
  have n__law_size : Binds K fd__law_size ["pool"] [] := FunD.bindsN F__law_size fun _ _ _ _ _ _ us hl => match us, hl with | [_], _ => rfl
  have n__law_turns : Binds K fd__law_turns ["many"] [] := FunD.bindsN F__law_turns fun _ _ _ _ _ _ us hl => match us, hl with | [_], _ => rfl
  have n__law_dials : Binds K fd__law_dials ["pool"] [] := FunD.bindsN F__law_dials fun _ _ _ _ _ _ us hl => match us, hl with | [_], _ => rfl
  have n_law : Binds K fd_law ["script"] [] := FunD.bindsN F_law fun _ _ _ _ _ _ us hl => match us, hl with | [_], _ => rfl
  have bL := FunD.bindsA (ps := ["script"]) F_law fun _ _ _ _ _ _ us hl => match us, hl with | [_], _ => rfl
  refine ⟨fd_law, fun s v => bL s [v] rfl, fun base _ _ => ?_⟩
  have ni_BadDial : Binds K fdi_BadDial ["self", "word"] [] := FunD.bindsN Fi_BadDial fun _ _ _ _ _ _ us hl => match us, hl with | [_, _], _ => rfl
  have x_BadDial : ClsD P w K mg base 1 "BadDial" ["word"] := clsD_of (T.ca_BadDial) T.m_BadDial (oexB_ok (c.fact 55 (f := oexB "BadDial") rfl)) (initB_ok (c.fact 56 (f := initB "BadDial") rfl)) (fn_init1 Fi_BadDial sc_init_BadDial) ni_BadDial (nofsB_ok (c.fact 57 (f := nofsB "BadDial" ["word"]) rfl))
  have ni_BadName : Binds K fdi_BadName ["self", "at"] [] := FunD.bindsN Fi_BadName fun _ _ _ _ _ _ us hl => match us, hl with | [_, _], _ => rfl
  have x_BadName : ClsD P w K mg base 1 "BadName" ["at"] := clsD_of (T.ca_BadName) T.m_BadName (oexB_ok (c.fact 58 (f := oexB "BadName") rfl)) (initB_ok (c.fact 59 (f := initB "BadName") rfl)) (fn_init1 Fi_BadName sc_init_BadName) ni_BadName (nofsB_ok (c.fact 60 (f := nofsB "BadName" ["at"]) rfl))
  have d_is_integer : Def P w K mg base 1 "is_integer" ["thing"] c_is_integer := ⟨_, _, fn_okF F_is_integer sc_is_integer (fun cdv A outer s H E hr => b_is_integer hW T  _ cdv A outer s H E hr) v_is_integer, g_is_integer, F_is_integer.kp, n_is_integer⟩
  have d_name_fault : Def P w K mg base 1 "name_fault" ["thing"] c_name_fault := ⟨_, _, fn_okF F_name_fault sc_name_fault (fun cdv A outer s H E hr => b_name_fault hW T  _ cdv A outer s H E hr) v_name_fault, g_name_fault, F_name_fault.kp, n_name_fault⟩
  have d_check_name : DefX P w K mg base 3 "check_name" ["thing"] c_check_name := ⟨_, _, fn_xF F_check_name sc_check_name (fun cdv A outer s H E hr => b_check_name hW T x_BadName d_name_fault _ cdv A outer s H E hr) v_check_name, g_check_name, F_check_name.kp, n_check_name⟩
  have d_dial_fault : Def P w K mg base 2 "dial_fault" ["thing"] c_dial_fault := ⟨_, _, fn_okF F_dial_fault sc_dial_fault (fun cdv A outer s H E hr => b_dial_fault hW T d_is_integer _ cdv A outer s H E hr) v_dial_fault, g_dial_fault, F_dial_fault.kp, n_dial_fault⟩
  have d_check_dial : DefX P w K mg base 3 "check_dial" ["thing"] c_check_dial := ⟨_, _, fn_xF F_check_dial sc_check_dial (fun cdv A outer s H E hr => b_check_dial hW T x_BadDial d_dial_fault _ cdv A outer s H E hr) v_check_dial, g_check_dial, F_check_dial.kp, n_check_dial⟩
  have d__law_pool : Def P w K mg base 1 "_law_pool" ["script", "salt"] c__law_pool := ⟨_, _, fn_okF F__law_pool sc__law_pool (fun cdv A outer s H E hr => b__law_pool hW T  _ cdv A outer s H E hr) v__law_pool, g__law_pool, F__law_pool.kp, n__law_pool⟩
  have d__law_draw : Def P w K mg base 1 "_law_draw" ["pool", "many"] c__law_draw := ⟨_, _, fn_okF F__law_draw sc__law_draw (fun cdv A outer s H E hr => b__law_draw hW T  _ cdv A outer s H E hr) v__law_draw, g__law_draw, F__law_draw.kp, n__law_draw⟩
  have d__law_whole : Def P w K mg base 1 "_law_whole" ["thing"] c__law_whole := ⟨_, _, fn_okF F__law_whole sc__law_whole (fun cdv A outer s H E hr => b__law_whole hW T  _ cdv A outer s H E hr) v__law_whole, g__law_whole, F__law_whole.kp, n__law_whole⟩
  have dh__law_whole : DefH P w K mg base 1 "_law_whole" ["thing"] c__law_whole := ⟨_, _, fn_okH F__law_whole sc__law_whole (fun cdv A outer s H E p hot hr => bh__law_whole hW T  _ cdv A outer s H E p hot hr) v__law_whole, g__law_whole, F__law_whole.kp, n__law_whole⟩
  have d__law_letters : Def P w K mg base 1 "_law_letters" [] c__law_letters := ⟨_, _, fn_okF F__law_letters sc__law_letters (fun cdv A outer s H E hr => b__law_letters hW T  _ cdv A outer s H E hr) v__law_letters, g__law_letters, F__law_letters.kp, n__law_letters⟩
  have d__law_name : Def P w K mg base 2 "_law_name" ["pool", "many"] c__law_name := ⟨_, _, fn_okF F__law_name sc__law_name (fun cdv A outer s H E hr => b__law_name hW T d__law_letters d__law_draw _ cdv A outer s H E hr) v__law_name, g__law_name, F__law_name.kp, n__law_name⟩
  have d__law_sign : Def P w K mg base 2 "_law_sign" ["pool"] c__law_sign := ⟨_, _, fn_okF F__law_sign sc__law_sign (fun cdv A outer s H E hr => b__law_sign hW T d__law_draw _ cdv A outer s H E hr) v__law_sign, g__law_sign, F__law_sign.kp, n__law_sign⟩
  have d__law_spoilt : Def P w K mg base 1 "_law_spoilt" ["name", "place", "sign"] c__law_spoilt := ⟨_, _, fn_okF F__law_spoilt sc__law_spoilt (fun cdv A outer s H E hr => b__law_spoilt hW T  _ cdv A outer s H E hr) v__law_spoilt, g__law_spoilt, F__law_spoilt.kp, n__law_spoilt⟩
  have d__law_wrong_place : Def P w K mg base 2 "_law_wrong_place" ["thing"] c__law_wrong_place := ⟨_, _, fn_okF F__law_wrong_place sc__law_wrong_place (fun cdv A outer s H E hr => b__law_wrong_place hW T d__law_letters _ cdv A outer s H E hr) v__law_wrong_place, g__law_wrong_place, F__law_wrong_place.kp, n__law_wrong_place⟩
  have d__law_asks_name : Def P w K mg base 4 "_law_asks_name" ["thing"] c__law_asks_name := ⟨_, _, fn_okF F__law_asks_name sc__law_asks_name (fun cdv A outer s H E hr => b__law_asks_name hW T d__law_wrong_place d_check_name dh__law_whole _ cdv A outer s H E hr) v__law_asks_name, g__law_asks_name, F__law_asks_name.kp, n__law_asks_name⟩
  have d__law_names : Def P w K mg base 3 "_law_names" ["pool"] c__law_names := ⟨_, _, fn_okF F__law_names sc__law_names (fun cdv A outer s H E hr => b__law_names hW T d__law_name d__law_draw d__law_spoilt d__law_sign _ cdv A outer s H E hr) v__law_names, g__law_names, F__law_names.kp, n__law_names⟩
  have d__law_strangers : Def P w K mg base 3 "_law_strangers" ["pool"] c__law_strangers := ⟨_, _, fn_okF F__law_strangers sc__law_strangers (fun cdv A outer s H E hr => b__law_strangers hW T d__law_name d__law_draw _ cdv A outer s H E hr) v__law_strangers, g__law_strangers, F__law_strangers.kp, n__law_strangers⟩
  have d__law_dial_word : Def P w K mg base 2 "_law_dial_word" ["thing"] c__law_dial_word := ⟨_, _, fn_okF F__law_dial_word sc__law_dial_word (fun cdv A outer s H E hr => b__law_dial_word hW T d__law_whole _ cdv A outer s H E hr) v__law_dial_word, g__law_dial_word, F__law_dial_word.kp, n__law_dial_word⟩
  have d__law_asks_dial : Def P w K mg base 4 "_law_asks_dial" ["thing"] c__law_asks_dial := ⟨_, _, fn_okF F__law_asks_dial sc__law_asks_dial (fun cdv A outer s H E hr => b__law_asks_dial hW T d__law_dial_word d_check_dial _ cdv A outer s H E hr) v__law_asks_dial, g__law_asks_dial, F__law_asks_dial.kp, n__law_asks_dial⟩
  have d__law_size : Def P w K mg base 2 "_law_size" ["pool"] c__law_size := ⟨_, _, fn_okF F__law_size sc__law_size (fun cdv A outer s H E hr => b__law_size hW T d__law_draw _ cdv A outer s H E hr) v__law_size, g__law_size, F__law_size.kp, n__law_size⟩
  have d__law_turns : Def P w K mg base 1 "_law_turns" ["many"] c__law_turns := ⟨_, _, fn_okF F__law_turns sc__law_turns (fun cdv A outer s H E hr => b__law_turns hW T  _ cdv A outer s H E hr) v__law_turns, g__law_turns, F__law_turns.kp, n__law_turns⟩
  have d__law_dials : Def P w K mg base 3 "_law_dials" ["pool"] c__law_dials := ⟨_, _, fn_okF F__law_dials sc__law_dials (fun cdv A outer s H E hr => b__law_dials hW T d__law_size d__law_turns d__law_draw _ cdv A outer s H E hr) v__law_dials, g__law_dials, F__law_dials.kp, n__law_dials⟩
  exact fn_okF F_law sc_law (fun cdv A outer s H E hr => b_law hW T d__law_pool d__law_names d__law_asks_name d__law_strangers d__law_dials d__law_asks_dial d__law_name d__law_whole _ cdv A outer s H E hr) v_law
end K01
open PySem PySem.W PySem.Calls PyProof.Rows
theorem PySem.Challenge.cw_everygain_k01_names_and_dials_checked_holds : PySem.Challenge.rw_everygain_k01_names_and_dials_checked.Holds := by
  w_on; o_law
  refine HandSHeadRun.head_any (r := OpenLaw.row PySem.Challenge.rw_everygain_k01_names_and_dials_checked) (q := view (OpenLaw.row PySem.Challenge.rw_everygain_k01_names_and_dials_checked).prog [36]) (H := K01.hk) (ob := K01.ob) (M := 8000) (loose := K01.loose) (d := HandSHeadRun.topDef (OpenLaw.row PySem.Challenge.rw_everygain_k01_names_and_dials_checked).prog 36) (kwd := []) K01.ob_eq
    (by kernel_rfl) (fun s => by kernel_rfl) K01.run (by kernel_rfl) (by kernel_rfl) (by kernel_rfl) (by rfl) (by first | assumption | decide +kernel) (by decide +kernel) ⟨rfl, rfl, rfl, rfl, rfl, by decide +kernel⟩ ?hw ?hc
  case hw => w_witness2
  case hc =>
    refine L2.walk_ofE (l := PySem.Challenge.rw_everygain_k01_names_and_dials_checked) (n := 63) (k := 5) (x := "script") (CX := L2.CX0) rfl (by decide) (by kernel_rfl) ⟨rfl, by decide, by decide⟩ ?F (fun _ _ _ _ z => z)
    intro w mg fa h Y G hmg0
    obtain ⟨K, KX, c⟩ := Y
    have hmg : mg ("law" : PySem.Str) = some (.ref fa) := by
      have e : (HandSHeadRun.topDef (OpenLaw.row PySem.Challenge.rw_everygain_k01_names_and_dials_checked).prog 36).name = ("law" : PySem.Str) := by kernel_rfl
      rw [← e]
      exact hmg0
    letI : DL.WW := { w := w, ca := fun n => some (He.ga K n) }
    obtain ⟨fd, hb, hF⟩ := K01.facts (P := (PySem.Challenge.rw_everygain_k01_names_and_dials_checked).prog) (w := w) rfl (fun _ => rfl) KX G hmg c
    exact ⟨K, fd, DL.SpD K 1 K01.c_law, KX, hb, fun H a ns hl _ hS => DL.law_sp (np := 1) (E := fun _ _ _ => False) (K01.law_in hl) hS, hF⟩

