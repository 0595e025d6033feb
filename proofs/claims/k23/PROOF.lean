import PyProof.Rows.All
import PyProof.ReprReads
import KE.SortData
import Wide.All
import OpenK.AllK
import Wide.FinOn
import HandS.ForMost
import HandS.Deep
import HandS.IsInst
import HandS.TupAny
import HandS.DictComp
import HandS.Defaults
import KE.SortKeyHeap
import HandS.Lambda
import HandS.SortKw
import PyProof.ReprRoads
import KE.KStateDown
import HandS.Ends
import HandS.More
import HandS.Head0
import HandS.Head1
import HandS.Head2
import HandS.HeadHook1
import HandS.HeadHook2
import HandS.HeadHook3
import HandS.HeadHook4
import HandS.EndBits
import HandS.EndTab
import PySem.Challenge.RW_openrules_k23_whole_new_relations_change
set_option Elab.async false
set_option linter.all false
set_option maxRecDepth 100000
/-! Terms: their data, texts, order. -/
namespace K23
open PySem

/-- a term or an atom -/
inductive T where
  | v (n : Nat)
  | a (f : Str) (as : List T)
mutual
def toD : T → PyData
  | .v n => .int n
  | .a f as => .tuple (.str f :: toDs as)
def toDs : List T → List PyData
  | [] => []
  | t :: ts => toD t :: toDs ts
end
theorem toDs_map : ∀ ts : List T, toDs ts = ts.map toD
  | [] => by rw [toDs, List.map_nil]
  | t :: ts => by rw [toDs, toDs_map ts, List.map_cons]
/-- a sign of a name -/
def Sg (c : Nat) : Prop := (97 ≤ c ∧ c ≤ 122) ∨ (65 ≤ c ∧ c ≤ 90) ∨ (48 ≤ c ∧ c ≤ 57) ∨ c = 61
def Nm (f : Str) : Prop := (∀ c ∈ f.cps.toList, Sg c) ∧ f.length ≤ 20
mutual
/-- ground, its names are names -/
def Gd : T → Prop
  | .v _ => False
  | .a f as => Nm f ∧ Gds as
def Gds : List T → Prop
  | [] => True
  | t :: ts => Gd t ∧ Gds ts
end
theorem gds_iff : ∀ {ts : List T}, Gds ts ↔ ∀ t ∈ ts, Gd t
  | [] => by simp [Gds]
  | t :: ts => by simp [Gds, gds_iff (ts := ts)]
mutual
def size : T → Nat
  | .v _ => 1
  | .a _ as => 1 + sizes as
def sizes : List T → Nat
  | [] => 0
  | t :: ts => size t + sizes ts
end
mutual
def dep : T → Nat
  | .v _ => 1
  | .a _ as => 1 + deps as
def deps : List T → Nat
  | [] => 0
  | t :: ts => max (dep t) (deps ts)
end

/-! ### the text -/
def tl : List T → List Nat
  | [] => [44, 41]
  | _ :: _ => [41]
mutual
def code : T → List Nat
  | .v _ => []
  | .a f as => 40 :: 39 :: (f.cps.toList ++ 39 :: (codes as ++ tl as))
def codes : List T → List Nat
  | [] => []
  | t :: ts => 44 :: 32 :: (code t ++ codes ts)
end
theorem sg_ne39 {c : Nat} (h : Sg c) : c ≠ 39 := by unfold Sg at h; omega
theorem name_cut : ∀ {f g r s : List Nat}, (∀ c ∈ f, Sg c) → (∀ c ∈ g, Sg c) → f ++ 39 :: r = g ++ 39 :: s → f = g ∧ r = s
  | [], [], r, s, _, _, h => by simpa using h
  | [], y :: g, r, s, _, hg, h => by
    have e : 39 = y := (List.cons.inj h).1
    exact absurd e.symm (sg_ne39 (hg y List.mem_cons_self))
  | x :: f, [], r, s, hf, _, h => by
    have e : x = 39 := (List.cons.inj h).1
    exact absurd e (sg_ne39 (hf x List.mem_cons_self))
  | x :: f, y :: g, r, s, hf, hg, h => by
    obtain ⟨e1, e2⟩ := List.cons.inj h
    obtain ⟨h1, h2⟩ := name_cut (fun c hc => hf c (List.mem_cons_of_mem _ hc)) (fun c hc => hg c (List.mem_cons_of_mem _ hc)) e2
    exact ⟨by rw [e1, h1], h2⟩
theorem str_eq {x y : Str} (h : x.cps.toList = y.cps.toList) : x = y := PySem.W.str_of_cps h
mutual
theorem code_inj : ∀ (t u : T) (r s : List Nat), Gd t → Gd u → code t ++ r = code u ++ s → t = u ∧ r = s
  | .v _, _, _, _, h, _, _ => by simp [Gd] at h
  | .a _ _, .v _, _, _, _, h, _ => by simp [Gd] at h
  | .a f as, .a g bs, r, s, ht, hu, h => by
    rw [Gd] at ht hu
    rw [code, code] at h
    simp only [List.cons_append, List.append_assoc, List.cons.injEq, true_and] at h
    obtain ⟨e1, e2⟩ := name_cut ht.1.1 hu.1.1 h
    have ef : f = g := str_eq e1
    cases as with
    | nil =>
      cases bs with
      | nil =>
        simp only [codes, tl, List.nil_append, List.cons_append, List.cons.injEq, true_and] at e2
        exact ⟨by rw [ef], e2⟩
      | cons u us =>
        simp only [codes, tl, List.nil_append, List.cons_append, List.cons.injEq, true_and] at e2
        exact absurd e2.1 (by decide)
    | cons t ts =>
      cases bs with
      | nil =>
        simp only [codes, tl, List.nil_append, List.cons_append, List.cons.injEq, true_and] at e2
        exact absurd e2.1 (by decide)
      | cons u us =>
        simp only [tl, List.cons_append, List.nil_append] at e2
        obtain ⟨h1, h2⟩ := codes_inj (t :: ts) (u :: us) r s ht.2 hu.2 e2
        exact ⟨by rw [ef, h1], h2⟩
theorem codes_inj : ∀ (ts us : List T) (r s : List Nat), Gds ts → Gds us → codes ts ++ 41 :: r = codes us ++ 41 :: s → ts = us ∧ r = s
  | [], [], r, s, _, _, h => by simpa [codes] using h
  | [], u :: us, r, s, _, _, h => by simp [codes] at h
  | t :: ts, [], r, s, _, _, h => by simp [codes] at h
  | t :: ts, u :: us, r, s, ht, hu, h => by
    rw [Gds] at ht hu
    rw [codes, codes] at h
    simp only [List.cons_append, List.append_assoc, List.cons.injEq, true_and] at h
    obtain ⟨e1, e2⟩ := code_inj t u _ _ ht.1 hu.1 h
    obtain ⟨e3, e4⟩ := codes_inj ts us r s ht.2 hu.2 e2
    exact ⟨by rw [e1, e3], e4⟩
end
theorem print_ok : ∀ c : Nat, c < 128 → 32 < c → c ≠ 127 → PySem.Unicode.isPrintable c = true := by decide +kernel
theorem char_ok {c : Nat} (h : Sg c) : PySem.Builtin.Str.reprChar 39 c = [c] := by
  have hp : PySem.Unicode.isPrintable c = true := print_ok c (by unfold Sg at h; omega) (by unfold Sg at h; omega) (by unfold Sg at h; omega)
  have n1 : (c == 39) = false := beq_eq_false_iff_ne.mpr (by unfold Sg at h; omega)
  have n2 : (c == 92) = false := beq_eq_false_iff_ne.mpr (by unfold Sg at h; omega)
  have n3 : (c == 10) = false := beq_eq_false_iff_ne.mpr (by unfold Sg at h; omega)
  have n4 : (c == 13) = false := beq_eq_false_iff_ne.mpr (by unfold Sg at h; omega)
  have n5 : (c == 9) = false := beq_eq_false_iff_ne.mpr (by unfold Sg at h; omega)
  unfold PySem.Builtin.Str.reprChar
  simp [n1, n2, n3, n4, n5, hp]

/-! ### the text that the model shows -/
theorem str_app (x y : Str) : (x ++ y).cps.toList = x.cps.toList ++ y.cps.toList := by
  show (x.cps ++ y.cps).toList = _
  simp
theorem name_text {f : Str} (h : ∀ c ∈ f.cps.toList, Sg c) : (reprText f).cps.toList = 39 :: (f.cps.toList ++ [39]) := by
  have hq : reprQuote f = 39 := by
    unfold reprQuote
    have hc : f.cps.contains 39 = false := by
      cases q : f.cps.contains 39 with
      | false => rfl
      | true =>
        have hm : 39 ∈ f.cps := by simpa using q
        exact absurd rfl (sg_ne39 (h 39 (by simpa using hm)))
    rw [hc]
    rfl
  unfold reprText
  rw [hq]
  have key : ∀ (l : List Nat) (acc : Array Nat), (∀ c ∈ l, Sg c) → (l.foldl (fun out c => out ++ (PySem.Builtin.Str.reprChar 39 c).toArray) acc).toList = acc.toList ++ l := by
    intro l
    induction l with
    | nil => intro acc _; simp
    | cons c l ih =>
      intro acc hl
      rw [List.foldl_cons, ih _ (fun d hd => hl d (List.mem_cons_of_mem _ hd)), char_ok (hl c List.mem_cons_self)]
      simp
  have e := key f.cps.toList #[39] h
  rw [Array.foldl_toList] at e
  show (Array.push _ 39).toList = _
  rw [Array.toList_push, e]
  simp
theorem join_cons (sep x : Str) : ∀ xs : List Str, (Str.join sep (x :: xs)).cps.toList = x.cps.toList ++ xs.flatMap (fun y => sep.cps.toList ++ y.cps.toList)
  | [] => by rw [Str.join]; simp
  | y :: ys => by
    rw [Str.join, str_app, str_app, join_cons sep y ys]
    · simp [List.append_assoc]
    · intro h; cases h
theorem comma : (", " : Str).cps.toList = [44, 32] := by decide
theorem shownAll_len : ∀ ts : List T, (PyData.shownAll (toDs ts)).length = ts.length
  | [] => by simp [toDs, PyData.shownAll]
  | t :: ts => by simp [toDs, PyData.shownAll, shownAll_len ts]
mutual
theorem shown_code : ∀ t : T, Gd t → (toD t).shown.cps.toList = code t
  | .v _, h => by simp [Gd] at h
  | .a f as, h => by
    rw [Gd] at h
    rw [toD, PyData.shown, PyData.shownAll, PyData.shown, tupleText, str_app, str_app, join_cons, name_text h.1.1, comma, shown_codes as h.2]
    have e1 : ("(" : Str).cps.toList = [40] := by decide
    have e2 : ((",)" : String) : Str).cps.toList = [44, 41] := by decide
    have e3 : ((")" : String) : Str).cps.toList = [41] := by decide
    rw [e1, code]
    cases as with
    | nil =>
      have hl : ((reprText f :: PyData.shownAll (toDs ([] : List T))).length == 1) = true := by simp [toDs, PyData.shownAll]
      simp only [hl, if_true, e2, codes, tl]
      simp
    | cons t ts =>
      have hl : ((reprText f :: PyData.shownAll (toDs (t :: ts))).length == 1) = false := by
        rw [List.length_cons, shownAll_len]
        simp
      simp only [hl, Bool.false_eq_true, if_false, e3, tl]
      simp
theorem shown_codes : ∀ ts : List T, Gds ts → (PyData.shownAll (toDs ts)).flatMap (fun y => [44, 32] ++ y.cps.toList) = codes ts
  | [], _ => by rw [toDs, PyData.shownAll, codes]; rfl
  | t :: ts, h => by
    rw [Gds] at h
    rw [toDs, PyData.shownAll, List.flatMap_cons, shown_code t h.1, shown_codes ts h.2, codes]
    rfl
end
theorem shown_inj {t u : T} (ht : Gd t) (hu : Gd u) (h : (toD t).shown = (toD u).shown) : t = u := by
  have e : code t ++ [] = code u ++ [] := by rw [← shown_code t ht, ← shown_code u hu, h]
  exact (code_inj t u [] [] ht hu e).1
mutual
theorem code_len : ∀ t : T, Gd t → (code t).length + 2 ≤ 32 * size t
  | .v _, h => by simp [Gd] at h
  | .a f as, h => by
    rw [Gd] at h
    have h1 : f.cps.toList.length ≤ 20 := by
      have := h.1.2
      unfold Str.length at this
      simpa using this
    have h2 := codes_len as h.2
    have h3 : (tl as).length ≤ 2 := by cases as <;> simp [tl]
    rw [code, size]
    simp only [List.length_cons, List.length_append]
    omega
theorem codes_len : ∀ ts : List T, Gds ts → (codes ts).length ≤ 32 * sizes ts
  | [], _ => by simp [codes]
  | t :: ts, h => by
    rw [Gds] at h
    have h1 := code_len t h.1
    have h2 := codes_len ts h.2
    rw [codes, sizes]
    simp only [List.length_cons, List.length_append]
    omega
end

/-! ### other facts of the datum -/
mutual
theorem eqv_iff : ∀ t u : T, Gd t → Gd u → (PyData.eqv (toD t) (toD u) = true ↔ t = u)
  | .v _, _, h, _ => by simp [Gd] at h
  | .a _ _, .v _, _, h => by simp [Gd] at h
  | .a f as, .a g bs, ht, hu => by
    rw [Gd] at ht hu
    rw [toD, toD, PyData.eqv, PyData.eqvAll, PyData.eqv, Bool.and_eq_true, eqvs_iff as bs ht.2 hu.2]
    simp
theorem eqvs_iff : ∀ ts us : List T, Gds ts → Gds us → (PyData.eqvAll (toDs ts) (toDs us) = true ↔ ts = us)
  | [], [], _, _ => by simp [toDs, PyData.eqvAll]
  | [], u :: us, _, _ => by simp [toDs, PyData.eqvAll]
  | t :: ts, [], _, _ => by simp [toDs, PyData.eqvAll]
  | t :: ts, u :: us, ht, hu => by
    rw [Gds] at ht hu
    rw [toDs, toDs, PyData.eqvAll, Bool.and_eq_true, eqv_iff t u ht.1 hu.1, eqvs_iff ts us ht.2 hu.2]
    simp
end
mutual
theorem alike_gd : ∀ t u : T, Gd t → Gd u → PySem.W.alike (toD t) (toD u) = true
  | .v _, _, h, _ => by simp [Gd] at h
  | .a _ _, .v _, _, h => by simp [Gd] at h
  | .a f as, .a g bs, ht, hu => by
    rw [Gd] at ht hu
    simp only [toD, PySem.W.alike, PySem.W.alikeAll, alikes_gd as bs ht.2 hu.2, Bool.and_self]
theorem alikes_gd : ∀ ts us : List T, Gds ts → Gds us → PySem.W.alikeAll (toDs ts) (toDs us) = true
  | [], _, _, _ => by simp [toDs, PySem.W.alikeAll]
  | t :: ts, [], _, _ => by simp [toDs, PySem.W.alikeAll]
  | t :: ts, u :: us, ht, hu => by
    rw [Gds] at ht hu
    simp only [toDs, PySem.W.alikeAll, alike_gd t u ht.1 hu.1, alikes_gd ts us ht.2 hu.2, Bool.and_self]
end
mutual
theorem toks_inj : ∀ (t u : T) (r s : List (Int ⊕ List Nat)), Gd t → Gd u → PySem.W.keyToks (toD t) ++ r = PySem.W.keyToks (toD u) ++ s → t = u ∧ r = s
  | .v _, _, _, _, h, _, _ => by simp [Gd] at h
  | .a _ _, .v _, _, _, _, h, _ => by simp [Gd] at h
  | .a f as, .a g bs, r, s, ht, hu, h => by
    rw [Gd] at ht hu
    simp only [toD, PySem.W.keyToks, PySem.W.keyToksAll, List.cons_append, List.nil_append, List.cons.injEq, true_and, Sum.inr.injEq] at h
    obtain ⟨e1, e2⟩ := h
    obtain ⟨e3, e4⟩ := toksAll_inj as bs r s ht.2 hu.2 e2
    exact ⟨by rw [str_eq e1, e3], e4⟩
theorem toksAll_inj : ∀ (ts us : List T) (r s : List (Int ⊕ List Nat)), Gds ts → Gds us → PySem.W.keyToksAll (toDs ts) ++ r = PySem.W.keyToksAll (toDs us) ++ s → ts = us ∧ r = s
  | [], [], r, s, _, _, h => by simpa [toDs, PySem.W.keyToksAll] using h
  | [], u :: us, r, s, _, _, h => by simp [toDs, PySem.W.keyToksAll] at h
  | t :: ts, [], r, s, _, _, h => by simp [toDs, PySem.W.keyToksAll] at h
  | t :: ts, u :: us, r, s, ht, hu, h => by
    rw [Gds] at ht hu
    simp only [toDs, PySem.W.keyToksAll, List.cons_append, List.append_assoc, List.cons.injEq, true_and] at h
    obtain ⟨e1, e2⟩ := toks_inj t u _ _ ht.1 hu.1 h
    obtain ⟨e3, e4⟩ := toksAll_inj ts us r s ht.2 hu.2 e2
    exact ⟨by rw [e1, e3], e4⟩
end
theorem strOk_nm {f : Str} (h : Nm f) : PyData.strOk f = true := by
  unfold PyData.strOk
  rw [Array.all_eq_true_iff_forall_mem]
  intro c hc
  have z := h.1 c (by simpa using hc)
  exact decide_eq_true (by unfold Sg at z; omega)
mutual
theorem lay_gd : ∀ t : T, Gd t → (toD t).canLay0 = true
  | .v n, h => by simp [Gd] at h
  | .a f as, h => by
    rw [Gd] at h
    simp only [toD, PyData.canLay0, PyData.canLayAll0, lays_gd as h.2, strOk_nm h.1, Bool.and_self]
theorem lays_gd : ∀ ts : List T, Gds ts → PyData.canLayAll0 (toDs ts) = true
  | [], _ => by simp [toDs, PyData.canLayAll0]
  | t :: ts, h => by
    rw [Gds] at h
    simp only [toDs, PyData.canLayAll0, lay_gd t h.1, lays_gd ts h.2, Bool.and_self]
end
mutual
theorem depth_le : ∀ t : T, (toD t).depth ≤ dep t
  | .v n => by simp [toD, PyData.depth]
  | .a f as => by
    have h := depths_le as
    simp only [toD, PyData.depth, PyData.depthAll, dep]
    omega
theorem depths_le : ∀ ts : List T, PyData.depthAll (toDs ts) ≤ deps ts
  | [] => by simp [toDs, PyData.depthAll]
  | t :: ts => by
    have h1 := depth_le t
    have h2 := depths_le ts
    simp only [toDs, PyData.depthAll, deps]
    omega
end
mutual
theorem show_gd : ∀ t : T, Gd t → (toD t).showable = true
  | .v n, h => by simp [Gd] at h
  | .a f as, h => by
    rw [Gd] at h
    simp only [toD, PyData.showable, PyData.showableAll, shows_gd as h.2, Bool.and_self]
theorem shows_gd : ∀ ts : List T, Gds ts → PyData.showableAll (toDs ts) = true
  | [], _ => by simp [toDs, PyData.showableAll]
  | t :: ts, h => by
    rw [Gds] at h
    simp only [toDs, PyData.showableAll, show_gd t h.1, shows_gd ts h.2, Bool.and_self]
end
theorem dict_gd {t : T} (h : Gd t) : (toD t).hasDict = false := PyData.hasDict_of_canLay _ (lay_gd t h)
theorem shaped_gd {t : T} (hg : Gd t) (h : dep t ≤ 64) : SeqAt.shaped (toD t) = true := by
  have h1 := depth_le t
  show ((toD t).canLay0 && decide ((toD t).depth ≤ 64)) = true
  rw [lay_gd t hg, Bool.true_and]
  exact decide_eq_true (by omega)
mutual
theorem dep_size : ∀ t : T, dep t ≤ size t
  | .v _ => by simp [dep, size]
  | .a f as => by
    have h := deps_size as
    simp only [dep, size]
    omega
theorem deps_size : ∀ ts : List T, deps ts ≤ sizes ts
  | [] => by simp [deps, sizes]
  | t :: ts => by
    have h1 := dep_size t
    have h2 := deps_size ts
    simp only [deps, sizes]
    omega
end

/-! ### the order -/
def leT : T → T → Bool := PySem.W.dataLe false toD
theorem leT_total : PySem.W.TotalLe leT := PySem.W.sortLe_total (PyProof.Rows.listOrd PyProof.Rows.itemOrd) false fun b => PySem.W.keyToks (toD b)
theorem leT_anti {t u : T} (ht : Gd t) (hu : Gd u) (h1 : leT t u = true) (h2 : leT u t = true) : t = u := by
  have e : PySem.W.keyToks (toD t) = PySem.W.keyToks (toD u) := by
    refine (PyProof.Rows.listOrd PyProof.Rows.itemOrd).total _ _ ?_ ?_
    · have z : (!(PyProof.Rows.listOrd PyProof.Rows.itemOrd).blt (PySem.W.keyToks (toD t)) (PySem.W.keyToks (toD u))) = true := h2
      simpa using z
    · have z : (!(PyProof.Rows.listOrd PyProof.Rows.itemOrd).blt (PySem.W.keyToks (toD u)) (PySem.W.keyToks (toD t))) = true := h1
      simpa using z
  exact (toks_inj t u [] [] ht hu (by rw [e])).1
/-- two ordered lists of the same ground terms, none twice, are one -/
theorem sorted_one : ∀ {l m : List T}, (∀ t ∈ l, Gd t) → l.Pairwise (fun a b => leT a b = true) → m.Pairwise (fun a b => leT a b = true) → l.Nodup → m.Nodup → (∀ t, t ∈ l ↔ t ∈ m) → l = m
  | [], [], _, _, _, _, _, _ => rfl
  | [], y :: m, _, _, _, _, _, h => by simpa using (h y).mpr List.mem_cons_self
  | x :: l, [], _, _, _, _, _, h => by simpa using (h x).mp List.mem_cons_self
  | x :: l, y :: m, hg, hl, hm, nl, nm, h => by
    have gx : Gd x := hg x List.mem_cons_self
    have gy : Gd y := hg y ((h y).mpr List.mem_cons_self)
    have e : x = y := by
      have hx := (h x).mp List.mem_cons_self
      have hy := (h y).mpr List.mem_cons_self
      rcases List.mem_cons.mp hx with q | q
      · exact q
      · rcases List.mem_cons.mp hy with q2 | q2
        · exact q2.symm
        · exact leT_anti gx gy ((List.pairwise_cons.mp hl).1 y q2) ((List.pairwise_cons.mp hm).1 x q)
    subst e
    have nl' := List.nodup_cons.mp nl
    have nm' := List.nodup_cons.mp nm
    rw [sorted_one (fun t ht => hg t (List.mem_cons_of_mem _ ht)) (List.pairwise_cons.mp hl).2 (List.pairwise_cons.mp hm).2 nl'.2 nm'.2 fun t => ?_]
    constructor
    · intro ht
      rcases List.mem_cons.mp ((h t).mp (List.mem_cons_of_mem _ ht)) with q | q
      · rw [q] at ht; exact absurd ht nl'.1
      · exact q
    · intro ht
      rcases List.mem_cons.mp ((h t).mpr (List.mem_cons_of_mem _ ht)) with q | q
      · rw [q] at ht; exact absurd ht nm'.1
      · exact q
end K23

set_option Elab.async false
set_option linter.all false
set_option maxRecDepth 100000
/-! The plain mathematics: variables, replacing, choices, facts. -/
namespace K23
open PySem

/-! ### variables -/
mutual
def vars (acc : List Nat) : T → List Nat
  | .v n => if n ∈ acc then acc else acc ++ [n]
  | .a _ as => varsL acc as
def varsL (acc : List Nat) : List T → List Nat
  | [] => acc
  | t :: ts => varsL (vars acc t) ts
end
theorem varsL_append : ∀ (l m : List T) (acc : List Nat), varsL acc (l ++ m) = varsL (varsL acc l) m
  | [], m, acc => by rw [List.nil_append, varsL]
  | t :: l, m, acc => by rw [List.cons_append, varsL, varsL, varsL_append l m]
theorem varsL_snoc (l : List T) (t : T) (acc : List Nat) : varsL acc (l ++ [t]) = vars (varsL acc l) t := by
  rw [varsL_append, varsL, varsL]
mutual
theorem vars_len (acc : List Nat) : ∀ t : T, (vars acc t).length ≤ acc.length + size t
  | .v n => by
    rw [vars, size]
    split
    · omega
    · simp
  | .a f as => by
    have h := varsL_len acc as
    rw [vars, size]
    omega
theorem varsL_len (acc : List Nat) : ∀ ts : List T, (varsL acc ts).length ≤ acc.length + sizes ts
  | [] => by rw [varsL, sizes]; omega
  | t :: ts => by
    have h1 := vars_len acc t
    have h2 := varsL_len (vars acc t) ts
    rw [varsL, sizes]
    omega
end
theorem sizes_append : ∀ l m : List T, sizes (l ++ m) = sizes l + sizes m
  | [], m => by simp [sizes]
  | t :: l, m => by simp [sizes, sizes_append l m]; omega
theorem sizes_at {ts : List T} {i : Nat} {t : T} (h : ts[i]? = some t) : sizes (ts.take i) + size t ≤ sizes ts := by
  obtain ⟨hi, e⟩ := List.getElem?_eq_some_iff.mp h
  have e2 : ts = ts.take i ++ t :: ts.drop (i + 1) := by
    rw [← e, ← List.drop_eq_getElem_cons hi, List.take_append_drop]
  have e3 : sizes ts = sizes (ts.take i) + (size t + sizes (ts.drop (i + 1))) := by
    conv => lhs; rw [e2]
    rw [sizes_append, sizes]
  omega
theorem size_pos (t : T) : 1 ≤ size t := by cases t <;> simp [size]
theorem dep_pos (t : T) : 1 ≤ dep t := by cases t <;> simp [dep]
theorem len_sizes : ∀ ts : List T, ts.length ≤ sizes ts
  | [] => by simp
  | t :: ts => by
    have h := len_sizes ts
    have h1 := size_pos t
    simp only [List.length_cons, sizes]
    omega
theorem deps_mem : ∀ {ts : List T} {t : T}, t ∈ ts → dep t ≤ deps ts
  | x :: ts, t, h => by
    rw [deps]
    rcases List.mem_cons.mp h with e | h
    · rw [e]; omega
    · have := deps_mem h
      omega
theorem sizes_mem : ∀ {ts : List T} {t : T}, t ∈ ts → size t ≤ sizes ts
  | x :: ts, t, h => by
    rw [sizes]
    rcases List.mem_cons.mp h with e | h
    · rw [e]; omega
    · have := sizes_mem h
      omega

/-! ### replacing -/
mutual
def ren (m : Nat → Option T) : T → T
  | .v n => (m n).getD (.v n)
  | .a f as => .a f (rens m as)
def rens (m : Nat → Option T) : List T → List T
  | [] => []
  | t :: ts => ren m t :: rens m ts
end
theorem rens_map (m : Nat → Option T) : ∀ ts : List T, rens m ts = ts.map (ren m)
  | [] => by rw [rens, List.map_nil]
  | t :: ts => by rw [rens, rens_map m ts, List.map_cons]
def inst (ts : List T) : T → T := ren fun n => ts[n]?
end K23
namespace K23
/-! ### choices -/
def ext (ts : List T) (row : List T) : List (List T) := ts.map fun t => row ++ [t]
def chs (ts : List T) : Nat → List (List T)
  | 0 => [[]]
  | n + 1 => (chs ts n).flatMap (ext ts)
theorem ext_len (ts row : List T) : (ext ts row).length = ts.length := by simp [ext]
theorem flat_len (ts : List T) : ∀ rows : List (List T), (rows.flatMap (ext ts)).length = rows.length * ts.length
  | [] => by simp
  | r :: rows => by rw [List.flatMap_cons, List.length_append, ext_len, flat_len ts rows, List.length_cons, Nat.add_mul]; omega
theorem chs_len (ts : List T) : ∀ n, (chs ts n).length = ts.length ^ n
  | 0 => rfl
  | n + 1 => by rw [chs, flat_len, chs_len ts n, Nat.pow_succ]
theorem chs_row {ts : List T} : ∀ {n : Nat} {row : List T}, row ∈ chs ts n ↔ row.length = n ∧ ∀ t ∈ row, t ∈ ts
  | 0, row => by
    rw [chs, List.mem_singleton]
    constructor
    · intro h; rw [h]; simp
    · intro h; exact List.length_eq_zero_iff.mp h.1
  | n + 1, row => by
    rw [chs, List.mem_flatMap]
    constructor
    · rintro ⟨r, hr, h⟩
      obtain ⟨t, ht, e⟩ := List.mem_map.mp h
      obtain ⟨h1, h2⟩ := (chs_row (n := n)).mp hr
      rw [← e]
      refine ⟨by simp [h1], fun u hu => ?_⟩
      rcases List.mem_append.mp hu with hu | hu
      · exact h2 u hu
      · rw [List.mem_singleton.mp hu]; exact ht
    · rintro ⟨h1, h2⟩
      have hne : row ≠ [] := fun z => by rw [z] at h1; simp at h1
      have e := List.dropLast_concat_getLast hne
      refine ⟨row.dropLast, (chs_row (n := n)).mpr ⟨by rw [List.length_dropLast, h1]; omega, fun t ht => h2 t (List.dropLast_subset _ ht)⟩, ?_⟩
      exact List.mem_map.mpr ⟨row.getLast hne, h2 _ (List.getLast_mem hne), e⟩
theorem pow_le27 {a n : Nat} (ha : a ≤ 3) (hn : n ≤ 3) : a ^ n ≤ 27 := by
  have h1 : a ^ n ≤ 3 ^ n := Nat.pow_le_pow_left ha n
  have h2 : 3 ^ n ≤ 3 ^ 3 := Nat.pow_le_pow_right (by omega) hn
  omega
/-- the rows made so far: i whole ones, j of the next -/
def rd (ts : List T) (rows : List (List T)) (i j : Nat) : List (List T) := (rows.take i).flatMap (ext ts) ++ (ts.take j).map fun t => rows.getD i [] ++ [t]
theorem rd_start (ts : List T) (rows : List (List T)) : rd ts rows 0 0 = [] := by simp [rd]
theorem rd_next (ts : List T) (rows : List (List T)) {i : Nat} (h : i < rows.length) : rd ts rows i ts.length = rd ts rows (i + 1) 0 := by
  unfold rd
  rw [List.take_length, List.take_add_one, List.getElem?_eq_getElem h, List.flatMap_append]
  simp [ext, List.getD, List.getElem?_eq_getElem h]
theorem rd_step (ts : List T) (rows : List (List T)) (i : Nat) {j : Nat} {t : T} (h : ts[j]? = some t) : rd ts rows i (j + 1) = rd ts rows i j ++ [rows.getD i [] ++ [t]] := by
  unfold rd
  rw [List.take_add_one, h, List.map_append, List.append_assoc]
  rfl
theorem rd_end (ts : List T) (rows : List (List T)) : rd ts rows rows.length 0 = rows.flatMap (ext ts) := by simp [rd]
theorem rd_len (ts : List T) (rows : List (List T)) (i j : Nat) : (rd ts rows i j).length ≤ rows.length * ts.length + ts.length := by
  unfold rd
  rw [List.length_append, flat_len, List.length_map, List.length_take, List.length_take]
  have h1 : min i rows.length * ts.length ≤ rows.length * ts.length := Nat.mul_le_mul_right _ (Nat.min_le_right _ _)
  omega
end K23

set_option Elab.async false
set_option linter.all false
set_option maxRecDepth 100000
/-! Instances, facts, the rounds; what further rules leave as it is. -/
namespace K23
open PySem
structure Rl where
  name : Str
  prem : List T
  concl : T
structure Ins where
  prem : List T
  concl : T
def nv (r : Rl) : Nat := (varsL [] (r.concl :: r.prem)).length
def insOf (r : Rl) (row : List T) : Ins := ⟨r.prem.map (inst row), inst row r.concl⟩
def insR (ts : List T) (r : Rl) : List Ins := (chs ts (nv r)).map (insOf r)
def insts (ts : List T) (rs : List Rl) : List Ins := rs.flatMap (insR ts)
def reflR : Rl := ⟨"refl", [], .a "=" [.v 0, .v 0]⟩

/-! ### variables below a number -/
mutual
def Wf (m : Nat) : T → Prop
  | .v n => n < m
  | .a f as => Nm f ∧ Wfs m as
def Wfs (m : Nat) : List T → Prop
  | [] => True
  | t :: ts => Wf m t ∧ Wfs m ts
end
theorem wfs_iff {m : Nat} : ∀ {ts : List T}, Wfs m ts ↔ ∀ t ∈ ts, Wf m t
  | [] => by simp [Wfs]
  | t :: ts => by simp [Wfs, wfs_iff (ts := ts)]
mutual
theorem inst_gd {row : List T} (hr : ∀ t ∈ row, Gd t) : ∀ t : T, Wf row.length t → Gd (inst row t)
  | .v n, h => by
    rw [Wf] at h
    unfold inst
    rw [ren, List.getElem?_eq_getElem h]
    exact hr _ (List.getElem_mem h)
  | .a f as, h => by
    rw [Wf] at h
    unfold inst
    rw [ren, Gd]
    exact ⟨h.1, insts_gd hr as h.2⟩
theorem insts_gd {row : List T} (hr : ∀ t ∈ row, Gd t) : ∀ ts : List T, Wfs row.length ts → Gds (rens (fun n => row[n]?) ts)
  | [], _ => by rw [rens, Gds]; trivial
  | t :: ts, h => by
    rw [Wfs] at h
    rw [rens, Gds]
    exact ⟨inst_gd hr t h.1, insts_gd hr ts h.2⟩
end
mutual
theorem inst_size {row : List T} {b : Nat} (hb : 1 ≤ b) (hr : ∀ t ∈ row, size t ≤ b) : ∀ t : T, size (inst row t) ≤ size t * b
  | .v n => by
    unfold inst
    rw [ren]
    cases h : row[n]? with
    | none => simp [size]; exact hb
    | some u =>
      have := hr u (List.mem_of_getElem? h)
      simp [size]; exact this
  | .a f as => by
    have h := insts_size hb hr as
    unfold inst
    rw [ren, size, size, Nat.add_mul]
    omega
theorem insts_size {row : List T} {b : Nat} (hb : 1 ≤ b) (hr : ∀ t ∈ row, size t ≤ b) : ∀ ts : List T, sizes (rens (fun n => row[n]?) ts) ≤ sizes ts * b
  | [] => by rw [rens, sizes]; simp
  | t :: ts => by
    have h1 := inst_size hb hr t
    have h2 := insts_size hb hr ts
    unfold inst at h1
    rw [rens, sizes, sizes, Nat.add_mul]
    omega
end
mutual
theorem inst_dep {row : List T} {b : Nat} (hr : ∀ t ∈ row, dep t ≤ b) : ∀ t : T, dep (inst row t) ≤ dep t + b
  | .v n => by
    unfold inst
    rw [ren]
    cases h : row[n]? with
    | none => simp [dep]
    | some u =>
      have := hr u (List.mem_of_getElem? h)
      simp [dep]; omega
  | .a f as => by
    have h := insts_dep hr as
    unfold inst
    rw [ren, dep, dep]
    omega
theorem insts_dep {row : List T} {b : Nat} (hr : ∀ t ∈ row, dep t ≤ b) : ∀ ts : List T, deps (rens (fun n => row[n]?) ts) ≤ deps ts + b
  | [] => by rw [rens, deps]; omega
  | t :: ts => by
    have h1 := inst_dep hr t
    have h2 := insts_dep hr ts
    unfold inst at h1
    rw [rens, deps, deps]
    omega
end
/-- a rule as the law makes them -/
structure RGood (r : Rl) : Prop where
  few : nv r ≤ 3
  wf : ∀ t ∈ r.concl :: r.prem, Wf (nv r) t
  small : ∀ t ∈ r.concl :: r.prem, size t ≤ 40 ∧ dep t ≤ 10
  prems : r.prem.length ≤ 4
  name : r.name.length ≤ 1000
/-- the given terms -/
structure TGood (ts : List T) : Prop where
  few : ts.length ≤ 3
  gd : ∀ t ∈ ts, Gd t
  small : ∀ t ∈ ts, size t ≤ 12
theorem sizes_le {b : Nat} : ∀ {ts : List T}, (∀ t ∈ ts, size t ≤ b) → sizes ts ≤ ts.length * b
  | [], _ => by simp [sizes]
  | t :: ts, h => by
    have h1 := h t List.mem_cons_self
    have h2 := sizes_le (ts := ts) fun u hu => h u (List.mem_cons_of_mem _ hu)
    rw [sizes, List.length_cons, Nat.add_mul]
    omega
theorem deps_le {b : Nat} : ∀ {ts : List T}, (∀ t ∈ ts, dep t ≤ b) → deps ts ≤ b
  | [], _ => by simp [deps]
  | t :: ts, h => by
    have h1 := h t List.mem_cons_self
    have h2 := deps_le (ts := ts) fun u hu => h u (List.mem_cons_of_mem _ hu)
    rw [deps]
    omega
theorem RGood.sizes {r : Rl} (g : RGood r) : sizes (r.concl :: r.prem) ≤ 1000 := by
  have h := sizes_le (b := 40) fun t ht => (g.small t ht).1
  have h1 := g.prems
  have h2 : (r.concl :: r.prem).length * 40 ≤ 5 * 40 := Nat.mul_le_mul_right _ (by rw [List.length_cons]; omega)
  omega
theorem RGood.deps {r : Rl} (g : RGood r) : deps (r.concl :: r.prem) ≤ 10 := deps_le fun t ht => (g.small t ht).2
/-- what an instance's terms are -/
structure IGood (i : Ins) : Prop where
  gd : ∀ t ∈ i.concl :: i.prem, Gd t
  small : ∀ t ∈ i.concl :: i.prem, size t ≤ 480 ∧ dep t ≤ 22
  few : i.prem.length ≤ 4
theorem igood {r : Rl} {ts row : List T} (g : RGood r) (tg : TGood ts) (h : row ∈ chs ts (nv r)) : IGood (insOf r row) := by
  obtain ⟨h1, h2⟩ := chs_row.mp h
  have key : ∀ t ∈ (insOf r row).concl :: (insOf r row).prem, ∃ u ∈ r.concl :: r.prem, t = inst row u := by
    intro t ht
    rcases List.mem_cons.mp ht with e | ht
    · exact ⟨r.concl, List.mem_cons_self, e⟩
    · obtain ⟨u, hu, e⟩ := List.mem_map.mp ht
      exact ⟨u, List.mem_cons_of_mem _ hu, e.symm⟩
  refine ⟨fun t ht => ?_, fun t ht => ?_, by show (r.prem.map (inst row)).length ≤ 4; rw [List.length_map]; exact g.prems⟩
  · obtain ⟨u, hu, rfl⟩ := key t ht
    exact inst_gd (fun x hx => tg.gd x (h2 x hx)) u (by rw [h1]; exact g.wf u hu)
  · obtain ⟨u, hu, rfl⟩ := key t ht
    obtain ⟨g1, g2⟩ := g.small u hu
    have s1 := inst_size (row := row) (b := 12) (by omega) (fun x hx => tg.small x (h2 x hx)) u
    have s2 := inst_dep (row := row) (b := 12) (fun x hx => Nat.le_trans (dep_size x) (tg.small x (h2 x hx))) u
    have s3 : size u * 12 ≤ 40 * 12 := Nat.mul_le_mul_right _ g1
    exact ⟨by omega, by omega⟩
theorem insts_good {ts : List T} {rs : List Rl} (g : ∀ r ∈ rs, RGood r) (tg : TGood ts) : ∀ i ∈ insts ts rs, IGood i := by
  intro i hi
  obtain ⟨r, hr, hi⟩ := List.mem_flatMap.mp hi
  obtain ⟨row, hrow, rfl⟩ := List.mem_map.mp hi
  exact igood (g r hr) tg hrow

/-! ### facts -/
def F (I : Ins → Prop) : Nat → T → Prop
  | 0, _ => False
  | n + 1, c => ∃ i, I i ∧ i.concl = c ∧ ∀ p ∈ i.prem, F I n p
theorem F.mono {I : Ins → Prop} : ∀ {n : Nat} {c : T}, F I n c → F I (n + 1) c
  | 0, _, h => h.elim
  | n + 1, c, ⟨i, h1, h2, h3⟩ => ⟨i, h1, h2, fun p hp => (h3 p hp).mono⟩
theorem F.congr {I J : Ins → Prop} (h : ∀ i, I i ↔ J i) : ∀ (n : Nat) (c : T), F I n c ↔ F J n c
  | 0, c => Iff.rfl
  | n + 1, c => by
    constructor
    · rintro ⟨i, h1, h2, h3⟩
      exact ⟨i, (h i).mp h1, h2, fun p hp => (F.congr h n p).mp (h3 p hp)⟩
    · rintro ⟨i, h1, h2, h3⟩
      exact ⟨i, (h i).mpr h1, h2, fun p hp => (F.congr h n p).mpr (h3 p hp)⟩
theorem F.good {I : Ins → Prop} (h : ∀ i, I i → IGood i) : ∀ {n : Nat} {c : T}, F I n c → Gd c ∧ size c ≤ 480 ∧ dep c ≤ 22
  | n + 1, c, ⟨i, h1, h2, _⟩ => by
    have g := h i h1
    rw [← h2]
    exact ⟨g.gd _ List.mem_cons_self, (g.small _ List.mem_cons_self).1, (g.small _ List.mem_cons_self).2⟩

/-! ### the rounds, by texts -/
abbrev tx (t : T) : Str := (toD t).shown
def hasT (cs : List T) (x : Str) : Bool := cs.any fun c => decide (tx c = x)
theorem hasT_iff {cs : List T} {t : T} (hc : ∀ c ∈ cs, Gd c) (ht : Gd t) : hasT cs (tx t) = true ↔ t ∈ cs := by
  unfold hasT
  rw [List.any_eq_true]
  constructor
  · rintro ⟨c, h1, h2⟩
    rw [← shown_inj (hc c h1) ht (of_decide_eq_true h2)]
    exact h1
  · intro h
    exact ⟨t, h, decide_eq_true rfl⟩
def addT (cs : List T) (c : T) : List T := if hasT cs (tx c) then cs else cs ++ [c]
theorem addT_mem {cs : List T} {c t : T} (hc : ∀ c ∈ cs, Gd c) (h : Gd c) : t ∈ addT cs c ↔ t ∈ cs ∨ t = c := by
  unfold addT
  split
  · rename_i q
    have := (hasT_iff hc h).mp q
    constructor
    · exact .inl
    · rintro (h | h)
      · exact h
      · rw [h]; exact this
  · simp
theorem addT_nodup {cs : List T} {c : T} (hc : ∀ c ∈ cs, Gd c) (h : Gd c) (n : cs.Nodup) : (addT cs c).Nodup := by
  unfold addT
  split
  · exact n
  · rename_i q
    rw [List.nodup_append]
    refine ⟨n, by simp, fun a ha b hb => ?_⟩
    rw [List.mem_singleton.mp hb]
    intro e
    rw [e] at ha
    exact q ((hasT_iff hc h).mpr ha)
theorem addT_len (cs : List T) (c : T) : (addT cs c).length ≤ cs.length + 1 := by
  unfold addT
  split <;> simp
def addAll (cs : List T) (is : List Ins) : List T := is.foldl (fun cs i => addT cs i.concl) cs
theorem addAll_snoc (cs : List T) (is : List Ins) (i : Ins) : addAll cs (is ++ [i]) = addT (addAll cs is) i.concl := by
  unfold addAll
  rw [List.foldl_append]
  rfl
theorem addAll_mem : ∀ {is : List Ins} {cs : List T}, (∀ c ∈ cs, Gd c) → (∀ i ∈ is, Gd i.concl) → (∀ c ∈ addAll cs is, Gd c) ∧ (cs.Nodup → (addAll cs is).Nodup) ∧ ∀ t, t ∈ addAll cs is ↔ t ∈ cs ∨ ∃ i ∈ is, i.concl = t
  | [], cs, hc, _ => ⟨hc, fun h => h, fun t => by simp [addAll]⟩
  | i :: is, cs, hc, hi => by
    have gi := hi i List.mem_cons_self
    have hc' : ∀ c ∈ addT cs i.concl, Gd c := fun c h => by
      rcases (addT_mem hc gi).mp h with h | h
      · exact hc c h
      · rw [h]; exact gi
    obtain ⟨h1, h2, h3⟩ := addAll_mem (is := is) hc' fun j hj => hi j (List.mem_cons_of_mem _ hj)
    have e : addAll cs (i :: is) = addAll (addT cs i.concl) is := rfl
    rw [e]
    refine ⟨h1, fun n => h2 (addT_nodup hc gi n), fun t => ?_⟩
    rw [h3, addT_mem hc gi]
    constructor
    · rintro ((h | h) | ⟨j, hj, e⟩)
      · exact .inl h
      · exact .inr ⟨i, List.mem_cons_self, h.symm⟩
      · exact .inr ⟨j, List.mem_cons_of_mem _ hj, e⟩
    · rintro (h | ⟨j, hj, e⟩)
      · exact .inl (.inl h)
      · rcases List.mem_cons.mp hj with q | hj
        · exact .inl (.inr (by rw [← e, q]))
        · exact .inr ⟨j, hj, e⟩
theorem addAll_len : ∀ (is : List Ins) (cs : List T), (addAll cs is).length ≤ cs.length + is.length
  | [], cs => Nat.le_refl _
  | i :: is, cs => by
    have e : addAll cs (i :: is) = addAll (addT cs i.concl) is := rfl
    have h1 := addAll_len is (addT cs i.concl)
    have h2 := addT_len cs i.concl
    rw [e, List.length_cons]
    omega
/-- an instance all of whose premises are known -/
def usable (cs : List T) (i : Ins) : Bool := i.prem.all fun p => hasT cs (tx p)
theorem usable_iff {cs : List T} {i : Ins} (hc : ∀ c ∈ cs, Gd c) (hi : IGood i) : usable cs i = true ↔ ∀ p ∈ i.prem, p ∈ cs := by
  unfold usable
  rw [List.all_eq_true]
  constructor
  · exact fun h p hp => (hasT_iff hc (hi.gd p (List.mem_cons_of_mem _ hp))).mp (h p hp)
  · exact fun h p hp => (hasT_iff hc (hi.gd p (List.mem_cons_of_mem _ hp))).mpr (h p hp)
/-- what a round makes: the program's, the law's -/
def round (is : List Ins) (cs : List T) : List T := addAll cs (is.filter (usable cs))
def fresh (cs : List T) (i : Ins) : Bool := !hasT cs (tx i.concl) && usable cs i
def roundL (is : List Ins) (cs : List T) : List T := addAll cs (is.filter (fresh cs))
/-- the facts known: exactly those of height n -/
structure Kn (I : Ins → Prop) (n : Nat) (cs : List T) : Prop where
  nodup : cs.Nodup
  gd : ∀ c ∈ cs, Gd c
  mem : ∀ c, c ∈ cs ↔ F I n c
theorem kn_zero (I : Ins → Prop) : Kn I 0 [] := ⟨by simp, by simp, fun c => by simp [F]⟩
theorem kn_round {I : Ins → Prop} {is : List Ins} {n : Nat} {cs : List T} (hI : ∀ i, i ∈ is ↔ I i) (hg : ∀ i ∈ is, IGood i) (k : Kn I n cs) : Kn I (n + 1) (round is cs) := by
  obtain ⟨h1, h2, h3⟩ := addAll_mem (is := is.filter (usable cs)) k.gd fun i hi => (hg i (List.mem_filter.mp hi).1).gd _ List.mem_cons_self
  refine ⟨h2 k.nodup, h1, fun c => ?_⟩
  unfold round
  rw [h3]
  constructor
  · rintro (h | ⟨i, hi, e⟩)
    · exact ((k.mem c).mp h).mono
    · obtain ⟨m1, m2⟩ := List.mem_filter.mp hi
      exact ⟨i, (hI i).mp m1, e, fun p hp => (k.mem p).mp ((usable_iff k.gd (hg i m1)).mp m2 p hp)⟩
  · rintro ⟨i, h4, e, h5⟩
    have m1 := (hI i).mpr h4
    exact .inr ⟨i, List.mem_filter.mpr ⟨m1, (usable_iff k.gd (hg i m1)).mpr fun p hp => (k.mem p).mpr (h5 p hp)⟩, e⟩
theorem kn_roundL {I : Ins → Prop} {is : List Ins} {n : Nat} {cs : List T} (hI : ∀ i, i ∈ is ↔ I i) (hg : ∀ i ∈ is, IGood i) (k : Kn I n cs) : Kn I (n + 1) (roundL is cs) := by
  obtain ⟨h1, h2, h3⟩ := addAll_mem (is := is.filter (fresh cs)) k.gd fun i hi => (hg i (List.mem_filter.mp hi).1).gd _ List.mem_cons_self
  refine ⟨h2 k.nodup, h1, fun c => ?_⟩
  unfold roundL
  rw [h3]
  constructor
  · rintro (h | ⟨i, hi, e⟩)
    · exact ((k.mem c).mp h).mono
    · obtain ⟨m1, m2⟩ := List.mem_filter.mp hi
      have m3 := (Bool.and_eq_true_iff.mp m2).2
      exact ⟨i, (hI i).mp m1, e, fun p hp => (k.mem p).mp ((usable_iff k.gd (hg i m1)).mp m3 p hp)⟩
  · rintro ⟨i, h4, e, h5⟩
    have m1 := (hI i).mpr h4
    have gi := (hg i m1).gd _ List.mem_cons_self
    by_cases q : hasT cs (tx i.concl) = true
    · rw [← e]
      exact .inl ((hasT_iff k.gd gi).mp q)
    · refine .inr ⟨i, List.mem_filter.mpr ⟨m1, ?_⟩, e⟩
      unfold fresh
      rw [(usable_iff k.gd (hg i m1)).mpr fun p hp => (k.mem p).mpr (h5 p hp), Bool.and_true]
      simpa using q

/-! ### the law's heart -/
def relT : T → Str × Nat
  | .v _ => (Str.empty, 0)
  | .a f as => (f, as.length + 1)
theorem F.same {I J : Ins → Prop} {bad : Str × Nat → Prop} (hsub : ∀ i, I i → J i) (hnew : ∀ i, J i → I i ∨ bad (relT i.concl)) (hprem : ∀ i, I i → ∀ p ∈ i.prem, ¬ bad (relT p)) : ∀ (n : Nat) (c : T), ¬ bad (relT c) → (F I n c ↔ F J n c)
  | 0, _, _ => Iff.rfl
  | n + 1, c, hb => by
    constructor
    · rintro ⟨i, h1, h2, h3⟩
      exact ⟨i, hsub i h1, h2, fun p hp => (F.same hsub hnew hprem n p (hprem i h1 p hp)).mp (h3 p hp)⟩
    · rintro ⟨i, h1, h2, h3⟩
      rcases hnew i h1 with h | h
      · exact ⟨i, h, h2, fun p hp => (F.same hsub hnew hprem n p (hprem i h p hp)).mpr (h3 p hp)⟩
      · rw [h2] at h
        exact absurd h hb
theorem relT_inst (row : List T) : ∀ {t : T}, (∀ n, t ≠ .v n) → relT (inst row t) = relT t
  | .v n, h => absurd rfl (h n)
  | .a f as, _ => by
    unfold inst
    rw [ren, relT, relT, rens_map, List.length_map]
end K23

set_option Elab.async false
set_option linter.all false
set_option maxRecDepth 100000
/-! Variables get numbers in the order of their first places. -/
namespace K23
open PySem
mutual
def Inn (ns : List Nat) : T → Prop
  | .v n => n ∈ ns
  | .a _ as => Inns ns as
def Inns (ns : List Nat) : List T → Prop
  | [] => True
  | t :: ts => Inn ns t ∧ Inns ns ts
end
mutual
theorem vars_up {n : Nat} : ∀ (t : T) {acc : List Nat}, n ∈ acc → n ∈ vars acc t
  | .v m, acc, h => by
    rw [vars]
    split
    · exact h
    · exact List.mem_append_left _ h
  | .a _ as, acc, h => by rw [vars]; exact varsL_up as h
theorem varsL_up {n : Nat} : ∀ (ts : List T) {acc : List Nat}, n ∈ acc → n ∈ varsL acc ts
  | [], acc, h => by rw [varsL]; exact h
  | t :: ts, acc, h => by rw [varsL]; exact varsL_up ts (vars_up t h)
end
mutual
theorem inn_of {ns : List Nat} : ∀ (t : T) {acc : List Nat}, (∀ n ∈ vars acc t, n ∈ ns) → Inn ns t
  | .v m, acc, h => by
    rw [Inn]
    rw [vars] at h
    split at h
    · rename_i q; exact h m q
    · exact h m (by simp)
  | .a _ as, acc, h => by
    rw [Inn]
    rw [vars] at h
    exact inns_of as h
theorem inns_of {ns : List Nat} : ∀ (ts : List T) {acc : List Nat}, (∀ n ∈ varsL acc ts, n ∈ ns) → Inns ns ts
  | [], acc, h => by rw [Inns]; trivial
  | t :: ts, acc, h => by
    rw [Inns]
    rw [varsL] at h
    exact ⟨inn_of t (acc := acc) fun n hn => h n (varsL_up ts hn), inns_of ts h⟩
end
theorem inns_iff {ns : List Nat} : ∀ {ts : List T}, Inns ns ts ↔ ∀ t ∈ ts, Inn ns t
  | [] => by simp [Inns]
  | t :: ts => by simp [Inns, inns_iff (ts := ts)]
mutual
theorem vars_nd : ∀ (t : T) {acc : List Nat}, acc.Nodup → (vars acc t).Nodup
  | .v m, acc, h => by
    rw [vars]
    split
    · exact h
    · rename_i q
      rw [List.nodup_append]
      exact ⟨h, by simp, fun a ha b hb => by rw [List.mem_singleton.mp hb]; exact fun e => q (e ▸ ha)⟩
  | .a _ as, acc, h => by rw [vars]; exact varsL_nd as h
theorem varsL_nd : ∀ (ts : List T) {acc : List Nat}, acc.Nodup → (varsL acc ts).Nodup
  | [], acc, h => by rw [varsL]; exact h
  | t :: ts, acc, h => by rw [varsL]; exact varsL_nd ts (vars_nd t h)
end
mutual
theorem vars_lt {m : Nat} : ∀ (t : T) {acc : List Nat}, (∀ n ∈ acc, n < m) → Wf m t → ∀ n ∈ vars acc t, n < m
  | .v i, acc, h, w => by
    rw [Wf] at w
    rw [vars]
    split
    · exact h
    · intro n hn
      rcases List.mem_append.mp hn with q | q
      · exact h n q
      · rw [List.mem_singleton.mp q]; exact w
  | .a _ as, acc, h, w => by
    rw [Wf] at w
    rw [vars]
    exact varsL_lt as h w.2
theorem varsL_lt {m : Nat} : ∀ (ts : List T) {acc : List Nat}, (∀ n ∈ acc, n < m) → Wfs m ts → ∀ n ∈ varsL acc ts, n < m
  | [], acc, h, _ => by rw [varsL]; exact h
  | t :: ts, acc, h, w => by
    rw [Wfs] at w
    rw [varsL]
    exact varsL_lt ts (vars_lt t h w.1) w.2
end
theorem nd_len : ∀ (m : Nat) {l : List Nat}, l.Nodup → (∀ n ∈ l, n < m) → l.length ≤ m
  | 0, l, _, h => by
    cases l with
    | nil => simp
    | cons a r => exact absurd (h a List.mem_cons_self) (by omega)
  | m + 1, l, nd, h => by
    by_cases q : m ∈ l
    · have h1 := nd_len m (nd.erase m) fun n hn => by
        have h2 := (nd.mem_erase_iff).mp hn
        have := h n h2.2
        have := h2.1
        omega
      rw [List.length_erase_of_mem q] at h1
      omega
    · have := nd_len m nd fun n hn => by
        have := h n hn
        have : n ≠ m := fun e => q (e ▸ hn)
        omega
      omega
/-- the number of a variable -/
def num (ns : List Nat) : Nat → Option T := fun n => if n ∈ ns then some (.v (ns.idxOf n)) else none
theorem idx_inj {ns : List Nat} {a b : Nat} (ha : a ∈ ns) (hb : b ∈ ns) (h : ns.idxOf a = ns.idxOf b) : a = b := by
  have h1 := List.getElem_idxOf (List.idxOf_lt_length_of_mem ha)
  have h2 := List.getElem_idxOf (List.idxOf_lt_length_of_mem hb)
  rw [← h1, ← h2]
  simp only [h]
mutual
theorem vars_num {ns : List Nat} : ∀ (t : T) {acc : List Nat}, (∀ n ∈ acc, n ∈ ns) → Inn ns t → vars (acc.map ns.idxOf) (ren (num ns) t) = (vars acc t).map ns.idxOf
  | .v i, acc, h, w => by
    rw [Inn] at w
    have e : ren (num ns) (.v i) = .v (ns.idxOf i) := by rw [ren, num, if_pos w]; rfl
    rw [e, vars, vars]
    have e2 : ns.idxOf i ∈ acc.map ns.idxOf ↔ i ∈ acc := by
      constructor
      · intro q
        obtain ⟨j, hj, ej⟩ := List.mem_map.mp q
        rw [← idx_inj (h j hj) w ej]
        exact hj
      · exact fun q => List.mem_map.mpr ⟨i, q, rfl⟩
    by_cases q : i ∈ acc
    · rw [if_pos q, if_pos (e2.mpr q)]
    · rw [if_neg q, if_neg fun z => q (e2.mp z), List.map_append]
      rfl
  | .a _ as, acc, h, w => by
    rw [Inn] at w
    rw [ren, vars, vars]
    exact varsL_num as h w
theorem varsL_num {ns : List Nat} : ∀ (ts : List T) {acc : List Nat}, (∀ n ∈ acc, n ∈ ns) → Inns ns ts → varsL (acc.map ns.idxOf) (rens (num ns) ts) = (varsL acc ts).map ns.idxOf
  | [], acc, h, _ => by rw [rens, varsL, varsL]
  | t :: ts, acc, h, w => by
    rw [Inns] at w
    rw [rens, varsL, varsL, vars_num t h w.1]
    exact varsL_num ts (fun n hn => vars_sub t h w.1 n hn) w.2
theorem vars_sub {ns : List Nat} : ∀ (t : T) {acc : List Nat}, (∀ n ∈ acc, n ∈ ns) → Inn ns t → ∀ n ∈ vars acc t, n ∈ ns
  | .v i, acc, h, w => by
    rw [Inn] at w
    rw [vars]
    split
    · exact h
    · intro n hn
      rcases List.mem_append.mp hn with q | q
      · exact h n q
      · rw [List.mem_singleton.mp q]; exact w
  | .a _ as, acc, h, w => by
    rw [Inn] at w
    rw [vars]
    exact varsL_sub as h w
theorem varsL_sub {ns : List Nat} : ∀ (ts : List T) {acc : List Nat}, (∀ n ∈ acc, n ∈ ns) → Inns ns ts → ∀ n ∈ varsL acc ts, n ∈ ns
  | [], acc, h, _ => by rw [varsL]; exact h
  | t :: ts, acc, h, w => by
    rw [Inns] at w
    rw [varsL]
    exact varsL_sub ts (vars_sub t h w.1) w.2
end
mutual
theorem ren_wf {ns : List Nat} {m : Nat} : ∀ (t : T), Inn ns t → Wf m t → Wf ns.length (ren (num ns) t)
  | .v i, w, _ => by
    rw [Inn] at w
    have e : ren (num ns) (.v i) = .v (ns.idxOf i) := by rw [ren, num, if_pos w]; rfl
    rw [e, Wf]
    exact List.idxOf_lt_length_of_mem w
  | .a _ as, w, h => by
    rw [Inn] at w
    rw [Wf] at h
    rw [ren, Wf]
    exact ⟨h.1, rens_wf as w h.2⟩
theorem rens_wf {ns : List Nat} {m : Nat} : ∀ (ts : List T), Inns ns ts → Wfs m ts → Wfs ns.length (rens (num ns) ts)
  | [], _, _ => by rw [rens, Wfs]; trivial
  | t :: ts, w, h => by
    rw [Inns] at w
    rw [Wfs] at h
    rw [rens, Wfs]
    exact ⟨ren_wf t w.1 h.1, rens_wf ts w.2 h.2⟩
end
mutual
theorem num_size (ns : List Nat) : ∀ t : T, size (ren (num ns) t) = size t ∧ dep (ren (num ns) t) = dep t
  | .v i => by
    rw [ren, num]
    split <;> exact ⟨rfl, rfl⟩
  | .a _ as => by
    have h := num_sizes ns as
    rw [ren, size, size, dep, dep, h.1, h.2]
    exact ⟨rfl, rfl⟩
theorem num_sizes (ns : List Nat) : ∀ ts : List T, sizes (rens (num ns) ts) = sizes ts ∧ deps (rens (num ns) ts) = deps ts
  | [] => by rw [rens]; exact ⟨rfl, rfl⟩
  | t :: ts => by
    have h := num_size ns t
    have h2 := num_sizes ns ts
    rw [rens, sizes, sizes, deps, deps, h.1, h.2, h2.1, h2.2]
    exact ⟨rfl, rfl⟩
end
/-- what numbering gives -/
theorem numbered {ts : List T} {m : Nat} (h : Wfs m ts) : (varsL [] (ts.map (ren (num (varsL [] ts))))).length ≤ m ∧
    ∀ t ∈ ts.map (ren (num (varsL [] ts))), Wf (varsL [] (ts.map (ren (num (varsL [] ts))))).length t := by
  have hi : Inns (varsL [] ts) ts := inns_of ts (acc := []) fun n hn => hn
  have e := varsL_num (ns := varsL [] ts) ts (acc := []) (fun n hn => by cases hn) hi
  rw [List.map_nil, rens_map] at e
  have el : (varsL [] (ts.map (ren (num (varsL [] ts))))).length = (varsL [] ts).length := by rw [e, List.length_map]
  have hn := varsL_nd ts (acc := []) List.nodup_nil
  have hlt := varsL_lt ts (acc := []) (fun n hn => by cases hn) h
  refine ⟨by rw [el]; exact nd_len m hn hlt, ?_⟩
  rw [el]
  have hw := rens_wf ts hi h
  rw [rens_map] at hw
  exact wfs_iff.mp hw
theorem idx_at {ns : List Nat} (hn : ns.Nodup) {i : Nat} (h : i < ns.length) : ns.idxOf ns[i] = i := hn.idxOf_getElem i h
end K23

set_option Elab.async false
set_option linter.all false
set_option maxRecDepth 100000
set_option maxHeartbeats 4000000
/-! What stands in the heap: terms, rows, rules, the tape; how heaps grow. -/
namespace K23
open PySem PySem.Spec PyProof.Rows L2

/-! ### heaps -/
/-- all but what stands at M is as it was; tuples and locked things are, wherever they stand -/
structure Kp (M : List Addr) (H H' : Hp) : Prop where
  all : ∀ b o, b ∉ M → H b = some o → H' b = some o
  tup : ∀ b xs, H b = some (.tup xs) → H' b = some (.tup xs)
  frz : ∀ b ob u, H b = some (.frz ob u) → H' b = some (.frz ob u)
section
variable {M N : List Addr} {H H1 H2 H' : Hp} {p l : Addr} {o u : HO} {K : PySem.W.Frag}
theorem Kp.refl (M : List Addr) (H : Hp) : Kp M H H := ⟨fun _ _ _ h => h, fun _ _ h => h, fun _ _ _ h => h⟩
theorem Kp.trans (a : Kp M H H1) (b : Kp M H1 H2) : Kp M H H2 := ⟨fun c o n h => b.all c o n (a.all c o n h), fun c o h => b.tup c o (a.tup c o h), fun c o u h => b.frz c o u (a.frz c o u h)⟩
theorem Kp.of (s : Same H H') : Kp M H H' := ⟨fun b o _ h => s b o h, fun b xs h => s b _ h, fun b ob u h => s b _ h⟩
theorem Kp.mono (a : Kp M H H') (h : ∀ b ∈ M, b ∈ N) : Kp N H H' := ⟨fun b o n q => a.all b o (fun z => n (h b z)) q, a.tup, a.frz⟩
theorem Kp.same (a : Kp [] H H') : Same H H' := fun b o h => a.all b o (by simp) h
theorem same_new (n : H p = none) : Same H (upd H p o) := fun b x e => by rw [upd_ne (ne_of_none e n)]; exact e
theorem Kp.new (n : H p = none) : Kp M H (upd H p o) := .of (same_new n)
theorem Kp.put (hm : l ∈ M) (h : H l = some u) (hu : Mut (some u)) : Kp M H (upd H l o) := by
  refine ⟨fun b x n e => ?_, fun b xs e => ?_, fun b ob v e => ?_⟩
  · rw [upd_ne (fun z => n (by rw [z]; exact hm))]; exact e
  · rw [upd_ne (fun z => by rw [z, h] at e; rw [Option.some.inj e] at hu; exact hu)]; exact e
  · rw [upd_ne (fun z => by rw [z, h] at e; rw [Option.some.inj e] at hu; exact hu)]; exact e
/-- a write to what H does not have -/
theorem same_put (s : Same H H1) (n : H l = none) : Same H (upd H1 l o) := fun b x e => by rw [upd_ne (ne_of_none e n)]; exact s b x e
theorem Kp.put_new (s : Kp M H H1) (n : H l = none) : Kp M H (upd H1 l o) :=
  ⟨fun b x m e => by rw [upd_ne (ne_of_none e n)]; exact s.all b x m e, fun b x e => by rw [upd_ne (ne_of_none e n)]; exact s.tup b x e, fun b ob x e => by rw [upd_ne (ne_of_none e n)]; exact s.frz b ob x e⟩
/-- changes at an address that H does not have do not count -/
theorem Kp.drop (s : Kp (l :: M) H H1) (n : H l = none) : Kp M H H1 :=
  ⟨fun b x m e => s.all b x (by rw [List.mem_cons, not_or]; exact ⟨ne_of_none e n, m⟩) e, s.tup, s.frz⟩
theorem Kp.sqt {a : Addr} {xs : List V} (k : Kp M H H') (h : SqT K H a xs) : SqT K H' a xs := by
  rcases h with (h | ⟨ob, h⟩) | h
  · exact .inl (.inl (k.tup _ _ h))
  · exact .inl (.inr ⟨ob, k.frz _ _ _ h⟩)
  · exact .inr h
theorem Kp.sql {a : Addr} {xs : List V} (k : Kp M H H') (n : a ∉ M) (h : SqL K H a xs) : SqL K H' a xs := by
  rcases h with (h | ⟨ob, h⟩) | h
  · exact .inl (.inl (k.all _ _ n h))
  · exact .inl (.inr ⟨ob, k.frz _ _ _ h⟩)
  · exact .inr h
theorem Kp.same_at {M : List Addr} {H : Hp} {p l : Addr} {o u : HO} (_ : Kp M H (upd H p o)) (h : H l = some u) (n : H p = none) : (upd H p o) l = some u := by rw [upd_ne (ne_of_none h n)]; exact h
theorem ne_new (h : H l = some o) (n : H p = none) : l ≠ p := ne_of_none h n
end

/-! ### lists side by side -/
section
variable {α β γ : Type} {F G : α → β → Prop}
theorem pr_len {l : List α} {m : List β} (h : Paired F l m) : l.length = m.length := Paired.length h
theorem pr_get : ∀ {l : List α} {m : List β} {i : Nat} {x : α}, Paired F l m → l[i]? = some x → ∃ y, m[i]? = some y ∧ F x y
  | _, _, _, _, .nil, e => by simp at e
  | _, _, 0, _, .cons r _, e => by simp at e; subst e; exact ⟨_, rfl, r⟩
  | _, _, i + 1, x, .cons _ t, e => by
    obtain ⟨y, h1, h2⟩ := pr_get (i := i) (x := x) t (by simpa using e)
    exact ⟨y, by simpa using h1, h2⟩
theorem pr_get' : ∀ {l : List α} {m : List β} {i : Nat} {y : β}, Paired F l m → m[i]? = some y → ∃ x, l[i]? = some x ∧ F x y
  | _, _, _, _, .nil, e => by simp at e
  | _, _, 0, _, .cons r _, e => by simp at e; subst e; exact ⟨_, rfl, r⟩
  | _, _, i + 1, x, .cons _ t, e => by
    obtain ⟨y, h1, h2⟩ := pr_get' (i := i) (y := x) t (by simpa using e)
    exact ⟨y, by simpa using h1, h2⟩
theorem pr_app : ∀ {l l' : List α} {m m' : List β}, Paired F l m → Paired F l' m' → Paired F (l ++ l') (m ++ m')
  | _, _, _, _, .nil, s => s
  | _, _, _, _, .cons r t, s => .cons r (pr_app t s)
theorem pr_snoc {l : List α} {m : List β} {x : α} {y : β} (h : Paired F l m) (e : F x y) : Paired F (l ++ [x]) (m ++ [y]) := pr_app h (.cons e .nil)
theorem pr_map {l : List α} {m : List β} (h : Paired F l m) (f : ∀ a b, F a b → G a b) : Paired G l m := Paired.mapP h f
theorem pr_take : ∀ {l : List α} {m : List β} (n : Nat), Paired F l m → Paired F (l.take n) (m.take n)
  | _, _, 0, _ => by simp; exact .nil
  | _, _, _ + 1, .nil => .nil
  | _, _, n + 1, .cons r t => .cons r (pr_take n t)
theorem pr_nil {m : List β} (h : Paired F [] m) : m = [] := by cases h; rfl
theorem pr_nil' {l : List α} (h : Paired F l []) : l = [] := by cases h; rfl
theorem pr_cons {x : α} {l : List α} {m : List β} (h : Paired F (x :: l) m) : ∃ y r, m = y :: r ∧ F x y ∧ Paired F l r := by cases h with | cons a b => exact ⟨_, _, rfl, a, b⟩
theorem pr_cons' {l : List α} {y : β} {r : List β} (h : Paired F l (y :: r)) : ∃ x t, l = x :: t ∧ F x y ∧ Paired F t r := by cases h with | cons a b => exact ⟨_, _, rfl, a, b⟩
theorem pr_mem {l : List α} {m : List β} (h : Paired F l m) {x : α} (hx : x ∈ l) : ∃ y ∈ m, F x y := by
  obtain ⟨i, hi⟩ := List.mem_iff_getElem?.mp hx
  obtain ⟨y, h1, h2⟩ := pr_get h hi
  exact ⟨y, List.mem_of_getElem? h1, h2⟩
theorem pr_mem' {l : List α} {m : List β} (h : Paired F l m) {y : β} (hy : y ∈ m) : ∃ x ∈ l, F x y := by
  obtain ⟨i, hi⟩ := List.mem_iff_getElem?.mp hy
  obtain ⟨x, h1, h2⟩ := pr_get' h hi
  exact ⟨x, List.mem_of_getElem? h1, h2⟩
theorem pr_of_map (f : β → γ) {R : α → γ → Prop} : ∀ {l : List α} {m : List β}, Paired (fun a b => R a (f b)) l m → Paired R l (m.map f)
  | _, _, .nil => .nil
  | _, _, .cons h t => .cons h (pr_of_map f t)
end
theorem take_snoc {α : Type} {l : List α} {i : Nat} {x : α} (h : l[i]? = some x) : l.take (i + 1) = l.take i ++ [x] := by
  rw [List.take_add_one, h]; rfl

/-! ### terms in the heap -/
abbrev Tm (K : PySem.W.Frag) (H : Hp) (v : V) (t : T) : Prop := Dp K H v (toD t)
abbrev Tms (K : PySem.W.Frag) (H : Hp) : List V → List T → Prop := Paired (Tm K H)
section
variable {K : PySem.W.Frag} {H H' : Hp} {M : List Addr}
theorem tms_dp : ∀ {vs : List V} {ts : List T}, Tms K H vs ts → DpAll K H vs (toDs ts)
  | _, _, .nil => by rw [toDs]; exact .nil
  | _, _, .cons h t => by rw [toDs]; exact .cons h (tms_dp t)
theorem dp_tms : ∀ {vs : List V} {ts : List T}, DpAll K H vs (toDs ts) → Tms K H vs ts
  | vs, [], h => by
    rw [toDs] at h
    cases h
    exact .nil
  | vs, t :: ts, h => by
    rw [toDs] at h
    cases h with
    | cons a b => exact .cons a (dp_tms b)
theorem Tm.var {v : V} {n : Nat} (h : Tm K H v (.v n)) : v = .int n := by
  have h : Dp K H v (toD (.v n)) := h
  rw [toD] at h
  cases h
  rfl
theorem Tm.ofVar (n : Nat) : Tm K H (.int n) (.v n) := by
  show Dp K H _ (toD (.v n))
  rw [toD]
  exact .int _
theorem Tm.app {v : V} {f : Str} {as : List T} (h : Tm K H v (.a f as)) : ∃ a vs, v = .ref a ∧ SqT K H a (.str f :: vs) ∧ Tms K H vs as := by
  have h : Dp K H v (toD (.a f as)) := h
  rw [toD] at h
  cases h with
  | tup hs ha =>
    cases ha with
    | cons h1 h2 =>
      cases h1
      exact ⟨_, _, rfl, hs, dp_tms h2⟩
theorem Tm.mk {a : Addr} {f : Str} {vs : List V} {as : List T} (hs : SqT K H a (.str f :: vs)) (ha : Tms K H vs as) : Tm K H (.ref a) (.a f as) := by
  show Dp K H _ (toD (.a f as))
  rw [toD]
  exact .tup hs (.cons (.str _) (tms_dp ha))
mutual
theorem Tm.kp (k : Kp M H H') : ∀ (t : T) {v : V}, Tm K H v t → Tm K H' v t
  | .v n, v, h => by rw [h.var]; exact .ofVar n
  | .a f as, v, h => by
    obtain ⟨a, vs, rfl, hs, ha⟩ := h.app
    exact .mk (k.sqt hs) (Tms.kp k as ha)
theorem Tms.kp (k : Kp M H H') : ∀ (ts : List T) {vs : List V}, Tms K H vs ts → Tms K H' vs ts
  | [], _, h => by rw [pr_nil' h]; exact .nil
  | t :: ts, _, h => by
    obtain ⟨x, r, rfl, h1, h2⟩ := pr_cons' h
    exact .cons (Tm.kp k t h1) (Tms.kp k ts h2)
end
mutual
theorem tm_ext (k : ∀ a xs, SqT K H a xs → SqT K H' a xs) : ∀ (t : T) {v : V}, Tm K H v t → Tm K H' v t
  | .v n, v, h => by rw [h.var]; exact .ofVar n
  | .a f as, v, h => by
    obtain ⟨a, vs, rfl, hs, ha⟩ := h.app
    exact .mk (k _ _ hs) (tms_ext k as ha)
theorem tms_ext (k : ∀ a xs, SqT K H a xs → SqT K H' a xs) : ∀ (ts : List T) {vs : List V}, Tms K H vs ts → Tms K H' vs ts
  | [], _, h => by rw [pr_nil' h]; exact .nil
  | t :: ts, _, h => by
    obtain ⟨x, r, rfl, h1, h2⟩ := pr_cons' h
    exact .cons (tm_ext k t h1) (tms_ext k ts h2)
end
/-- a tuple's class, for isinstance -/
theorem tyx_tup {a : Addr} {xs : List V} (h : SqT K H a xs) : TyX K H (.ref a) (.type "tuple") := by
  rcases h with (h | ⟨ob, h⟩) | ⟨o, its, n, hk, hc, _⟩
  · exact .base (.tup h)
  · exact .fTuple h
  · exact .kTuple hk hc
theorem tyx_int (i : Int) : TyX K H (.int i) (.type "int") := .base (.int i)

/-! ### pairs of a name and a number; the rules; the tape -/
def PrAt (K : PySem.W.Frag) (H : Hp) (v : V) (q : Str × Nat) : Prop := ∃ a, v = .ref a ∧ SqT K H a [.str q.1, .int q.2]
def PrL (K : PySem.W.Frag) (H : Hp) (l : Addr) (ps : List (Str × Nat)) : Prop := ∃ vs, H l = some (.lst vs) ∧ Paired (PrAt K H) vs ps
theorem PrAt.kp {v : V} {q : Str × Nat} (k : Kp M H H') (h : PrAt K H v q) : PrAt K H' v q := by
  obtain ⟨a, e, s⟩ := h
  exact ⟨a, e, k.sqt s⟩
theorem PrL.kp {l : Addr} {ps : List (Str × Nat)} (k : Kp M H H') (n : l ∉ M) (h : PrL K H l ps) : PrL K H' l ps := by
  obtain ⟨vs, e, p⟩ := h
  exact ⟨vs, k.all _ _ n e, pr_map p fun _ _ q => q.kp k⟩
def RuleAt (K : PySem.W.Frag) (H : Hp) (v : V) (r : Rl) : Prop :=
  ∃ a b vs c, v = .ref a ∧ SqT K H a [.str r.name, .ref b, c] ∧ SqT K H b vs ∧ Tms K H vs r.prem ∧ Tm K H c r.concl
theorem RuleAt.kp {v : V} {r : Rl} (k : Kp M H H') (h : RuleAt K H v r) : RuleAt K H' v r := by
  obtain ⟨a, b, vs, c, e, h1, h2, h3, h4⟩ := h
  exact ⟨a, b, vs, c, e, k.sqt h1, k.sqt h2, h3.kp k, h4.kp k⟩
theorem rules_kp {vs : List V} {rs : List Rl} (k : Kp M H H') (h : Paired (RuleAt K H) vs rs) : Paired (RuleAt K H') vs rs := pr_map h fun _ _ q => q.kp k
theorem prs_kp {vs : List V} {rs : List (Str × Nat)} (k : Kp M H H') (h : Paired (PrAt K H) vs rs) : Paired (PrAt K H') vs rs := pr_map h fun _ _ q => q.kp k
/-- the tape at t: the script's copy at l, the place, the rest, the sum -/
def TapeAt (H : Hp) (t l : Addr) : Prop :=
  ∃ (ns : List Int) (p x z : Int), H t = some (.lst [.ref l, .int p, .int x, .int z]) ∧ H l = some (.lst (ns.map V.int)) ∧ 0 ≤ p
theorem TapeAt.kp {t l : Addr} (k : Kp M H H') (h : TapeAt H t l) (n : t ∉ M) (nl : l ∉ M) : TapeAt H' t l := by
  obtain ⟨ns, p, x, z, h1, h2, h3⟩ := h
  exact ⟨ns, p, x, z, k.all _ _ n h1, k.all _ _ nl h2, h3⟩
theorem TapeAt.same {t l : Addr} (k : Same H H') (h : TapeAt H t l) : TapeAt H' t l := h.kp (M := []) (.of k) (by simp) (by simp)
theorem TapeAt.ne {t l p : Addr} (h : TapeAt H t l) (n : H p = none) : t ≠ p ∧ l ≠ p := by
  obtain ⟨ns, _, x, z, h1, h2, h3⟩ := h
  exact ⟨ne_of_none h1 n, ne_of_none h2 n⟩
theorem TapeAt.tl {t l : Addr} (h : TapeAt H t l) : l ≠ t := by
  obtain ⟨ns, _, x, z, h1, h2, h3⟩ := h
  refine ne_of h2 h1 fun e => ?_
  cases ns with
  | nil => injection e with e; cases e
  | cons n r =>
    injection e with e
    injection e with e
    cases e
/-- another list is written -/
theorem TapeAt.upd {t l p : Addr} {o : HO} (h : TapeAt H t l) (n1 : t ≠ p) (n2 : l ≠ p) : TapeAt (L2.upd H p o) t l := by
  obtain ⟨ns, q, x, z, h1, h2, h3⟩ := h
  exact ⟨ns, q, x, z, by rw [upd_ne n1]; exact h1, by rw [upd_ne n2]; exact h2, h3⟩
end
theorem cut1 (xs : List V) : cutV xs (some 1) none = xs.drop 1 := by
  have e : HT.sIx xs.length 0 (some 1) = min 1 xs.length := HT.sIx_nat xs.length 0 1
  unfold cutV
  rw [e, HT.sIx_none]
  cases xs with
  | nil => rfl
  | cons x r =>
    have e1 : min 1 (x :: r).length = 1 := by rw [List.length_cons]; omega
    rw [e1, List.take_of_length_le]
    simp
theorem whole1 (x : V) (r : List V) : ¬ (HT.sIx (x :: r).length 0 (some 1) = 0 ∧ HT.sIx (x :: r).length (x :: r).length none = (x :: r).length) := by
  have e : HT.sIx (x :: r).length 0 (some 1) = min 1 (x :: r).length := HT.sIx_nat _ 0 1
  rw [e, List.length_cons]
  omega

/-! ### the text of the program -/
def topS (i : Nat) : Stmt := PySem.Challenge.pw_openrules_k23_whole_new_relations_change.main.body.getD i (.Pass ⟨0, 0, 0, 0⟩)
abbrev FnP (K : PySem.W.Frag) (x : Str) (i : Nat) (f : Addr) (fd : FuncData) : Prop := FunD K x x (defArgs (topS i)) (defBody (topS i)) (defScope (topS i)) [] [] f fd
/-- the rule for a def of the text: nothing is raised out of it -/
theorem FnP.go {P : Program} {w : World} {K : PySem.W.Frag} {mg : Str → Option Value} {base : Heap} {x : Str} {i : Nat} {f : Addr} {fd : FuncData} {N ps : List Str} {k : Nat} {sp : Sp} (F : FnP K x i f fd) (S : FnScope N ps (defScope (topS i)))
    (len : ∀ vs H Q E, sp vs H Q E → vs.length = ps.length)
    (hb : ∀ (cdv : Value) (A : Around) (outer : List Env) (s : Shared) (H : Hp) (vs : List V) (Q : VK) (E : XK), Room k (A.deeper (envOfC x (defScope (topS i)) s.heap.objs.size f cdv)) → sp vs H Q E →
      ∃ t, PSs (cxOf CX0 P w K mg base N x (defScope (topS i)) f cdv A outer s H E).nox (defBody (topS i)) t ∧ t { nx := fun _ H' => Q .non H', rt := Q } (start N vs) H) : FnOk P w K mg base CX0 (k + 1) f fd ps sp := by
  refine F.ok S len fun cdv A outer s H vs Q E hr h => ?_
  obtain ⟨t, h1, h2⟩ := hb cdv A outer s H vs Q E hr h
  exact ⟨t, h1.nox, h2⟩
/-- a promise that asks what is never so -/
abbrev spNo : Sp := fun _ _ _ _ => False
theorem ok_no {P : Program} {w : World} {K : PySem.W.Frag} {mg : Str → Option Value} {base : Heap} {k : Nat} {f : Addr} {fd : FuncData} {ps : List Str} : FnOk P w K mg base CX0 k f fd ps spNo := ⟨fun _ _ _ _ h => h.elim, fun _ _ _ _ _ _ _ _ _ _ _ _ _ h => h.elim⟩
theorem mono2 {P : Program} {w : World} {K : PySem.W.Frag} {mg : Str → Option Value} {base : Heap} {CX : CXT} {k : Nat} {f : Addr} {fd : FuncData} {ps : List Str} {sp : Sp} (F : FnOk P w K mg base CX k f fd ps sp) (j : Nat) (h : k ≤ j) : FnOk P w K mg base CX j f fd ps sp := F.mono h
end K23

set_option Elab.async false
set_option linter.all false
set_option maxRecDepth 100000
set_option maxHeartbeats 4000000
/-! power, _law_draw -/
namespace K23
open PySem PySem.Spec PyProof.Rows L2
section
variable {P : Program} {w : World} {K : PySem.W.Frag} {mg : Str → Option Value} {base : Heap}
theorem sc8 : FnScope ["base", "exponent", "result", "_"] ["base", "exponent"] (defScope (topS 8)) := ⟨rfl, rfl, rfl, by decide +kernel, rfl, by decide +kernel, by decide +kernel⟩
def spPower : Sp := fun vs H Q _ => ∃ b e : Nat, vs = [.int b, .int e] ∧ b ≤ 1000 ∧ e ≤ 1000 ∧ Q (.int ((b ^ e : Nat) : Int)) H
theorem ok_power {f : Addr} {fd : FuncData} {k : Nat} (F : FnP K "power" 8 f fd) (mr : mg "range" = none) : FnOk P w K mg base CX0 (k + 1) f fd ["base", "exponent"] spPower := by
  refine F.go sc8 (fun vs H Q E h => ?_) (fun cdv A outer s H vs Q E hr h => ?_)
  · obtain ⟨b, e, rfl, _⟩ := h
    rfl
  · obtain ⟨b, e, rfl, hb, he, q⟩ := h
    refine ⟨_, pss_cons (ps_set (i := 2) sc8.nd rfl (.inl rfl) pe_int)
      (pss_cons (ps_for PassesOwn.never rfl (pi_range1 rfl mr (pa_cons (pv 1) pa_nil)) (pg_name (i := 3) sc8.nd rfl (.inl rfl))
        (pss_one (ps_set (i := 2) sc8.nd rfl (.inl rfl) (pe_op op_mul (pv 2) (pv 0)))))
      (pss_one (ps_ret (pv 2)))), ?_⟩
    refine ⟨_, rfl, (e : Int), rfl, by omega, by omega, ?_⟩
    refine for_range (n := (e : Int).toNat) (fun i σ H' => H' = H ∧ ∃ y, σ = [some (.int b), some (.int e), some (.int ((b ^ i : Nat) : Int)), y]) ⟨rfl, none, rfl⟩ ?_ ?_
    · rintro i σ H' hi ⟨rfl, y, rfl⟩
      refine ⟨_, rfl, _, rfl, _, _, rfl, rfl, .inr ⟨by omega, by omega⟩, rfl, some (.int (0 + i)), ?_⟩
      have e1 : (((b ^ i : Nat) : Int) * (b : Int)) = ((b ^ (i + 1) : Nat) : Int) := by rw [Nat.pow_succ]; push_cast; rfl
      rw [← e1]
      rfl
    · rintro σ H' ⟨rfl, y, rfl⟩
      refine ⟨_, rfl, ?_⟩
      have e1 : (e : Int).toNat = e := by omega
      rw [e1]
      exact q
end
end K23

set_option Elab.async false
set_option linter.all false
set_option maxRecDepth 100000
set_option maxHeartbeats 4000000
/-! The program's defs about terms. -/
namespace K23
open PySem PySem.Spec PyProof.Rows L2

/-- a dict comprehension over a range -/
theorem dc_rng {lo : Int} {n : Nat} {g : TG} {tt : TT} {tk tv : TE} {vs : List Nat} {σ : L2.St} {H1 : Hp} {D : Addr} {Qd : Hp → Prop} (Pv : Nat → Hp → Prop) (h0 : Pv 0 (upd H1 D (.dK [])))
    (hs : ∀ i H, i < n → Pv i H → g (.int (lo + i)) (wipe σ vs) H fun s2 H2 => wipe s2 vs = wipe σ vs ∧ tt s2 H2 fun b H3 =>
      if b = true then tk s2 H3 fun y H4 => tv s2 H4 fun z H5 => ∃ kvs k, y = kV k ∧ H5 D = some (.dK kvs) ∧ kvs.length < sizeLine ∧ Pv (i + 1) (upd H5 D (.dK (putK kvs k z))) else Pv (i + 1) H3) (hd : ∀ H, Pv n H → Qd H) :
    ∃ W : Nat → Nat → Hp → Prop, (∃ m, W 0 m (upd H1 D (.dK []))) ∧ ∀ i m H, W i m H →
      ((Itr lo n).stop i H ∧ Qd H) ∨ ((Itr lo n).go i H ∧ ∃ Nx : Hp → Prop, (∀ H', Nx H' → ∃ m', m' < m ∧ W (i + 1) m' H') ∧ ∀ x H', (Itr lo n).yld i H x H' → g x (wipe σ vs) H' fun s2 H2 => wipe s2 vs = wipe σ vs ∧ tt s2 H2 fun b H3 =>
        if b = true then tk s2 H3 fun y H4 => tv s2 H4 fun z H5 => ∃ kvs k, y = kV k ∧ H5 D = some (.dK kvs) ∧ kvs.length < sizeLine ∧ Nx (upd H5 D (.dK (putK kvs k z))) else Nx H3) := by
  refine ⟨fun i m H => m + i = n ∧ Pv i H, ⟨n, rfl, h0⟩, fun i m H hW => ?_⟩
  obtain ⟨em, p⟩ := hW
  by_cases hlt : i < n
  · refine .inr ⟨hlt, Pv (i + 1), fun H' q => ⟨m - 1, by omega, by omega, q⟩, fun x H' y => ?_⟩
    obtain ⟨e1, e2⟩ := y
    rw [e1, e2]
    exact hs i H hlt p
  · have ei : i = n := by omega
    rw [ei] at p
    exact .inl ⟨by show n ≤ i; omega, hd H p⟩

abbrev keyE (n : Nat) : Key × V := (.inl (n : Int), .bl true)
theorem keyE_val (n : Nat) : ∀ ns : List Nat, valV (ns.map keyE) (.inl (n : Int)) = if n ∈ ns then some (.bl true) else none
  | [] => by simp [valV_nil]
  | m :: ns => by
    rw [List.map_cons]
    by_cases h : m = n
    · rw [valV_pos (by rw [h])]
      simp [h]
    · rw [valV_neg (fun z => h (by injection z with z; omega)), keyE_val n ns]
      have h' : ¬ n = m := fun z => h z.symm
      simp [h']
theorem putE (n : Nat) (ns : List Nat) : putK (ns.map keyE) (.inl (n : Int)) (.bl true) = (if n ∈ ns then ns else ns ++ [n]).map keyE := by
  by_cases h : n ∈ ns
  · rw [if_pos h]
    have ha : ((ns.map keyE).any fun kv => decide (kv.1 = (Sum.inl (n : Int) : Key))) = true := by
      rw [valV_any, keyE_val, if_pos h]; rfl
    unfold putK
    rw [if_pos ha, List.map_map]
    apply List.map_congr_left
    intro m _
    show (if (keyE m).1 = (Sum.inl (n : Int) : Key) then _ else _) = keyE m
    split
    · rename_i e
      show ((keyE m).1, V.bl true) = keyE m
      rfl
    · rfl
  · rw [if_neg h, putK_new _ (by rw [keyE_val, if_neg h]), List.map_append]
    rfl
section
variable {P : Program} {w : World} {K : PySem.W.Frag} {mg : Str → Option Value} {base : Heap}

/-! ### note_variables -/
theorem sc4 : FnScope ["term", "found", "argument"] ["term", "found"] (defScope (topS 4)) := ⟨rfl, rfl, rfl, by decide +kernel, rfl, by decide +kernel, by decide +kernel⟩
def spNote (K : PySem.W.Frag) (n : Nat) : Sp := fun vs H Q _ => ∃ (v : V) (d : Addr) (t : T) (ns : List Nat), vs = [v, .ref d] ∧ Tm K H v t ∧ dep t ≤ n ∧ ns.length + size t ≤ 1000 ∧ H d = some (.dK (ns.map keyE)) ∧
  ∀ H', Kp [d] H H' → H' d = some (.dK ((vars ns t).map keyE)) → Q .non H'
theorem ok_note {f : Addr} {fd : FuncData} (F : FnP K "note_variables" 4 f fd) (gF : mg "note_variables" = some (.ref f)) (mi : mg "isinstance" = none) (mt : mg "int" = none) :
    ∀ n, FnOk P w K mg base CX0 n f fd ["term", "found"] (spNote K n)
  | 0 => ok_no.imp fun vs H Q E h => by
    obtain ⟨v, d, t, ns, _, _, h, _⟩ := h
    have := dep_pos t
    omega
  | n + 1 => by
    have G := ok_note F gF mi mt n
    have b : Binds K fd ["term", "found"] [] := F.bindsN fun _ _ _ _ _ _ us hl => match us, hl with | [_, _], _ => rfl
    refine F.go sc4 (fun vs H Q E h => ?_) (fun cdv A outer s H vs Q E hr h => ?_)
    · obtain ⟨v, d, t, ns, rfl, _⟩ := h
      rfl
    · obtain ⟨v, d, t, ns, rfl, hv, hd, hz, hD, q⟩ := h
      refine ⟨_, PSs.nox (pss_one (ps_if (pt_val (pe_callB call_isi (by rfl) mi (by decide +kernel) (pa_cons (pv 0) (pa_cons (pe_bltn (v := .ty "int") (by rfl) mt boot_int rfl) pa_nil))))
        (pss_one (ps_dput (hu_of hr) (pv 1) (pv 0) pe_bl rfl))
        (pss_one (ps_for PassesOwn.never rfl (pi_tup (pe_slice sl_tupA (pv 0) (po_some pe_int) po_none)) (pg_name (i := 2) sc4.nd rfl (.inl rfl))
          (pss_one (ps_expr (pe_call G hr rfl gF F.kp b .nil pass0 (pa_cons (pv 2) (pa_cons (pv 1) pa_nil))))))))), ?_⟩
      cases t with
      | v m =>
        have e := hv.var
        subst e
        refine ⟨_, rfl, _, _, .type "int", _, true, rfl, .ty "int", tyx_int _, kit_ty (by decide +kernel), true, rfl, iteT ?_⟩
        refine ⟨_, rfl, _, rfl, d, _, rfl, DPut.k (k := .inl (m : Int)) hD (by rw [List.length_map]; exact small1000 (by omega)), ?_⟩
        refine q _ (.put (by simp) hD True.intro) ?_
        rw [upd_same, putE, vars]
      | a g as =>
        obtain ⟨a, xs, rfl, hs, ha⟩ := hv.app
        rw [size] at hz
        rw [dep] at hd
        refine ⟨_, rfl, _, _, .type "tuple", _, false, rfl, .ty "int", tyx_tup hs, kit_ty (by decide +kernel), false, rfl, iteF ?_⟩
        refine ⟨_, rfl, 1, rfl, a, _, rfl, hs, fun z => absurd z (whole1 _ _), fun _ p np => ?_⟩
        rw [cut1]
        have k1 : Kp [d] H (upd H p (.tup xs)) := .new np
        refine ⟨p, rfl, ⟨_, SqT.of upd_same⟩, for_tup (xs := xs) (fun i σ H' => (∃ y, σ = [some (.ref a), some (.ref d), y]) ∧ Kp [d] (upd H p (.tup xs)) H' ∧ H' d = some (.dK ((varsL ns (as.take i)).map keyE)))
          ⟨⟨_, rfl⟩, .refl _ _, ?_⟩ ?_ ?_ ?_⟩
        · rw [upd_ne (ne_of_none hD np)]
          exact hD
        · rintro i σ H' hi ⟨_, k2, _⟩
          exact .inl (.inl (k2.tup _ _ upd_same))
        · rintro i x σ H' hx ⟨⟨y, rfl⟩, k2, hD2⟩
          obtain ⟨t, ht, hm⟩ := pr_get ha hx
          have hmem := List.mem_of_getElem? ht
          have hdt := deps_mem hmem
          have hst := sizes_at ht
          have hvl := varsL_len ns (as.take i)
          refine ⟨x, rfl, .ref d, rfl, x, d, t, varsL ns (as.take i), rfl, (hm.kp k1).kp k2, by omega, by omega, hD2, fun H3 k3 h3 => ?_⟩
          refine ⟨⟨_, rfl⟩, k2.trans k3, ?_⟩
          rw [h3, take_snoc ht, varsL_snoc]
        · rintro σ H' ⟨_, k2, hD2⟩
          rw [pr_len ha, List.take_length] at hD2
          refine q _ (k1.trans k2) ?_
          rw [hD2, vars]

/-! ### variables_of -/
theorem sc5 : FnScope ["terms", "found", "term"] ["terms"] (defScope (topS 5)) := ⟨rfl, rfl, rfl, by decide +kernel, rfl, by decide +kernel, by decide +kernel⟩
def spVars (K : PySem.W.Frag) (n : Nat) : Sp := fun vs H Q _ => ∃ (a : Addr) (xs : List V) (ts : List T), vs = [.ref a] ∧ SqT K H a xs ∧ Tms K H xs ts ∧ deps ts ≤ n ∧ sizes ts ≤ 1000 ∧
  ∀ H' p, Same H H' → H' p = some (.tup ((varsL [] ts).map fun n : Nat => .int n)) → Q (.ref p) H'
theorem ok_vars {f fN : Addr} {fd fdN : FuncData} {k : Nat} (F : FnP K "variables_of" 5 f fd) (FN : FnP K "note_variables" 4 fN fdN) (gN : mg "note_variables" = some (.ref fN)) (mi : mg "isinstance" = none) (mt : mg "int" = none)
    (ml : mg "list" = none) (mu : mg "tuple" = none) : FnOk P w K mg base CX0 (k + 1) f fd ["terms"] (spVars K k) := by
  have G := ok_note (P := P) (w := w) (base := base) FN gN mi mt k
  have b : Binds K fdN ["term", "found"] [] := FN.bindsN fun _ _ _ _ _ _ us hl => match us, hl with | [_, _], _ => rfl
  refine F.go sc5 (fun vs H Q E h => ?_) (fun cdv A outer s H vs Q E hr h => ?_)
  · obtain ⟨a, xs, ts, rfl, _⟩ := h
    rfl
  · obtain ⟨a, xs, ts, rfl, hs, ht, hd, hz, q⟩ := h
    refine ⟨_, PSs.nox (pss_cons (ps_set (i := 1) sc5.nd rfl (.inl rfl) pe_dnewK)
      (pss_cons (ps_for PassesOwn.never rfl (pi_tup (pv 0)) (pg_name (i := 2) sc5.nd rfl (.inl rfl))
        (pss_one (ps_expr (pe_call G hr rfl gN FN.kp b .nil pass0 (pa_cons (pv 2) (pa_cons (pv 1) pa_nil))))))
      (pss_one (ps_ret (pe_callTy call_tuple_of (by rfl) mu (by decide +kernel) (pa_cons (pe_callTy (call_listD rfl) (by rfl) ml (by decide +kernel) (pa_cons (pv 1) pa_nil)) pa_nil)))))), ?_⟩
    refine fun d nd => ⟨_, rfl, a, rfl, ⟨xs, (Kp.new (M := []) nd).sqt hs⟩, for_tup (xs := xs) (fun i σ H' => (∃ y, σ = [some (.ref a), some (.ref d), y]) ∧ Same H H' ∧ H' d = some (.dK ((varsL [] (ts.take i)).map keyE)))
      ⟨⟨_, rfl⟩, same_new nd, upd_same⟩ ?_ ?_ ?_⟩
    · rintro i σ H' hi ⟨_, s2, _⟩
      exact (Kp.of (M := []) s2).sqt hs
    · rintro i x σ H' hx ⟨⟨y, rfl⟩, s2, hD⟩
      obtain ⟨t, htt, hm⟩ := pr_get ht hx
      have hmem := List.mem_of_getElem? htt
      have hdt := deps_mem hmem
      have hst := sizes_at htt
      have hvl := varsL_len [] (ts.take i)
      refine ⟨x, rfl, .ref d, rfl, x, d, t, _, rfl, hm.kp (.of (M := []) s2), by omega, by simp only [List.length_nil] at hvl; omega, hD, fun H3 k3 h3 => ?_⟩
      refine ⟨⟨_, rfl⟩, ((Kp.of s2).trans k3).drop nd |>.same, ?_⟩
      rw [h3, take_snoc htt, varsL_snoc]
    · rintro σ H' ⟨⟨y, rfl⟩, s2, hD⟩
      rw [pr_len ht, List.take_length] at hD
      refine ⟨_, rfl, d, _, rfl, .inl hD, fun p np => ?_⟩
      refine ⟨p, _, rfl, .inl ⟨SqL.of upd_same, fun l nl => ?_⟩⟩
      refine q _ l ((s2.trans (same_new np)).trans (same_new nl)) ?_
      rw [upd_same, List.map_map]
      rfl
end
end K23

set_option Elab.async false
set_option linter.all false
set_option maxRecDepth 100000
set_option maxHeartbeats 4000000
/-! replaced, instance_of, variable_count. -/
namespace K23
open PySem PySem.Spec PyProof.Rows L2
section
variable {P : Program} {w : World} {K : PySem.W.Frag} {mg : Str → Option Value} {base : Heap}
theorem line_big {n : Nat} (h : n ≤ 100000) : n < sizeLine := by rw [sizeLine_eq]; omega

/-! ### replaced -/
/-- a dict that says what stands for a variable -/
def TabAt (K : PySem.W.Frag) (H : Hp) (d : Addr) (m : Nat → Option T) : Prop :=
  ∃ kvs, H d = some (.dK kvs) ∧ ∀ n : Nat, (m n = none ∧ valV kvs (.inl (n : Int)) = none) ∨ ∃ t v, m n = some t ∧ valV kvs (.inl (n : Int)) = some v ∧ Tm K H v t
theorem TabAt.kp {H H' : Hp} {M : List Addr} {d : Addr} {m : Nat → Option T} (k : Kp M H H') (n : d ∉ M) (h : TabAt K H d m) : TabAt K H' d m := by
  obtain ⟨kvs, e, c⟩ := h
  refine ⟨kvs, k.all _ _ n e, fun i => ?_⟩
  rcases c i with c | ⟨t, v, c1, c2, c3⟩
  · exact .inl c
  · exact .inr ⟨t, v, c1, c2, c3.kp k⟩
theorem sc6 : FnScope ["term", "table", "argument"] ["term", "table"] (defScope (topS 6)) := ⟨rfl, rfl, rfl, by decide +kernel, rfl, by decide +kernel, by decide +kernel⟩
def spRep (K : PySem.W.Frag) (n : Nat) : Sp := fun vs H Q _ => ∃ (v : V) (d : Addr) (t : T) (m : Nat → Option T), vs = [v, .ref d] ∧ Tm K H v t ∧ dep t ≤ n ∧ size t ≤ 1000 ∧ TabAt K H d m ∧
  ∀ H' u, Same H H' → Tm K H' u (ren m t) → Q u H'
theorem ok_rep {f : Addr} {fd : FuncData} (F : FnP K "replaced" 6 f fd) (gF : mg "replaced" = some (.ref f)) (mi : mg "isinstance" = none) (mt : mg "int" = none) (mu : mg "tuple" = none) :
    ∀ n, FnOk P w K mg base CX0 n f fd ["term", "table"] (spRep K n)
  | 0 => ok_no.imp fun vs H Q E h => by
    obtain ⟨v, d, t, m, _, _, h, _⟩ := h
    have := dep_pos t
    omega
  | n + 1 => by
    have G := ok_rep F gF mi mt mu n
    have b : Binds K fd ["term", "table"] [] := F.bindsN fun _ _ _ _ _ _ us hl => match us, hl with | [_, _], _ => rfl
    refine F.go sc6 (fun vs H Q E h => ?_) (fun cdv A outer s H vs Q E hr h => ?_)
    · obtain ⟨v, d, t, m, rfl, _⟩ := h
      rfl
    · obtain ⟨v, d, t, m, rfl, hv, hd, hz, hT, q⟩ := h
      refine ⟨_, PSs.nox (pss_cons (ps_if (pt_val (pe_callB call_isi (by rfl) mi (by decide +kernel) (pa_cons (pv 0) (pa_cons (pe_bltn (v := .ty "int") (by rfl) mt boot_int rfl) pa_nil))))
          (pss_one (ps_ret (pe_dget2 (hu_of hr) (pv 1) (pv 0) (pv 0) ⟨rfl, rfl, rfl, rfl⟩))) pss_nil)
        (pss_one (ps_ret (pe_op op_catA (pe_tup (pa_cons (pe_ix ix_tup (pv 0) pe_int (fun _ _ => rfl)) pa_nil))
          (pe_callTy call_tuple_of (by rfl) mu (by decide +kernel) (pa_cons (pe_lc (own := [("argument", 2)]) (g := gName 2) (tt := tYes) rfl sc6.nd (pi_tup (pe_slice sl_tupA (pv 0) (po_some pe_int) po_none))
            (blkOk_by (N := ["term", "table", "argument"]) (sc := defScope (topS 6)) (by decide +kernel)) (fun _ _ _ _ _ => pg_name (i := 2) sc6.nd rfl (.inl rfl)) (fun _ _ _ _ _ => pts_nil)
            (fun _ _ _ _ _ => pe_call G hr rfl gF F.kp b .nil pass0 (pa_cons (pv 2) (pa_cons (pv 1) pa_nil)))) pa_nil)))))), ?_⟩
      cases t with
      | v i =>
        have e := hv.var
        subst e
        refine ⟨_, rfl, _, _, .type "int", _, true, rfl, .ty "int", tyx_int _, kit_ty (by decide +kernel), true, rfl, iteT ?_⟩
        obtain ⟨kvs, hD, hc⟩ := hT
        refine ⟨_, rfl, d, rfl, .inl ⟨kvs, .inl hD⟩, _, rfl, _, rfl, valV kvs (.inl (i : Int)), DGet.k (k := .inl (i : Int)) hD, ?_⟩
        rcases hc i with ⟨c1, c2⟩ | ⟨t, u, c1, c2, c3⟩
        · rw [c2]
          refine q _ _ (.refl _) ?_
          rw [ren, c1]
          exact .ofVar i
        · rw [c2]
          refine q _ _ (.refl _) ?_
          rw [ren, c1]
          exact c3
      | a g as =>
        obtain ⟨a, xs, rfl, hs, ha⟩ := hv.app
        rw [size] at hz
        rw [dep] at hd
        have hlen := len_sizes as
        have hlx := pr_len ha
        refine ⟨_, rfl, _, _, .type "tuple", _, false, rfl, .ty "int", tyx_tup hs, kit_ty (by decide +kernel), false, rfl, iteF ?_⟩
        refine ⟨_, rfl, a, _, 0, .str g, rfl, rfl, hs, atI_nat (j := 0) rfl, by show 1 ≤ sizeLine; rw [sizeLine_eq]; omega, fun c nc => ?_⟩
        have s1 : Same H (upd H c (.tup [.str g])) := same_new nc
        refine ⟨_, rfl, 1, rfl, a, _, rfl, (Kp.of (M := []) s1).sqt hs, fun z => absurd z (whole1 _ _), fun _ p np => ?_⟩
        rw [cut1]
        have s2 : Same H (upd (upd H c (.tup [.str g])) p (.tup xs)) := s1.trans (same_new np)
        refine ⟨p, rfl, ⟨_, SqT.of upd_same⟩, fun D nD => lc_tup (xs := xs) (fun i H' => Same (upd (upd H c (.tup [.str g])) p (.tup xs)) H' ∧ ∃ ws, H' D = some (.lst ws) ∧ Tms K H' ws ((as.take i).map (ren m)))
          ⟨same_new nD, [], upd_same, .nil⟩ ?_ ?_ ?_⟩
        · rintro i H' hi ⟨s3, _⟩
          exact .inl (.inl (s3 _ _ upd_same))
        · rintro i x H' hx ⟨s3, ws, hD, hw⟩
          obtain ⟨t, ht, hm⟩ := pr_get ha hx
          have hmem := List.mem_of_getElem? ht
          have hdt := deps_mem hmem
          have hst := sizes_mem hmem
          have s4 := s2.trans s3
          refine ⟨rfl, x, rfl, .ref d, rfl, x, d, t, m, rfl, hm.kp (.of (M := []) s4), by omega, by omega, hT.kp (.of (M := []) s4) (by simp), fun H4 u s5 hu => ?_⟩
          refine ⟨ws, s5 _ _ hD, ?_, ?_⟩
          · have := pr_len hw
            rw [List.length_map, List.length_take] at this
            exact line_big (by omega)
          · have k6 : Kp [D] H4 (upd H4 D (.lst (ws ++ [u]))) := .put (by simp) (s5 _ _ hD) True.intro
            refine ⟨same_put (s3.trans s5) nD, ws ++ [u], upd_same, ?_⟩
            rw [take_snoc ht, List.map_append]
            exact pr_snoc (Tms.kp k6 _ (Tms.kp (.of (M := []) s5) _ hw)) (Tm.kp k6 _ hu)
        · rintro H' ⟨s3, ws, hD, hw⟩
          rw [hlx, List.take_length] at hw
          have hwl := pr_len hw
          rw [List.length_map] at hwl
          refine ⟨D, ws, rfl, .inl ⟨SqL.of hD, fun l nl => ?_⟩⟩
          have hc : (upd H' l (.tup ws)) c = some (.tup [.str g]) := by
            have e1 : H' c = some (.tup [.str g]) := s3 _ _ (same_new np _ _ upd_same)
            exact same_new nl _ _ e1
          have hres : ∀ {H4 : Hp} {r : Addr} {ws' : List V}, Same (upd H' l (.tup ws)) H4 → SqT K H4 r (.str g :: ws') → Tms K H4 ws' (as.map (ren m)) → Q (.ref r) H4 := fun {H4 r ws'} s5 h5 h6 =>
            q H4 (.ref r) ((s2.trans s3).trans ((same_new nl).trans s5)) (by rw [ren, rens_map]; exact .mk h5 h6)
          refine ⟨c, l, _, ws, rfl, rfl, SqT.of hc, SqT.of upd_same, ?_, (fun z => nomatch z), fun _ z => ?_, fun _ _ r nr => ?_⟩
          · have := line_big (n := 1 + ws.length) (by omega)
            exact Nat.le_of_lt this
          · subst z
            refine hres (.refl _) (SqT.of hc) ?_
            exact Tms.kp (.new (M := []) nl) _ hw
          · exact hres (same_new nr) (SqT.of upd_same) (Tms.kp (.new (M := []) nr) _ (Tms.kp (.new (M := []) nl) _ hw))

/-! ### instance_of -/
theorem sc7 : FnScope ["term", "terms", "k"] ["term", "terms"] (defScope (topS 7)) := ⟨rfl, rfl, rfl, by decide +kernel, rfl, by decide +kernel, by decide +kernel⟩
def spInst (K : PySem.W.Frag) (n : Nat) : Sp := fun vs H Q _ => ∃ (v : V) (a : Addr) (t : T) (us : List V) (ts : List T), vs = [v, .ref a] ∧ Tm K H v t ∧ dep t ≤ n ∧ size t ≤ 1000 ∧ SqT K H a us ∧ Tms K H us ts ∧ us.length ≤ 1000 ∧
  ∀ H' u, Same H H' → Tm K H' u (inst ts t) → Q u H'
theorem ok_inst {f fR : Addr} {fd fdR : FuncData} {k : Nat} (F : FnP K "instance_of" 7 f fd) (FR : FnP K "replaced" 6 fR fdR) (gR : mg "replaced" = some (.ref fR)) (mi : mg "isinstance" = none) (mt : mg "int" = none) (mu : mg "tuple" = none)
    (mr : mg "range" = none) (mn : mg "len" = none) : FnOk P w K mg base CX0 (k + 1) f fd ["term", "terms"] (spInst K k) := by
  have G := ok_rep (P := P) (w := w) (base := base) FR gR mi mt mu k
  have b : Binds K fdR ["term", "table"] [] := FR.bindsN fun _ _ _ _ _ _ us hl => match us, hl with | [_, _], _ => rfl
  refine F.go sc7 (fun vs H Q E h => ?_) (fun cdv A outer s H vs Q E hr h => ?_)
  · obtain ⟨v, a, t, us, ts, rfl, _⟩ := h
    rfl
  · obtain ⟨v, a, t, us, ts, rfl, hv, hd, hz, hs, hu, hl, q⟩ := h
    refine ⟨_, PSs.nox (pss_one (ps_ret (pe_call G hr rfl gR FR.kp b .nil pass0 (pa_cons (pv 0) (pa_cons (pe_dc (own := [("k", 2)]) (g := gName 2) (tt := tYes) rfl sc7.nd
      (pi_range1 rfl mr (pa_cons (pe_callB call_len_seq (by rfl) mn PySem.boot_len (pa_cons (pv 1) pa_nil)) pa_nil))
      (blkOk_by (N := ["term", "terms", "k"]) (sc := defScope (topS 7)) (by decide +kernel)) (fun _ _ _ _ _ => pg_name (i := 2) sc7.nd rfl (.inl rfl)) (fun _ _ _ _ _ => pts_nil)
      (fun _ _ _ _ _ => pv 2) (fun _ _ _ _ _ => pe_ix (r := rIxT K) ix_tup (pv 1) (pv 2) (fun _ _ => rfl))) pa_nil))))), ?_⟩
    refine ⟨v, rfl, .ref a, rfl, a, us, rfl, .inr hs, (us.length : Int), rfl, by omega, by omega, fun D nD => ?_⟩
    have en : (us.length : Int).toNat = us.length := by omega
    rw [en]
    refine dc_rng (n := us.length) (fun i H' => Same H H' ∧ ∃ kvs, H' D = some (.dK kvs) ∧ kvs.length ≤ i ∧ ∀ j : Nat, valV kvs (.inl (j : Int)) = if j < i then us[j]? else none) ⟨same_new nD, [], upd_same, Nat.le_refl _, fun j => by simp [valV_nil]⟩ ?_ ?_
    · rintro i H' hi ⟨s1, kvs, hD, hk, hc⟩
      have hx : us[i]? = some us[i] := List.getElem?_eq_getElem hi
      refine ⟨rfl, .int (0 + i), rfl, .ref a, rfl, .int (0 + i), rfl, a, us, (0 + i), us[i], rfl, rfl, (Kp.of (M := []) s1).sqt hs, ?_, kvs, .inl (i : Int), ?_, hD, line_big (by omega), ?_⟩
      · rw [Int.zero_add]; exact atI_nat hx
      · show V.int (0 + i) = V.int i
        rw [Int.zero_add]
      · refine ⟨same_put s1 nD, _, upd_same, Nat.le_trans (length_putK _ _ _) (by omega), fun j => ?_⟩
        rw [valV_put]
        by_cases e : j = i
        · subst e
          rw [if_pos rfl, if_pos (by omega), hx]
        · rw [if_neg (fun z => e (by injection z with z; omega)), hc]
          by_cases e2 : j < i
          · rw [if_pos e2, if_pos (by omega)]
          · rw [if_neg e2, if_neg (by omega)]
    · rintro H' ⟨s1, kvs, hD, hk, hc⟩
      refine ⟨v, D, t, fun n => ts[n]?, rfl, hv.kp (.of (M := []) s1), hd, hz, ⟨kvs, hD, fun n => ?_⟩, fun H2 u s2 h2 => q H2 u (s1.trans s2) h2⟩
      rw [hc]
      by_cases e : n < us.length
      · rw [if_pos e]
        have hx : us[n]? = some us[n] := List.getElem?_eq_getElem e
        obtain ⟨t', h1, h2⟩ := pr_get hu hx
        exact .inr ⟨t', us[n], h1, hx, h2.kp (.of (M := []) s1)⟩
      · rw [if_neg e]
        refine .inl ⟨?_, rfl⟩
        exact List.getElem?_eq_none (by rw [← pr_len hu]; omega)

/-! ### variable_count -/
theorem sc12 : FnScope ["rule"] ["rule"] (defScope (topS 12)) := ⟨rfl, rfl, rfl, by decide +kernel, rfl, by decide +kernel, by decide +kernel⟩
/-- a rule whose terms are small -/
def RSmall (n : Nat) (r : Rl) : Prop := deps (r.concl :: r.prem) ≤ n ∧ sizes (r.concl :: r.prem) ≤ 1000
def spCount (K : PySem.W.Frag) (n : Nat) : Sp := fun vs H Q _ => ∃ (v : V) (r : Rl), vs = [v] ∧ (∃ (a : Addr) (b : Addr) (nm : V) (us : List V) (c : V), v = .ref a ∧ SqT K H a [nm, .ref b, c] ∧ SqT K H b us ∧ Tms K H us r.prem ∧ Tm K H c r.concl) ∧ RSmall n r ∧
  ∀ H', Same H H' → Q (.int (nv r)) H'
theorem ok_count {f fV fN : Addr} {fd fdV fdN : FuncData} {k : Nat} (F : FnP K "variable_count" 12 f fd) (FV : FnP K "variables_of" 5 fV fdV) (FN : FnP K "note_variables" 4 fN fdN) (gV : mg "variables_of" = some (.ref fV)) (gN : mg "note_variables" = some (.ref fN))
    (mi : mg "isinstance" = none) (mt : mg "int" = none) (ml : mg "list" = none) (mu : mg "tuple" = none) (mn : mg "len" = none) : FnOk P w K mg base CX0 (k + 2) f fd ["rule"] (spCount K k) := by
  have G := ok_vars (P := P) (w := w) (base := base) (k := k) FV FN gN mi mt ml mu
  have b : Binds K fdV ["terms"] [] := FV.bindsN fun _ _ _ _ _ _ us hl => match us, hl with | [_], _ => rfl
  refine F.go sc12 (fun vs H Q E h => ?_) (fun cdv A outer s H vs Q E hr h => ?_)
  · obtain ⟨v, r, rfl, _⟩ := h
    rfl
  · obtain ⟨v, r, rfl, ⟨a, bb, nm, us, c, rfl, h1, h2, h3, h4⟩, ⟨hd, hz⟩, q⟩ := h
    refine ⟨_, PSs.nox (pss_one (ps_ret (pe_callB call_len_seq (by rfl) mn PySem.boot_len (pa_cons (pe_call G hr rfl gV FV.kp b .nil pass0 (pa_cons (pe_op op_catA
      (pe_tup (pa_cons (pe_ix ix_tup (pv 0) pe_int (fun _ _ => rfl)) pa_nil)) (pe_ix ix_tup (pv 0) pe_int (fun _ _ => rfl))) pa_nil)) pa_nil)))), ?_⟩
    have hus : us.length ≤ 1000 := by
      have := len_sizes r.prem
      rw [pr_len h3]
      rw [sizes] at hz
      omega
    refine ⟨_, rfl, a, _, 2, c, rfl, rfl, h1, atI_nat (j := 2) rfl, by show 1 ≤ sizeLine; rw [sizeLine_eq]; omega, fun p np => ?_⟩
    have s1 : Same H (upd H p (.tup [c])) := same_new np
    have k1 : Kp [] H (upd H p (.tup [c])) := .of s1
    have fin : ∀ {H2 : Hp} {r2 : Addr} {ws : List V}, Same H H2 → SqT K H2 r2 ws → Tms K H2 ws (r.concl :: r.prem) → ∃ (a : Addr) (xs : List V) (ts : List T), [V.ref r2] = [V.ref a] ∧ SqT K H2 a xs ∧ Tms K H2 xs ts ∧ deps ts ≤ k ∧ sizes ts ≤ 1000 ∧
        ∀ H' p, Same H2 H' → H' p = some (.tup ((varsL [] ts).map fun n : Nat => .int n)) → ∃ pp ys, [V.ref p] = [V.ref pp] ∧ (SqL K H' pp ys ∨ SqT K H' pp ys) ∧ Q (.int ys.length) H' := fun {H2 r2 ws} s2 h5 h6 =>
      ⟨r2, ws, _, rfl, h5, h6, hd, hz, fun H' p s3 h7 => ⟨p, _, rfl, .inr (SqT.of h7), by rw [List.length_map]; exact q H' (s2.trans s3)⟩⟩
    refine ⟨_, rfl, a, _, 1, .ref bb, rfl, rfl, k1.sqt h1, atI_nat (j := 1) rfl, p, bb, [c], us, rfl, rfl, SqT.of upd_same, k1.sqt h2, ?_, (fun z => nomatch z), fun _ z => ?_, fun _ _ p2 np2 => ?_⟩
    · have := line_big (n := 1 + us.length) (by omega)
      exact Nat.le_of_lt this
    · subst z
      exact fin s1 (SqT.of upd_same) (.cons (h4.kp k1) (by rw [pr_nil h3]; exact .nil))
    · have k2 : Kp [] (upd H p (.tup [c])) (upd (upd H p (.tup [c])) p2 (.tup ([c] ++ us))) := .new np2
      exact fin (s1.trans (same_new np2)) (SqT.of upd_same) (.cons ((h4.kp k1).kp k2) ((h3.kp k1).kp k2))
end
end K23

set_option Elab.async false
set_option linter.all false
set_option maxRecDepth 100000
set_option maxHeartbeats 4000000
/-! choices. -/
namespace K23
open PySem PySem.Spec PyProof.Rows L2
section
variable {P : Program} {w : World} {K : PySem.W.Frag} {mg : Str → Option Value} {base : Heap}
def RowAt (K : PySem.W.Frag) (H : Hp) (v : V) (row : List T) : Prop := ∃ a us, v = .ref a ∧ SqT K H a us ∧ Tms K H us row
theorem RowAt.kp {M : List Addr} {H H' : Hp} {v : V} {row : List T} (k : Kp M H H') (h : RowAt K H v row) : RowAt K H' v row := by
  obtain ⟨a, us, e, h1, h2⟩ := h
  exact ⟨a, us, e, k.sqt h1, h2.kp k⟩
theorem rows_kp {M : List Addr} {H H' : Hp} {vs : List V} {rows : List (List T)} (k : Kp M H H') (h : Paired (RowAt K H) vs rows) : Paired (RowAt K H') vs rows := pr_map h fun _ _ q => q.kp k
theorem sc9 : FnScope ["count", "terms", "found", "_", "row", "term"] ["count", "terms"] (defScope (topS 9)) := ⟨rfl, rfl, rfl, by decide +kernel, rfl, by decide +kernel, by decide +kernel⟩
def spChs (K : PySem.W.Frag) : Sp := fun vs H Q _ => ∃ (c : Nat) (a : Addr) (us : List V) (ts : List T), vs = [.int c, .ref a] ∧ c ≤ 3 ∧ SqT K H a us ∧ Tms K H us ts ∧ ts.length ≤ 3 ∧
  ∀ H' p ws, Same H H' → H p = none → H' p = some (.lst ws) → Paired (RowAt K H') ws (chs ts c) → Q (.ref p) H'
theorem ok_chs {f : Addr} {fd : FuncData} {k : Nat} (F : FnP K "choices" 9 f fd) (mr : mg "range" = none) : FnOk P w K mg base CX0 (k + 1) f fd ["count", "terms"] (spChs K) := by
  refine F.go sc9 (fun vs H Q E h => ?_) (fun cdv A outer s H vs Q E hr h => ?_)
  · obtain ⟨c, a, us, ts, rfl, _⟩ := h
    rfl
  · obtain ⟨c, a, us, ts, rfl, hc, hs, ht, hl, q⟩ := h
    refine ⟨_, PSs.nox (pss_cons (ps_set (i := 2) sc9.nd rfl (.inl rfl) (pe_lst (pa_cons (pe_tup pa_nil) pa_nil)))
      (pss_cons (ps_for PassesOwn.never rfl (pi_range1 rfl mr (pa_cons (pv 0) pa_nil)) (pg_name (i := 3) sc9.nd rfl (.inl rfl))
        (pss_one (ps_setLc2 (i := 2) (own := [("row", 4), ("term", 5)]) (vs1 := [5]) (g := gName 4) (tt := tYes) (g1 := gName 5) (tt1 := tYes) (wi1 := iTup K (tVar 1)) rfl sc9.nd rfl rfl (sw_true rfl rfl rfl (by decide +kernel)) (pi_list (pv 2))
          (blkOk_by (N := ["count", "terms", "found", "_", "row", "term"]) (sc := defScope (topS 9)) (by decide +kernel)) (by decide)
          (fun _ _ _ _ _ => pg_name (i := 4) sc9.nd rfl (.inl rfl)) (fun _ _ _ _ _ => pts_nil) (fun _ _ _ _ _ => pi_tup (pv 1)) (fun _ _ _ _ _ => pg_name (i := 5) sc9.nd rfl (.inl rfl)) (fun _ _ _ _ _ => pts_nil)
          (fun _ _ _ _ _ => pe_op (r := rCatA K) op_catA (pv 4) (pe_tup (pa_cons (pv 5) pa_nil))))))
      (pss_one (ps_ret (pv 2))))), ?_⟩
    refine ⟨Nat.zero_le _, fun p np => ⟨by show 1 ≤ sizeLine; rw [sizeLine_eq]; omega, fun l0 nl0 => ?_⟩⟩
    have s1 : Same H (upd H p (.tup [])) := same_new np
    have s2 : Same (upd H p (.tup [])) (upd (upd H p (.tup [])) l0 (.lst [.ref p])) := same_new nl0
    refine ⟨_, rfl, (c : Int), rfl, by omega, by omega, ?_⟩
    have ec : (c : Int).toNat = c := by omega
    rw [ec]
    refine for_range (n := c) (fun i σ H' => ∃ l y ws, σ = [some (.int c), some (.ref a), some (.ref l), y, none, none] ∧ Same H H' ∧ H l = none ∧ H' l = some (.lst ws) ∧ Paired (RowAt K H') ws (chs ts i))
      ⟨l0, none, _, rfl, s1.trans s2, s1.free nl0, upd_same, .cons ⟨p, [], rfl, SqT.of (s2 _ _ upd_same), .nil⟩ .nil⟩ ?_ ?_
    · rintro i σ H0 hi ⟨l, y, ws, rfl, sm, nl, hL, hw⟩
      have hA : SqL K H0 l ws := SqL.of hL
      have hr27 : (chs ts i).length ≤ 27 := by rw [chs_len]; exact pow_le27 hl (by omega)
      have hwl := pr_len hw
      refine ⟨.ref l, rfl, l, rfl, ⟨ws, hA⟩, fun D nD => ?_⟩
      have mulb : (chs ts i).length * ts.length ≤ 27 * 3 := Nat.mul_le_mul hr27 hl
      -- i1 rows and j terms are done
      let Pv : Nat → Nat → Hp → Prop := fun i1 j H' => Same H0 H' ∧ ∃ rs, H' D = some (.lst rs) ∧ Paired (RowAt K H') rs (rd ts (chs ts i) i1 j)
      refine ⟨fun i1 m H' => i1 + m = ws.length ∧ Pv i1 0 H', ⟨ws.length, by omega, same_new nD, [], upd_same, by rw [rd_start]; exact .nil⟩, fun i1 m H1 hW => ?_⟩
      obtain ⟨em, p1⟩ := hW
      by_cases h1 : i1 < ws.length
      · have hx : ws[i1]? = some ws[i1] := List.getElem?_eq_getElem h1
        obtain ⟨row, hrow, ra⟩ := pr_get hw hx
        have hrow2 : (chs ts i).getD i1 [] = row := by rw [List.getD, hrow]; rfl
        have hlen : row.length = i := (chs_row.mp (List.mem_of_getElem? hrow)).1
        refine .inr ⟨⟨ws, _, p1.1.seq hA, hx⟩, Pv (i1 + 1) 0, fun H' p2 => ⟨m - 1, by omega, by omega, p2⟩, fun x H2 hy => ?_⟩
        obtain ⟨eH, hy⟩ := hy
        subst eH
        have ex : x = ws[i1] := Option.some.inj ((hy ws (p1.1.seq hA)).symm.trans hx)
        subst ex
        refine ⟨rfl, _, rfl, a, rfl, ⟨us, (Kp.of (M := []) (sm.trans p1.1)).sqt hs⟩, fun j k H' => j + k = us.length ∧ Pv i1 j H', ⟨us.length, by omega, p1⟩, fun j k H3 hW1 => ?_⟩
        obtain ⟨ek, p3⟩ := hW1
        have sm3 := sm.trans p3.1
        have hS3 : SqT K H3 a us := (Kp.of (M := []) sm3).sqt hs
        by_cases h2 : j < us.length
        · have hz : us[j]? = some us[j] := List.getElem?_eq_getElem h2
          obtain ⟨t, htj, tm⟩ := pr_get ht hz
          refine .inr ⟨⟨us, _, hS3, hz⟩, Pv i1 (j + 1), fun H' p4 => ⟨k - 1, by omega, by omega, p4⟩, fun z H4 hy2 => ?_⟩
          obtain ⟨eH, hy2⟩ := hy2
          subst eH
          have ez : z = us[j] := Option.some.inj ((hy2 us hS3).symm.trans hz)
          subst ez
          obtain ⟨s3, rs, hD, hrs⟩ := p3
          obtain ⟨ar, ur, e1, hur, tur⟩ := ra.kp (.of (M := []) s3)
          have tm4 := tm.kp (.of (M := []) sm3)
          have hurl := pr_len tur
          have hrl := pr_len hrs
          have hrd := rd_len ts (chs ts i) i1 j
          refine ⟨rfl, ws[i1], rfl, us[j], rfl, by show 1 ≤ sizeLine; rw [sizeLine_eq]; omega, fun b nb => ?_⟩
          have s5 : Same H4 (upd H4 b (.tup [us[j]])) := same_new nb
          have done : ∀ {H6 : Hp} {r : Addr} {vs : List V}, Same H4 H6 → SqT K H6 r vs → Tms K H6 vs (row ++ [t]) → ∃ acc, H6 D = some (.lst acc) ∧ acc.length < sizeLine ∧ Pv i1 (j + 1) (upd H6 D (.lst (acc ++ [.ref r]))) := fun {H6 r vs} s6 h6 h7 => by
            have k7 : Kp [D] H6 (upd H6 D (.lst (rs ++ [.ref r]))) := .put (by simp) (s6 _ _ hD) True.intro
            refine ⟨rs, s6 _ _ hD, line_big (by omega), same_put (s3.trans s6) nD, _, upd_same, ?_⟩
            rw [rd_step ts _ i1 htj, hrow2]
            exact pr_snoc (rows_kp k7 (rows_kp (.of (M := []) s6) hrs)) ⟨r, vs, rfl, k7.sqt h6, h7.kp k7⟩
          refine ⟨ar, b, ur, [us[j]], e1, rfl, (Kp.of (M := []) s5).sqt hur, SqT.of upd_same, ?_, fun e => ?_, fun _ e => (nomatch e), fun _ _ r nr => ?_⟩
          · have := line_big (n := ur.length + 1) (by omega)
            exact Nat.le_of_lt this
          · subst e
            refine done s5 (SqT.of upd_same) ?_
            rw [pr_nil tur]
            exact .cons (tm4.kp (.of (M := []) s5)) .nil
          · have k6 : Kp [] (upd H4 b (.tup [us[j]])) (upd (upd H4 b (.tup [us[j]])) r (.tup (ur ++ [us[j]]))) := .new nr
            exact done (s5.trans (same_new nr)) (SqT.of upd_same) (pr_snoc ((tur.kp (.of (M := []) s5)).kp k6) ((tm4.kp (.of (M := []) s5)).kp k6))
        · have ej : j = us.length := by omega
          subst ej
          refine .inl ⟨⟨us, hS3, Nat.le_refl _⟩, p3.1, ?_⟩
          obtain ⟨_, rs, hD, hrs⟩ := p3
          rw [pr_len ht, rd_next ts _ (by omega)] at hrs
          exact ⟨rs, hD, hrs⟩
      · have ei : i1 = ws.length := by omega
        subst ei
        obtain ⟨s3, rs, hD, hrs⟩ := p1
        rw [hwl, rd_end] at hrs
        exact .inl ⟨⟨ws, s3.seq hA, Nat.le_refl _⟩, D, some (.int (0 + i)), rs, rfl, sm.trans s3, sm.free nD, hD, hrs⟩
    · rintro σ H' ⟨l, y, ws, rfl, sm, nl, hL, hw⟩
      exact ⟨_, rfl, q H' l ws sm nl hL hw⟩
end
end K23

set_option Elab.async false
set_option linter.all false
set_option maxRecDepth 100000
set_option maxHeartbeats 4000000
/-! sorted by a lambda that reads an item's first place. -/
namespace K23
open PySem PySem.Spec PyProof.Rows L2

section
variable {prog : Program} {w : World} {A : Around} {s : Shared}
/-- the lambda's own run at a tuple -/
theorem lam_run {f c' : Addr} {qual : Str} {params : Arguments} {scope : Scope} {clos : List (Str × Addr)} {pm ctv : Value} {p1 p2 p3 : Pos} {j : Nat} {a : Addr} {its : List Value} {nm : Str} {t : Tok}
    (ho : s.heap.get? f = some (PySem.W.kla_obj "<lambda>" qual params (.Subscript (.Name "rule" p1) (.Constant (.int 0) j p2) p3) scope clos pm c' ctv)) (hcd : s.heap.CodeRec (.ref c') qual) (room : A.depth < recursionLimit) (lim : s.heap.NoLimit)
    (hk : scope.kind = .function) (hco : scope.isCoroutine = false) (hgen : scope.isGenerator = false) (hn : scope.names = [(Str.ofString "rule", NameKind.local)])
    (hb : bindArgs (PySem.W.kla_fn "<lambda>" qual params (.Subscript (.Name "rule" p1) (.Constant (.int 0) j p2) p3) scope clos pm (.ref c') ctv) ⟨[.ref a], []⟩ = pure [(Str.ofString "rule", Value.ref a)])
    (pl : IsTup s.heap a its.toArray) (h0 : its[0]? = some (.str nm t)) :
    wpAny (model prog w) A (call (.ref f) [.ref a]) (PySem.W.KeyPure (.str nm) s) (fun _ _ => False) s := by
  refine wpAny_call (PySem.W.kla_callFunE room ho rfl hco hgen rfl hcd ?_)
  rw [hb]
  refine wpAny_pure (wpAny_newFunctionEnv (by rw [hn]; decide) (by rw [hn]; intro x hx; rw [List.mem_singleton.mp hx]; rfl) (fun h1 hns hsb => ⟨lim.fresh _ hsb, ?_⟩) hk)
  show codeAny _ _ (.expr (.Subscript (.Name "rule" p1) (.Constant (.int 0) j p2) p3) (PySem.W.envX qual scope s.heap.objs.size f (.ref c') clos)) _ _
  have kp : ∀ b o, s.heap.get? b = some o → h1.get? b = some o := fun b o e => hsb.extBut b o (Nat.ne_of_lt (Heap.lt_size e)) (Heap.get?_push_of_some _ e)
  refine PySem.W.kla_codeExpr (Subscript_ ?_)
  have hkd : (PySem.W.envX qual scope s.heap.objs.size f (.ref c') clos).kindOf "rule" = some .local := by
    show scope.names.lookup (Str.ofString "rule") = some NameKind.local
    rw [hn]
    rfl
  refine wpAny_Name (wpAny_loadName_local (v := .ref a) hk hkd hns rfl ?_) (by decide)
  refine wpAny_Constant_int ?_
  have pl1 : IsTup h1 a its.toArray := by
    obtain ⟨o, h1', h2'⟩ := pl
    exact ⟨o, kp _ _ h1', h2'⟩
  refine subscriptTail_builtinR (x := .str nm t) pl1.typeIs slot_tuple_getitem.lookup
    (getItem_tuple (j := 0) (Q := fun r s' => r = .str nm t ∧ PySem.W.KeyPure (.str nm) s r s') pl1 (by decide) (by decide) ?_ (by simpa using h0) ⟨rfl, _, _, rfl, kp, .str _ _⟩) rfl
  have : 0 < its.length := (List.getElem?_eq_some_iff.mp h0).1
  rw [List.size_toArray]
  unfold seqIndex?
  simp [this]
end

theorem extN_sqt {K : PySem.W.Frag} {H H' : Hp} {a : Addr} {xs : List V} (k : LamX.ExtN H H') (h : SqT K H a xs) : SqT K H' a xs := by
  rcases h with (h | ⟨ob, h⟩) | h
  · exact .inl (.inl (k _ _ h fun _ z => by cases z))
  · exact .inl (.inr ⟨ob, k _ _ h fun _ z => by cases z⟩)
  · exact .inr h
theorem extN_sql {K : PySem.W.Frag} {H H' : Hp} {a : Addr} {xs : List V} (k : LamX.ExtN H H') (h : SqL K H a xs) : SqL K H' a xs := by
  rcases h with (h | ⟨ob, h⟩) | h
  · exact .inl (.inl (k _ _ h fun _ z => by cases z))
  · exact .inl (.inr ⟨ob, k _ _ h fun _ z => by cases z⟩)
  · exact .inr h
/-- an item whose first place is a text -/
def Headed (K : PySem.W.Frag) (H : Hp) (x : V) : Prop := ∃ a nm rest, x = .ref a ∧ SqT K H a (.str nm :: rest)
def IsHd (h : Heap) (u : Value) (b : V × Str) : Prop := RelV b.1 u ∧ ∃ (a : Addr) (its : List Value) (t : Tok), u = .ref a ∧ IsTup h a its.toArray ∧ its[0]? = some (.str b.2 t)
theorem vals_each {h : Heap} : ∀ {us : List Value} {bs : List (V × Str)}, PySem.W.EachIs (IsHd h) us bs → Vals (bs.map (·.1)) us
  | _, _, .nil => .nil
  | _, _, .cons r t => .cons r.1 (vals_each t)
theorem each_hd {X : Cx} {pins : List (Addr × Obj)} {σ : L2.St} {H : Hp} {s : Shared} (I : Inv X pins σ H s) : ∀ {xs : List V} {us : List Value}, (∀ x ∈ xs, Headed X.K H x) → Vals xs us → ∃ bs : List (V × Str), bs.map (·.1) = xs ∧ PySem.W.EachIs (IsHd s.heap) us bs
  | [], _, _, .nil => ⟨[], rfl, .nil⟩
  | x :: xs, _, hx, .cons r t => by
    obtain ⟨bs, e, h⟩ := each_hd I (fun y hy => hx y (List.mem_cons_of_mem _ hy)) t
    obtain ⟨a, nm, rest, ex, hs⟩ := hx x List.mem_cons_self
    obtain ⟨its, rv, p, _⟩ := I.tuple hs
    obtain ⟨u, hu, ru⟩ := rv.get (i := 0) rfl
    obtain ⟨tk, eu⟩ := ru
    subst ex
    have r' : _ = Value.ref a := r
    exact ⟨(.ref a, nm) :: bs, by rw [List.map_cons, e], .cons ⟨r, a, its, tk, r', p, by rw [hu, eu]⟩ h⟩
section
variable {X : Cx}
def tSortLam (K : PySem.W.Frag) (T : List (Addr × Str)) (t : TA) : TE := fun σ H Q => t σ H fun vs H1 => LamX.Tabs T H1 ∧ ∃ (l : Addr) (xs : List V), vs = [.ref l] ∧ SqL K H1 l xs ∧ (∀ x ∈ xs, Headed K H1 x) ∧
  ∀ H2 p ws, LamX.ExtN H1 H2 → LamX.Tabs T H2 → H2 p = none → ws.Perm xs → Q (.ref p) (upd H2 p (.lst ws))
/-- sorted(e, key=lambda rule: rule[0]): some order -/
theorem pe_sortLam {c P : Addr} {k : Nat} {params : Arguments} {scope : Scope} {p p1 p2 p3 lpos kpos pos : Pos} {j : Nat} {e : Expr} {t : TA} (hr : Room k X.A) (hg : Gl X "sorted") (hm : X.mg "sorted" = none) (ha : PA X [e] t)
    (TB : LamX.TabB X.base X.mg c P) (hcode : X.env.code = .ref c) (hdef : defaultsOf params X.env = ([], [])) (hk : scope.kind = .function) (hco : scope.isCoroutine = false) (hgen : scope.isGenerator = false) (hn : scope.names = [(Str.ofString "rule", NameKind.local)])
    (hb : ∀ (q : Str) (cl : List (Str × Addr)) (pm cv ctv u : Value), bindArgs (PySem.W.kla_fn "<lambda>" q params (.Subscript (.Name "rule" p1) (.Constant (.int 0) j p2) p3) scope cl pm cv ctv) ⟨[u], []⟩ = pure [(Str.ofString "rule", u)])
    (he : backTo pos (starEach [e] X.env) = (false, eval e X.env) :: backTo pos (starEach [] X.env) := by rfl) (hpl : (backTo pos (starEach [e] X.env)).any (·.1) = false := by rfl) :
    PE X (.Call (.Name "sorted" p) [e] [⟨some "key", .Lambda params (.Subscript (.Name "rule" p1) (.Constant (.int 0) j p2) p3) scope lpos, kpos⟩] pos) (tSortLam X.K [(P, X.env.qual ++ "<lambda>")] t) := by
  refine ⟨fun pins s σ H Q I h => ?_⟩
  refine wpAny_Call_Name_kw (ld_blt I hg hm (u := .builtin "sorted") (by decide +kernel) ?_ (by decide) (by decide))
  refine PyProof.Rows.callWith_kw (thn (ha.run pos pins s σ H _ I h) fun us s1 hq => ?_) he hpl rfl rfl
  obtain ⟨vs, H1, I1, r1, hT, l, xs, ev, hl, hx, q⟩ := hq
  subst ev
  obtain rfl : us = [Value.ref l] := Vals.ref1 r1
  have key : ∀ (us' : List Value) (s' : Shared), (∃ f, us' = [Value.ref f] ∧ wpAny (model X.prog X.w) X.A (call (.builtin "sorted") [.ref l] [(Str.ofString "key", .ref f)]) (EP X pins σ Q) X.xe s') →
      wpAny (model X.prog X.w) X.A (call (.builtin "sorted") [.ref l] (((backToKw pos (keywordEach [⟨some "key", .Lambda params (.Subscript (.Name "rule" p1) (.Constant (.int 0) j p2) p3) scope lpos, kpos⟩] X.env)).filterMap (·.1)).zip us')) (EP X pins σ Q) X.xe s' := by
    rintro us' s' ⟨f, rfl, h⟩
    exact h
  refine thn ?_ key
  show wpAny _ _ (evalAll [(do let v ← eval (.Lambda params (.Subscript (.Name "rule" p1) (.Constant (.int 0) j p2) p3) scope lpos) X.env; standAt pos; pure v)]) _ _ s1
  refine wpAny_evalAll_cons (wpAny_bind (LamX.lam_make2 (T := [(P, X.env.qual ++ "<lambda>")]) I1 TB hcode (List.mem_singleton.mpr rfl) (fun z hz _ => by rw [List.mem_singleton.mp hz]) hT hdef (by rw [hn]; intro y hy e; rw [List.mem_singleton.mp hy] at e; cases e)
    fun f c' pm ctv H2 s2 I2 eN hT2 hf hfn hfr hco2 => wpAny_bind (wpAny_standAt (wpAny_pure (wpAny_evalAll_nil ⟨f, rfl, ?_⟩)))))
  have hl2 := extN_sql eN hl
  obtain ⟨its, rv, pl, hz⟩ := I2.list hl2
  obtain ⟨bs, eb, hbs⟩ := each_hd I2 (fun x m => by
    obtain ⟨a, nm, rest, e1, e2⟩ := hx x m
    exact ⟨a, nm, rest, e1, extN_sqt eN e2⟩) rv
  have hblen : bs.length ≤ sizeLine := by
    have e2 : (bs.map (·.1)).length = xs.length := by rw [eb]
    rw [List.length_map] at e2
    omega
  obtain ⟨⟨oc, cvs, ct, hoc, hcd, hcv⟩, _, _⟩ := I2.hok c' _ hco2
  have hun := hr.un
  refine PySem.W.sorted_key_data (b := false) (R := IsHd s2.heap) (fun b : V × Str => .str b.2) pl.isList hbs (PySem.W.AllAlike.of fun _ _ => by simp [PySem.W.alike]) (PySem.W.Sortable.others fun _ => ⟨fun z => (nomatch z), fun _ z => (nomatch z)⟩) hblen
    (fun b _ => by simp only [PyData.depth]; omega) (PyProof.Rows.ksk_s1 _ _) (fun _ => PyProof.Rows.ksk_l1 _ _) (fun _ => PyProof.Rows.ksk_t1 _ _) (fun u b hR _ h tk kp => ?_) fun out cc h' tk kp fr hD hlen eo => ?_
  · obtain ⟨_, a, its2, tk2, rfl, pt, h0⟩ := hR
    have pt' : IsTup h a its2.toArray := by
      obtain ⟨o, g1, g2⟩ := pt
      exact ⟨o, kp _ _ g1, g2⟩
    exact lam_run (s := { s2 with heap := h, toks := tk }) (kp _ _ hf) ⟨c', oc, cvs, ct, rfl, kp _ _ hoc, hcd, hcv⟩ (by show X.A.depth < _; exact hr.depth) (I2.nolimit.keeps kp) hk hco hgen hn (hb _ _ _ _ _ _) pt' h0
  · have hv := vals_each eo
    have hp : ((bs.mergeSort (PySem.W.dataLe false fun b : V × Str => .str b.2)).map (·.1)).Perm xs := by
      rw [← eb]
      exact (List.mergeSort_perm _ _).map _
    refine ⟨.ref _, upd H2 (s2.heap.objs.size + 1) (.lst _), I2.laid (t' := tk) kp (Nat.le_succ _) ⟨?_, out, cc, hv, hD⟩, rfl, q H2 _ _ eN hT2 (I2.hok.fresh (Nat.le_succ _)) hp⟩
    rw [hp.length_eq]
    exact hz
end
end K23

set_option Elab.async false
set_option linter.all false
set_option maxRecDepth 100000
set_option maxHeartbeats 4000000
/-! with_refl. -/
namespace K23
open PySem PySem.Spec PyProof.Rows L2
theorem pr_perm {α β : Type} {F : α → β → Prop} {l' l : List α} (h : l'.Perm l) : ∀ {m : List β}, Paired F l m → ∃ m', m'.Perm m ∧ Paired F l' m' := by
  induction h with
  | nil => intro m h; exact ⟨m, .refl _, h⟩
  | cons x _ ih =>
    intro m h
    obtain ⟨y, r, rfl, h1, h2⟩ := pr_cons h
    obtain ⟨m', p, q⟩ := ih h2
    exact ⟨y :: m', p.cons y, .cons h1 q⟩
  | swap x y l =>
    intro m h
    obtain ⟨a, r, rfl, h1, h2⟩ := pr_cons h
    obtain ⟨b, r, rfl, h3, h4⟩ := pr_cons h2
    exact ⟨b :: a :: r, .swap _ _ _, .cons h3 (.cons h1 h4)⟩
  | trans _ _ ih1 ih2 =>
    intro m h
    obtain ⟨m1, p1, q1⟩ := ih2 h
    obtain ⟨m2, p2, q2⟩ := ih1 q1
    exact ⟨m2, p2.trans p1, q2⟩
theorem extN_rules {K : PySem.W.Frag} {H H' : Hp} (k : LamX.ExtN H H') {vs : List V} {rs : List Rl} (h : Paired (RuleAt K H) vs rs) : Paired (RuleAt K H') vs rs := by
  refine pr_map h fun v r q => ?_
  have kk : Kp [] (fun b => match H b with | some (.tbl _) => none | o => o) H' := by
    have key : ∀ b o, (match H b with | some (.tbl _) => none | o => o) = some o → H b = some o ∧ ∀ ps, o ≠ .tbl ps := fun b o e => by
      cases q : H b with
      | none => rw [q] at e; cases e
      | some u =>
        rw [q] at e
        cases u <;> first | (cases e; done) | (cases e; exact ⟨rfl, fun _ z => by cases z⟩)
    exact .of fun b o e => k b o (key b o e).1 (key b o e).2
  have up : ∀ {a : Addr} {xs : List V}, SqT K H a xs → SqT K (fun b => match H b with | some (.tbl _) => none | o => o) a xs := fun {a xs} h => by
    rcases h with (h | ⟨ob, h⟩) | h
    · exact .inl (.inl (by show (match H a with | some (.tbl _) => none | o => o) = _; rw [h]))
    · exact .inl (.inr ⟨ob, by show (match H a with | some (.tbl _) => none | o => o) = _; rw [h]⟩)
    · exact .inr h
  have tmUp : ∀ (t : T) {v : V}, Tm K H v t → Tm K H' v t := fun t v h => tm_ext (fun a xs h => kk.sqt (up h)) t h
  obtain ⟨a, b, us, c, e, h1, h2, h3, h4⟩ := q
  exact ⟨a, b, us, c, e, kk.sqt (up h1), kk.sqt (up h2), pr_map h3 fun v t z => tmUp t z, tmUp _ h4⟩
/-- the code object of the def at f -/
def CodeAt (K : PySem.W.Frag) (f c : Addr) : Prop := ∀ oc od fd osl, K.lookup f = some ⟨oc, od, .func fd, osl⟩ → fd.code = .ref c
abbrev TT (P : Addr) : List (Addr × Str) := [(P, Str.ofString "with_refl" ++ ".<locals>." ++ "<lambda>")]
section
variable {P : Program} {w : World} {K : PySem.W.Frag} {mg : Str → Option Value} {base : Heap}
theorem sc13 : FnScope ["rules"] ["rules"] (defScope (topS 13)) := ⟨rfl, rfl, rfl, by decide +kernel, rfl, by decide +kernel, by decide +kernel⟩
def spRefl (K : PySem.W.Frag) (Pt : Addr) : Sp := fun vs H Q _ => ∃ (a : Addr) (xs : List V) (rs : List Rl), vs = [.ref a] ∧ SqT K H a xs ∧ Paired (RuleAt K H) xs rs ∧ xs.length ≤ 100 ∧ LamX.Tabs (TT Pt) H ∧
  ∀ H' p ws rs', LamX.ExtN H H' → LamX.Tabs (TT Pt) H' → H' p = some (.lst ws) → Paired (RuleAt K H') ws rs' → rs'.Perm (rs ++ [reflR]) → Q (.ref p) H'
theorem ok_refl {f c Pt aR : Addr} {fd : FuncData} {k : Nat} (F : FnP K "with_refl" 13 f fd) (hc : CodeAt K f c) (TB : LamX.TabB base mg c Pt) (gR : mg "REFL" = some (.ref aR)) (hR : ∀ H, RuleAt K H (.ref aR) reflR)
    (ms : mg "sorted" = none) (ml : mg "list" = none) : FnOk P w K mg base CX0 (k + 1) f fd ["rules"] (spRefl K Pt) := by
  obtain ⟨oc, od, dV, kV, doc, pm, an, cdv, ct, osl, efd, lk, hcd, _, _⟩ := F.ex
  subst efd
  have ecd : cdv = .ref c := hc _ _ _ _ lk
  subst ecd
  refine fn_of lk hcd sc13 (fun vs H Q E h => ?_) fun A outer s H vs Q E hr h => ?_
  · obtain ⟨a, xs, rs, rfl, _⟩ := h
    rfl
  · obtain ⟨a, xs, rs, rfl, hs, hrs, hl, hT, q⟩ := h
    refine ⟨_, (PSs.nox (pss_one (ps_ret (pe_sortLam (c := c) (P := Pt) hr (by rfl) ms (pa_cons (pe_op op_cat (pe_callTy call_list_of (by rfl) ml (by decide +kernel) (pa_cons (pv 0) pa_nil))
      (pe_lst (pa_cons (pe_glob (v := .ref aR) (by rfl) gR rfl) pa_nil))) pa_nil) TB rfl rfl rfl rfl rfl rfl (fun _ _ _ _ _ _ => rfl))))), ?_⟩
    refine ⟨_, rfl, a, xs, rfl, .inr hs, fun l1 n1 => ?_⟩
    have s1 : Same H (upd H l1 (.lst xs)) := same_new n1
    refine ⟨by show 1 ≤ sizeLine; rw [sizeLine_eq]; omega, fun l2 n2 => ?_⟩
    have s2 : Same (upd H l1 (.lst xs)) (upd (upd H l1 (.lst xs)) l2 (.lst [.ref aR])) := same_new n2
    refine ⟨l1, l2, xs, [.ref aR], rfl, rfl, s2 _ _ upd_same, upd_same, ?_, fun l3 n3 => ?_⟩
    · have := line_big (n := xs.length + 1) (by omega)
      exact Nat.le_of_lt this
    have s3 := (s1.trans s2).trans (same_new (o := .lst (xs ++ [.ref aR])) n3)
    have hpr : Paired (RuleAt K (upd (upd (upd H l1 (.lst xs)) l2 (.lst [.ref aR])) l3 (.lst (xs ++ [.ref aR])))) (xs ++ [.ref aR]) (rs ++ [reflR]) := pr_snoc (rules_kp (.of (M := []) s3) hrs) (hR _)
    refine ⟨hT.ext s3, l3, _, rfl, SqL.of upd_same, fun x hx => ?_, fun H2 p ws eN hT2 np hp => ?_⟩
    · obtain ⟨r, _, a, b, us, c, e, h1, _⟩ := pr_mem hpr hx
      exact ⟨a, _, _, e, h1⟩
    · obtain ⟨rs', p', q'⟩ := pr_perm hp hpr
      have k5 : Kp [] H2 (upd H2 p (.lst ws)) := .new np
      refine q _ p ws rs' ?_ ?_ upd_same (rules_kp k5 (extN_rules eN q')) p'
      · exact (LamX.ExtN.of s3).trans (eN.trans (.of (same_new np)))
      · exact hT2.ext (same_new np)
end
end K23

set_option Elab.async false
set_option linter.all false
set_option maxRecDepth 100000
set_option maxHeartbeats 4000000
/-! repr of data, sorted of ground terms; defs that reach repr. -/
namespace K23
open PySem PySem.Spec PyProof.Rows L2
section
variable {X : Cx}
def rRepr (K : PySem.W.Frag) : List V → Hp → VK → Prop := fun xs H Q => ∃ (a : Addr) (d : PyData), xs = [.ref a] ∧ Dp K H (.ref a) d ∧ d.showable = true ∧ d.hasDict = false ∧ d.depth ≤ 64 ∧ d.shown.length ≤ sizeLine ∧ Q (.str d.shown) H
/-- repr(a tuple or a list) -/
theorem call_reprD {k : Nat} (hr : Room k X.A) (hg : X.A.guards = some []) : CallR X (.builtin "repr") (rRepr X.K) := by
  intro pins s σ H xs us Q I r h
  obtain ⟨a, d, rfl, hd, h1, h2, h3, h4, q⟩ := h
  obtain rfl := Vals.ref1 r
  obtain ⟨as, rd⟩ := Dp.reads I d (.ref a) (.ref a) hd rfl
  have hun := hr.un
  refine repr_of_reads' rd h1 (fun z => by rw [h2] at z; cases z) hg (by omega) (fun _ _ e => e) (fun h' u tk kp => ?_) h4
  exact ⟨.str d.shown, H, I.kept kp, ⟨_, rfl⟩, q⟩
/-- .. of a ground term: what is asked -/
theorem repr_parts {K : PySem.W.Frag} {H : Hp} {v : V} {t : T} (h : Tm K H v t) (hg : Gd t) (hs : size t ≤ 1000) (hd : dep t ≤ 64) :
    ∃ a, v = .ref a ∧ Dp K H (.ref a) (toD t) ∧ (toD t).showable = true ∧ (toD t).hasDict = false ∧ (toD t).depth ≤ 64 ∧ (toD t).shown.length ≤ sizeLine := by
  cases t with
  | v n => simp [Gd] at hg
  | a f as =>
    obtain ⟨a, vs, rfl, _, _⟩ := h.app
    have hl := code_len _ hg
    rw [← shown_code _ hg] at hl
    refine ⟨a, rfl, h, show_gd _ hg, dict_gd hg, Nat.le_trans (depth_le _) hd, ?_⟩
    unfold Str.length
    rw [← Array.length_toList, sizeLine_eq]
    omega

def HasT (K : PySem.W.Frag) (H : Hp) (u : Value) (b : V × T) : Prop := RelV b.1 u ∧ Tm K H b.1 b.2
theorem each_has {K : PySem.W.Frag} {H : Hp} : ∀ {xs : List V} {us : List Value} {cs : List T}, Tms K H xs cs → Vals xs us → ∃ bs : List (V × T), bs.map (·.1) = xs ∧ bs.map (·.2) = cs ∧ PySem.W.EachIs (HasT K H) us bs
  | _, _, _, .nil, .nil => ⟨[], rfl, rfl, .nil⟩
  | _, _, _, .cons (a := x) (b := c) h t, .cons r rt => by
    obtain ⟨bs, e1, e2, e3⟩ := each_has t rt
    exact ⟨(x, c) :: bs, by rw [List.map_cons, e1], by rw [List.map_cons, e2], .cons ⟨r, h⟩ e3⟩
theorem has_vals {K : PySem.W.Frag} {H : Hp} : ∀ {us : List Value} {bs : List (V × T)}, PySem.W.EachIs (HasT K H) us bs → Vals (bs.map (·.1)) us ∧ Tms K H (bs.map (·.1)) (bs.map (·.2))
  | _, _, .nil => ⟨.nil, .nil⟩
  | _, _, .cons r t => by
    obtain ⟨h1, h2⟩ := has_vals t
    exact ⟨.cons r.1 h1, .cons r.2 h2⟩
def rSortT (K : PySem.W.Frag) : List V → Hp → VK → Prop := fun vs H Q => ∃ (l : Addr) (xs : List V) (cs : List T), vs = [.ref l] ∧ SqL K H l xs ∧ Tms K H xs cs ∧ (∀ c ∈ cs, Gd c ∧ dep c ≤ 64) ∧
  ∀ p ys cs', H p = none → Tms K H ys cs' → cs'.Perm cs → cs'.Pairwise (fun a b => leT a b = true) → Q (.ref p) (upd H p (.lst ys))
/-- sorted(ground terms) -/
theorem cr_sortT {k : Nat} (hr : Room k X.A) : CallR X (.builtin "sorted") (rSortT X.K) := by
  intro pins s σ H vs us Q I r h
  obtain ⟨l, xs, cs, rfl, hl, ht, hc, q⟩ := h
  obtain rfl := Vals.ref1 r
  obtain ⟨its, rv, pl, hz⟩ := I.list hl
  obtain ⟨bs, e1, e2, eb⟩ := each_has ht rv
  have hmem : ∀ b ∈ bs, Gd b.2 ∧ dep b.2 ≤ 64 := fun b hb => hc _ (by rw [← e2]; exact List.mem_map.mpr ⟨b, hb, rfl⟩)
  have hun := hr.un
  have hbl : bs.length ≤ sizeLine := by
    have e3 : (bs.map (·.1)).length = xs.length := by rw [e1]
    rw [List.length_map] at e3
    omega
  have tot : PySem.W.TotalLe (PySem.W.dataLe false fun b : V × T => toD b.2) := PySem.W.sortLe_total (listOrd itemOrd) false fun b : V × T => PySem.W.keyToks (toD b.2)
  refine PySem.W.sorted_data (R := HasT X.K H) (enc := fun b : V × T => toD b.2) pl.isList eb (eb.mono fun u b hb => Dp.reads I _ _ _ hb.2 hb.1) ?_ (.inl ?_) hbl (fun b hb => ?_) fun out hlen eo => ?_
  · intro d hd d' hd'
    obtain ⟨b, hb, rfl⟩ := List.mem_map.mp hd
    obtain ⟨b', hb', rfl⟩ := List.mem_map.mp hd'
    exact alike_gd _ _ (hmem b hb).1 (hmem b' hb').1
  · intro d hd
    obtain ⟨⟨v, t⟩, hb, rfl⟩ := List.mem_map.mp hd
    have g := (hmem _ hb).1
    cases t with
    | v n => simp [Gd] at g
    | a f as => exact ⟨.str f, toDs as, by simp only [toD]⟩
  · have h1 := depth_le b.2
    have h2 := (hmem b hb).2
    omega
  · obtain ⟨hv, htm⟩ := has_vals eo
    have hp := List.mergeSort_perm bs (PySem.W.dataLe false fun b : V × T => toD b.2)
    obtain ⟨ep, he'⟩ := PyProof.Rows.sortedAll_at s.heap its (List.toArray out)
    have hyl : ((bs.mergeSort (PySem.W.dataLe false fun b : V × T => toD b.2)).map (·.1)).length ≤ sizeLine := by
      rw [List.length_map, hp.length_eq]
      exact hbl
    refine ⟨.ref _, upd H (s.heap.objs.size + 1) (.lst _), I.laid (t' := s.toks) (fun _ _ => PyProof.Rows.sortedAll_old) (Nat.le_succ _) ⟨hyl, out, ep, hv, he'⟩, rfl, q _ _ _ (I.hok.fresh (Nat.le_succ _)) htm (by rw [← e2]; exact hp.map _) ?_⟩
    refine List.Pairwise.map _ (fun a b hab => ?_) (PySem.W.sort_pairwise tot bs)
    exact hab
end

/-! ### defs that are called where no repr runs -/
structure FnG (P : Program) (w : World) (K : PySem.W.Frag) (mg : Str → Option Value) (base : Heap) (k : Nat) (f : Addr) (fd : FuncData) (ps : List Str) (sp : Sp) : Prop where
  len : ∀ vs H Q E, sp vs H Q E → vs.length = ps.length
  run : ∀ (A : Around) (outer : List Env) (s : Shared) (H : Hp) (args : Args) (us : List Value) (vs : List V) (Q : VK) (E : XK), Room k A → A.guards = some [] → Env0 P w K mg base A outer s H → BindsTo s fd args (ps.zip us) → Vals vs us → sp vs H Q E →
    codeAny (model P w) A (.call (.ref f) args) (CR CX0 outer P w H s Q E) s
section
variable {P : Program} {w : World} {K : PySem.W.Frag} {mg : Str → Option Value} {base : Heap} {k : Nat} {f : Addr} {fd : FuncData} {ps : List Str} {sp : Sp}
theorem guards_deeper (A : Around) (env : Env) : (A.deeper env).guards = A.guards := rfl
theorem FnG.mono {j : Nat} (F : FnG P w K mg base k f fd ps sp) (h : k ≤ j) : FnG P w K mg base j f fd ps sp := ⟨F.len, fun A outer s H args us vs Q E hr => F.run A outer s H args us vs Q E (hr.mono h)⟩
theorem FnP.goG {x : Str} {i : Nat} {N : List Str} (F : FnP K x i f fd) (S : FnScope N ps (defScope (topS i))) (len : ∀ vs H Q E, sp vs H Q E → vs.length = ps.length)
    (hb : ∀ (cdv : Value) (A : Around) (outer : List Env) (s : Shared) (H : Hp) (vs : List V) (Q : VK) (E : XK), Room k (A.deeper (envOfC x (defScope (topS i)) s.heap.objs.size f cdv)) → (A.deeper (envOfC x (defScope (topS i)) s.heap.objs.size f cdv)).guards = some [] → sp vs H Q E →
      ∃ t, PSs (cxOf CX0 P w K mg base N x (defScope (topS i)) f cdv A outer s H E).nox (defBody (topS i)) t ∧ t { nx := fun _ H' => Q .non H', rt := Q } (start N vs) H) : FnG P w K mg base (k + 1) f fd ps sp := by
  obtain ⟨oc, od, dV, kV, doc, pm, an, cdv, ct, osl, rfl, lk, hcd, _, _⟩ := F.ex
  refine ⟨len, fun A outer s H args us vs Q E hr hg e0 hbd r h => LamX.run_ofS lk hcd S hr e0 hbd r (len _ _ _ _ h) fun hr' => ?_⟩
  obtain ⟨t, h1, h2⟩ := hb cdv A outer s H vs Q E hr' (by rw [guards_deeper]; exact hg) h
  exact ⟨t, h1.nox, h2⟩
end
theorem pe_callG {X : Cx} {k : Nat} {f : Addr} {fd : FuncData} {ps : List Str} {sp : Sp} {x : Str} {p pos : Pos} {e : Expr} {es : List Expr} {t : TA} (FG : FnG X.prog X.w X.K X.mg X.base k f fd ps sp) (hr : Room k X.A) (hgd : X.A.guards = some [])
    (hg : Gl X x) (hm : X.mg x = some (.ref f)) (hk : PySem.W.keepIn X.K (.ref f) = true) (hb : Binds X.K fd ps []) (ha : PA X (e :: es) t)
    (hdb : (x == ("__debug__" : Str)) = false := by decide) (he : starEach (e :: es) X.env = (false, eval e X.env) :: starEach es X.env := by rfl) (hpl : (backTo pos (starEach es X.env)).any (·.1) = false := by rfl) :
    PE X (.Call (.Name x p) (e :: es) [] pos) (tCall sp [] E0 t) := by
  refine ⟨fun pins s σ H Q I h => wpAny_Call_Name_kw (ld_glob I hg hm (PySem.W.callWith_K (h₀ := X.base) I.ok.mod.kin hk (thn (ha.run pos pins s σ H _ I h) fun us s1 hq => ?_) he hpl) hdb)⟩
  obtain ⟨vs, H1, I1, r, q⟩ := hq
  have q' : sp vs H1 Q E0 := by
    have z : sp (vs ++ []) H1 Q E0 := q
    rw [List.append_nil] at z
    exact z
  have hl : us.length = ps.length := by rw [← r.length]; exact FG.len _ _ _ _ q'
  have hb' : BindsTo s1 fd ⟨us, []⟩ (ps.zip us) := by
    have z := hb s1 us I1.kIn (by rw [List.append_nil]; exact hl)
    rw [List.append_nil] at z
    exact z
  refine ⟨I1.kIn, wpAny_call (codeAny_mono (FG.run X.A X.stack s1 H1 ⟨us, []⟩ us vs Q E0 hr hgd I1.env0 hb' r q') fun res s2 hres => ?_)⟩
  cases res with
  | error e => exact hres.elim
  | ok fl =>
    cases fl with
    | ret u => exact I1.after hres
    | next => exact hres.elim
    | brk => exact hres.elim
    | cont => exact hres.elim
end K23

set_option Elab.async false
set_option linter.all false
set_option maxRecDepth 100000
set_option maxHeartbeats 4000000
/-! ground_instances. -/
namespace K23
open PySem PySem.Spec PyProof.Rows L2
/-- an instance: its fact, the fact's text, the list of its premises' texts (not at N) -/
def InsAt (K : PySem.W.Frag) (N : List Addr) (H : Hp) (v : V) (i : Ins) : Prop :=
  ∃ (a : Addr) (nm row c : V) (l : Addr), v = .ref a ∧ SqT K H a [nm, row, c, .str (tx i.concl), .ref l] ∧ Tm K H c i.concl ∧ l ∉ N ∧ H l = some (.lst (i.prem.map fun t => .str (tx t)))
theorem InsAt.kp {K : PySem.W.Frag} {N M : List Addr} {H H' : Hp} {v : V} {i : Ins} (k : Kp M H H') (hm : ∀ b ∈ M, b ∈ N) (h : InsAt K N H v i) : InsAt K N H' v i := by
  obtain ⟨a, nm, row, c, l, e, h1, h2, h3, h4⟩ := h
  exact ⟨a, nm, row, c, l, e, k.sqt h1, h2.kp k, h3, k.all _ _ (fun z => h3 (hm l z)) h4⟩
theorem ins_kp {K : PySem.W.Frag} {N M : List Addr} {H H' : Hp} {vs : List V} {is : List Ins} (k : Kp M H H') (hm : ∀ b ∈ M, b ∈ N) (h : Paired (InsAt K N H) vs is) : Paired (InsAt K N H') vs is := pr_map h fun _ _ q => q.kp k hm
theorem InsAt.weak {K : PySem.W.Frag} {N M : List Addr} {H : Hp} {v : V} {i : Ins} (hm : ∀ b ∈ M, b ∈ N) (h : InsAt K N H v i) : InsAt K M H v i := by
  obtain ⟨a, nm, row, c, l, e, h1, h2, h3, h4⟩ := h
  exact ⟨a, nm, row, c, l, e, h1, h2, fun z => h3 (hm l z), h4⟩
theorem rgood_refl : RGood reflR := by
  have hn : nv reflR = 1 := by simp [nv, reflR, varsL, vars]
  have hN : Nm "=" := by
    refine ⟨fun c hc => ?_, by decide⟩
    have e : ("=" : Str).cps.toList = [61] := by decide
    rw [e, List.mem_singleton] at hc
    rw [hc]
    exact .inr (.inr (.inr rfl))
  refine ⟨by omega, fun t ht => ?_, fun t ht => ?_, by simp [reflR], by decide⟩
  · rw [hn]
    have e : t = .a "=" [.v 0, .v 0] := by simpa [reflR] using ht
    rw [e]
    simp [Wf, Wfs, hN]
  · have e : t = .a "=" [.v 0, .v 0] := by simpa [reflR] using ht
    rw [e]
    simp [size, sizes, dep, deps]
theorem pow27 {ts : List T} (tg : TGood ts) {r : Rl} (g : RGood r) : ts.length ^ nv r ≤ 27 := pow_le27 tg.few g.few
theorem insts_len {ts : List T} (tg : TGood ts) : ∀ {rs : List Rl}, (∀ r ∈ rs, RGood r) → (insts ts rs).length ≤ rs.length * 27
  | [], _ => by simp [insts]
  | r :: rs, h => by
    have h1 := insts_len tg (rs := rs) fun q hq => h q (List.mem_cons_of_mem _ hq)
    have h2 := pow27 tg (h r List.mem_cons_self)
    have e : insts ts (r :: rs) = insR ts r ++ insts ts rs := rfl
    have e2 : (insR ts r).length = ts.length ^ nv r := by unfold insR; rw [List.length_map, chs_len]
    rw [e, List.length_append, List.length_cons, Nat.add_mul, e2]
    omega
def pw (ts : List T) (r : Rl) : Int := ((ts.length ^ nv r : Nat) : Int)
theorem pw_sum {ts : List T} (tg : TGood ts) : ∀ {rs : List Rl}, (∀ r ∈ rs, RGood r) → (rs.map (pw ts)).sum ≤ rs.length * 27
  | [], _ => by simp
  | r :: rs, h => by
    have h1 := pw_sum tg (rs := rs) fun q hq => h q (List.mem_cons_of_mem _ hq)
    have h2 := pow27 tg (h r List.mem_cons_self)
    rw [List.map_cons, List.sum_cons, List.length_cons]
    have h3 : pw ts r ≤ 27 := by unfold pw; omega
    have h4 : ((rs.length + 1 : Nat) : Int) * 27 = (rs.length : Int) * 27 + 27 := by omega
    omega
theorem insts_mem {ts : List T} {rs rs' : List Rl} (h : rs'.Perm rs) (i : Ins) : i ∈ insts ts rs' ↔ i ∈ insts ts rs := by
  unfold insts
  simp only [List.mem_flatMap]
  constructor
  · rintro ⟨r, h1, h2⟩
    exact ⟨r, h.mem_iff.mp h1, h2⟩
  · rintro ⟨r, h1, h2⟩
    exact ⟨r, h.mem_iff.mpr h1, h2⟩
theorem insts_snoc {ts : List T} {rs : List Rl} {i : Nat} {r : Rl} (h : rs[i]? = some r) : insts ts (rs.take (i + 1)) = insts ts (rs.take i) ++ insR ts r := by
  unfold insts
  rw [take_snoc h, List.flatMap_append]
  simp
theorem le_line {n : Nat} (h : n ≤ 100000) : n ≤ sizeLine := Nat.le_of_lt (line_big h)
section
variable {P : Program} {w : World} {K : PySem.W.Frag} {mg : Str → Option Value} {base : Heap}
abbrev N16 : List Str := ["rules", "terms", "known", "found", "name", "premises", "conclusion", "row", "fact", "texts", "rule", "premise"]
theorem sc16 : FnScope N16 ["rules", "terms"] (defScope (topS 16)) := ⟨rfl, rfl, rfl, by decide +kernel, rfl, by decide +kernel, by decide +kernel⟩
/-- what is asked of the rules and the terms -/
def Given (K : PySem.W.Frag) (Pt : Addr) (H : Hp) (a b : Addr) (xs us : List V) (rs : List Rl) (ts : List T) : Prop :=
  SqT K H a xs ∧ Paired (RuleAt K H) xs rs ∧ SqT K H b us ∧ Tms K H us ts ∧ TGood ts ∧ (∀ r ∈ rs, RGood r) ∧ rs.length ≤ 20 ∧ LamX.Tabs (TT Pt) H
def spGround (K : PySem.W.Frag) (Pt : Addr) : Sp := fun vs H Q _ => ∃ (a b : Addr) (xs us : List V) (rs : List Rl) (ts : List T), vs = [.ref a, .ref b] ∧ Given K Pt H a b xs us rs ts ∧
  ∀ H' p ws is, LamX.ExtN H H' → LamX.Tabs (TT Pt) H' → H' p = some (.lst ws) → Paired (InsAt K [] H') ws is → (∀ i, i ∈ is ↔ i ∈ insts ts (rs ++ [reflR])) → is.length ≤ 600 → Q (.ref p) H'
theorem ok_ground {f fR fP fC fI fH Pt : Addr} {fd fdR fdP fdC fdI fdH : FuncData} {k : Nat} {t6 : Tok} (F : FnP K "ground_instances" 16 f fd)
    (FR : FnP K "with_refl" 13 fR fdR) (GR : FnOk P w K mg base CX0 k fR fdR ["rules"] (spRefl K Pt)) (gR : mg "with_refl" = some (.ref fR))
    (FP : FnP K "power" 8 fP fdP) (GP : FnOk P w K mg base CX0 k fP fdP ["base", "exponent"] spPower) (gP : mg "power" = some (.ref fP))
    (FC : FnP K "variable_count" 12 fC fdC) (GC : FnOk P w K mg base CX0 k fC fdC ["rule"] (spCount K 10)) (gC : mg "variable_count" = some (.ref fC))
    (FI : FnP K "instance_of" 7 fI fdI) (GI : FnOk P w K mg base CX0 k fI fdI ["term", "terms"] (spInst K 10)) (gI : mg "instance_of" = some (.ref fI))
    (FH : FnP K "choices" 9 fH fdH) (GH : FnOk P w K mg base CX0 k fH fdH ["count", "terms"] (spChs K)) (gH : mg "choices" = some (.ref fH))
    (gM : mg "MOST_CHOICES" = some (.int 600 t6)) (msum : mg "sum" = none) (mn : mg "len" = none) (mre : mg "repr" = none) : FnG P w K mg base (k + 1) f fd ["rules", "terms"] (spGround K Pt) := by
  have bR : Binds K fdR ["rules"] [] := FR.bindsN fun _ _ _ _ _ _ us hl => match us, hl with | [_], _ => rfl
  have bP : Binds K fdP ["base", "exponent"] [] := FP.bindsN fun _ _ _ _ _ _ us hl => match us, hl with | [_, _], _ => rfl
  have bC : Binds K fdC ["rule"] [] := FC.bindsN fun _ _ _ _ _ _ us hl => match us, hl with | [_], _ => rfl
  have bI : Binds K fdI ["term", "terms"] [] := FI.bindsN fun _ _ _ _ _ _ us hl => match us, hl with | [_, _], _ => rfl
  have bH : Binds K fdH ["count", "terms"] [] := FH.bindsN fun _ _ _ _ _ _ us hl => match us, hl with | [_, _], _ => rfl
  refine F.goG sc16 (fun vs H Q E h => ?_) (fun cdv A outer s H vs Q E hr hg h => ?_)
  · obtain ⟨a, b, xs, us, rs, ts, rfl, _⟩ := h
    rfl
  · obtain ⟨a, b, xs, us, rs, ts, rfl, ⟨hs, hrs, hb, hu, tg, rg, hrl, hT⟩, q⟩ := h
    refine ⟨_, PSs.nox (pss_cons (ps_set (i := 2) sc16.nd rfl (.inl rfl) (pe_call GR hr rfl gR FR.kp bR .nil pass0 (pa_cons (pv 0) pa_nil)))
      (pss_cons (ps_if (pt_cmpR op_gt (pe_callB (cr_sum rfl) (by rfl) msum (by decide +kernel) (pa_cons (pe_lc (own := [("rule", 10)]) (g := gName 10) (tt := tYes) rfl sc16.nd (pi_list (pv 2))
          (blkOk_by (N := N16) (sc := defScope (topS 16)) (by decide +kernel)) (fun _ _ _ _ _ => pg_name (i := 10) sc16.nd rfl (.inl rfl)) (fun _ _ _ _ _ => pts_nil)
          (fun _ _ _ _ _ => pe_call GP hr rfl gP FP.kp bP .nil pass0 (pa_cons (pe_callB (r := fun xs H Q => ∃ p ys, xs = [.ref p] ∧ (SqL K H p ys ∨ SqT K H p ys) ∧ Q (.int ys.length) H) call_len_seq (by rfl) mn PySem.boot_len (pa_cons (pv 1) pa_nil))
            (pa_cons (pe_call GC hr rfl gC FC.kp bC .nil pass0 (pa_cons (pv 10) pa_nil)) pa_nil)))) pa_nil)) (pe_glob (v := .int 600) (by rfl) gM ⟨_, rfl⟩) (nomark _)) pss_never pss_nil)
      (pss_cons (ps_set (i := 3) sc16.nd rfl (.inl rfl) (pe_lst pa_nil))
      (pss_cons (ps_for PassesOwn.never rfl (pi_list (pv 2)) (pg_tup rfl (pgs_cons (pg_name (i := 4) sc16.nd rfl (.inl rfl)) (pgs_cons (pg_name (i := 5) sc16.nd rfl (.inl rfl)) (pgs_cons (pg_name (i := 6) sc16.nd rfl (.inl rfl)) pgs_nil))))
        (pss_one (ps_for PassesOwn.never rfl (pi_list (pe_call GH hr rfl gH FH.kp bH .nil pass0 (pa_cons (pe_call GC hr rfl gC FC.kp bC .nil pass0 (pa_cons (pe_tup (pa_cons (pv 4) (pa_cons (pv 5) (pa_cons (pv 6) pa_nil)))) pa_nil)) (pa_cons (pv 1) pa_nil))))
          (pg_name (i := 7) sc16.nd rfl (.inr rfl))
          (pss_cons (ps_set (i := 8) sc16.nd rfl (.inl rfl) (pe_call GI hr rfl gI FI.kp bI .nil pass0 (pa_cons (pv 6) (pa_cons (pv 7) pa_nil))))
          (pss_cons (ps_setLc (i := 9) (own := [("premise", 11)]) (g := gName 11) (tt := tYes) rfl sc16.nd rfl rfl (sw_true rfl rfl rfl (by decide +kernel)) (pi_tup (pv 5))
            (blkOk_by (N := N16) (sc := defScope (topS 16)) (by decide +kernel)) (fun _ _ _ _ _ => pg_name (i := 11) sc16.nd rfl (.inl rfl)) (fun _ _ _ _ _ => pts_nil)
            (fun _ _ _ _ _ => pe_callB (r := rRepr K) (call_reprD hr hg) (by rfl) mre (by decide +kernel) (pa_cons (pe_call GI hr rfl gI FI.kp bI .nil pass0 (pa_cons (pv 11) (pa_cons (pv 7) pa_nil))) pa_nil)))
          (pss_one (ps_expr (pe_bm PySem.F.plainAttrs_list PySem.F.slot_list_append PySem.F.type_list_append mt_append (pv 3) (pa_cons (pe_tup (pa_cons (pv 4) (pa_cons (pv 7) (pa_cons (pv 8)
            (pa_cons (pe_callB (call_reprD hr hg) (by rfl) mre (by decide +kernel) (pa_cons (pv 8) pa_nil)) (pa_cons (pv 9) pa_nil)))))) pa_nil)))))))))
      (pss_one (ps_ret (pv 3))))))), ?_⟩
    -- known = with_refl(rules)
    refine ⟨_, rfl, a, xs, rs, rfl, hs, hrs, by rw [pr_len hrs]; omega, hT, fun H1 kl ws rs' eN hT1 hkl hws hp => ?_⟩
    have rg' : ∀ r ∈ rs', RGood r := fun r hr => by
      rcases List.mem_append.mp (hp.mem_iff.mp hr) with h | h
      · exact rg r h
      · rw [List.mem_singleton.mp h]; exact rgood_refl
    have hlen' : rs'.length = rs.length + 1 := by rw [hp.length_eq]; simp
    have hwl := pr_len hws
    have hb1 : SqT K H1 b us := extN_sqt eN hb
    have hu1 : Tms K H1 us ts := tms_ext (fun a xs h => extN_sqt eN h) ts hu
    have hul := pr_len hu1
    have htf := tg.few
    -- the sum
    refine ⟨.ref kl, rfl, kl, rfl, ⟨ws, SqL.of hkl⟩, fun D nD => lc_list (xs := ws) (fun i H' => Same H1 H' ∧ H' D = some (.lst (((rs'.take i).map (pw ts)).map V.int)))
      ⟨same_new nD, upd_same⟩ (fun i H' _ hh => hh.1.seq (SqL.of hkl)) ?_ ?_⟩
    · rintro i x H' hx ⟨s2, hD⟩
      obtain ⟨r, hri, hra⟩ := pr_get hws hx
      have gr := rg' r (List.mem_of_getElem? hri)
      obtain ⟨ar, br, vr, cr, rfl, h1, h2, h3, h4⟩ := hra.kp (.of (M := []) s2)
      refine ⟨rfl, .ref b, rfl, b, us, rfl, .inr ((Kp.of (M := []) s2).sqt hb1), .ref ar, rfl, .ref ar, r, rfl, ⟨ar, br, _, vr, cr, rfl, h1, h2, h3, h4⟩, ⟨gr.deps, gr.sizes⟩, fun H3 s3 => ?_⟩
      refine ⟨us.length, nv r, rfl, by omega, by have := gr.few; omega, _, s3 _ _ hD, ?_, same_put (s2.trans s3) nD, ?_⟩
      · rw [List.length_map, List.length_map, List.length_take]
        exact line_big (by omega)
      · rw [upd_same, take_snoc hri, List.map_append, List.map_append, hul]
        rfl
    rintro H2 ⟨s2, hD⟩
    rw [hwl, List.take_length] at hD
    have hsum := pw_sum tg rg'
    refine ⟨D, rs'.map (pw ts), rfl, SqL.of hD, _, _, rfl, rfl, _, rfl, ?_⟩
    have e600 : decide ((600 : Int) < (rs'.map (pw ts)).sum) = false := decide_eq_false (by omega)
    rw [e600]
    refine iteF ?_
    -- found = []
    refine ⟨Nat.zero_le _, fun fl nfl => ?_⟩
    have nfl1 : H1 fl = none := s2.free nfl
    refine ⟨.ref kl, rfl, kl, rfl, ⟨ws, (s2.trans (same_new nfl)).seq (SqL.of hkl)⟩, for_list (xs := ws) (fun i σ H' => (∃ y4 y5 y6 y7 y8 y9, σ = [some (.ref a), some (.ref b), some (.ref kl), some (.ref fl), y4, y5, y6, y7, y8, y9, none, none]) ∧ Same H1 H' ∧
        ∃ fs, H' fl = some (.lst fs) ∧ Paired (InsAt K [fl] H') fs (insts ts (rs'.take i)))
      ⟨⟨none, none, none, none, none, none, rfl⟩, s2.trans (same_new nfl), [], upd_same, .nil⟩ (fun i σ H' _ hh => hh.2.1.seq (SqL.of hkl)) ?_ ?_⟩
    · rintro i x σ H3 hx ⟨⟨y4, y5, y6, y7, y8, y9, rfl⟩, s3, fs, hfl, hfs⟩
      obtain ⟨r, hri, hra⟩ := pr_get hws hx
      have gr := rg' r (List.mem_of_getElem? hri)
      obtain ⟨ar, br, vr, cr, rfl, h1, h2, h3, h4⟩ := hra.kp (.of (M := []) s3)
      refine ⟨ar, _, rfl, h1, rfl, _, _, rfl, _, _, rfl, _, _, rfl, rfl, ?_⟩
      -- choices(variable_count((name, premises, conclusion)), terms)
      refine ⟨_, rfl, _, rfl, _, rfl, by show 3 ≤ sizeLine; rw [sizeLine_eq]; omega, fun qa nqa => ?_⟩
      have k4 : Kp [] H3 (upd H3 qa (.tup [.str r.name, .ref br, cr])) := .new nqa
      refine ⟨.ref qa, r, rfl, ⟨qa, br, _, vr, cr, rfl, SqT.of upd_same, k4.sqt h2, h3.kp k4, h4.kp k4⟩, ⟨gr.deps, gr.sizes⟩, fun H5 s5 => ?_⟩
      have s35 : Same H3 H5 := k4.same.trans s5
      have s15 := s3.trans s35
      refine ⟨.ref b, rfl, nv r, b, us, ts, rfl, gr.few, (Kp.of (M := []) s15).sqt hb1, hu1.kp (.of (M := []) s15), tg.few, fun H6 pr rws s6 npr hpr hrws => ?_⟩
      have s36 := s35.trans s6
      have nprfl : pr ≠ fl := fun z => by
        rw [z] at npr
        rw [s35 _ _ hfl] at npr
        cases npr
      have hr27 : (chs ts (nv r)).length ≤ 27 := by rw [chs_len]; exact pow27 tg gr
      have hlenI := insts_len tg (rs := rs'.take i) fun r hr => rg' r (List.mem_of_mem_take hr)
      rw [List.length_take] at hlenI
      -- for row in ..
      refine ⟨pr, rfl, ⟨rws, SqL.of hpr⟩, for_list (xs := rws) (fun j σ H' => (∃ y7 y8 y9, σ = [some (.ref a), some (.ref b), some (.ref kl), some (.ref fl), some (.str r.name), some (.ref br), some cr, y7, y8, y9, none, none]) ∧ Kp [fl] H6 H' ∧
          ∃ fs, H' fl = some (.lst fs) ∧ Paired (InsAt K [fl] H') fs (insts ts (rs'.take i) ++ ((chs ts (nv r)).take j).map (insOf r)))
        ⟨⟨y7, y8, y9, rfl⟩, .refl _ _, fs, s36 _ _ hfl, by rw [List.take_zero, List.map_nil, List.append_nil]; exact ins_kp (.of (M := []) s36) (by simp) hfs⟩ (fun j σ H' _ hh => hh.2.1.sql (by simpa using nprfl) (SqL.of hpr)) ?_ ?_⟩
      · rintro j x2 σ H7 hx2 ⟨⟨z7, z8, z9, rfl⟩, k7, gs, hgl, hgs⟩
        obtain ⟨row, hrow, hra2⟩ := pr_get hrws hx2
        have hmem := List.mem_of_getElem? hrow
        have ig := igood gr tg hmem
        have k67 : Kp [fl] H3 H7 := (Kp.of s36).trans k7
        obtain ⟨aw, uw, rfl, haw, huw⟩ := hra2.kp k7
        have huwl : uw.length ≤ 1000 := by rw [pr_len huw, (chs_row.mp hmem).1]; have := gr.few; omega
        have sc := gr.small r.concl List.mem_cons_self
        -- fact
        refine ⟨cr, rfl, .ref aw, rfl, cr, aw, r.concl, uw, row, rfl, h4.kp k67, sc.2, by omega, haw, huw, huwl, fun H8 fc s8 hfc => ?_⟩
        have k68 : Kp [fl] H3 H8 := k67.trans (.of s8)
        -- texts
        refine ⟨.ref br, rfl, br, rfl, ⟨vr, k68.sqt h2⟩, fun tl ntl => lc_tup (xs := vr) (fun m H' => Same H8 H' ∧ H' tl = some (.lst ((r.prem.take m).map fun t => .str (tx (inst row t)))))
          ⟨same_new ntl, upd_same⟩ (fun m H' _ hh => (Kp.of (M := []) hh.1).sqt (k68.sqt h2)) ?_ ?_⟩
        · rintro m x3 H9 hx3 ⟨s9, htl⟩
          obtain ⟨t, ht, htm⟩ := pr_get h3 hx3
          have hmt := List.mem_of_getElem? ht
          have sp := gr.small t (List.mem_cons_of_mem _ hmt)
          have k89 : Kp [fl] H3 H9 := k68.trans (.of s9)
          have hti : inst row t ∈ (insOf r row).concl :: (insOf r row).prem := List.mem_cons_of_mem _ (List.mem_map.mpr ⟨t, hmt, rfl⟩)
          refine ⟨rfl, x3, rfl, .ref aw, rfl, x3, aw, t, uw, row, rfl, htm.kp k89, sp.2, by omega, (Kp.of (M := []) (s8.trans s9)).sqt haw, huw.kp (.of (M := []) (s8.trans s9)), huwl, fun H10 u10 s10 h10 => ?_⟩
          obtain ⟨au, rfl, p1, p2, p3, p4, p5⟩ := repr_parts h10 (ig.gd _ hti) (by have := ig.small _ hti; omega) (by have := ig.small _ hti; omega)
          refine ⟨au, _, rfl, p1, p2, p3, p4, p5, _, s10 _ _ htl, ?_, same_put (s9.trans s10) ntl, ?_⟩
          · rw [List.length_map, List.length_take]
            have := gr.prems
            exact line_big (by omega)
          · rw [upd_same, take_snoc ht, List.map_append]
            rfl
        rintro H9 ⟨s9, htl⟩
        rw [pr_len h3, List.take_length] at htl
        have hgl9 : H9 fl = some (.lst gs) := s9 _ _ (s8 _ _ hgl)
        have ntlfl : tl ≠ fl := fun z => by
          rw [z] at ntl
          rw [s8 _ _ hgl] at ntl
          cases ntl
        -- found.append(..)
        have hfc9 : Tm K H9 fc (inst row r.concl) := hfc.kp (.of (M := []) s9)
        have hci : inst row r.concl ∈ (insOf r row).concl :: (insOf r row).prem := List.mem_cons_self
        obtain ⟨afc, rfl, p1, p2, p3, p4, p5⟩ := repr_parts hfc9 (ig.gd _ hci) (by have := ig.small _ hci; omega) (by have := ig.small _ hci; omega)
        refine ⟨.ref fl, rfl, .inl ⟨rfl, _, SqL.of hgl9⟩, .str r.name, rfl, .ref aw, rfl, .ref afc, rfl, .ref afc, rfl, afc, _, rfl, p1, p2, p3, p4, p5,
          .ref tl, rfl, by show 5 ≤ sizeLine; rw [sizeLine_eq]; omega, fun ia nia => ?_⟩
        have k10 : Kp [fl] H9 (upd H9 ia (.tup [.str r.name, .ref aw, .ref afc, .str (tx (inst row r.concl)), .ref tl])) := .new nia
        have hgl10 := k10.same_at hgl9 nia
        have hgslen := pr_len hgs
        rw [List.length_append, List.length_map, List.length_take] at hgslen
        refine ⟨fl, gs, _, rfl, rfl, hgl10, line_big (by omega), ⟨_, _, _, rfl⟩, ?_, _, upd_same, ?_⟩
        · exact ((k7.trans (.of (s8.trans s9))).trans k10).trans (.put (by simp) hgl10 True.intro)
        · have k11 : Kp [fl] (upd H9 ia (.tup [.str r.name, .ref aw, .ref afc, .str (tx (inst row r.concl)), .ref tl])) (upd (upd H9 ia (.tup [.str r.name, .ref aw, .ref afc, .str (tx (inst row r.concl)), .ref tl])) fl (.lst (gs ++ [.ref ia]))) := .put (by simp) hgl10 True.intro
          rw [take_snoc hrow, List.map_append, ← List.append_assoc]
          refine pr_snoc (ins_kp k11 (by simp) (ins_kp k10 (by simp) (ins_kp (.of (M := []) (s8.trans s9)) (by simp) hgs))) ?_
          have hia : SqT K (upd (upd H9 ia (.tup [.str r.name, .ref aw, .ref afc, .str (tx (inst row r.concl)), .ref tl])) fl (.lst (gs ++ [.ref ia]))) ia [.str r.name, .ref aw, .ref afc, .str (tx (inst row r.concl)), .ref tl] := k11.sqt (SqT.of upd_same)
          refine ⟨ia, _, _, .ref afc, tl, rfl, hia, (hfc9.kp k10).kp k11, by simpa using ntlfl, ?_⟩
          rw [upd_ne ntlfl, upd_ne (ne_of_none htl nia), htl]
          show _ = some (HO.lst ((r.prem.map (inst row)).map fun t => V.str (tx t)))
          rw [List.map_map]
          rfl
      · rintro σ H7 ⟨⟨z7, z8, z9, rfl⟩, k7, gs, hgl, hgs⟩
        rw [pr_len hrws, List.take_length] at hgs
        refine ⟨⟨_, _, _, _, _, _, rfl⟩, ((Kp.of (s3.trans s36)).trans k7).drop nfl1 |>.same, gs, hgl, ?_⟩
        rw [insts_snoc hri]
        exact hgs
    · rintro σ H3 ⟨⟨y4, y5, y6, y7, y8, y9, rfl⟩, s3, fs, hfl, hfs⟩
      rw [hwl, List.take_length] at hfs
      refine ⟨_, rfl, q H3 fl fs _ (eN.trans (.of s3)) (hT1.ext s3) hfl (pr_map hfs fun _ _ z => z.weak (by simp)) (fun i => insts_mem hp i) ?_⟩
      have := insts_len tg rg'
      omega
end
end K23

set_option Elab.async false
set_option linter.all false
set_option maxRecDepth 100000
set_option maxHeartbeats 4000000
/-! first_instances, facts_within. -/
namespace K23
open PySem PySem.Spec PyProof.Rows L2
/-- an entry of the dict of known facts -/
def EntAt (K : PySem.W.Frag) (N : List Addr) (H : Hp) (kv : Key × V) (c : T) : Prop := kv.1 = .inr (tx c) ∧ ∃ i, i.concl = c ∧ InsAt K N H kv.2 i
theorem ins_new {K : PySem.W.Frag} {d D : Addr} {H : Hp} (n : H D = none) {vs : List V} {is : List Ins} (h : Paired (InsAt K [d] H) vs is) : Paired (InsAt K [d, D] H) vs is :=
  pr_map h fun v i ⟨a, nm, row, c, l, e, h1, h2, h3, h4⟩ => ⟨a, nm, row, c, l, e, h1, h2, by
    have h5 := ne_of_none h4 n
    simp only [List.mem_cons, List.not_mem_nil, or_false, not_or] at h3 ⊢
    exact ⟨h3, h5⟩, h4⟩
theorem ent_kp {K : PySem.W.Frag} {N M : List Addr} {H H' : Hp} {kvs : List (Key × V)} {cs : List T} (k : Kp M H H') (hm : ∀ b ∈ M, b ∈ N) (h : Paired (EntAt K N H) kvs cs) : Paired (EntAt K N H') kvs cs :=
  pr_map h fun _ _ ⟨e, i, e2, q⟩ => ⟨e, i, e2, q.kp k hm⟩
theorem ent_val {K : PySem.W.Frag} {N : List Addr} {H : Hp} (x : Str) : ∀ {kvs : List (Key × V)} {cs : List T}, Paired (EntAt K N H) kvs cs → (valV kvs (.inr x)).isSome = hasT cs x
  | _, _, .nil => rfl
  | _, _, .cons (a := kv) (b := c) ⟨e, _⟩ t => by
    have ih := ent_val x t
    unfold hasT at ih ⊢
    rw [List.any_cons]
    by_cases h : tx c = x
    · rw [valV_pos (by rw [e, h]), decide_eq_true h]
      rfl
    · rw [valV_neg (fun z => h (by rw [e] at z; injection z)), ih, decide_eq_false h]
      rfl
theorem ent_at {K : PySem.W.Frag} {N : List Addr} {H : Hp} : ∀ {kvs : List (Key × V)} {cs : List T}, Paired (EntAt K N H) kvs cs → (∀ c ∈ cs, Gd c) → ∀ c ∈ cs, ∃ v, valV kvs (.inr (tx c)) = some v ∧ ∃ i, i.concl = c ∧ InsAt K N H v i
  | _, _, .cons (a := kv) (b := d) ⟨e, i, e2, q⟩ t, hg, c, hc => by
    by_cases h : tx d = tx c
    · have edc : d = c := shown_inj (hg d List.mem_cons_self) (hg c hc) h
      exact ⟨kv.2, valV_pos (by rw [e, h]), i, by rw [e2, edc], q⟩
    · have hc' : c ∈ _ := (List.mem_cons.mp hc).resolve_left (fun z => h (by rw [z]))
      obtain ⟨v, h1, h2⟩ := ent_at t (fun x hx => hg x (List.mem_cons_of_mem _ hx)) c hc'
      exact ⟨v, by rw [valV_neg (fun z => h (by rw [e] at z; injection z))]; exact h1, h2⟩
theorem pr_filter {α β : Type} {G : α → β → Prop} (f : β → Bool) : ∀ {l : List α} {m : List β} {g : List Bool}, Paired G l m → g = m.map f → Paired G ((l.zip g).filterMap fun p => if p.2 then some p.1 else none) (m.filter f)
  | _, _, _, .nil, e => by rw [e]; exact .nil
  | _, _, _, .cons (a := x) (b := y) h t, e => by
    rw [e, List.map_cons, List.zip_cons_cons]
    have ih := pr_filter f t rfl
    cases q : f y with
    | true => rw [List.filterMap_cons_some (by rfl), List.filter_cons_of_pos q]; exact .cons h ih
    | false => rw [List.filterMap_cons_none (by rfl), List.filter_cons_of_neg (by rw [q]; simp)]; exact ih
theorem filter_snoc {α : Type} {f : α → Bool} {l : List α} {i : Nat} {x : α} (h : l[i]? = some x) : (l.take (i + 1)).filter f = (l.take i).filter f ++ (if f x then [x] else []) := by
  rw [take_snoc h, List.filter_append, List.filter_cons]
  simp
section
variable {P : Program} {w : World} {K : PySem.W.Frag} {mg : Str → Option Value} {base : Heap}
abbrev N17 : List Str := ["rules", "terms", "height", "known", "rows", "_", "row", "usable", "text"]
theorem sc17 : FnScope N17 ["rules", "terms", "height"] (defScope (topS 17)) := ⟨rfl, rfl, rfl, by decide +kernel, rfl, by decide +kernel, by decide +kernel⟩
abbrev MemI (ts : List T) (rs : List Rl) : Ins → Prop := fun i => i ∈ insts ts rs
def spFirst (K : PySem.W.Frag) (Pt : Addr) : Sp := fun vs H Q _ => ∃ (a b : Addr) (n : Nat) (xs us : List V) (rs : List Rl) (ts : List T), vs = [.ref a, .ref b, .int n] ∧ n ≤ 6 ∧ Given K Pt H a b xs us rs ts ∧
  ∀ H' d kvs cs, LamX.ExtN H H' → LamX.Tabs (TT Pt) H' → H' d = some (.dK kvs) → Paired (EntAt K [d] H') kvs cs → Kn (MemI ts (rs ++ [reflR])) n cs → cs.length ≤ 10000 → Q (.ref d) H'
abbrev scB17 : Scope := match (defBody (topS 17)) with | [_, _, .For _ _ [.Assign _ (.ListComp _ _ sc _) _, _] _ _, _] => sc | _ => { kind := .function, names := [], isGenerator := false, isCoroutine := false }
theorem ok_first {f fG Pt : Addr} {fd fdG : FuncData} {k : Nat} (F : FnP K "first_instances" 17 f fd) (FG : FnP K "ground_instances" 16 fG fdG) (GG : FnG P w K mg base k fG fdG ["rules", "terms"] (spGround K Pt)) (gG : mg "ground_instances" = some (.ref fG))
    (mr : mg "range" = none) (mall : mg "all" = none) : FnG P w K mg base (k + 1) f fd ["rules", "terms", "height"] (spFirst K Pt) := by
  have bG : Binds K fdG ["rules", "terms"] [] := FG.bindsN fun _ _ _ _ _ _ us hl => match us, hl with | [_, _], _ => rfl
  refine F.goG sc17 (fun vs H Q E h => ?_) (fun cdv A outer s H vs Q E hr hg h => ?_)
  · obtain ⟨a, b, n, xs, us, rs, ts, rfl, _⟩ := h
    rfl
  · obtain ⟨a, b, n, xs, us, rs, ts, rfl, hn, ⟨hs, hrs, hb, hu, tg, rg, hrl, hT⟩, q⟩ := h
    refine ⟨_, PSs.nox (pss_cons (ps_set (i := 3) sc17.nd rfl (.inr rfl) pe_dnewK)
      (pss_cons (ps_set (i := 4) sc17.nd rfl (.inl rfl) (pe_callG GG hr hg rfl gG FG.kp bG (pa_cons (pv 0) (pa_cons (pv 1) pa_nil))))
      (pss_cons (ps_for PassesOwn.never rfl (pi_range1 rfl mr (pa_cons (pv 2) pa_nil)) (pg_name (i := 5) sc17.nd rfl (.inl rfl))
        (pss_cons (ps_setLc (i := 7) (own := [("row", 6)]) (g := gName 6) rfl sc17.nd rfl rfl (sw_true rfl rfl rfl (by decide +kernel)) (pi_list (pv 4))
          (blkOk_by (N := N17) (sc := defScope (topS 17)) (by decide +kernel)) (fun _ _ _ _ _ => pg_name (i := 6) sc17.nd rfl (.inl rfl))
          (fun _ _ _ _ _ => pts_one (pt_val (pe_callB (r := rAll K) (cr_all rfl) (by rfl) mall (by decide +kernel) (pa_cons (pe_lc (own := [("text", 8)]) (g := gName 8) (tt := tYes) (wi := iList K (tOp (rIxT K) (tVar 6) (tC (.int 4)))) rfl sc17.nd (pi_list (pe_ix (r := rIxT K) ix_tup (pv 6) pe_int (fun _ _ => rfl)))
            (blkOk_by (N := N17) (sc := relS scB17 (defScope (topS 17))) (by decide +kernel)) (fun _ _ _ _ _ => pg_name (i := 8) sc17.nd rfl (.inl rfl)) (fun _ _ _ _ _ => pts_nil)
            (fun _ _ _ _ _ => pe_cmp (pc_din (hu_of hr) (pv 8) (pv 3)) rfl)) pa_nil))))
          (fun _ _ _ _ _ => pv 6))
        (pss_one (ps_for PassesOwn.never rfl (pi_list (pv 7)) (pg_name (i := 6) sc17.nd rfl (.inl rfl))
          (pss_one (ps_if (pt_cmp (pc_dnotin (hu_of hr) (pe_ix ix_tup (pv 6) pe_int (fun _ _ => rfl)) (pv 3)) rfl)
            (pss_one (ps_dput (hu_of hr) (pv 3) (pe_ix ix_tup (pv 6) pe_int (fun _ _ => rfl)) (pv 6) rfl)) pss_nil))))))
      (pss_one (ps_ret (pv 3)))))), ?_⟩
    refine fun d nd => ?_
    have s0 : Same H (upd H d (.dK [])) := same_new nd
    have k0 : Kp [] H (upd H d (.dK [])) := .of s0
    refine ⟨.ref a, rfl, .ref b, rfl, a, b, xs, us, rs, ts, rfl, ⟨k0.sqt hs, rules_kp k0 hrs, k0.sqt hb, hu.kp k0, tg, rg, hrl, hT.ext s0⟩, fun H1 p ws is eN hT1 hp hws hmem hilen => ?_⟩
    have hd1 : H1 d = some (.dK []) := eN _ _ upd_same fun _ z => by cases z
    have npd : p ≠ d := ne_of hp hd1 fun z => by cases z
    have hws1 : Paired (InsAt K [d] H1) ws is := pr_map hws fun v i ⟨a, nm, row, c, l, e, h1, h2, _, h4⟩ =>
      ⟨a, nm, row, c, l, e, h1, h2, by simpa using ne_of h4 hd1 (fun z => nomatch z), h4⟩
    have ig : ∀ i ∈ is, IGood i := fun i hi => insts_good (fun r hr => by
      rcases List.mem_append.mp hr with h | h
      · exact rg r h
      · rw [List.mem_singleton.mp h]; exact rgood_refl) tg i ((hmem i).mp hi)
    refine ⟨_, rfl, (n : Int), rfl, by omega, by omega, ?_⟩
    have en : (n : Int).toNat = n := by omega
    rw [en]
    refine for_range (n := n) (fun i σ H' => (∃ y5 y6 y7, σ = [some (.ref a), some (.ref b), some (.int n), some (.ref d), some (.ref p), y5, y6, y7, none]) ∧ Kp [d] H1 H' ∧
        ∃ kvs cs, H' d = some (.dK kvs) ∧ Paired (EntAt K [d] H') kvs cs ∧ Kn (MemI ts (rs ++ [reflR])) i cs ∧ cs.length ≤ i * 600)
      ⟨⟨none, none, none, rfl⟩, .refl _ _, [], [], hd1, .nil, kn_zero _, by simp⟩ ?_ ?_
    · rintro i σ H2 hi ⟨⟨y5, y6, y7, rfl⟩, k2, kvs, cs, hd2, hkv, kn, hcl⟩
      have hp2 : H2 p = some (.lst ws) := k2.all _ _ (by simpa using npd) hp
      have hws2 := ins_kp k2 (by simp) hws1
      have hwl := pr_len hws2
      -- usable
      refine ⟨.ref p, rfl, p, rfl, ⟨ws, SqL.of hp2⟩, fun D nD => lc_list (xs := ws) (fun j H' => Same H2 H' ∧ ∃ vs, H' D = some (.lst vs) ∧ Paired (InsAt K [d, D] H') vs ((is.take j).filter (usable cs)))
        ⟨same_new nD, [], upd_same, .nil⟩ (fun j H' _ hh => hh.1.seq (SqL.of hp2)) ?_ ?_⟩
      · rintro j x H3 hx ⟨s3, vs, hD, hvs⟩
        obtain ⟨ii, hii, hia⟩ := pr_get (ins_new nD hws2) hx
        have gi := ig ii (List.mem_of_getElem? hii)
        have hia3 := hia.kp (.of (M := []) s3) (by simp)
        obtain ⟨ai, nm, row, c, l, rfl, h1, h2, h3, h4⟩ := id hia3
        refine ⟨rfl, .ref ai, rfl, ai, _, 4, .ref l, rfl, rfl, h1, atI_nat (j := 4) rfl, l, rfl, ⟨_, SqL.of h4⟩, fun D2 nD2 => lc_list (xs := ii.prem.map fun t => .str (tx t))
          (fun m H' => Same H3 H' ∧ H' D2 = some (.lst (((ii.prem.take m).map fun t => hasT cs (tx t)).map V.bl)))
          ⟨same_new nD2, upd_same⟩ (fun m H' _ hh => hh.1.seq (SqL.of h4)) ?_ ?_⟩
        · rintro m x3 H4 hx3 ⟨s4, hD2⟩
          rw [List.getElem?_map] at hx3
          cases ht : ii.prem[m]? with
          | none => rw [ht] at hx3; cases hx3
          | some t =>
            rw [ht] at hx3
            have ex3 : V.str (tx t) = x3 := Option.some.inj hx3
            subst ex3
            have hd4 : H4 d = some (.dK kvs) := s4 _ _ (s3 _ _ hd2)
            refine ⟨rfl, .str (tx t), rfl, .ref d, rfl, d, _, rfl, DGet.k (k := .inr (tx t)) hd4, _, hD2, ?_, same_put s4 nD2, ?_⟩
            · rw [List.length_map, List.length_map, List.length_take]
              have h5 := len_sizes ii.prem
              have h6 := gi.few
              exact line_big (by omega)
            · rw [upd_same, ent_val (tx t) hkv, take_snoc ht, List.map_append, List.map_append]
              rfl
        rintro H4 ⟨s4, hD2⟩
        rw [List.length_map, List.take_length] at hD2
        refine ⟨D2, _, rfl, SqL.of hD2, _, rfl, ?_⟩
        have eall : ((ii.prem.map fun t => hasT cs (tx t)).all id) = usable cs ii := by
          unfold usable
          rw [List.all_map]
          rfl
        rw [eall]
        have hD4 : H4 D = some (.lst vs) := s4 _ _ hD
        have hvs4 := ins_kp (.of (M := []) s4) (by simp) hvs
        by_cases hu2 : usable cs ii = true
        · rw [hu2]
          refine iteT ⟨.ref ai, rfl, vs, hD4, ?_, same_put (s3.trans s4) nD, _, upd_same, ?_⟩
          · have h5 := pr_len hvs
            have h6 : ((is.take j).filter (usable cs)).length ≤ (is.take j).length := List.length_filter_le _ _
            rw [List.length_take] at h6
            exact line_big (by omega)
          · rw [filter_snoc hii, hu2]
            have k5 : Kp [D] H4 (upd H4 D (.lst (vs ++ [.ref ai]))) := .put (by simp) hD4 True.intro
            exact pr_snoc (ins_kp k5 (by simp) hvs4) ((hia3.kp (.of (M := []) s4) (by simp)).kp k5 (by simp))
        · rw [Bool.not_eq_true] at hu2
          rw [hu2]
          refine iteF ⟨s3.trans s4, vs, hD4, ?_⟩
          rw [filter_snoc hii, hu2]
          simpa using hvs4
      rintro H3 ⟨s3, vs, hD, hvs⟩
      rw [hwl, List.take_length] at hvs
      have hvs1 : Paired (InsAt K [d] H3) vs (is.filter (usable cs)) := pr_map hvs fun _ _ z => z.weak (by simp)
      have hd3 : H3 d = some (.dK kvs) := s3 _ _ hd2
      have nDd : D ≠ d := fun z => by rw [z, hd2] at nD; cases nD
      have hfl : (is.filter (usable cs)).length ≤ is.length := List.length_filter_le _ _
      have hvl := pr_len hvs
      -- for row in usable
      refine ⟨.ref D, rfl, D, rfl, ⟨vs, SqL.of hD⟩, for_list (xs := vs) (fun m σ H' => (∃ y6, σ = [some (.ref a), some (.ref b), some (.int n), some (.ref d), some (.ref p), some (.int (0 + i)), y6, some (.ref D), none]) ∧ Kp [d] H3 H' ∧
          ∃ kvs', H' d = some (.dK kvs') ∧ Paired (EntAt K [d] H') kvs' (addAll cs ((is.filter (usable cs)).take m)))
        ⟨⟨_, rfl⟩, .refl _ _, kvs, hd3, by rw [List.take_zero]; exact ent_kp (.of (M := []) s3) (by simp) hkv⟩ (fun m σ H' _ hh => hh.2.1.sql (by simpa using nDd) (SqL.of hD)) ?_ ?_⟩
      · rintro m x σ H4 hx ⟨⟨y6, rfl⟩, k4, kvs', hd4, hkv4⟩
        obtain ⟨ii, hii, hia⟩ := pr_get hvs1 hx
        have hia4 := hia.kp k4 (by simp)
        obtain ⟨ai, nm, row, c, l, rfl, h1, h2, h3, h4⟩ := id hia4
        have hl1 := addAll_len ((is.filter (usable cs)).take m) cs
        rw [List.length_take] at hl1
        have hkl := pr_len hkv4
        have i6 : i * 600 ≤ 5 * 600 := Nat.mul_le_mul_right _ (by omega)
        refine ⟨.ref ai, rfl, ai, _, 3, .str (tx ii.concl), rfl, rfl, h1, atI_nat (j := 3) rfl, .ref d, rfl, d, _, rfl, DGet.k (k := .inr (tx ii.concl)) hd4, _, rfl, ?_⟩
        have ev := ent_val (tx ii.concl) hkv4
        have e3 : addAll cs ((is.filter (usable cs)).take (m + 1)) = addT (addAll cs ((is.filter (usable cs)).take m)) ii.concl := by rw [take_snoc hii, addAll_snoc]
        rw [ev, e3]
        unfold addT
        by_cases hh : hasT (addAll cs ((is.filter (usable cs)).take m)) (tx ii.concl) = true
        · rw [hh]
          exact iteF ⟨⟨_, rfl⟩, k4, kvs', hd4, hkv4⟩
        · rw [Bool.not_eq_true] at hh
          rw [hh] at ev ⊢
          refine iteT ⟨.ref ai, rfl, .ref d, rfl, .ref ai, rfl, ai, _, 3, .str (tx ii.concl), rfl, rfl, h1, atI_nat (j := 3) rfl, d, _, rfl, DPut.k (k := .inr (tx ii.concl)) hd4 (line_big (by omega)), ⟨_, rfl⟩, ?_, _, upd_same, ?_⟩
          · exact k4.trans (.put (by simp) hd4 True.intro)
          · have k5 : Kp [d] H4 (upd H4 d (.dK (putK kvs' (.inr (tx ii.concl)) (.ref ai)))) := .put (by simp) hd4 True.intro
            have hnone : valV kvs' (.inr (tx ii.concl)) = none := by
              cases q : valV kvs' (.inr (tx ii.concl)) with
              | none => rfl
              | some u => rw [q] at ev; cases ev
            rw [putK_new _ hnone] at k5 ⊢
            exact pr_snoc (ent_kp k5 (by simp) hkv4) ⟨rfl, ii, rfl, hia4.kp k5 (by simp)⟩
      · rintro σ H4 ⟨⟨y6, rfl⟩, k4, kvs', hd4, hkv4⟩
        rw [hvl, List.take_length] at hkv4
        have hl1 := addAll_len (is.filter (usable cs)) cs
        refine ⟨⟨_, _, _, rfl⟩, (k2.trans (.of s3)).trans k4, kvs', round is cs, hd4, hkv4, kn_round (I := MemI ts (rs ++ [reflR])) (fun j => hmem j) ig kn, ?_⟩
        have e4 : (round is cs).length ≤ cs.length + (is.filter (usable cs)).length := hl1
        rw [Nat.add_mul]
        omega
    · rintro σ H2 ⟨⟨y5, y6, y7, rfl⟩, k2, kvs, cs, hd2, hkv, kn, hcl⟩
      have i6 : n * 600 ≤ 6 * 600 := Nat.mul_le_mul_right _ hn
      refine ⟨_, rfl, q H2 d kvs cs ?_ ?_ hd2 hkv kn (by omega)⟩
      · intro bb o hbo hnt
        by_cases e : bb = d
        · rw [e] at hbo
          rw [nd] at hbo
          cases hbo
        · exact k2.all _ _ (by simpa using e) (eN _ _ (s0 _ _ hbo) hnt)
      · intro pt hpt
        obtain ⟨ps, g1, g2, g3⟩ := hT1 pt hpt
        have out : ∀ {b : Addr} {o : HO}, H1 b = some o → (∀ kvs, o ≠ .dK kvs) → H2 b = some o := fun {b o} hbo hne => k2.all _ _ (by
          simp only [List.mem_singleton]
          intro e
          rw [e, hd1] at hbo
          exact hne _ (Option.some.inj hbo).symm) hbo
        refine ⟨ps, out g1 (fun _ z => nomatch z), g2, fun pos cv hcv => ?_⟩
        obtain ⟨cc, e1, e2⟩ := g3 pos cv hcv
        exact ⟨cc, e1, out e2 (fun _ z => by unfold LamX.CodeO at z; cases z)⟩
end
end K23

set_option Elab.async false
set_option linter.all false
set_option maxRecDepth 100000
set_option maxHeartbeats 4000000
/-! facts_within. -/
namespace K23
open PySem PySem.Spec PyProof.Rows L2
section
variable {P : Program} {w : World} {K : PySem.W.Frag} {mg : Str → Option Value} {base : Heap}
abbrev N18 : List Str := ["rules", "terms", "height", "known", "text"]
theorem sc18 : FnScope N18 ["rules", "terms", "height"] (defScope (topS 18)) := ⟨rfl, rfl, rfl, by decide +kernel, rfl, by decide +kernel, by decide +kernel⟩
def spFacts (K : PySem.W.Frag) (Pt : Addr) : Sp := fun vs H Q _ => ∃ (a b : Addr) (n : Nat) (xs us : List V) (rs : List Rl) (ts : List T), vs = [.ref a, .ref b, .int n] ∧ n ≤ 6 ∧ Given K Pt H a b xs us rs ts ∧
  ∀ H' p ws cs, LamX.ExtN H H' → LamX.Tabs (TT Pt) H' → H' p = some (.tup ws) → Tms K H' ws cs → cs.Pairwise (fun a b => leT a b = true) → Kn (MemI ts (rs ++ [reflR])) n cs → cs.length ≤ 10000 → Q (.ref p) H'
theorem ok_facts {f fF Pt : Addr} {fd fdF : FuncData} {k : Nat} (F0 : FnP K "facts_within" 18 f fd) (FF : FnP K "first_instances" 17 fF fdF) (GF : FnG P w K mg base k fF fdF ["rules", "terms", "height"] (spFirst K Pt)) (gF : mg "first_instances" = some (.ref fF))
    (ms : mg "sorted" = none) (mu : mg "tuple" = none) : FnG P w K mg base (k + 1) f fd ["rules", "terms", "height"] (spFacts K Pt) := by
  have bF : Binds K fdF ["rules", "terms", "height"] [] := FF.bindsN fun _ _ _ _ _ _ us hl => match us, hl with | [_, _, _], _ => rfl
  refine F0.goG sc18 (fun vs H Q E h => ?_) (fun cdv A outer s H vs Q E hr hg h => ?_)
  · obtain ⟨a, b, n, xs, us, rs, ts, rfl, _⟩ := h
    rfl
  · obtain ⟨a, b, n, xs, us, rs, ts, rfl, hn, hG, q⟩ := h
    have tg := hG.2.2.2.2.1
    have rg := hG.2.2.2.2.2.1
    refine ⟨_, PSs.nox (pss_cons (ps_set (i := 3) sc18.nd rfl (.inr rfl) (pe_callG GF hr hg rfl gF FF.kp bF (pa_cons (pv 0) (pa_cons (pv 1) (pa_cons (pv 2) pa_nil)))))
      (pss_one (ps_ret (pe_callTy call_tuple_of (by rfl) mu (by decide +kernel) (pa_cons (pe_callB (cr_sortT hr) (by rfl) ms (by decide +kernel) (pa_cons (pe_lock (pe_lc (own := [("text", 4)]) (g := gName 4) (tt := tYes) rfl sc18.nd (pi_keys (pv 3))
        (blkOk_by (N := N18) (sc := defScope (topS 18)) (by decide +kernel)) (fun _ _ _ _ _ => pg_name (i := 4) sc18.nd rfl (.inl rfl)) (fun _ _ _ _ _ => pts_nil)
        (fun _ _ _ _ _ => pe_ix (r := rIxT K) ix_tup (pe_dget (hu_of hr) (pv 3) (pv 4) (fun _ _ => rfl)) pe_int (fun _ _ => rfl)))) pa_nil)) pa_nil))))), ?_⟩
    refine ⟨.ref a, rfl, .ref b, rfl, _, rfl, a, b, n, xs, us, rs, ts, rfl, hn, hG, fun H1 d kvs cs eN hT1 hd hkv kn hcl => ?_⟩
    have good : ∀ c ∈ cs, Gd c ∧ size c ≤ 480 ∧ dep c ≤ 22 := fun c hc => F.good (fun i hi => insts_good (fun r hr => by
      rcases List.mem_append.mp hr with h | h
      · exact rg r h
      · rw [List.mem_singleton.mp h]; exact rgood_refl) tg i hi) ((kn.mem c).mp hc)
    have hkl := pr_len hkv
    refine ⟨d, .dK kvs, hd, True.intro, fun od => ?_⟩
    have kl : Kp [d] H1 (upd H1 d (.frz od (.dK kvs))) := .put (by simp) hd True.intro
    refine ⟨.ref d, rfl, d, od, rfl, .inl ⟨kvs, upd_same, fun D nD => ⟨fun i m H' => i + m = kvs.length ∧ Same (upd H1 d (.frz od (.dK kvs))) H' ∧ ∃ ws, H' D = some (.lst ws) ∧ Tms K H' ws (cs.take i), ⟨kvs.length, by omega, same_new nD, [], upd_same, .nil⟩, fun i m H2 hW => ?_⟩⟩⟩
    obtain ⟨em, s2, ws, hD, hws⟩ := hW
    have hf2 : H2 d = some (.frz od (.dK kvs)) := s2 _ _ upd_same
    by_cases hi : i < kvs.length
    · have hx : kvs[i]? = some kvs[i] := List.getElem?_eq_getElem hi
      obtain ⟨c, hc, hent, _⟩ := pr_get hkv hx
      have hmem := List.mem_of_getElem? hc
      obtain ⟨v, hv, ii, eii, hia⟩ := ent_at hkv (fun c hc => (good c hc).1) c hmem
      refine .inr ⟨⟨hf2, hi⟩, fun H' => Same (upd H1 d (.frz od (.dK kvs))) H' ∧ ∃ ws, H' D = some (.lst ws) ∧ Tms K H' ws (cs.take (i + 1)), fun H' hh => ⟨m - 1, by omega, by omega, hh⟩, fun x H3 hy => ?_⟩
      obtain ⟨eH, kk, vv, hkk, ex⟩ := hy
      subst eH
      have ekk : kk = .inr (tx c) := by
        rw [hx] at hkk
        have e := Option.some.inj hkk
        rw [e] at hent
        exact hent
      subst ekk
      subst ex
      have k3 : Kp [d] H1 H3 := kl.trans (.of s2)
      have hia3 := hia.kp k3 (by simp)
      obtain ⟨ai, nm, row, cv, l, rfl, h1, h2, h3, h4⟩ := hia3
      rw [eii] at h2
      refine ⟨rfl, .ref d, rfl, .str (tx c), rfl, d, .ref ai, rfl, .inl ⟨kvs, .inr (tx c), .inr ⟨od, hf2⟩, rfl, hv.symm⟩, ai, _, 2, cv, rfl, rfl, h1, atI_nat (j := 2) rfl, ws, hD, ?_, same_put s2 nD, _, upd_same, ?_⟩
      · rw [pr_len hws, List.length_take]
        exact line_big (by omega)
      · have k4 : Kp [D] H3 (upd H3 D (.lst (ws ++ [cv]))) := .put (by simp) hD True.intro
        rw [take_snoc hc]
        exact pr_snoc (Tms.kp k4 _ hws) (Tm.kp k4 _ h2)
    · have ei : i = kvs.length := by omega
      refine .inl ⟨⟨hf2, by omega⟩, hf2, ?_⟩
      rw [ei, hkl, List.take_length] at hws
      have s4 : Same H1 (upd H2 d (.dK kvs)) := fun bb o hbo => by
        by_cases e : bb = d
        · rw [e] at hbo ⊢
          rw [upd_same, ← hbo, hd]
        · rw [upd_ne e]
          exact s2 _ _ (by rw [upd_ne e]; exact hbo)
      have nDd : D ≠ d := fun z => by rw [z, upd_same] at nD; cases nD
      have hws4 : Tms K (upd H2 d (.dK kvs)) ws cs := tms_ext (fun aa xx hh => by
        rcases hh with (hh | ⟨ob, hh⟩) | hh
        · exact .inl (.inl (by rw [upd_ne (ne_of hh hf2 fun z => nomatch z)]; exact hh))
        · exact .inl (.inr ⟨ob, by rw [upd_ne (ne_of hh hf2 fun z => by injection z with z1 z2; exact nomatch z2)]; exact hh⟩)
        · exact .inr hh) cs hws
      refine ⟨D, ws, cs, rfl, SqL.of (by rw [upd_ne nDd]; exact hD), hws4, fun c hc => ⟨(good c hc).1, by have := (good c hc).2.2; omega⟩, fun p ys cs' np hys hperm hpw => ?_⟩
      refine ⟨p, ys, rfl, .inl ⟨SqL.of upd_same, fun l nl => ?_⟩⟩
      have k5 : Kp [] (upd H2 d (.dK kvs)) (upd (upd H2 d (.dK kvs)) p (.lst ys)) := .new np
      have k6 : Kp [] (upd (upd H2 d (.dK kvs)) p (.lst ys)) (upd (upd (upd H2 d (.dK kvs)) p (.lst ys)) l (.tup ys)) := .new nl
      have s6 : Same H1 _ := (s4.trans k5.same).trans k6.same
      refine q _ l ys cs' (eN.trans (.of s6)) (hT1.ext s6) upd_same ((hys.kp k5).kp k6) hpw ⟨hperm.nodup_iff.mpr kn.nodup, fun c hc => kn.gd c (hperm.mem_iff.mp hc), fun c => by rw [hperm.mem_iff]; exact kn.mem c⟩ (by rw [hperm.length_eq]; exact hcl)
end
end K23

set_option Elab.async false
set_option linter.all false
set_option maxRecDepth 100000
set_option maxHeartbeats 4000000
/-! The law's tape and draws. -/
namespace K23
open PySem PySem.Spec PyProof.Rows L2
theorem line_1 {n : Nat} (h : n ≤ 100000) : n ≤ sizeLine := by rw [sizeLine_eq]; omega
theorem line_0 {n : Nat} (h : n ≤ 100000) : n < sizeLine := by rw [sizeLine_eq]; omega
section
variable {P : Program} {w : World} {K : PySem.W.Frag} {mg : Str → Option Value} {base : Heap}
/-! ### _law_tape -/
theorem sc20 : FnScope ["_law_script", "_law_total", "_law_cell"] ["_law_script"] (defScope (topS 20)) := ⟨rfl, rfl, rfl, by decide +kernel, rfl, by decide +kernel, by decide +kernel⟩
def spTape (K : PySem.W.Frag) : Sp := fun vs H Q _ => ∃ (a : Addr) (ns : List Int), vs = [.ref a] ∧ SqL K H a (ns.map V.int) ∧ ∀ H' t l, Same H H' → H t = none → TapeAt H' t l → Q (.ref t) H'
theorem ok_tape {f : Addr} {fd : FuncData} {k : Nat} (F : FnP K "_law_tape" 20 f fd) (mi : mg "int" = none) (ma : mg "abs" = none) (ml : mg "list" = none) : FnOk P w K mg base CX0 (k + 1) f fd ["_law_script"] (spTape K) := by
  refine F.go sc20 (fun vs H Q E h => ?_) (fun cdv A outer s H vs Q E hr h => ?_)
  · obtain ⟨a, ns, rfl, _⟩ := h
    rfl
  · obtain ⟨a, ns, rfl, hs, q⟩ := h
    refine ⟨_, PSs.nox (pss_cons (ps_set (i := 1) sc20.nd rfl (.inl rfl) pe_int)
      (pss_cons (ps_for PassesOwn.never rfl (pi_list (pv 0)) (pg_name (i := 2) sc20.nd rfl (.inl rfl))
        (pss_one (ps_set (i := 1) sc20.nd rfl (.inl rfl) (pe_op op_mod (pe_callTy call_int1 (by rfl) mi boot_int (pa_cons (pe_op op_add (pe_op op_mul (pv 1) pe_int)
          (pe_callB call_abs (by rfl) ma (by decide +kernel) (pa_cons (pe_callTy call_int1 (by rfl) mi boot_int (pa_cons (pv 2) pa_nil)) pa_nil))) pa_nil)) pe_int))))
      (pss_one (ps_ret (pe_lst (pa_cons (pe_callTy call_list_of (by rfl) ml (by decide +kernel) (pa_cons (pv 0) pa_nil)) (pa_cons pe_int (pa_cons pe_int (pa_cons (pv 1) pa_nil))))))))), ?_⟩
    refine ⟨.ref a, rfl, a, rfl, ⟨_, hs⟩, for_list (xs := ns.map V.int) (fun i σ H' => H' = H ∧ ∃ z y, σ = [some (.ref a), some (.int z), y]) ⟨rfl, 7, none, rfl⟩ (fun i σ H' _ hh => by rw [hh.1]; exact hs) ?_ ?_⟩
    · rintro i x σ H' hx ⟨rfl, z, y, rfl⟩
      rw [List.getElem?_map] at hx
      cases hn : ns[i]? with
      | none => rw [hn] at hx; cases hx
      | some n =>
        rw [hn] at hx
        have ex : V.int n = x := Option.some.inj hx
        subst ex
        exact ⟨_, rfl, _, _, rfl, rfl, .inr ⟨by decide, by decide⟩, _, rfl, .inl ⟨_, rfl, _, rfl, _, _, rfl, rfl, .inl ⟨_, rfl, _, _, rfl, rfl, by show (0 : Int) < 2147483647; decide, rfl, _, _, rfl⟩⟩⟩
    · rintro σ H' ⟨rfl, z, y, rfl⟩
      refine ⟨_, rfl, a, _, rfl, .inl hs, fun l nl => ⟨_, rfl, line_1 (by show 4 ≤ 100000; omega), fun t nt => ?_⟩⟩
      have s1 : Same H' (upd H' l (.lst (ns.map V.int))) := same_new nl
      have hl : (upd (upd H' l (.lst (ns.map V.int))) t (.lst [.ref l, .int 0, .int 0, .int z])) l = some (.lst (ns.map V.int)) := same_new nt _ _ upd_same
      exact q _ t l (s1.trans (same_new nt)) (s1.free nt) ⟨ns, 0, 0, z, upd_same, hl, by decide⟩

/-! ### _law_draw -/
abbrev N21 : List Str := ["_law_tape_here", "_law_many", "_law_place", "_law_number"]
theorem sc21 : FnScope N21 ["_law_tape_here", "_law_many"] (defScope (topS 21)) := ⟨rfl, rfl, rfl, by decide +kernel, rfl, by decide +kernel, by decide +kernel⟩
def spDraw : Sp := fun vs H Q _ => ∃ (t l : Addr) (m : Nat), vs = [.ref t, .int m] ∧ 1 ≤ m ∧ m ≤ 1000000 ∧ TapeAt H t l ∧ ∀ H' (n : Nat), Kp [t] H H' → TapeAt H' t l → n < m → Q (.int n) H'
/-- the tape's four places -/
def TV (H : Hp) (t l : Addr) (ns : List Int) (p x z : Int) : Prop := H t = some (.lst [.ref l, .int p, .int x, .int z]) ∧ H l = some (.lst (ns.map V.int)) ∧ 0 ≤ p
theorem TV.at_ {H : Hp} {t l : Addr} {ns : List Int} {p x z : Int} (h : TV H t l ns p x z) : TapeAt H t l := ⟨ns, p, x, z, h⟩
theorem TV.put {H : Hp} {t l : Addr} {ns : List Int} {p x z p' x' z' : Int} (h : TV H t l ns p x z) (h0 : 0 ≤ p') : TV (upd H t (.lst [.ref l, .int p', .int x', .int z'])) t l ns p' x' z' :=
  ⟨upd_same, by rw [upd_ne h.at_.tl]; exact h.2.1, h0⟩
theorem TV.kp {H : Hp} {t l : Addr} {ns : List Int} {p x z : Int} {o : HO} (h : TV H t l ns p x z) : Kp [t] H (upd H t o) := .put (by simp) h.1 True.intro
theorem mod_nat {x : Int} {m : Nat} (h : 1 ≤ m) : ∃ n : Nat, n < m ∧ x % (if (1 : Int) > (m : Int) then (1 : Int) else (m : Int)) = (n : Int) := by
  have e : (if (1 : Int) > (m : Int) then (1 : Int) else (m : Int)) = (m : Int) := by rw [if_neg (by omega)]
  rw [e]
  have h1 := Int.emod_nonneg x (b := (m : Int)) (by omega)
  have h2 := Int.emod_lt_of_pos x (b := (m : Int)) (by omega)
  exact ⟨(x % (m : Int)).toNat, by omega, by omega⟩
theorem max_pos (m : Nat) : (0 : Int) < (if (1 : Int) > (m : Int) then (1 : Int) else (m : Int)) := by split <;> omega
theorem max_two {m : Nat} (h : m ≤ 1000000) : (0 : Int) < (if (2 : Int) > (m : Int) then (2 : Int) else (m : Int)) ∧ (if (2 : Int) > (m : Int) then (2 : Int) else (m : Int)) < 1073741824 := by split <;> omega
theorem ok_draw {f : Addr} {fd : FuncData} {k : Nat} (F : FnP K "_law_draw" 21 f fd) (mi : mg "int" = none) (ma : mg "abs" = none) (mn : mg "len" = none) (mm : mg "max" = none) : FnOk P w K mg base CX0 (k + 1) f fd ["_law_tape_here", "_law_many"] spDraw := by
  refine F.go sc21 (fun vs H Q E h => ?_) (fun cdv A outer s H vs Q E hr h => ?_)
  · obtain ⟨t, l, m, rfl, _⟩ := h
    rfl
  · obtain ⟨t, l, m, rfl, hm1, hm2, ⟨ns, p, x, z, hT⟩, q⟩ := h
    have hV : TV H t l ns p x z := hT
    refine ⟨_, PSs.nox (pss_cons (ps_if (pt_cmpR op_eq (pe_ix ix_list (pv 0) pe_int (fun _ _ => rfl)) pe_int (nomark _))
        (pss_cons (ps_set (i := 2) sc21.nd rfl (.inl rfl) (pe_ix ix_list (pv 0) pe_int (fun _ _ => rfl)))
        (pss_cons (ps_set (i := 3) sc21.nd rfl (.inl rfl) pe_int)
        (pss_cons (ps_if (pt_cmpR op_lt (pv 2) (pe_callB call_len_seq (by rfl) mn PySem.boot_len (pa_cons (pe_ix ix_list (pv 0) pe_int (fun _ _ => rfl)) pa_nil)) (nomark _))
          (pss_one (ps_set (i := 3) sc21.nd rfl (.inl rfl) (pe_callB call_abs (by rfl) ma (by decide +kernel) (pa_cons (pe_callTy call_int1 (by rfl) mi boot_int (pa_cons (pe_ix ix_list (pe_ix ix_list (pv 0) pe_int (fun _ _ => rfl)) (pv 2) (fun _ _ => rfl)) pa_nil)) pa_nil))))
          (pss_cons (ps_asg (pe_op op_mod (pe_callTy call_int1 (by rfl) mi boot_int (pa_cons (pe_op op_add (pe_op op_add (pe_op op_mul (pe_ix ix_list (pv 0) pe_int (fun _ _ => rfl)) pe_int) (pv 2)) pe_int) pa_nil)) pe_int) (pg_sub (pv 0) pe_int set_list))
          (pss_one (ps_set (i := 3) sc21.nd rfl (.inl rfl) (pe_ix ix_list (pv 0) pe_int (fun _ _ => rfl))))))
        (pss_cons (ps_asg (pe_op op_add (pv 2) pe_int) (pg_sub (pv 0) pe_int set_list))
        (pss_cons (ps_if (pt_cmpR op_lt (pv 3) (pe_op op_pow pe_int pe_int) (nomark _))
          (pss_cons (ps_set (i := 3) sc21.nd rfl (.inl rfl) (pe_op op_mod (pe_callTy call_int1 (by rfl) mi boot_int (pa_cons (pe_op op_add (pe_op op_add (pe_op op_mul (pv 3) pe_int) (pe_op op_mul (pv 2) pe_int)) pe_int) pa_nil)) pe_int))
          (pss_cons (ps_set (i := 3) sc21.nd rfl (.inl rfl) (pe_op op_mod (pe_callTy call_int1 (by rfl) mi boot_int (pa_cons (pe_op op_mul (pv 3) pe_int) pa_nil)) pe_int))
          (pss_one (ps_ret (pe_op op_mod (pe_callTy call_int1 (by rfl) mi boot_int (pa_cons (pv 3) pa_nil)) (pe_callB (call_max2 rfl) (by rfl) mm (by decide +kernel) (pa_cons (pv 1) (pa_cons pe_int pa_nil))))))))
          pss_nil)
        (pss_one (ps_asg (pv 3) (pg_sub (pv 0) pe_int set_list))))))))
        pss_nil)
      (pss_cons (ps_set (i := 3) sc21.nd rfl (.inl rfl) (pe_ix ix_list (pv 0) pe_int (fun _ _ => rfl)))
      (pss_cons (ps_asg (pe_op op_fdiv (pv 3) (pe_callB (call_max2 rfl) (by rfl) mm (by decide +kernel) (pa_cons (pv 1) (pa_cons pe_int pa_nil)))) (pg_sub (pv 0) pe_int set_list))
      (pss_one (ps_ret (pe_op op_mod (pe_callTy call_int1 (by rfl) mi boot_int (pa_cons (pv 3) pa_nil)) (pe_callB (call_max2 rfl) (by rfl) mm (by decide +kernel) (pa_cons (pv 1) (pa_cons pe_int pa_nil))))))))), ?_⟩
    have fin : ∀ {H1 : Hp} {p1 x1 z1 y : Int}, TV H1 t l ns p1 x1 z1 → Kp [t] H H1 → Q (.int (y % (if (1 : Int) > (m : Int) then (1 : Int) else (m : Int)))) H1 := fun {H1 p1 x1 z1 y} h1 k1 => by
      obtain ⟨n, h2, e⟩ := mod_nat (x := y) hm1
      rw [e]
      exact q H1 n k1 h1.at_ h2
    have m1 := max_pos m
    have m2 := max_two hm2
    refine ⟨.ref t, rfl, t, _, 2, .int x, rfl, rfl, SqL.of hV.1, atI_nat (j := 2) rfl, rfl, _, rfl, ite2 (fun hx => ?_) (fun hx => ?_)⟩
    · refine ⟨.ref t, rfl, t, _, 1, .int p, rfl, rfl, SqL.of hV.1, atI_nat (j := 1) rfl, .int p, rfl, .ref t, rfl, t, _, 0, .ref l, rfl, rfl, SqL.of hV.1, atI_nat (j := 0) rfl, l, _, rfl, .inl (SqL.of hV.2.1), p, _, rfl, rfl, _, rfl, ?_⟩
      refine ite2 (fun hp => ?_) (fun hp => ?_)
      · have hp' : p < (ns.map V.int).length := of_decide_eq_true hp
        obtain ⟨n, hn⟩ : ∃ n : Int, (ns.map V.int)[p.toNat]? = some (.int n) := by
          have : p.toNat < ns.length := by rw [List.length_map] at hp'; have := hV.2.2; omega
          exact ⟨ns[p.toNat], by rw [List.getElem?_map, List.getElem?_eq_getElem this]; rfl⟩
        have ep : p = ((p.toNat : Nat) : Int) := by have := hV.2.2; omega
        refine ⟨.ref t, rfl, t, _, 0, .ref l, rfl, rfl, SqL.of hV.1, atI_nat (j := 0) rfl, .int p, rfl, l, _, p, .int n, rfl, rfl, SqL.of hV.2.1, by rw [ep]; exact atI_nat hn, .inl ⟨_, rfl, _, rfl, ?_⟩⟩
        have hV1 := hV
        have k1 : Kp [t] H H := .refl _ _
        refine ⟨.int p, rfl, _, _, rfl, rfl, .ref t, rfl, t, _, 1, 1, rfl, rfl, hV1.1, rfl, ?_⟩
        have hV3 := hV1.put (p' := p + 1) (x' := x) (z' := z) (by have := hV1.2.2; omega)
        have k3 : Kp [t] H _ := k1.trans (hV1.kp (o := .lst [.ref l, .int (p + 1), .int x, .int (z)]))
        refine ⟨_, rfl, _, _, rfl, rfl, ⟨by decide, by decide, by decide⟩, _, _, rfl, rfl, _, rfl, ite2 (fun _ => ?_) (fun _ => ?_)⟩
        · refine ⟨_, rfl, _, _, rfl, rfl, .inr ⟨by decide, by decide⟩, .int p, rfl, _, _, rfl, rfl, .inr ⟨by decide, by decide⟩, _, _, rfl, rfl, _, _, rfl, rfl, .inl ⟨_, rfl, _, _, rfl, rfl, by show (0 : Int) < 2147483647; decide,
            _, rfl, _, _, rfl, rfl, .inr ⟨by decide, by decide⟩, .inl ⟨_, rfl, _, _, rfl, rfl, by show (0 : Int) < 2147483629; decide, _, rfl, .inl ⟨_, rfl, .int m, rfl, _, _, rfl, _, _, rfl, rfl, m1, fin hV3 k3⟩⟩⟩⟩
        · refine ⟨_, rfl, .ref t, rfl, t, _, 2, 2, rfl, rfl, hV3.1, rfl, ?_⟩
          have k2 := k3.trans (hV3.kp (o := .lst [.ref l, .int (p + 1), .int (if n < 0 then -n else n), .int (z)]))
          have hV2 := hV3.put (p' := p + 1) (x' := (if n < 0 then -n else n)) (z' := z) hV3.2.2
          refine ⟨.ref t, rfl, t, _, 2, .int _, rfl, rfl, SqL.of hV2.1, atI_nat (j := 2) rfl, _, rfl, .int m, rfl, _, _, rfl, _, _, rfl, rfl, m2, .ref t, rfl, t, _, 2, 2, rfl, rfl, hV2.1, rfl, _, rfl, .inl ⟨_, rfl, .int m, rfl, _, _, rfl, _, _, rfl, rfl, m1, fin (hV2.put hV2.2.2) (k2.trans hV2.kp)⟩⟩
      · refine ⟨.ref t, rfl, t, _, 3, .int z, rfl, rfl, SqL.of hV.1, atI_nat (j := 3) rfl, _, _, rfl, rfl, .inr ⟨by decide, by decide⟩, .int p, rfl, _, _, rfl, rfl, _, _, rfl, rfl, .inl ⟨_, rfl, _, _, rfl, rfl, by show (0 : Int) < 2147483647; decide, .ref t, rfl, t, _, 3, 3, rfl, rfl, hV.1, rfl, ?_⟩⟩
        have hV1 := hV.put (p' := p) (x' := x) (z' := (z * 48271 + p + 1) % 2147483647) hV.2.2
        have k1 : Kp [t] H _ := hV.kp (o := .lst [.ref l, .int p, .int x, .int ((z * 48271 + p + 1) % 2147483647)])
        refine ⟨.ref t, rfl, t, _, 3, .int _, rfl, rfl, SqL.of hV1.1, atI_nat (j := 3) rfl, ?_⟩
        refine ⟨.int p, rfl, _, _, rfl, rfl, .ref t, rfl, t, _, 1, 1, rfl, rfl, hV1.1, rfl, ?_⟩
        have hV3 := hV1.put (p' := p + 1) (x' := x) (z' := (z * 48271 + p + 1) % 2147483647) (by have := hV1.2.2; omega)
        have k3 : Kp [t] H _ := k1.trans (hV1.kp (o := .lst [.ref l, .int (p + 1), .int x, .int ((z * 48271 + p + 1) % 2147483647)]))
        refine ⟨_, rfl, _, _, rfl, rfl, ⟨by decide, by decide, by decide⟩, _, _, rfl, rfl, _, rfl, ite2 (fun _ => ?_) (fun _ => ?_)⟩
        · refine ⟨_, rfl, _, _, rfl, rfl, .inr ⟨by decide, by decide⟩, .int p, rfl, _, _, rfl, rfl, .inr ⟨by decide, by decide⟩, _, _, rfl, rfl, _, _, rfl, rfl, .inl ⟨_, rfl, _, _, rfl, rfl, by show (0 : Int) < 2147483647; decide,
            _, rfl, _, _, rfl, rfl, .inr ⟨by decide, by decide⟩, .inl ⟨_, rfl, _, _, rfl, rfl, by show (0 : Int) < 2147483629; decide, _, rfl, .inl ⟨_, rfl, .int m, rfl, _, _, rfl, _, _, rfl, rfl, m1, fin hV3 k3⟩⟩⟩⟩
        · refine ⟨_, rfl, .ref t, rfl, t, _, 2, 2, rfl, rfl, hV3.1, rfl, ?_⟩
          have k2 := k3.trans (hV3.kp (o := .lst [.ref l, .int (p + 1), .int ((z * 48271 + p + 1) % 2147483647), .int ((z * 48271 + p + 1) % 2147483647)]))
          have hV2 := hV3.put (p' := p + 1) (x' := ((z * 48271 + p + 1) % 2147483647)) (z' := (z * 48271 + p + 1) % 2147483647) hV3.2.2
          refine ⟨.ref t, rfl, t, _, 2, .int _, rfl, rfl, SqL.of hV2.1, atI_nat (j := 2) rfl, _, rfl, .int m, rfl, _, _, rfl, _, _, rfl, rfl, m2, .ref t, rfl, t, _, 2, 2, rfl, rfl, hV2.1, rfl, _, rfl, .inl ⟨_, rfl, .int m, rfl, _, _, rfl, _, _, rfl, rfl, m1, fin (hV2.put hV2.2.2) (k2.trans hV2.kp)⟩⟩
    · have hV2 := hV
      refine ⟨.ref t, rfl, t, _, 2, .int _, rfl, rfl, SqL.of hV2.1, atI_nat (j := 2) rfl, _, rfl, .int m, rfl, _, _, rfl, _, _, rfl, rfl, m2, .ref t, rfl, t, _, 2, 2, rfl, rfl, hV2.1, rfl, _, rfl, .inl ⟨_, rfl, .int m, rfl, _, _, rfl, _, _, rfl, rfl, m1, fin (hV2.put hV2.2.2) hV2.kp⟩⟩
end
end K23

set_option Elab.async false
set_option linter.all false
set_option maxRecDepth 100000
set_option maxHeartbeats 4000000
/-! The law's words, symbols, relations. -/
namespace K23
open PySem PySem.Spec PyProof.Rows L2
/-! ### texts of the law's letters -/
def sgB (c : Nat) : Bool := decide (97 ≤ c ∧ c ≤ 122) || decide (65 ≤ c ∧ c ≤ 90) || decide (48 ≤ c ∧ c ≤ 57)
theorem sg_of {c : Nat} (h : sgB c = true) : Sg c ∧ c ≠ 61 := by
  unfold sgB at h
  simp only [Bool.or_eq_true, decide_eq_true_eq] at h
  unfold Sg
  omega
def Sgs (x : Str) : Prop := ∀ c ∈ x.cps.toList, Sg c ∧ c ≠ 61
/-- a name that is not the sign of likeness -/
def Wd (x : Str) : Prop := Nm x ∧ ∀ c ∈ x.cps.toList, c ≠ 61
theorem Wd.of {x : Str} (h : Sgs x) (hl : x.length ≤ 20) : Wd x := ⟨⟨fun c hc => (h c hc).1, hl⟩, fun c hc => (h c hc).2⟩
theorem Wd.ne {x : Str} (h : Wd x) : x ≠ "=" := fun e => by
  rw [e] at h
  exact h.2 61 (by decide +kernel) rfl
theorem sgs_of {x : Str} (h : x.cps.toList.all sgB = true) : Sgs x := fun c hc => sg_of (List.all_eq_true.mp h c hc)
theorem sgs_app {x y : Str} (a : Sgs x) (b : Sgs y) : Sgs (x ++ y) := by
  intro c hc
  have e : (x ++ y).cps.toList = x.cps.toList ++ y.cps.toList := Array.toList_append
  rw [e] at hc
  rcases List.mem_append.mp hc with h | h
  · exact a c h
  · exact b c h
theorem len_app (x y : Str) : (x ++ y).length = x.length + y.length := by
  have e : (x ++ y).cps = x.cps ++ y.cps := rfl
  unfold Str.length
  rw [e, Array.size_append]
theorem sgs_cut {x : Str} (a : Sgs x) (lo hi : Option Int) : Sgs (cutS x lo hi) := by
  intro c hc
  exact a c (List.mem_of_mem_drop (List.mem_of_mem_take hc))
theorem cut_len (x : Str) (lo hi : Option Int) : (cutS x lo hi).length ≤ x.length := by
  unfold cutS Str.length
  rw [List.size_toArray, List.length_take, List.length_drop, Array.length_toList]
  omega
theorem one_sgs {c : Nat} (h : Sg c ∧ c ≠ 61) : Sgs ⟨#[c]⟩ := by
  intro d hd
  have e : d = c := by simpa using hd
  rw [e]
  exact h
def lettersS : Str := "abcdefghijklmnopqrstuvwxyz"
def signsS : Str := lettersS ++ ("ABCDEFGHIJKLMNOPQRSTUVWXYZ0123456789" : Str)
theorem at_sg {x : Str} {m : Nat} (hl : x.cps.toList.length = m) (hx : Sgs x) {i : Int} (h0 : 0 ≤ i) (h1 : i < m) : ∃ c, atI x.cps.toList i = some c ∧ Sg c ∧ c ≠ 61 := by
  have e : i = (i.toNat : Int) := by omega
  have h2 : i.toNat < x.cps.toList.length := by omega
  refine ⟨x.cps.toList[i.toNat], ?_, hx _ (List.getElem_mem h2)⟩
  exact (congrArg (atI x.cps.toList) e).trans (atI_nat (List.getElem?_eq_getElem h2))
theorem letters_len : lettersS.cps.toList.length = 26 := by decide +kernel
theorem signs_len : signsS.cps.toList.length = 62 := by decide +kernel
theorem letters_sg : Sgs lettersS := sgs_of (by decide +kernel)
theorem signs_sg : Sgs signsS := sgs_of (by decide +kernel)
theorem slen (x : Str) : x.length = x.cps.toList.length := by unfold Str.length; rw [Array.length_toList]
section
variable {P : Program} {w : World} {K : PySem.W.Frag} {mg : Str → Option Value} {base : Heap}
/-! ### _law_word -/
abbrev N22 : List Str := ["_law_tape_here", "_law_stem", "_law_letters", "_law_signs", "_law_number", "_law_word_here", "_law_length"]
theorem sc22 : FnScope N22 ["_law_tape_here", "_law_stem"] (defScope (topS 22)) := ⟨rfl, rfl, rfl, by decide +kernel, rfl, by decide +kernel, by decide +kernel⟩
def spWord : Sp := fun vs H Q _ => ∃ (t l : Addr) (x : Str), vs = [.ref t, .str x] ∧ Sgs x ∧ x.length ≤ 13 ∧ TapeAt H t l ∧ ∀ H' (y : Str), Kp [t] H H' → TapeAt H' t l → Wd y → Q (.str y) H'
theorem ok_word {f fD : Addr} {fd fdD : FuncData} {k : Nat} (F : FnP K "_law_word" 22 f fd) (FD : FnP K "_law_draw" 21 fD fdD) (GD : FnOk P w K mg base CX0 k fD fdD ["_law_tape_here", "_law_many"] spDraw) (gD : mg "_law_draw" = some (.ref fD))
    (mi : mg "int" = none) : FnOk P w K mg base CX0 (k + 1) f fd ["_law_tape_here", "_law_stem"] spWord := by
  have bD : Binds K fdD ["_law_tape_here", "_law_many"] [] := FD.bindsN fun _ _ _ _ _ _ us hl => match us, hl with | [_, _], _ => rfl
  refine F.go sc22 (fun vs H Q E h => ?_) (fun cdv A outer s H vs Q E hr h => ?_)
  · obtain ⟨t, l, x, rfl, _⟩ := h
    rfl
  · obtain ⟨t, l, x, rfl, hx1, hx2, hT, q⟩ := h
    refine ⟨_, PSs.nox (pss_cons (ps_set (i := 2) sc22.nd rfl (.inl rfl) pe_str)
      (pss_cons (ps_set (i := 3) sc22.nd rfl (.inl rfl) (pe_op op_add_str (pv 2) pe_str))
      (pss_cons (ps_set (i := 4) sc22.nd rfl (.inl rfl) (pe_call GD hr rfl gD FD.kp bD .nil pass0 (pa_cons (pv 0) (pa_cons (pe_op op_mul (pe_op op_mul (pe_op op_mul pe_int pe_int) pe_int) pe_int) pa_nil))))
      (pss_cons (ps_set (i := 5) sc22.nd rfl (.inl rfl) (pe_op op_add_str (pe_op op_add_str
          (pe_ix ix_str (pv 2) (pe_op op_mod (pe_callTy call_int1 (by rfl) mi boot_int (pa_cons (pv 4) pa_nil)) pe_int) (fun _ _ => rfl))
          (pe_ix ix_str (pv 3) (pe_op op_mod (pe_callTy call_int1 (by rfl) mi boot_int (pa_cons (pe_op op_fdiv (pv 4) pe_int) pa_nil)) pe_int) (fun _ _ => rfl)))
          (pe_ix ix_str (pv 3) (pe_op op_mod (pe_callTy call_int1 (by rfl) mi boot_int (pa_cons (pe_op op_fdiv (pv 4) pe_int) pa_nil)) pe_int) (fun _ _ => rfl))))
      (pss_cons (ps_set (i := 6) sc22.nd rfl (.inl rfl) (pe_op op_mod (pe_callTy call_int1 (by rfl) mi boot_int (pa_cons (pe_op op_fdiv (pv 4) pe_int) pa_nil)) pe_int))
      (pss_cons (ps_if (pt_cmpR op_eq (pv 6) pe_int (nomark _)) (pss_one (ps_ret (pe_slice sl_str (pe_op op_add_str (pv 1) (pv 5)) po_none (po_some pe_int)))) pss_nil)
      (pss_one (ps_ret (pe_slice sl_str (pv 5) po_none (po_some (pe_op op_add pe_int (pv 6)))))))))))), ?_⟩
    have ll : lettersS.length = 26 := by rw [slen, letters_len]
    have sl : signsS.length = 62 := by rw [slen, signs_len]
    refine ⟨.str lettersS, rfl, lettersS, _, rfl, rfl, by decide +kernel, .ref t, rfl, _, _, rfl, rfl, .inl ⟨by decide, by decide⟩, _, _, rfl, rfl, .inl ⟨by decide, by decide⟩, _, _, rfl, rfl, .inl ⟨by decide, by decide⟩,
      t, l, 399776, rfl, by decide, by decide, hT, fun H1 n k1 hT1 hn => ?_⟩
    obtain ⟨c1, a1, s1⟩ := at_sg letters_len letters_sg (i := (n : Int) % 26) (by omega) (by omega)
    obtain ⟨c2, a2, s2⟩ := at_sg signs_len signs_sg (i := (n : Int) / 26 % 62) (by omega) (by omega)
    obtain ⟨c3, a3, s3⟩ := at_sg signs_len signs_sg (i := (n : Int) / 1612 % 62) (by omega) (by omega)
    have hw : Sgs ((⟨#[c1]⟩ : Str) ++ (⟨#[c2]⟩ : Str) ++ (⟨#[c3]⟩ : Str)) := sgs_app (sgs_app (one_sgs s1) (one_sgs s2)) (one_sgs s3)
    have hwl : ((⟨#[c1]⟩ : Str) ++ (⟨#[c2]⟩ : Str) ++ (⟨#[c3]⟩ : Str)).length = 3 := rfl
    refine ⟨.str lettersS, rfl, .int n, rfl, .inl ⟨n, rfl, _, _, rfl, rfl, by show (0 : Int) < 26; decide, lettersS, _, c1, rfl, rfl, line_1 (by omega), a1, ?_⟩⟩
    refine ⟨.str signsS, rfl, .int n, rfl, _, _, rfl, rfl, ⟨by decide, by decide⟩, .inl ⟨_, rfl, _, _, rfl, rfl, by show (0 : Int) < 62; decide, signsS, _, c2, rfl, rfl, line_1 (by omega), a2, ?_⟩⟩
    refine ⟨_, _, rfl, rfl, line_1 (by show 2 ≤ 100000; omega), .str signsS, rfl, .int n, rfl, _, _, rfl, rfl, ⟨by decide, by decide⟩, .inl ⟨_, rfl, _, _, rfl, rfl, by show (0 : Int) < 62; decide, signsS, _, c3, rfl, rfl, line_1 (by omega), a3, ?_⟩⟩
    refine ⟨_, _, rfl, rfl, line_1 (by show 3 ≤ 100000; omega), .int n, rfl, _, _, rfl, rfl, ⟨by decide, by decide⟩, .inl ⟨_, rfl, _, _, rfl, rfl, by show (0 : Int) < 4; decide, ?_⟩⟩
    refine ⟨.int _, rfl, rfl, _, rfl, ite2 (fun _ => ?_) (fun _ => ?_)⟩
    · have hs2 := sgs_app hx1 hw
      have hl2 := len_app x ((⟨#[c1]⟩ : Str) ++ (⟨#[c2]⟩ : Str) ++ (⟨#[c3]⟩ : Str))
      have hc2 := cut_len (x ++ ((⟨#[c1]⟩ : Str) ++ (⟨#[c2]⟩ : Str) ++ (⟨#[c3]⟩ : Str))) none (some 16)
      exact ⟨.str x, rfl, .str _, rfl, _, _, rfl, rfl, line_1 (by omega), 16, rfl, _, rfl, line_1 (by omega), q H1 _ k1 hT1 (.of (sgs_cut hs2 _ _) (by omega))⟩
    · have hc2 := fun h => cut_len ((⟨#[c1]⟩ : Str) ++ (⟨#[c2]⟩ : Str) ++ (⟨#[c3]⟩ : Str)) none h
      exact ⟨.str _, rfl, .int _, rfl, _, _, rfl, rfl, _, rfl, _, rfl, line_1 (by omega), q H1 _ k1 hT1 (.of (sgs_cut hw _ _) (by have := hc2 (some (1 + (n : Int) / 99944 % 4)); omega))⟩
end
end K23

set_option Elab.async false
set_option linter.all false
set_option maxRecDepth 100000
set_option maxHeartbeats 4000000
/-! The law's symbols and relations. -/
namespace K23
open PySem PySem.Spec PyProof.Rows L2
section
variable {P : Program} {w : World} {K : PySem.W.Frag} {mg : Str → Option Value} {base : Heap}
theorem Kp.tape {M : List Addr} {H H' : Hp} {t l : Addr} (k : Kp M H H') (h : TapeAt H t l) (n : t ∉ M) (nl : l ∉ M) : TapeAt H' t l := h.kp k n nl
/-- a pair is put behind a list of pairs -/
theorem prl_snoc {H : Hp} {p a : Addr} {vs : List V} {ps : List (Str × Nat)} {x : Str} {n : Nat} (hp : H p = some (.lst vs)) (h : Paired (PrAt K H) vs ps) (na : H a = none) :
    PrL K (upd (upd H a (.tup [.str x, .int n])) p (.lst (vs ++ [.ref a]))) p (ps ++ [(x, n)]) ∧ (upd H a (.tup [.str x, .int n])) p = some (.lst vs) := by
  have e : (upd H a (.tup [.str x, .int n])) p = some (.lst vs) := same_new na _ _ hp
  have k1 : Kp [p] H (upd H a (.tup [.str x, .int n])) := .new na
  have k2 : Kp [p] (upd H a (.tup [.str x, .int n])) (upd (upd H a (.tup [.str x, .int n])) p (.lst (vs ++ [.ref a]))) := .put (by simp) e True.intro
  exact ⟨⟨_, upd_same, pr_snoc (prs_kp k2 (prs_kp k1 h)) ⟨a, rfl, k2.sqt (SqT.of upd_same)⟩⟩, e⟩
theorem at6 {c : List Nat} {n : Nat} (h : n < c.length) (hc : ∀ a ∈ c, a ≤ 3) : ∃ a : Nat, a ≤ 3 ∧ atI (c.map fun a : Nat => V.int a) (n : Int) = some (.int a) := by
  refine ⟨c[n], hc _ (List.getElem_mem h), atI_nat ?_⟩
  rw [List.getElem?_map, List.getElem?_eq_getElem h]
  rfl
def PGood (ps : List (Str × Nat)) : Prop := ∀ q ∈ ps, Wd q.1 ∧ q.2 ≤ 3
theorem pgood_snoc {ps : List (Str × Nat)} {x : Str} {n : Nat} (h : PGood ps) (hx : Wd x) (hn : n ≤ 3) : PGood (ps ++ [(x, n)]) := by
  intro q hq
  rcases List.mem_append.mp hq with hq | hq
  · exact h q hq
  · rw [List.mem_singleton.mp hq]; exact ⟨hx, hn⟩
/-! ### _law_symbols -/
abbrev N23 : List Str := ["_law_tape_here", "_law_many", "_law_stem", "_law_symbols_here", "_law_k", "_law_name"]
theorem sc23 : FnScope N23 ["_law_tape_here", "_law_many"] (defScope (topS 23)) := ⟨rfl, rfl, rfl, by decide +kernel, rfl, by decide +kernel, by decide +kernel⟩
def spPairs (K : PySem.W.Frag) (x : Nat) : Sp := fun vs H Q _ => ∃ (t l : Addr) (m : Nat), vs = [.ref t, .int m] ∧ 1 ≤ m ∧ m ≤ 3 ∧ TapeAt H t l ∧
  ∀ H' p ps, Kp [t] H H' → H p = none → TapeAt H' t l → PrL K H' p ps → ps.length = m + x → PGood ps → Q (.ref p) H'
theorem ok_symbols {f fD fW : Addr} {fd fdD fdW : FuncData} {k : Nat} (F : FnP K "_law_symbols" 23 f fd) (FD : FnP K "_law_draw" 21 fD fdD) (GD : FnOk P w K mg base CX0 k fD fdD ["_law_tape_here", "_law_many"] spDraw) (gD : mg "_law_draw" = some (.ref fD))
    (FW : FnP K "_law_word" 22 fW fdW) (GW : FnOk P w K mg base CX0 k fW fdW ["_law_tape_here", "_law_stem"] spWord) (gW : mg "_law_word" = some (.ref fW)) (mr : mg "range" = none) : FnOk P w K mg base CX0 (k + 1) f fd ["_law_tape_here", "_law_many"] (spPairs K 1) := by
  have bD : Binds K fdD ["_law_tape_here", "_law_many"] [] := FD.bindsN fun _ _ _ _ _ _ us hl => match us, hl with | [_, _], _ => rfl
  have bW : Binds K fdW ["_law_tape_here", "_law_stem"] [] := FW.bindsN fun _ _ _ _ _ _ us hl => match us, hl with | [_, _], _ => rfl
  refine F.go sc23 (fun vs H Q E h => ?_) (fun cdv A outer s H vs Q E hr h => ?_)
  · obtain ⟨t, l, m, rfl, _⟩ := h
    rfl
  · obtain ⟨t, l, m, rfl, hm1, hm3, hT, q⟩ := h
    refine ⟨_, PSs.nox (pss_cons (ps_set (i := 2) sc23.nd rfl (.inl rfl) (pe_ix ix_list (pe_lst (pa_cons pe_str (pa_cons pe_str pa_nil))) (pe_call GD hr rfl gD FD.kp bD .nil pass0 (pa_cons (pv 0) (pa_cons pe_int pa_nil))) (fun _ _ => rfl)))
      (pss_cons (ps_set (i := 3) sc23.nd rfl (.inl rfl) (pe_lst pa_nil))
      (pss_cons (ps_for PassesOwn.never rfl (pi_range1 rfl mr (pa_cons (pv 1) pa_nil)) (pg_name (i := 4) sc23.nd rfl (.inl rfl))
        (pss_cons (ps_set (i := 5) sc23.nd rfl (.inl rfl) (pe_call GW hr rfl gW FW.kp bW .nil pass0 (pa_cons (pv 0) (pa_cons (pv 2) pa_nil))))
        (pss_one (ps_expr (pe_bm PySem.F.plainAttrs_list PySem.F.slot_list_append PySem.F.type_list_append mt_append (pv 3) (pa_cons (pe_tup (pa_cons (pv 5) (pa_cons (pe_ix ix_list (pe_lst (pa_cons pe_int (pa_cons pe_int (pa_cons pe_int (pa_cons pe_int (pa_cons pe_int (pa_cons pe_int pa_nil)))))))
          (pe_call GD hr rfl gD FD.kp bD .nil pass0 (pa_cons (pv 0) (pa_cons pe_int pa_nil))) (fun _ _ => rfl)) pa_nil))) pa_nil))))))
      (pss_cons (ps_expr (pe_bm PySem.F.plainAttrs_list PySem.F.slot_list_append PySem.F.type_list_append mt_append (pv 3) (pa_cons (pe_tup (pa_cons (pe_ix ix_tup (pe_ix ix_list (pv 3) pe_int (fun _ _ => rfl)) pe_int (fun _ _ => rfl)) (pa_cons pe_int pa_nil))) pa_nil)))
      (pss_one (ps_ret (pv 3))))))), ?_⟩
    refine ⟨line_1 (by show 2 ≤ 100000; omega), fun l0 nl0 => ⟨.ref t, rfl, t, l, 2, rfl, by decide, by decide, hT.same (same_new nl0), fun H1 n k1 hT1 hn => ?_⟩⟩
    have n0t : l0 ∉ [t] := by simp only [List.mem_singleton]; exact fun e => (hT.ne nl0).1 e.symm
    have h0 : H1 l0 = some (.lst [.str (Str.ofString ""), .str (Str.ofString "constructorOf")]) := k1.all _ _ n0t upd_same
    obtain ⟨stem, hst, hs1, hs2⟩ : ∃ x : Str, atI [V.str (Str.ofString ""), .str (Str.ofString "constructorOf")] (n : Int) = some (.str x) ∧ Sgs x ∧ x.length ≤ 13 := by
      have : n = 0 ∨ n = 1 := by omega
      rcases this with rfl | rfl
      · exact ⟨_, atI_nat (j := 0) rfl, sgs_of (by decide +kernel), by decide +kernel⟩
      · exact ⟨_, atI_nat (j := 1) rfl, sgs_of (by decide +kernel), by decide +kernel⟩
    refine ⟨l0, _, _, _, rfl, rfl, SqL.of h0, hst, line_1 (by show 0 ≤ 100000; omega), fun p np => ?_⟩
    have k01 : Kp [t] H H1 := (Kp.new nl0).trans k1
    have hp0 : H p = none := by
      cases e : H p with
      | none => rfl
      | some o =>
        by_cases z : p = t
        · rw [z] at np
          obtain ⟨_, _, _, _, g, _⟩ := hT1
          rw [np] at g
          cases g
        · rw [k01.all _ _ (by simpa using z) e] at np
          cases np
    have hpt : p ∉ [t] := by simp only [List.mem_singleton]; exact fun e => (hT.ne hp0).1 e.symm
    refine ⟨.int m, rfl, m, rfl, by omega, by omega, ?_⟩
    have em : (m : Int).toNat = m := by omega
    rw [em]
    refine for_range (n := m) (fun i σ H' => (∃ y z, σ = [some (.ref t), some (.int m), some (.str stem), some (.ref p), y, z]) ∧ Kp [t] H H' ∧ TapeAt H' t l ∧ ∃ ps, PrL K H' p ps ∧ ps.length = i ∧ PGood ps)
      ⟨⟨_, _, rfl⟩, k01.trans (.new np), hT1.same (same_new np), [], ⟨[], upd_same, .nil⟩, rfl, fun q hq => by cases hq⟩ ?_ ?_
    · rintro i σ H2 hi ⟨⟨y, z, rfl⟩, k2, hT2, ps, hps, hl, hg⟩
      refine ⟨.ref t, rfl, .str stem, rfl, t, l, stem, rfl, hs1, hs2, hT2, fun H3 x k3 hT3 hx => ?_⟩
      have hps3 := hps.kp k3 hpt
      obtain ⟨vs0, hv0, _⟩ := id hps3
      refine ⟨.ref p, rfl, .inl ⟨rfl, _, SqL.of hv0⟩, .str x, rfl, line_1 (by show 6 ≤ 100000; omega), fun l1 nl1 => ⟨.ref t, rfl, t, l, 6, rfl, by decide, by decide, hT3.same (same_new nl1), fun H4 n4 k4 hT4 hn4 => ?_⟩⟩
      have n1t : l1 ∉ [t] := by simp only [List.mem_singleton]; exact fun e => (hT3.ne nl1).1 e.symm
      obtain ⟨a, ha, hat⟩ := at6 (c := [0, 1, 2, 0, 1, 3]) (n := n4) (by simpa using hn4) (by decide)
      refine ⟨l1, _, _, _, rfl, rfl, SqL.of (k4.all _ _ n1t upd_same), hat, line_1 (by show 2 ≤ 100000; omega), fun b nb => ?_⟩
      obtain ⟨vs, hv, hvp⟩ := (hps3.kp (Kp.new (M := [t]) nl1) hpt).kp k4 hpt
      obtain ⟨g1, g2⟩ := prl_snoc (x := x) (n := a) hv hvp nb
      have hvl := pr_len hvp
      refine ⟨p, vs, _, rfl, rfl, g2, line_0 (by omega), ⟨_, _, rfl⟩, ?_, ?_, _, g1, by rw [List.length_append]; simp; omega, pgood_snoc hg hx ha⟩
      · exact ((((k2.trans k3).trans (.new nl1)).trans k4).trans (.new nb)).put_new hp0
      · exact (hT4.same (same_new nb)).upd (hT.ne hp0).1 (hT.ne hp0).2
    · rintro σ H2 ⟨⟨y, z, rfl⟩, k2, hT2, ps, hps, hl, hg⟩
      obtain ⟨vs, hv, hvp⟩ := hps
      have hvl := pr_len hvp
      cases ps with
      | nil => simp at hl; omega
      | cons q0 qs =>
        obtain ⟨v0, r0, rfl, ⟨a0, rfl, hq0⟩, h2⟩ := pr_cons' hvp
        refine ⟨.ref p, rfl, .inl ⟨rfl, _, SqL.of hv⟩, .ref p, rfl, p, _, 0, .ref a0, rfl, rfl, SqL.of hv, atI_nat (j := 0) rfl, a0, _, 0, .str q0.1, rfl, rfl, hq0, atI_nat (j := 0) rfl, line_1 (by show 2 ≤ 100000; omega), fun b nb => ?_⟩
        obtain ⟨g1, g2⟩ := prl_snoc (x := q0.1) (n := 0) hv hvp nb
        refine ⟨p, _, _, rfl, rfl, g2, line_0 (by omega), .ref p, rfl, q _ p _ ?_ hp0 ?_ g1 (by rw [List.length_append]; simp at hl ⊢; omega) (pgood_snoc hg (hg q0 List.mem_cons_self).1 (by omega))⟩
        · exact (k2.trans (.new nb)).put_new hp0
        · exact (hT2.same (same_new nb)).upd (hT.ne hp0).1 (hT.ne hp0).2
/-! ### _law_relations -/
abbrev N36 : List Str := ["_law_tape_here", "_law_many", "_law_relations_here", "_law_k"]
theorem sc36 : FnScope N36 ["_law_tape_here", "_law_many"] (defScope (topS 36)) := ⟨rfl, rfl, rfl, by decide +kernel, rfl, by decide +kernel, by decide +kernel⟩
theorem ok_relations {f fD fW : Addr} {fd fdD fdW : FuncData} {k : Nat} (F : FnP K "_law_relations" 36 f fd) (FD : FnP K "_law_draw" 21 fD fdD) (GD : FnOk P w K mg base CX0 k fD fdD ["_law_tape_here", "_law_many"] spDraw) (gD : mg "_law_draw" = some (.ref fD))
    (FW : FnP K "_law_word" 22 fW fdW) (GW : FnOk P w K mg base CX0 k fW fdW ["_law_tape_here", "_law_stem"] spWord) (gW : mg "_law_word" = some (.ref fW)) (mr : mg "range" = none) : FnOk P w K mg base CX0 (k + 1) f fd ["_law_tape_here", "_law_many"] (spPairs K 0) := by
  have bD : Binds K fdD ["_law_tape_here", "_law_many"] [] := FD.bindsN fun _ _ _ _ _ _ us hl => match us, hl with | [_, _], _ => rfl
  have bW : Binds K fdW ["_law_tape_here", "_law_stem"] [] := FW.bindsN fun _ _ _ _ _ _ us hl => match us, hl with | [_, _], _ => rfl
  refine F.go sc36 (fun vs H Q E h => ?_) (fun cdv A outer s H vs Q E hr h => ?_)
  · obtain ⟨t, l, m, rfl, _⟩ := h
    rfl
  · obtain ⟨t, l, m, rfl, hm1, hm3, hT, q⟩ := h
    refine ⟨_, PSs.nox (pss_cons (ps_set (i := 2) sc36.nd rfl (.inl rfl) (pe_lst pa_nil))
      (pss_cons (ps_for PassesOwn.never rfl (pi_range1 rfl mr (pa_cons (pv 1) pa_nil)) (pg_name (i := 3) sc36.nd rfl (.inl rfl))
        (pss_one (ps_expr (pe_bm PySem.F.plainAttrs_list PySem.F.slot_list_append PySem.F.type_list_append mt_append (pv 2) (pa_cons (pe_tup (pa_cons (pe_call GW hr rfl gW FW.kp bW .nil pass0 (pa_cons (pv 0) (pa_cons pe_str pa_nil)))
          (pa_cons (pe_ix ix_list (pe_lst (pa_cons pe_int (pa_cons pe_int (pa_cons pe_int (pa_cons pe_int (pa_cons pe_int (pa_cons pe_int pa_nil)))))))
          (pe_call GD hr rfl gD FD.kp bD .nil pass0 (pa_cons (pv 0) (pa_cons pe_int pa_nil))) (fun _ _ => rfl)) pa_nil))) pa_nil)))))
      (pss_one (ps_ret (pv 2))))), ?_⟩
    refine ⟨line_1 (by show 0 ≤ 100000; omega), fun p hp0 => ?_⟩
    have hpt : p ∉ [t] := by simp only [List.mem_singleton]; exact fun e => (hT.ne hp0).1 e.symm
    refine ⟨.int m, rfl, m, rfl, by omega, by omega, ?_⟩
    have em : (m : Int).toNat = m := by omega
    rw [em]
    refine for_range (n := m) (fun i σ H' => (∃ y, σ = [some (.ref t), some (.int m), some (.ref p), y]) ∧ Kp [t] H H' ∧ TapeAt H' t l ∧ ∃ ps, PrL K H' p ps ∧ ps.length = i ∧ PGood ps)
      ⟨⟨_, rfl⟩, .new hp0, hT.same (same_new hp0), [], ⟨[], upd_same, .nil⟩, rfl, fun q hq => by cases hq⟩ ?_ ?_
    · rintro i σ H2 hi ⟨⟨y, rfl⟩, k2, hT2, ps, hps, hl, hg⟩
      obtain ⟨vs0, hv0, _⟩ := id hps
      refine ⟨.ref p, rfl, .inl ⟨rfl, _, SqL.of hv0⟩, .ref t, rfl, t, l, _, rfl, sgs_of (by decide +kernel), by decide +kernel, hT2, fun H3 x k3 hT3 hx => ?_⟩
      have hps3 := hps.kp k3 hpt
      refine ⟨line_1 (by show 6 ≤ 100000; omega), fun l1 nl1 => ⟨.ref t, rfl, t, l, 6, rfl, by decide, by decide, hT3.same (same_new nl1), fun H4 n4 k4 hT4 hn4 => ?_⟩⟩
      have n1t : l1 ∉ [t] := by simp only [List.mem_singleton]; exact fun e => (hT3.ne nl1).1 e.symm
      obtain ⟨a, ha, hat⟩ := at6 (c := [1, 2, 1, 2, 3, 0]) (n := n4) (by simpa using hn4) (by decide)
      refine ⟨l1, _, _, _, rfl, rfl, SqL.of (k4.all _ _ n1t upd_same), hat, line_1 (by show 2 ≤ 100000; omega), fun b nb => ?_⟩
      obtain ⟨vs, hv, hvp⟩ := (hps3.kp (Kp.new (M := [t]) nl1) hpt).kp k4 hpt
      obtain ⟨g1, g2⟩ := prl_snoc (x := x) (n := a) hv hvp nb
      have hvl := pr_len hvp
      refine ⟨p, vs, _, rfl, rfl, g2, line_0 (by omega), ⟨_, rfl⟩, ?_, ?_, _, g1, by rw [List.length_append]; simp; omega, pgood_snoc hg hx ha⟩
      · exact ((((k2.trans k3).trans (.new nl1)).trans k4).trans (.new nb)).put_new hp0
      · exact (hT4.same (same_new nb)).upd (hT.ne hp0).1 (hT.ne hp0).2
    · rintro σ H2 ⟨⟨y, rfl⟩, k2, hT2, ps, hps, hl, hg⟩
      exact ⟨.ref p, rfl, q _ p _ k2 hp0 hT2 hps hl hg⟩
end
end K23

set_option Elab.async false
set_option linter.all false
set_option maxRecDepth 100000
set_option maxHeartbeats 4000000
/-! The law's terms and atoms. -/
namespace K23
open PySem PySem.Spec PyProof.Rows L2
theorem cat1 {K : PySem.W.Frag} {H : Hp} {Q : VK} {c l : Addr} {x : V} {ws : List V} (hc : SqT K H c [x]) (hl : SqT K H l ws) (hlen : ws.length ≤ 1000) (q : ∀ H4 r, Same H H4 → SqT K H4 r (x :: ws) → Q (.ref r) H4) : rCatA K (.ref c) (.ref l) H Q := by
  refine ⟨c, l, _, ws, rfl, rfl, hc, hl, line_1 (by simp only [List.length_singleton]; omega), (fun z => nomatch z), fun _ z => ?_, fun _ _ r nr => ?_⟩
  · subst z
    exact q H c (.refl _) hc
  · exact q _ r (same_new nr) (SqT.of upd_same)
/-- what terms are drawn from: the tape, symbols, the numbers below m -/
structure Src (K : PySem.W.Frag) (H : Hp) (t l sy va : Addr) (m : Nat) (ps : List (Str × Nat)) : Prop where
  tape : TapeAt H t l
  sym : PrL K H sy ps
  ne : ps ≠ []
  few : ps.length ≤ 10
  good : PGood ps
  var : H va = some (.lst ((List.range m).map fun n : Nat => V.int n))
  three : m ≤ 3
theorem tape_prl {K : PySem.W.Frag} {H : Hp} {t l p : Addr} {ps : List (Str × Nat)} (hT : TapeAt H t l) (h : PrL K H p ps) : p ≠ t := by
  obtain ⟨ns, a, x, z, h1, _, _⟩ := hT
  obtain ⟨vs, h2, h3⟩ := h
  intro e
  rw [e, h1] at h2
  have e2 := Option.some.inj h2
  injection e2 with e2
  subst e2
  obtain ⟨_, _, _, _, h4⟩ := pr_cons h3
  obtain ⟨_, _, _, ⟨b, z, _⟩, _⟩ := pr_cons h4
  cases z
theorem tape_var {H : Hp} {t l va : Addr} {m : Nat} (hT : TapeAt H t l) (h : H va = some (.lst ((List.range m).map fun n : Nat => V.int n))) : va ≠ t := by
  obtain ⟨ns, a, x, z, h1, _, _⟩ := hT
  intro e
  rw [e, h1] at h
  have e2 := Option.some.inj h
  injection e2 with e2
  cases m with
  | zero => simp at e2
  | succ m =>
    have h0 := congrArg (fun l : List V => l[0]?) e2
    simp [List.getElem?_range] at h0
theorem Src.kp {K : PySem.W.Frag} {H H' : Hp} {t l sy va : Addr} {m : Nat} {ps : List (Str × Nat)} (h : Src K H t l sy va m ps) (k : Kp [t] H H') (hT : TapeAt H' t l) : Src K H' t l sy va m ps :=
  ⟨hT, h.sym.kp k (by simpa using tape_prl h.tape h.sym), h.ne, h.few, h.good, k.all _ _ (by simpa using tape_var h.tape h.var) h.var, h.three⟩
theorem Src.same {K : PySem.W.Frag} {H H' : Hp} {t l sy va : Addr} {m : Nat} {ps : List (Str × Nat)} (h : Src K H t l sy va m ps) (k : Same H H') : Src K H' t l sy va m ps := h.kp (.of k) (h.tape.same k)
section
variable {P : Program} {w : World} {K : PySem.W.Frag} {mg : Str → Option Value} {base : Heap}
/-! ### _law_term -/
abbrev N24 : List Str := ["_law_tape_here", "_law_symbols_here", "_law_variables_here", "_law_depth", "_law_choice", "_law_symbol", "_law_k"]
abbrev P24 : List Str := ["_law_tape_here", "_law_symbols_here", "_law_variables_here", "_law_depth"]
theorem sc24 : FnScope N24 P24 (defScope (topS 24)) := ⟨rfl, rfl, rfl, by decide +kernel, rfl, by decide +kernel, by decide +kernel⟩
def spTerm (K : PySem.W.Frag) (n : Nat) : Sp := fun vs H Q _ => ∃ (t l sy va : Addr) (d m : Nat) (ps : List (Str × Nat)), vs = [.ref t, .ref sy, .ref va, .int d] ∧ 1 ≤ d ∧ d ≤ n ∧ d ≤ 2 ∧ Src K H t l sy va m ps ∧
  ∀ H' v τ, Kp [t] H H' → TapeAt H' t l → Tm K H' v τ → Wf m τ → size τ ≤ 3 * d - 2 → dep τ ≤ d → Q v H'
theorem ok_term {f fD : Addr} {fd fdD : FuncData} {k : Nat} (F : FnP K "_law_term" 24 f fd) (gF : mg "_law_term" = some (.ref f)) (FD : FnP K "_law_draw" 21 fD fdD) (GD : FnOk P w K mg base CX0 k fD fdD ["_law_tape_here", "_law_many"] spDraw) (gD : mg "_law_draw" = some (.ref fD))
    (mn : mg "len" = none) (mu : mg "tuple" = none) (mr : mg "range" = none) : ∀ n, FnOk P w K mg base CX0 (k + n) f fd P24 (spTerm K n)
  | 0 => ok_no.imp fun vs H Q E h => by
    obtain ⟨t, l, sy, va, d, m, ps, _, h1, h2, _⟩ := h
    omega
  | n + 1 => by
    have G := ok_term F gF FD GD gD mn mu mr n
    have GD' : FnOk P w K mg base CX0 (k + n) fD fdD ["_law_tape_here", "_law_many"] spDraw := GD.mono (by omega)
    have bD : Binds K fdD ["_law_tape_here", "_law_many"] [] := FD.bindsN fun _ _ _ _ _ _ us hl => match us, hl with | [_, _], _ => rfl
    have b : Binds K fd P24 [] := F.bindsN fun _ _ _ _ _ _ us hl => match us, hl with | [_, _, _, _], _ => rfl
    refine F.go sc24 (fun vs H Q E h => ?_) (fun cdv A outer s H vs Q E hr h => ?_)
    · obtain ⟨t, l, sy, va, d, m, ps, rfl, _⟩ := h
      rfl
    · obtain ⟨t, l, sy, va, d, m, ps, rfl, hd1, hdn, hd2, hS, q⟩ := h
      refine ⟨_, PSs.nox (pss_cons (ps_set (i := 4) sc24.nd rfl (.inl rfl) (pe_call GD' hr rfl gD FD.kp bD .nil pass0 (pa_cons (pv 0) (pa_cons (pe_op op_add (pe_callB call_len_seq (by rfl) mn PySem.boot_len (pa_cons (pv 1) pa_nil)) (pe_callB call_len_seq (by rfl) mn PySem.boot_len (pa_cons (pv 2) pa_nil))) pa_nil))))
        (pss_cons (ps_if (pt_cmpR op_lt (pv 4) (pe_callB call_len_seq (by rfl) mn PySem.boot_len (pa_cons (pv 2) pa_nil)) (nomark _)) (pss_one (ps_ret (pe_ix ix_list (pv 2) (pv 4) (fun _ _ => rfl)))) pss_nil)
        (pss_cons (ps_set (i := 5) sc24.nd rfl (.inl rfl) (pe_ix ix_list (pv 1) (pe_op op_sub (pv 4) (pe_callB call_len_seq (by rfl) mn PySem.boot_len (pa_cons (pv 2) pa_nil))) (fun _ _ => rfl)))
        (pss_cons (ps_if (pt_cmpR op_le (pv 3) pe_int (nomark _)) (pss_one (ps_ret (pe_tup (pa_cons (pe_ix ix_tup (pv 5) pe_int (fun _ _ => rfl)) pa_nil)))) pss_nil)
        (pss_one (ps_ret (pe_op op_catA (pe_tup (pa_cons (pe_ix ix_tup (pv 5) pe_int (fun _ _ => rfl)) pa_nil))
          (pe_callTy call_tuple_of (by rfl) mu (by decide +kernel) (pa_cons (pe_lc (own := [("_law_k", 6)]) (g := gName 6) (tt := tYes) rfl sc24.nd (pi_range1 rfl mr (pa_cons (pe_ix ix_tup (pv 5) pe_int (fun _ _ => rfl)) pa_nil))
            (blkOk_by (N := N24) (sc := defScope (topS 24)) (by decide +kernel)) (fun _ _ _ _ _ => pg_name (i := 6) sc24.nd rfl (.inl rfl)) (fun _ _ _ _ _ => pts_nil)
            (fun _ _ _ _ _ => pe_call G hr rfl gF F.kp b .nil pass0 (pa_cons (pv 0) (pa_cons (pv 1) (pa_cons (pv 2) (pa_cons (pe_op op_sub (pv 3) pe_int) pa_nil)))))) pa_nil))))))))), ?_⟩
      have hpos : 1 ≤ ps.length := by
        cases ps with
        | nil => exact absurd rfl hS.ne
        | cons _ _ => simp
      have hvl : ((List.range m).map fun n : Nat => V.int n).length = m := by simp
      have hfew := hS.few
      have h3 := hS.three
      obtain ⟨sv, hsv, hsp⟩ := id hS.sym
      have hsl := pr_len hsp
      refine ⟨.ref t, rfl, .ref sy, rfl, sy, sv, rfl, .inl (SqL.of hsv), .ref va, rfl, va, _, rfl, .inl (SqL.of hS.var), _, _, rfl, rfl, t, l, ps.length + m, ?_, by omega, by omega, hS.tape, fun H1 c k1 hT1 hc => ?_⟩
      · rw [hvl, hsl]
        have e : ((ps.length : Nat) : Int) + ((m : Nat) : Int) = ((ps.length + m : Nat) : Int) := by omega
        show [V.ref t, V.int (((ps.length : Nat) : Int) + ((m : Nat) : Int))] = _
        rw [e]
      have hS1 := hS.kp k1 hT1
      refine ⟨.int c, rfl, .ref va, rfl, va, _, rfl, .inl (SqL.of hS1.var), _, _, rfl, rfl, _, rfl, ?_⟩
      rw [hvl]
      refine ite2 (fun hlt => ?_) (fun hge => ?_)
      · have hlt' : c < m := by have := of_decide_eq_true hlt; omega
        refine ⟨.ref va, rfl, .int c, rfl, va, _, _, .int c, rfl, rfl, SqL.of hS1.var, atI_nat (by simp [hlt']), q H1 (.int c) (.v c) k1 hT1 (.ofVar c) ?_ ?_ ?_⟩
        · rw [Wf]; exact hlt'
        · rw [size]; omega
        · rw [dep]; omega
      · have hge' : m ≤ c := by
          have := hge
          rw [decide_eq_true_eq] at this
          omega
        obtain ⟨sv1, hsv1, hsp1⟩ := id hS1.sym
        have hcl : c - m < ps.length := by omega
        have hx : ps[c - m]? = some ps[c - m] := List.getElem?_eq_getElem hcl
        obtain ⟨sa, hsa, ⟨a5, rfl, h5⟩⟩ := pr_get' hsp1 hx
        have gq := hS.good _ (List.getElem_mem hcl)
        generalize ps[c - m] = qq at h5 gq
        have e5 : (c : Int) - (m : Int) = ((c - m : Nat) : Int) := by omega
        refine ⟨.ref sy, rfl, .int c, rfl, .ref va, rfl, va, _, rfl, .inl (SqL.of hS1.var), _, _, rfl, rfl, sy, sv1, _, .ref a5, rfl, rfl, SqL.of hsv1, by rw [hvl, e5]; exact atI_nat hsa, ?_⟩
        refine ⟨.int d, rfl, _, _, rfl, rfl, _, rfl, ite2 (fun hd => ?_) (fun hd => ?_)⟩
        · refine ⟨.ref a5, rfl, a5, _, 0, .str qq.1, rfl, rfl, h5, atI_nat (j := 0) rfl, line_1 (by show 1 ≤ 100000; omega), fun b nb => ?_⟩
          refine q _ _ (.a qq.1 []) (k1.trans (.new nb)) (hT1.same (same_new nb)) (.mk (SqT.of upd_same) .nil) ?_ ?_ ?_
          · rw [Wf]; exact ⟨gq.1.1, by rw [Wfs]; trivial⟩
          · rw [size, sizes]; omega
          · rw [dep, deps]; omega
        · have hdd : d = 2 := by
            rw [decide_eq_true_eq] at hd
            omega
          refine ⟨.ref a5, rfl, a5, _, 0, .str qq.1, rfl, rfl, h5, atI_nat (j := 0) rfl, line_1 (by show 1 ≤ 100000; omega), fun b nb => ?_⟩
          have s2 : Same H1 (upd H1 b (.tup [.str qq.1])) := same_new nb
          have k2 : Kp [t] H (upd H1 b (.tup [.str qq.1])) := k1.trans (.of s2)
          have e2 : ((qq.2 : Nat) : Int).toNat = qq.2 := by omega
          refine ⟨.ref a5, rfl, a5, _, 1, .int qq.2, rfl, rfl, (Kp.of (M := []) s2).sqt h5, atI_nat (j := 1) rfl, qq.2, rfl, by omega, by have := gq.2; omega, fun D nD => ?_⟩
          rw [e2]
          have hDt : D ∉ [t] := by simp only [List.mem_singleton]; exact fun e => ((hT1.same s2).ne nD).1 e.symm
          have nD0 : ∀ {H' : Hp}, Kp [t] (upd H1 b (.tup [.str qq.1])) H' → Kp [t] (upd H1 b (.tup [.str qq.1])) (upd H' D (.lst [])) := fun k => k.put_new nD
          refine lc_range (n := qq.2) (fun i H' => Kp [t] (upd H1 b (.tup [.str qq.1])) H' ∧ TapeAt H' t l ∧ ∃ ws as, H' D = some (.lst ws) ∧ Tms K H' ws as ∧ as.length = i ∧ ∀ τ ∈ as, Wf m τ ∧ size τ ≤ 1 ∧ dep τ ≤ 1)
            ⟨.new nD, (hT1.same s2).same (same_new nD), [], [], upd_same, .nil, rfl, fun _ z => by cases z⟩ ?_ ?_
          · rintro i H2 hi ⟨k3, hT2, ws, as, hD, hw, hl, ha⟩
            have hS2 := (hS1.same s2).kp k3 hT2
            refine ⟨rfl, .ref t, rfl, .ref sy, rfl, .ref va, rfl, .int d, rfl, _, _, rfl, rfl, t, l, sy, va, 1, m, ps, ?_, by omega, by omega, by omega, hS2, fun H3 u τ k4 hT3 hu g1 g2 g3 => ?_⟩
            · rw [hdd]; rfl
            · have hD3 := k4.all _ _ hDt hD
              have hwl := pr_len hw
              refine ⟨ws, hD3, line_0 (by have := gq.2; omega), (k3.trans k4).put_new nD, hT3.upd ((hT1.same s2).ne nD).1 ((hT1.same s2).ne nD).2, ws ++ [u], as ++ [τ], upd_same, ?_, by simp; omega, fun σ hσ => ?_⟩
              · have k6 : Kp [D] H3 (upd H3 D (.lst (ws ++ [u]))) := .put (by simp) hD3 True.intro
                exact pr_snoc (Tms.kp k6 _ (Tms.kp k4 _ hw)) (Tm.kp k6 _ hu)
              · rcases List.mem_append.mp hσ with z | z
                · exact ha σ z
                · rw [List.mem_singleton.mp z]; exact ⟨g1, by omega, g3⟩
          · rintro H2 ⟨k3, hT2, ws, as, hD, hw, hl, ha⟩
            have hwl := pr_len hw
            refine ⟨D, ws, rfl, .inl ⟨SqL.of hD, fun r nr => ?_⟩⟩
            have k4 : Kp [t] H2 (upd H2 r (.tup ws)) := .new nr
            refine cat1 (k4.sqt (k3.sqt (SqT.of upd_same))) (SqT.of upd_same) (by have := gq.2; omega) fun H4 r4 s4 h4 => ?_
            refine q H4 (.ref r4) (.a qq.1 as) (((k2.trans k3).trans k4).trans (.of s4)) ((hT2.same (same_new nr)).same s4) (.mk h4 (Tms.kp (.of (M := []) s4) _ (Tms.kp k4 _ hw))) ?_ ?_ ?_
            · rw [Wf]; exact ⟨gq.1.1, wfs_iff.mpr fun τ hτ => (ha τ hτ).1⟩
            · have := sizes_le (b := 1) fun τ hτ => (ha τ hτ).2.1
              have := gq.2
              rw [size]; omega
            · have := deps_le (b := 1) fun τ hτ => (ha τ hτ).2.2
              rw [dep]; omega
/-! ### _law_atom -/
abbrev P32 : List Str := ["_law_tape_here", "_law_relations_here", "_law_symbols_here", "_law_variables_here", "_law_depth"]
abbrev N32 : List Str := ["_law_tape_here", "_law_relations_here", "_law_symbols_here", "_law_variables_here", "_law_depth", "_law_relation", "_law_k"]
theorem sc32 : FnScope N32 P32 (defScope (topS 32)) := ⟨rfl, rfl, rfl, by decide +kernel, rfl, by decide +kernel, by decide +kernel⟩
/-- relations: names and numbers of places -/
structure Rels (K : PySem.W.Frag) (H : Hp) (re : Addr) (qs : List (Str × Nat)) : Prop where
  rel : PrL K H re qs
  ne : qs ≠ []
  few : qs.length ≤ 10
  good : ∀ q ∈ qs, Wd q.1 ∧ q.2 ≤ 4
theorem Rels.kp {H H' : Hp} {t l re : Addr} {qs : List (Str × Nat)} (h : Rels K H re qs) (hT : TapeAt H t l) (k : Kp [t] H H') : Rels K H' re qs := ⟨h.rel.kp k (by simpa using tape_prl hT h.rel), h.ne, h.few, h.good⟩
def spAtom (K : PySem.W.Frag) : Sp := fun vs H Q _ => ∃ (t l re sy va : Addr) (d m : Nat) (qs ps : List (Str × Nat)), vs = [.ref t, .ref re, .ref sy, .ref va, .int d] ∧ 1 ≤ d ∧ d ≤ 2 ∧ Src K H t l sy va m ps ∧ Rels K H re qs ∧
  ∀ H' v g as, Kp [t] H H' → TapeAt H' t l → Tm K H' v (.a g as) → (g, as.length) ∈ qs → Wf m (.a g as) → size (.a g as) ≤ 17 → dep (.a g as) ≤ 3 → Q v H'
theorem ok_atom {f fD fT : Addr} {fd fdD fdT : FuncData} {k : Nat} (F : FnP K "_law_atom" 32 f fd) (FD : FnP K "_law_draw" 21 fD fdD) (GD : FnOk P w K mg base CX0 k fD fdD ["_law_tape_here", "_law_many"] spDraw) (gD : mg "_law_draw" = some (.ref fD))
    (FT : FnP K "_law_term" 24 fT fdT) (GT : FnOk P w K mg base CX0 k fT fdT P24 (spTerm K 2)) (gT : mg "_law_term" = some (.ref fT))
    (mn : mg "len" = none) (mu : mg "tuple" = none) (mr : mg "range" = none) : FnOk P w K mg base CX0 (k + 1) f fd P32 (spAtom K) := by
  have bD : Binds K fdD ["_law_tape_here", "_law_many"] [] := FD.bindsN fun _ _ _ _ _ _ us hl => match us, hl with | [_, _], _ => rfl
  have bT : Binds K fdT P24 [] := FT.bindsN fun _ _ _ _ _ _ us hl => match us, hl with | [_, _, _, _], _ => rfl
  refine F.go sc32 (fun vs H Q E h => ?_) (fun cdv A outer s H vs Q E hr h => ?_)
  · obtain ⟨t, l, re, sy, va, d, m, qs, ps, rfl, _⟩ := h
    rfl
  · obtain ⟨t, l, re, sy, va, d, m, qs, ps, rfl, hd1, hd2, hS, hR, q⟩ := h
    refine ⟨_, PSs.nox (pss_cons (ps_set (i := 5) sc32.nd rfl (.inl rfl) (pe_ix ix_list (pv 1) (pe_call GD hr rfl gD FD.kp bD .nil pass0 (pa_cons (pv 0) (pa_cons (pe_callB call_len_seq (by rfl) mn PySem.boot_len (pa_cons (pv 1) pa_nil)) pa_nil))) (fun _ _ => rfl)))
      (pss_one (ps_ret (pe_op op_catA (pe_tup (pa_cons (pe_ix ix_tup (pv 5) pe_int (fun _ _ => rfl)) pa_nil))
          (pe_callTy call_tuple_of (by rfl) mu (by decide +kernel) (pa_cons (pe_lc (own := [("_law_k", 6)]) (g := gName 6) (tt := tYes) rfl sc32.nd (pi_range1 rfl mr (pa_cons (pe_ix ix_tup (pv 5) pe_int (fun _ _ => rfl)) pa_nil))
            (blkOk_by (N := N32) (sc := defScope (topS 32)) (by decide +kernel)) (fun _ _ _ _ _ => pg_name (i := 6) sc32.nd rfl (.inl rfl)) (fun _ _ _ _ _ => pts_nil)
            (fun _ _ _ _ _ => pe_call GT hr rfl gT FT.kp bT .nil pass0 (pa_cons (pv 0) (pa_cons (pv 2) (pa_cons (pv 3) (pa_cons (pv 4) pa_nil)))))) pa_nil)))))), ?_⟩
    have hpos : 1 ≤ qs.length := by
      cases qs with
      | nil => exact absurd rfl hR.ne
      | cons _ _ => simp
    have hfew := hR.few
    obtain ⟨rv, hrv, hrp⟩ := id hR.rel
    have hrl := pr_len hrp
    refine ⟨.ref re, rfl, .ref t, rfl, .ref re, rfl, re, rv, rfl, .inl (SqL.of hrv), t, l, qs.length, by rw [hrl]; rfl, by omega, by omega, hS.tape, fun H1 c k1 hT1 hc => ?_⟩
    have hS1 := hS.kp k1 hT1
    obtain ⟨rv1, hrv1, hrp1⟩ := (hR.kp hS.tape k1).rel
    have hx : qs[c]? = some qs[c] := List.getElem?_eq_getElem hc
    obtain ⟨sa, hsa, ⟨a5, rfl, h5⟩⟩ := pr_get' hrp1 hx
    have hmem := List.getElem_mem hc
    have gq := hR.good _ hmem
    generalize qs[c] = qq at h5 gq hmem
    refine ⟨re, rv1, _, .ref a5, rfl, rfl, SqL.of hrv1, atI_nat hsa, ?_⟩
    refine ⟨.ref a5, rfl, a5, _, 0, .str qq.1, rfl, rfl, h5, atI_nat (j := 0) rfl, line_1 (by show 1 ≤ 100000; omega), fun b nb => ?_⟩
    have s2 : Same H1 (upd H1 b (.tup [.str qq.1])) := same_new nb
    have k2 : Kp [t] H (upd H1 b (.tup [.str qq.1])) := k1.trans (.of s2)
    have e2 : ((qq.2 : Nat) : Int).toNat = qq.2 := by omega
    refine ⟨.ref a5, rfl, a5, _, 1, .int qq.2, rfl, rfl, (Kp.of (M := []) s2).sqt h5, atI_nat (j := 1) rfl, qq.2, rfl, by omega, by have := gq.2; omega, fun D nD => ?_⟩
    rw [e2]
    have hDt : D ∉ [t] := by simp only [List.mem_singleton]; exact fun e => ((hT1.same s2).ne nD).1 e.symm
    refine lc_range (n := qq.2) (fun i H' => Kp [t] (upd H1 b (.tup [.str qq.1])) H' ∧ TapeAt H' t l ∧ ∃ ws as, H' D = some (.lst ws) ∧ Tms K H' ws as ∧ as.length = i ∧ ∀ τ ∈ as, Wf m τ ∧ size τ ≤ 4 ∧ dep τ ≤ 2)
      ⟨.new nD, (hT1.same s2).same (same_new nD), [], [], upd_same, .nil, rfl, fun _ z => by cases z⟩ ?_ ?_
    · rintro i H2 hi ⟨k3, hT2, ws, as, hD, hw, hl, ha⟩
      have hS2 := (hS1.same s2).kp k3 hT2
      refine ⟨rfl, .ref t, rfl, .ref sy, rfl, .ref va, rfl, .int d, rfl, t, l, sy, va, d, m, ps, rfl, hd1, hd2, hd2, hS2, fun H3 u τ k4 hT3 hu g1 g2 g3 => ?_⟩
      have hD3 := k4.all _ _ hDt hD
      have hwl := pr_len hw
      refine ⟨ws, hD3, line_0 (by have := gq.2; omega), (k3.trans k4).put_new nD, hT3.upd ((hT1.same s2).ne nD).1 ((hT1.same s2).ne nD).2, ws ++ [u], as ++ [τ], upd_same, ?_, by simp; omega, fun σ hσ => ?_⟩
      · have k6 : Kp [D] H3 (upd H3 D (.lst (ws ++ [u]))) := .put (by simp) hD3 True.intro
        exact pr_snoc (Tms.kp k6 _ (Tms.kp k4 _ hw)) (Tm.kp k6 _ hu)
      · rcases List.mem_append.mp hσ with z | z
        · exact ha σ z
        · rw [List.mem_singleton.mp z]; exact ⟨g1, by omega, by omega⟩
    · rintro H2 ⟨k3, hT2, ws, as, hD, hw, hl, ha⟩
      have hwl := pr_len hw
      refine ⟨D, ws, rfl, .inl ⟨SqL.of hD, fun r nr => ?_⟩⟩
      have k4 : Kp [t] H2 (upd H2 r (.tup ws)) := .new nr
      refine cat1 (k4.sqt (k3.sqt (SqT.of upd_same))) (SqT.of upd_same) (by have := gq.2; omega) fun H4 r4 s4 h4 => ?_
      refine q H4 (.ref r4) qq.1 as (((k2.trans k3).trans k4).trans (.of s4)) ((hT2.same (same_new nr)).same s4) (.mk h4 (Tms.kp (.of (M := []) s4) _ (Tms.kp k4 _ hw))) (by rw [hl]; exact hmem) ?_ ?_ ?_
      · rw [Wf]; exact ⟨gq.1.1, wfs_iff.mpr fun τ hτ => (ha τ hτ).1⟩
      · have := sizes_le (b := 4) fun τ hτ => (ha τ hτ).2.1
        have := gq.2
        rw [size]; omega
      · have := deps_le (b := 2) fun τ hτ => (ha τ hτ).2.2
        rw [dep]; omega
end
end K23

set_option Elab.async false
set_option linter.all false
set_option maxRecDepth 100000
set_option maxHeartbeats 4000000
/-! The law's own replacing, collecting, numbering, sizes. -/
namespace K23
open PySem PySem.Spec PyProof.Rows L2
theorem inV_nat (n : Nat) : ∀ ns : List Nat, inV (.int n) (ns.map fun n : Nat => V.int n) = decide (n ∈ ns)
  | [] => by simp [inV]
  | m :: ns => by
    have h := inV_nat n ns
    unfold inV at h ⊢
    rw [List.map_cons, List.any_cons, h]
    show (((m : Int) == (n : Int)) || _) = _
    by_cases e : m = n
    · simp [e]
    · have e2 : ¬ ((m : Int) = (n : Int)) := by omega
      have e3 : ¬ n = m := fun z => e z.symm
      simp [e2, e3]
theorem flat_nats (ns : List Nat) : (ns.map fun n : Nat => V.int n).all flatV = true := by
  rw [List.all_eq_true]
  intro v hv
  obtain ⟨n, _, rfl⟩ := List.mem_map.mp hv
  rfl
section
variable {P : Program} {w : World} {K : PySem.W.Frag} {mg : Str → Option Value} {base : Heap}
/-! ### _law_replaced -/
theorem sc25 : FnScope ["_law_term_here", "_law_table_here", "_law_part"] ["_law_term_here", "_law_table_here"] (defScope (topS 25)) := ⟨rfl, rfl, rfl, by decide +kernel, rfl, by decide +kernel, by decide +kernel⟩
theorem ok_repL {f : Addr} {fd : FuncData} (F : FnP K "_law_replaced" 25 f fd) (gF : mg "_law_replaced" = some (.ref f)) (mi : mg "isinstance" = none) (mt : mg "int" = none) (mu : mg "tuple" = none) :
    ∀ n, FnOk P w K mg base CX0 n f fd ["_law_term_here", "_law_table_here"] (spRep K n)
  | 0 => ok_no.imp fun vs H Q E h => by
    obtain ⟨v, d, t, m, _, _, h, _⟩ := h
    have := dep_pos t
    omega
  | n + 1 => by
    have G := ok_repL F gF mi mt mu n
    have b : Binds K fd ["_law_term_here", "_law_table_here"] [] := F.bindsN fun _ _ _ _ _ _ us hl => match us, hl with | [_, _], _ => rfl
    refine F.go sc25 (fun vs H Q E h => ?_) (fun cdv A outer s H vs Q E hr h => ?_)
    · obtain ⟨v, d, t, m, rfl, _⟩ := h
      rfl
    · obtain ⟨v, d, t, m, rfl, hv, hd, hz, hT, q⟩ := h
      refine ⟨_, PSs.nox (pss_cons (ps_if (pt_val (pe_callB call_isi (by rfl) mi (by decide +kernel) (pa_cons (pv 0) (pa_cons (pe_bltn (v := .ty "int") (by rfl) mt boot_int rfl) pa_nil))))
          (pss_cons (ps_if (pt_cmp (pc_din (hu_of hr) (pv 0) (pv 1)) rfl) (pss_one (ps_ret (pe_dget (hu_of hr) (pv 1) (pv 0) (fun _ _ => rfl)))) pss_nil)
          (pss_one (ps_ret (pv 0)))) pss_nil)
        (pss_one (ps_ret (pe_op op_catA (pe_tup (pa_cons (pe_ix ix_tup (pv 0) pe_int (fun _ _ => rfl)) pa_nil))
          (pe_callTy call_tuple_of (by rfl) mu (by decide +kernel) (pa_cons (pe_lc (own := [("_law_part", 2)]) (g := gName 2) (tt := tYes) rfl sc25.nd (pi_tup (pe_slice sl_tupA (pv 0) (po_some pe_int) po_none))
            (blkOk_by (N := ["_law_term_here", "_law_table_here", "_law_part"]) (sc := defScope (topS 25)) (by decide +kernel)) (fun _ _ _ _ _ => pg_name (i := 2) sc25.nd rfl (.inl rfl)) (fun _ _ _ _ _ => pts_nil)
            (fun _ _ _ _ _ => pe_call G hr rfl gF F.kp b .nil pass0 (pa_cons (pv 2) (pa_cons (pv 1) pa_nil)))) pa_nil)))))), ?_⟩
      cases t with
      | v i =>
        have e := hv.var
        subst e
        refine ⟨_, rfl, _, _, .type "int", _, true, rfl, .ty "int", tyx_int _, kit_ty (by decide +kernel), true, rfl, iteT ?_⟩
        obtain ⟨kvs, hD, hc⟩ := hT
        refine ⟨_, rfl, .ref d, rfl, d, _, rfl, DGet.k (k := .inl (i : Int)) hD, _, rfl, ?_⟩
        rcases hc i with ⟨c1, c2⟩ | ⟨t, u, c1, c2, c3⟩
        · rw [c2]
          refine iteF ⟨_, rfl, q _ _ (.refl _) ?_⟩
          rw [ren, c1]
          exact .ofVar i
        · rw [c2]
          refine iteT ⟨.ref d, rfl, _, rfl, d, u, rfl, .inl ⟨kvs, .inl (i : Int), .inl hD, rfl, c2.symm⟩, q _ _ (.refl _) ?_⟩
          rw [ren, c1]
          exact c3
      | a g as =>
        obtain ⟨a, xs, rfl, hs, ha⟩ := hv.app
        rw [size] at hz
        rw [dep] at hd
        have hlen := len_sizes as
        have hlx := pr_len ha
        refine ⟨_, rfl, _, _, .type "tuple", _, false, rfl, .ty "int", tyx_tup hs, kit_ty (by decide +kernel), false, rfl, iteF ?_⟩
        refine ⟨_, rfl, a, _, 0, .str g, rfl, rfl, hs, atI_nat (j := 0) rfl, line_1 (by show 1 ≤ 100000; omega), fun c nc => ?_⟩
        have s1 : Same H (upd H c (.tup [.str g])) := same_new nc
        refine ⟨_, rfl, 1, rfl, a, _, rfl, (Kp.of (M := []) s1).sqt hs, fun z => absurd z (whole1 _ _), fun _ p np => ?_⟩
        rw [cut1]
        have s2 : Same H (upd (upd H c (.tup [.str g])) p (.tup xs)) := s1.trans (same_new np)
        refine ⟨p, rfl, ⟨_, SqT.of upd_same⟩, fun D nD => lc_tup (xs := xs) (fun i H' => Same (upd (upd H c (.tup [.str g])) p (.tup xs)) H' ∧ ∃ ws, H' D = some (.lst ws) ∧ Tms K H' ws ((as.take i).map (ren m)))
          ⟨same_new nD, [], upd_same, .nil⟩ ?_ ?_ ?_⟩
        · rintro i H' hi ⟨s3, _⟩
          exact .inl (.inl (s3 _ _ upd_same))
        · rintro i x H' hx ⟨s3, ws, hD, hw⟩
          obtain ⟨t, ht, hm⟩ := pr_get ha hx
          have hmem := List.mem_of_getElem? ht
          have hdt := deps_mem hmem
          have hst := sizes_mem hmem
          have s4 := s2.trans s3
          refine ⟨rfl, x, rfl, .ref d, rfl, x, d, t, m, rfl, hm.kp (.of (M := []) s4), by omega, by omega, hT.kp (.of (M := []) s4) (by simp), fun H4 u s5 hu => ?_⟩
          refine ⟨ws, s5 _ _ hD, ?_, ?_⟩
          · have := pr_len hw
            rw [List.length_map, List.length_take] at this
            exact line_0 (by omega)
          · have k6 : Kp [D] H4 (upd H4 D (.lst (ws ++ [u]))) := .put (by simp) (s5 _ _ hD) True.intro
            refine ⟨same_put (s3.trans s5) nD, ws ++ [u], upd_same, ?_⟩
            rw [take_snoc ht, List.map_append]
            exact pr_snoc (Tms.kp k6 _ (Tms.kp (.of (M := []) s5) _ hw)) (Tm.kp k6 _ hu)
        · rintro H' ⟨s3, ws, hD, hw⟩
          rw [hlx, List.take_length] at hw
          have hwl := pr_len hw
          rw [List.length_map] at hwl
          refine ⟨D, ws, rfl, .inl ⟨SqL.of hD, fun l nl => ?_⟩⟩
          have k4 : Kp [] H' (upd H' l (.tup ws)) := .new nl
          refine cat1 (k4.sqt ((Kp.of (M := []) ((same_new np).trans s3)).sqt (SqT.of upd_same))) (SqT.of upd_same) (by omega) fun H4 r4 s4 h4 => ?_
          refine q H4 (.ref r4) (((s2.trans s3).trans k4.same).trans s4) ?_
          rw [ren, rens_map]
          exact .mk h4 (Tms.kp (.of (M := []) s4) _ (Tms.kp k4 _ hw))
/-! ### _law_size -/
theorem sc29 : FnScope ["_law_term_here", "_law_part"] ["_law_term_here"] (defScope (topS 29)) := ⟨rfl, rfl, rfl, by decide +kernel, rfl, by decide +kernel, by decide +kernel⟩
def spSize (K : PySem.W.Frag) (n : Nat) : Sp := fun vs H Q _ => ∃ (v : V) (t : T), vs = [v] ∧ Tm K H v t ∧ dep t ≤ n ∧ size t ≤ 1000 ∧ ∀ H', Same H H' → Q (.int (size t)) H'
theorem ints_sum : ∀ ts : List T, ((ts.map fun t => ((size t : Nat) : Int))).sum = ((sizes ts : Nat) : Int)
  | [] => rfl
  | t :: ts => by rw [List.map_cons, List.sum_cons, ints_sum ts, sizes]; omega
theorem ok_size {f : Addr} {fd : FuncData} (F : FnP K "_law_size" 29 f fd) (gF : mg "_law_size" = some (.ref f)) (mi : mg "isinstance" = none) (mt : mg "int" = none) (ms : mg "sum" = none) :
    ∀ n, FnOk P w K mg base CX0 n f fd ["_law_term_here"] (spSize K n)
  | 0 => ok_no.imp fun vs H Q E h => by
    obtain ⟨v, t, _, _, h, _⟩ := h
    have := dep_pos t
    omega
  | n + 1 => by
    have G := ok_size F gF mi mt ms n
    have b : Binds K fd ["_law_term_here"] [] := F.bindsN fun _ _ _ _ _ _ us hl => match us, hl with | [_], _ => rfl
    refine F.go sc29 (fun vs H Q E h => ?_) (fun cdv A outer s H vs Q E hr h => ?_)
    · obtain ⟨v, t, rfl, _⟩ := h
      rfl
    · obtain ⟨v, t, rfl, hv, hd, hz, q⟩ := h
      refine ⟨_, PSs.nox (pss_cons (ps_if (pt_val (pe_callB call_isi (by rfl) mi (by decide +kernel) (pa_cons (pv 0) (pa_cons (pe_bltn (v := .ty "int") (by rfl) mt boot_int rfl) pa_nil))))
          (pss_one (ps_ret pe_int)) pss_nil)
        (pss_one (ps_ret (pe_op op_add pe_int (pe_callB (cr_sum rfl) (by rfl) ms (by decide +kernel) (pa_cons (pe_lc (own := [("_law_part", 1)]) (g := gName 1) (tt := tYes) rfl sc29.nd (pi_tup (pe_slice sl_tupA (pv 0) (po_some pe_int) po_none))
            (blkOk_by (N := ["_law_term_here", "_law_part"]) (sc := defScope (topS 29)) (by decide +kernel)) (fun _ _ _ _ _ => pg_name (i := 1) sc29.nd rfl (.inl rfl)) (fun _ _ _ _ _ => pts_nil)
            (fun _ _ _ _ _ => pe_call G hr rfl gF F.kp b .nil pass0 (pa_cons (pv 1) pa_nil))) pa_nil)))))), ?_⟩
      cases t with
      | v i =>
        have e := hv.var
        subst e
        exact ⟨_, rfl, _, _, .type "int", _, true, rfl, .ty "int", tyx_int _, kit_ty (by decide +kernel), true, rfl, iteT (q _ (.refl _))⟩
      | a g as =>
        obtain ⟨a, xs, rfl, hs, ha⟩ := hv.app
        rw [size] at hz
        rw [dep] at hd
        have hlen := len_sizes as
        have hlx := pr_len ha
        refine ⟨_, rfl, _, _, .type "tuple", _, false, rfl, .ty "int", tyx_tup hs, kit_ty (by decide +kernel), false, rfl, iteF ?_⟩
        refine ⟨_, rfl, 1, rfl, a, _, rfl, hs, fun z => absurd z (whole1 _ _), fun _ p np => ?_⟩
        rw [cut1]
        have s2 : Same H (upd H p (.tup xs)) := same_new np
        refine ⟨p, rfl, ⟨_, SqT.of upd_same⟩, fun D nD => lc_tup (xs := xs) (fun i H' => Same (upd H p (.tup xs)) H' ∧ H' D = some (.lst (((as.take i).map fun t => ((size t : Nat) : Int)).map V.int)))
          ⟨same_new nD, upd_same⟩ ?_ ?_ ?_⟩
        · rintro i H' hi ⟨s3, _⟩
          exact .inl (.inl (s3 _ _ upd_same))
        · rintro i x H' hx ⟨s3, hD⟩
          obtain ⟨t, ht, hm⟩ := pr_get ha hx
          have hmem := List.mem_of_getElem? ht
          have hdt := deps_mem hmem
          have hst := sizes_mem hmem
          refine ⟨rfl, x, rfl, x, t, rfl, hm.kp (.of (M := []) (s2.trans s3)), by omega, by omega, fun H4 s5 => ?_⟩
          refine ⟨_, s5 _ _ hD, ?_, same_put (s3.trans s5) nD, ?_⟩
          · rw [List.length_map, List.length_map, List.length_take]
            exact line_0 (by omega)
          · rw [upd_same, take_snoc ht, List.map_append, List.map_append]
            rfl
        · rintro H' ⟨s3, hD⟩
          rw [hlx, List.take_length] at hD
          refine ⟨D, _, rfl, SqL.of hD, _, _, rfl, rfl, ?_⟩
          have := q H' (s2.trans s3)
          rw [size] at this
          rw [ints_sum]
          have e : (1 : Int) + ((sizes as : Nat) : Int) = ((1 + sizes as : Nat) : Int) := by omega
          show Q (.int (1 + ((sizes as : Nat) : Int))) H'
          rw [e]
          exact this
/-! ### _law_collect -/
theorem sc26 : FnScope ["_law_term_here", "_law_found", "_law_part"] ["_law_term_here", "_law_found"] (defScope (topS 26)) := ⟨rfl, rfl, rfl, by decide +kernel, rfl, by decide +kernel, by decide +kernel⟩
abbrev natL (ns : List Nat) : HO := .lst (ns.map fun n : Nat => V.int n)
def spColl (K : PySem.W.Frag) (n : Nat) : Sp := fun vs H Q _ => ∃ (v : V) (d : Addr) (t : T) (ns : List Nat), vs = [v, .ref d] ∧ Tm K H v t ∧ dep t ≤ n ∧ ns.length + size t ≤ 1000 ∧ H d = some (natL ns) ∧
  ∀ H', Kp [d] H H' → H' d = some (natL (vars ns t)) → Q .non H'
theorem ok_coll {f : Addr} {fd : FuncData} (F : FnP K "_law_collect" 26 f fd) (gF : mg "_law_collect" = some (.ref f)) (mi : mg "isinstance" = none) (mt : mg "int" = none) :
    ∀ n, FnOk P w K mg base CX0 n f fd ["_law_term_here", "_law_found"] (spColl K n)
  | 0 => ok_no.imp fun vs H Q E h => by
    obtain ⟨v, d, t, ns, _, _, h, _⟩ := h
    have := dep_pos t
    omega
  | n + 1 => by
    have G := ok_coll F gF mi mt n
    have b : Binds K fd ["_law_term_here", "_law_found"] [] := F.bindsN fun _ _ _ _ _ _ us hl => match us, hl with | [_, _], _ => rfl
    refine F.go sc26 (fun vs H Q E h => ?_) (fun cdv A outer s H vs Q E hr h => ?_)
    · obtain ⟨v, d, t, ns, rfl, _⟩ := h
      rfl
    · obtain ⟨v, d, t, ns, rfl, hv, hd, hz, hD, q⟩ := h
      refine ⟨_, PSs.nox (pss_one (ps_if (pt_val (pe_callB call_isi (by rfl) mi (by decide +kernel) (pa_cons (pv 0) (pa_cons (pe_bltn (v := .ty "int") (by rfl) mt boot_int rfl) pa_nil))))
        (pss_one (ps_if (pt_cmpR op_notIn_seq (pv 0) (pv 1) rfl) (pss_one (ps_expr (pe_bm PySem.F.plainAttrs_list PySem.F.slot_list_append PySem.F.type_list_append mt_append (pv 1) (pa_cons (pv 0) pa_nil)))) pss_nil))
        (pss_one (ps_for PassesOwn.never rfl (pi_tup (pe_slice sl_tupA (pv 0) (po_some pe_int) po_none)) (pg_name (i := 2) sc26.nd rfl (.inl rfl))
          (pss_one (ps_expr (pe_call G hr rfl gF F.kp b .nil pass0 (pa_cons (pv 2) (pa_cons (pv 1) pa_nil))))))))), ?_⟩
      cases t with
      | v m =>
        have e := hv.var
        subst e
        refine ⟨_, rfl, _, _, .type "int", _, true, rfl, .ty "int", tyx_int _, kit_ty (by decide +kernel), true, rfl, iteT ?_⟩
        refine ⟨_, rfl, .ref d, rfl, d, _, rfl, .inl (SqL.of hD), rfl, flat_nats ns, _, rfl, ?_⟩
        rw [inV_nat]
        by_cases hm : m ∈ ns
        · rw [decide_eq_true hm]
          refine iteF (q _ (.refl _ _) ?_)
          rw [vars, if_pos hm]
          exact hD
        · rw [decide_eq_false hm]
          refine iteT ⟨.ref d, rfl, .inl ⟨rfl, _, SqL.of hD⟩, _, rfl, d, _, _, rfl, rfl, hD, by rw [List.length_map]; exact line_0 (by omega), ?_⟩
          refine q _ (.put (by simp) hD True.intro) ?_
          rw [upd_same, vars, if_neg hm, natL, List.map_append]
          rfl
      | a g as =>
        obtain ⟨a, xs, rfl, hs, ha⟩ := hv.app
        rw [size] at hz
        rw [dep] at hd
        refine ⟨_, rfl, _, _, .type "tuple", _, false, rfl, .ty "int", tyx_tup hs, kit_ty (by decide +kernel), false, rfl, iteF ?_⟩
        refine ⟨_, rfl, 1, rfl, a, _, rfl, hs, fun z => absurd z (whole1 _ _), fun _ p np => ?_⟩
        rw [cut1]
        have k1 : Kp [d] H (upd H p (.tup xs)) := .new np
        refine ⟨p, rfl, ⟨_, SqT.of upd_same⟩, for_tup (xs := xs) (fun i σ H' => (∃ y, σ = [some (.ref a), some (.ref d), y]) ∧ Kp [d] (upd H p (.tup xs)) H' ∧ H' d = some (natL (varsL ns (as.take i))))
          ⟨⟨_, rfl⟩, .refl _ _, ?_⟩ ?_ ?_ ?_⟩
        · rw [upd_ne (ne_of_none hD np)]
          exact hD
        · rintro i σ H' hi ⟨_, k2, _⟩
          exact .inl (.inl (k2.tup _ _ upd_same))
        · rintro i x σ H' hx ⟨⟨y, rfl⟩, k2, hD2⟩
          obtain ⟨t, ht, hm⟩ := pr_get ha hx
          have hmem := List.mem_of_getElem? ht
          have hdt := deps_mem hmem
          have hst := sizes_at ht
          have hvl := varsL_len ns (as.take i)
          refine ⟨x, rfl, .ref d, rfl, x, d, t, varsL ns (as.take i), rfl, (hm.kp k1).kp k2, by omega, by omega, hD2, fun H3 k3 h3 => ?_⟩
          refine ⟨⟨_, rfl⟩, k2.trans k3, ?_⟩
          rw [h3, take_snoc ht, varsL_snoc]
        · rintro σ H' ⟨_, k2, hD2⟩
          rw [pr_len ha, List.take_length] at hD2
          refine q _ (k1.trans k2) ?_
          rw [hD2, vars]
/-! ### _law_variables -/
theorem sc27 : FnScope ["_law_terms", "_law_found", "_law_term_here"] ["_law_terms"] (defScope (topS 27)) := ⟨rfl, rfl, rfl, by decide +kernel, rfl, by decide +kernel, by decide +kernel⟩
def spVarsOf (K : PySem.W.Frag) (n : Nat) (tup : Bool) : Sp := fun vs H Q _ => ∃ (a : Addr) (xs : List V) (ts : List T), vs = [.ref a] ∧ (if tup = true then SqT K H a xs else SqL K H a xs) ∧ Tms K H xs ts ∧ deps ts ≤ n ∧ sizes ts ≤ 1000 ∧
  ∀ H' p, Same H H' → H p = none → H' p = some (natL (varsL [] ts)) → Q (.ref p) H'
theorem ok_varsT {f fN : Addr} {fd fdN : FuncData} {k : Nat} (F : FnP K "_law_variables" 27 f fd) (FN : FnP K "_law_collect" 26 fN fdN) (gN : mg "_law_collect" = some (.ref fN)) (mi : mg "isinstance" = none) (mt : mg "int" = none) : FnOk P w K mg base CX0 (k + 1) f fd ["_law_terms"] (spVarsOf K k true) := by
  have G := ok_coll (P := P) (w := w) (base := base) FN gN mi mt k
  have b : Binds K fdN ["_law_term_here", "_law_found"] [] := FN.bindsN fun _ _ _ _ _ _ us hl => match us, hl with | [_, _], _ => rfl
  refine F.go sc27 (fun vs H Q E h => ?_) (fun cdv A outer s H vs Q E hr h => ?_)
  · obtain ⟨a, xs, ts, rfl, _⟩ := h
    rfl
  · obtain ⟨a, xs, ts, rfl, hs, ht, hd, hz, q⟩ := h
    rw [if_pos rfl] at hs
    refine ⟨_, PSs.nox (pss_cons (ps_set (i := 1) sc27.nd rfl (.inl rfl) (pe_lst pa_nil))
      (pss_cons (ps_for PassesOwn.never rfl (pi_tup (pv 0)) (pg_name (i := 2) sc27.nd rfl (.inl rfl))
        (pss_one (ps_expr (pe_call G hr rfl gN FN.kp b .nil pass0 (pa_cons (pv 2) (pa_cons (pv 1) pa_nil))))))
      (pss_one (ps_ret (pv 1))))), ?_⟩
    refine ⟨line_1 (by show 0 ≤ 100000; omega), fun d nd => ⟨_, rfl, a, rfl, ⟨xs, (Kp.new (M := []) nd).sqt hs⟩, for_tup (xs := xs) (fun i σ H' => (∃ y, σ = [some (.ref a), some (.ref d), y]) ∧ Same H H' ∧ H' d = some (natL (varsL [] (ts.take i))))
      ⟨⟨_, rfl⟩, same_new nd, upd_same⟩ ?_ ?_ ?_⟩⟩
    · rintro i σ H' hi ⟨_, s2, _⟩
      exact (Kp.of (M := []) s2).sqt hs
    · rintro i x σ H' hx ⟨⟨y, rfl⟩, s2, hD⟩
      obtain ⟨t, htt, hm⟩ := pr_get ht hx
      have hmem := List.mem_of_getElem? htt
      have hdt := deps_mem hmem
      have hst := sizes_at htt
      have hvl := varsL_len [] (ts.take i)
      refine ⟨x, rfl, .ref d, rfl, x, d, t, _, rfl, hm.kp (.of (M := []) s2), by omega, by simp only [List.length_nil] at hvl; omega, hD, fun H3 k3 h3 => ?_⟩
      refine ⟨⟨_, rfl⟩, ((Kp.of s2).trans k3).drop nd |>.same, ?_⟩
      rw [h3, take_snoc htt, varsL_snoc]
    · rintro σ H' ⟨⟨y, rfl⟩, s2, hD⟩
      rw [pr_len ht, List.take_length] at hD
      exact ⟨_, rfl, q _ d s2 nd hD⟩
theorem ok_varsL {f fN : Addr} {fd fdN : FuncData} {k : Nat} (F : FnP K "_law_variables" 27 f fd) (FN : FnP K "_law_collect" 26 fN fdN) (gN : mg "_law_collect" = some (.ref fN)) (mi : mg "isinstance" = none) (mt : mg "int" = none) : FnOk P w K mg base CX0 (k + 1) f fd ["_law_terms"] (spVarsOf K k false) := by
  have G := ok_coll (P := P) (w := w) (base := base) FN gN mi mt k
  have b : Binds K fdN ["_law_term_here", "_law_found"] [] := FN.bindsN fun _ _ _ _ _ _ us hl => match us, hl with | [_, _], _ => rfl
  refine F.go sc27 (fun vs H Q E h => ?_) (fun cdv A outer s H vs Q E hr h => ?_)
  · obtain ⟨a, xs, ts, rfl, _⟩ := h
    rfl
  · obtain ⟨a, xs, ts, rfl, hs, ht, hd, hz, q⟩ := h
    rw [if_neg (by simp)] at hs
    refine ⟨_, PSs.nox (pss_cons (ps_set (i := 1) sc27.nd rfl (.inl rfl) (pe_lst pa_nil))
      (pss_cons (ps_for PassesOwn.never rfl (pi_list (pv 0)) (pg_name (i := 2) sc27.nd rfl (.inl rfl))
        (pss_one (ps_expr (pe_call G hr rfl gN FN.kp b .nil pass0 (pa_cons (pv 2) (pa_cons (pv 1) pa_nil))))))
      (pss_one (ps_ret (pv 1))))), ?_⟩
    refine ⟨line_1 (by show 0 ≤ 100000; omega), fun d nd => ⟨_, rfl, a, rfl, ⟨xs, (same_new nd).seq hs⟩, for_list (xs := xs) (fun i σ H' => (∃ y, σ = [some (.ref a), some (.ref d), y]) ∧ Same H H' ∧ H' d = some (natL (varsL [] (ts.take i))))
      ⟨⟨_, rfl⟩, same_new nd, upd_same⟩ (fun i σ H' _ hh => hh.2.1.seq hs) ?_ ?_⟩⟩
    · rintro i x σ H' hx ⟨⟨y, rfl⟩, s2, hD⟩
      obtain ⟨t, htt, hm⟩ := pr_get ht hx
      have hmem := List.mem_of_getElem? htt
      have hdt := deps_mem hmem
      have hst := sizes_at htt
      have hvl := varsL_len [] (ts.take i)
      refine ⟨x, rfl, .ref d, rfl, x, d, t, _, rfl, hm.kp (.of (M := []) s2), by omega, by simp only [List.length_nil] at hvl; omega, hD, fun H3 k3 h3 => ?_⟩
      refine ⟨⟨_, rfl⟩, ((Kp.of s2).trans k3).drop nd |>.same, ?_⟩
      rw [h3, take_snoc htt, varsL_snoc]
    · rintro σ H' ⟨⟨y, rfl⟩, s2, hD⟩
      rw [pr_len ht, List.take_length] at hD
      exact ⟨_, rfl, q _ d s2 nd hD⟩
end
end K23

set_option Elab.async false
set_option linter.all false
set_option maxRecDepth 100000
set_option maxHeartbeats 4000000
/-! Numbering; rules over symbols. -/
namespace K23
open PySem PySem.Spec PyProof.Rows L2
section
variable {P : Program} {w : World} {K : PySem.W.Frag} {mg : Str → Option Value} {base : Heap}
/-! ### _law_numbered -/
abbrev N28 : List Str := ["_law_terms", "_law_found", "_law_table_here", "_law_k", "_law_term_here"]
theorem sc28 : FnScope N28 ["_law_terms"] (defScope (topS 28)) := ⟨rfl, rfl, rfl, by decide +kernel, rfl, by decide +kernel, by decide +kernel⟩
def spNum (K : PySem.W.Frag) (n : Nat) : Sp := fun vs H Q _ => ∃ (a : Addr) (xs : List V) (ts : List T), vs = [.ref a] ∧ SqL K H a xs ∧ Tms K H xs ts ∧ deps ts ≤ n ∧ sizes ts ≤ 1000 ∧
  ∀ H' p ws, Same H H' → H p = none → H' p = some (.lst ws) → Tms K H' ws (ts.map (ren (num (varsL [] ts)))) → Q (.ref p) H'
theorem tab_num {H : Hp} {d : Addr} {kvs : List (Key × V)} {ns : List Nat} (hD : H d = some (.dK kvs)) (h : ∀ n : Nat, valV kvs (.inl (n : Int)) = if n ∈ ns then some (.int (ns.idxOf n : Nat)) else none) : TabAt K H d (num ns) := by
  refine ⟨kvs, hD, fun n => ?_⟩
  rw [h, num]
  by_cases e : n ∈ ns
  · rw [if_pos e, if_pos e]
    exact .inr ⟨_, _, rfl, rfl, .ofVar _⟩
  · rw [if_neg e, if_neg e]
    exact .inl ⟨rfl, rfl⟩
theorem ok_num {f fV fR : Addr} {fd fdV fdR : FuncData} {k n : Nat} (F : FnP K "_law_numbered" 28 f fd)
    (FV : FnP K "_law_variables" 27 fV fdV) (GV : FnOk P w K mg base CX0 k fV fdV ["_law_terms"] (spVarsOf K n false)) (gV : mg "_law_variables" = some (.ref fV))
    (FR : FnP K "_law_replaced" 25 fR fdR) (GR : FnOk P w K mg base CX0 k fR fdR ["_law_term_here", "_law_table_here"] (spRep K n)) (gR : mg "_law_replaced" = some (.ref fR))
    (mn : mg "len" = none) (mr : mg "range" = none) : FnOk P w K mg base CX0 (k + 1) f fd ["_law_terms"] (spNum K n) := by
  have bV : Binds K fdV ["_law_terms"] [] := FV.bindsN fun _ _ _ _ _ _ us hl => match us, hl with | [_], _ => rfl
  have bR : Binds K fdR ["_law_term_here", "_law_table_here"] [] := FR.bindsN fun _ _ _ _ _ _ us hl => match us, hl with | [_, _], _ => rfl
  refine F.go sc28 (fun vs H Q E h => ?_) (fun cdv A outer s H vs Q E hr h => ?_)
  · obtain ⟨a, xs, ts, rfl, _⟩ := h
    rfl
  · obtain ⟨a, xs, ts, rfl, hs, ht, hd, hz, q⟩ := h
    refine ⟨_, PSs.nox (pss_cons (ps_set (i := 1) sc28.nd rfl (.inl rfl) (pe_call GV hr rfl gV FV.kp bV .nil pass0 (pa_cons (pv 0) pa_nil)))
      (pss_cons (ps_set (i := 2) sc28.nd rfl (.inr rfl) pe_dnewK)
      (pss_cons (ps_for PassesOwn.never rfl (pi_range1 rfl mr (pa_cons (pe_callB call_len_seq (by rfl) mn PySem.boot_len (pa_cons (pv 1) pa_nil)) pa_nil)) (pg_name (i := 3) sc28.nd rfl (.inl rfl))
        (pss_one (ps_dput (hu_of hr) (pv 2) (pe_ix ix_list (pv 1) (pv 3) (fun _ _ => rfl)) (pv 3) rfl)))
      (pss_one (ps_ret (pe_lc (own := [("_law_term_here", 4)]) (g := gName 4) (tt := tYes) rfl sc28.nd (pi_list (pv 0))
            (blkOk_by (N := N28) (sc := defScope (topS 28)) (by decide +kernel)) (fun _ _ _ _ _ => pg_name (i := 4) sc28.nd rfl (.inl rfl)) (fun _ _ _ _ _ => pts_nil)
            (fun _ _ _ _ _ => pe_call GR hr rfl gR FR.kp bR .nil pass0 (pa_cons (pv 4) (pa_cons (pv 2) pa_nil))))))))), ?_⟩
    refine ⟨.ref a, rfl, a, xs, ts, rfl, by rw [if_neg (by simp)]; exact hs, ht, hd, hz, fun H1 p s1 np hp => ?_⟩
    have hnl := varsL_len [] ts
    have hnd := varsL_nd ts (acc := []) List.nodup_nil
    simp only [List.length_nil] at hnl
    generalize hns : varsL [] ts = ns at hp hnl hnd
    refine fun d nd => ⟨.ref p, rfl, p, _, rfl, .inl (SqL.of (same_new nd _ _ hp)), ns.length, by rw [List.length_map], by omega, by omega, ?_⟩
    have en : ((ns.length : Nat) : Int).toNat = ns.length := by omega
    rw [en]
    have nd0 : H d = none := s1.free nd
    refine for_range (n := ns.length) (fun i σ H' => (∃ y, σ = [some (.ref a), some (.ref p), some (.ref d), y, none]) ∧ Same H1 H' ∧ ∃ kvs, H' d = some (.dK kvs) ∧ kvs.length ≤ i ∧ ∀ n : Nat, valV kvs (.inl (n : Int)) = if n ∈ ns.take i then some (.int (ns.idxOf n : Nat)) else none)
      ⟨⟨_, rfl⟩, same_new nd, [], upd_same, Nat.le_refl _, fun n => by simp [valV_nil]⟩ ?_ ?_
    · rintro i σ H2 hi ⟨⟨y, rfl⟩, s2, kvs, hD, hk, hc⟩
      have hx : ns[i]? = some ns[i] := List.getElem?_eq_getElem hi
      have hidx := idx_at hnd hi
      refine ⟨.int _, rfl, .ref d, rfl, .ref p, rfl, .int _, rfl, p, _, _, .int (ns[i] : Nat), rfl, rfl, SqL.of (s2 _ _ hp), ?_, d, _, rfl, DPut.k (k := .inl ((ns[i] : Nat) : Int)) hD (line_0 (by omega)), ⟨_, rfl⟩, same_put s2 nd, _, upd_same, Nat.le_trans (length_putK _ _ _) (by omega), fun n => ?_⟩
      · rw [Int.zero_add]
        refine atI_nat ?_
        rw [List.getElem?_map, hx]
        rfl
      · rw [valV_put, Int.zero_add]
        by_cases e : n = ns[i]
        · have hmem : n ∈ ns.take (i + 1) := by rw [take_snoc hx, e]; exact List.mem_append_right _ (List.mem_singleton.mpr rfl)
          have h2 : ns.idxOf n = i := by rw [e]; exact hidx
          rw [if_pos (by rw [e]), if_pos hmem, h2]
        · rw [if_neg (fun z => e (by injection z with z; omega)), hc]
          have e2 : n ∈ ns.take (i + 1) ↔ n ∈ ns.take i := by rw [take_snoc hx, List.mem_append, List.mem_singleton]; exact ⟨fun z => z.resolve_right e, .inl⟩
          by_cases e3 : n ∈ ns.take i
          · rw [if_pos e3, if_pos (e2.mpr e3)]
          · rw [if_neg e3, if_neg fun z => e3 (e2.mp z)]
    · rintro σ H2 ⟨⟨y, rfl⟩, s2, kvs, hD, hk, hc⟩
      rw [List.take_length] at hc
      have hT : TabAt K H2 d (num ns) := tab_num hD hc
      have s02 := s1.trans s2
      refine ⟨.ref a, rfl, a, rfl, ⟨xs, s02.seq hs⟩, fun D nD => lc_list (xs := xs) (fun i H' => Same H2 H' ∧ ∃ ws, H' D = some (.lst ws) ∧ Tms K H' ws ((ts.take i).map (ren (num ns))))
        ⟨same_new nD, [], upd_same, .nil⟩ (fun i H' _ hh => (s02.trans hh.1).seq hs) ?_ ?_⟩
      · rintro i x H' hx ⟨s3, ws, hw1, hw2⟩
        obtain ⟨t, htt, hm⟩ := pr_get ht hx
        have hmem := List.mem_of_getElem? htt
        have hdt := deps_mem hmem
        have hst := sizes_mem hmem
        have hl := pr_len hw2
        have hlen := len_sizes ts
        rw [List.length_map, List.length_take] at hl
        refine ⟨rfl, x, rfl, .ref d, rfl, x, d, t, num ns, rfl, hm.kp (.of (M := []) (s02.trans s3)), by omega, by omega, hT.kp (.of (M := []) s3) (by simp), fun H4 u s5 hu => ?_⟩
        refine ⟨ws, s5 _ _ hw1, line_0 (by omega), same_put (s3.trans s5) nD, ws ++ [u], upd_same, ?_⟩
        have k6 : Kp [D] H4 (upd H4 D (.lst (ws ++ [u]))) := .put (by simp) (s5 _ _ hw1) True.intro
        rw [take_snoc htt, List.map_append]
        exact pr_snoc (Tms.kp k6 _ (Tms.kp (.of (M := []) s5) _ hw2)) (Tm.kp k6 _ hu)
      · rintro H' ⟨s3, ws, hw1, hw2⟩
        rw [pr_len ht, List.take_length] at hw2
        refine q H' D ws (s02.trans s3) (s02.free nD) hw1 ?_
        rw [hns]
        exact hw2
end
end K23

set_option Elab.async false
set_option linter.all false
set_option maxRecDepth 100000
set_option maxHeartbeats 4000000
/-! A rule over symbols and relations. -/
namespace K23
open PySem PySem.Spec PyProof.Rows L2
/-- an atom that is small, its name and places in a given list -/
structure AtG (m : Nat) (p : Str × Nat → Prop) (t : T) : Prop where
  rel : ∃ g as, t = .a g as ∧ p (g, as.length)
  wf : Wf m t
  small : size t ≤ 17 ∧ dep t ≤ 3
def inB (bs : List (Str × Nat)) (q : Str × Nat) : Prop := q ∈ bs ∨ q = (("=" : Str), 2)
theorem nm_eq : Nm "=" := by
  refine ⟨fun c hc => ?_, by decide⟩
  have e : ("=" : Str).cps.toList = [61] := by decide
  rw [e, List.mem_singleton] at hc
  rw [hc]
  exact .inr (.inr (.inr rfl))
theorem atg_ren {m : Nat} {p : Str × Nat → Prop} {t : T} {f : Nat → Option T} (h : AtG m p t) : ∃ g as, ren f t = .a g as ∧ p (g, as.length) := by
  obtain ⟨g, as, rfl, hp⟩ := h.rel
  refine ⟨g, rens f as, by rw [ren], ?_⟩
  rw [rens_map, List.length_map]
  exact hp
/-- what is known of a rule made -/
structure RMade (hs bs : List (Str × Nat)) (r : Rl) : Prop where
  good : RGood r
  head : ∃ g as, r.concl = .a g as ∧ (g, as.length) ∈ hs
  body : ∀ p ∈ r.prem, ∃ g as, p = .a g as ∧ inB bs (g, as.length)
theorem rmade {hs bs : List (Str × Nat)} {nm : Str} {c : T} {ps : List T} {m : Nat} (hm : m ≤ 3) (hc : AtG m (· ∈ hs) c) (hp : ∀ p ∈ ps, AtG m (inB bs) p) (hl : ps.length ≤ 4) (hn : nm.length ≤ 1000) :
    RMade hs bs ⟨nm, ps.map (ren (num (varsL [] (c :: ps)))), ren (num (varsL [] (c :: ps))) c⟩ := by
  have hw : Wfs m (c :: ps) := wfs_iff.mpr fun t ht => by
    rcases List.mem_cons.mp ht with e | h
    · rw [e]; exact hc.wf
    · exact (hp t h).wf
  have hs' : ∀ t ∈ c :: ps, size t ≤ 17 ∧ dep t ≤ 3 := fun t ht => by
    rcases List.mem_cons.mp ht with e | h
    · rw [e]; exact hc.small
    · exact (hp t h).small
  obtain ⟨n1, n2⟩ := numbered hw
  refine ⟨⟨Nat.le_trans n1 hm, n2, fun t ht => ?_, by show (ps.map _).length ≤ 4; rw [List.length_map]; exact hl, hn⟩, atg_ren hc, fun p hpm => ?_⟩
  · have ht' : t ∈ (c :: ps).map (ren (num (varsL [] (c :: ps)))) := ht
    obtain ⟨u, hu, rfl⟩ := List.mem_map.mp ht'
    have h1 := num_size (varsL [] (c :: ps)) u
    have h2 := hs' u hu
    rw [h1.1, h1.2]
    omega
  · obtain ⟨u, hu, rfl⟩ := List.mem_map.mp hpm
    exact atg_ren (hp u hu)
section
variable {P : Program} {w : World} {K : PySem.W.Frag} {mg : Str → Option Value} {base : Heap}
/-- symbols, relations: what else terms are drawn from -/
structure Syms (K : PySem.W.Frag) (H : Hp) (sy : Addr) (ps : List (Str × Nat)) : Prop where
  sym : PrL K H sy ps
  ne : ps ≠ []
  few : ps.length ≤ 10
  good : PGood ps
theorem Syms.kp {H H' : Hp} {t l sy : Addr} {ps : List (Str × Nat)} (h : Syms K H sy ps) (hT : TapeAt H t l) (k : Kp [t] H H') : Syms K H' sy ps := ⟨h.sym.kp k (by simpa using tape_prl hT h.sym), h.ne, h.few, h.good⟩
abbrev P39 : List Str := ["_law_tape_here", "_law_name", "_law_heads", "_law_bodies", "_law_symbols_here", "_law_many", "_law_premises"]
abbrev N39 : List Str := ["_law_tape_here", "_law_name", "_law_heads", "_law_bodies", "_law_symbols_here", "_law_many", "_law_premises", "_law_variables_here", "_law_atoms", "_law_k"]
theorem sc39 : FnScope N39 P39 (defScope (topS 39)) := ⟨rfl, rfl, rfl, by decide +kernel, rfl, by decide +kernel, by decide +kernel⟩
def spRule (K : PySem.W.Frag) : Sp := fun vs H Q _ => ∃ (t l hd bd sy : Addr) (nm : Str) (m np : Nat) (ps qs bs : List (Str × Nat)), vs = [.ref t, .str nm, .ref hd, .ref bd, .ref sy, .int m, .int np] ∧ nm.length ≤ 1000 ∧ m ≤ 3 ∧ np ≤ 2 ∧ TapeAt H t l ∧ Syms K H sy ps ∧ Rels K H hd qs ∧ Rels K H bd bs ∧
  ∀ H' v r, Kp [t] H H' → TapeAt H' t l → RuleAt K H' v r → RMade qs bs r → Q v H'
theorem ok_rule {f fD fT fA fN : Addr} {fd fdD fdT fdA fdN : FuncData} {k : Nat} (F : FnP K "_law_rule_over" 39 f fd) (FD : FnP K "_law_draw" 21 fD fdD) (GD : FnOk P w K mg base CX0 k fD fdD ["_law_tape_here", "_law_many"] spDraw) (gD : mg "_law_draw" = some (.ref fD))
    (FT : FnP K "_law_term" 24 fT fdT) (GT : FnOk P w K mg base CX0 k fT fdT P24 (spTerm K 2)) (gT : mg "_law_term" = some (.ref fT))
    (FA : FnP K "_law_atom" 32 fA fdA) (GA : FnOk P w K mg base CX0 k fA fdA P32 (spAtom K)) (gA : mg "_law_atom" = some (.ref fA))
    (FN : FnP K "_law_numbered" 28 fN fdN) (GN : FnOk P w K mg base CX0 k fN fdN ["_law_terms"] (spNum K 10)) (gN : mg "_law_numbered" = some (.ref fN))
    (mu : mg "tuple" = none) (mr : mg "range" = none) : FnOk P w K mg base CX0 (k + 1) f fd P39 (spRule K) := by
  have bD : Binds K fdD ["_law_tape_here", "_law_many"] [] := FD.bindsN fun _ _ _ _ _ _ us hl => match us, hl with | [_, _], _ => rfl
  have bT : Binds K fdT P24 [] := FT.bindsN fun _ _ _ _ _ _ us hl => match us, hl with | [_, _, _, _], _ => rfl
  have bA : Binds K fdA P32 [] := FA.bindsN fun _ _ _ _ _ _ us hl => match us, hl with | [_, _, _, _, _], _ => rfl
  have bN : Binds K fdN ["_law_terms"] [] := FN.bindsN fun _ _ _ _ _ _ us hl => match us, hl with | [_], _ => rfl
  refine F.go sc39 (fun vs H Q E h => ?_) (fun cdv A outer s H vs Q E hr h => ?_)
  · obtain ⟨t, l, hd, bd, sy, nm, m, np, ps, qs, bs, rfl, _⟩ := h
    rfl
  · obtain ⟨t, l, hd, bd, sy, nm, m, np, ps, qs, bs, rfl, hnm, hm, hnp, hT, hSy, hHd, hBd, q⟩ := h
    refine ⟨_, PSs.nox (pss_cons (ps_setLc (i := 7) (own := [("_law_k", 9)]) (g := gName 9) (tt := tYes) rfl sc39.nd rfl rfl (sw_true rfl rfl rfl (by decide +kernel)) (pi_range1 rfl mr (pa_cons (pv 5) pa_nil))
          (blkOk_by (N := N39) (sc := defScope (topS 39)) (by decide +kernel)) (fun _ _ _ _ _ => pg_name (i := 9) sc39.nd rfl (.inl rfl)) (fun _ _ _ _ _ => pts_nil) (fun _ _ _ _ _ => pv 9))
      (pss_cons (ps_set (i := 8) sc39.nd rfl (.inl rfl) (pe_lst (pa_cons (pe_call GA hr rfl gA FA.kp bA .nil pass0 (pa_cons (pv 0) (pa_cons (pv 2) (pa_cons (pv 4) (pa_cons (pv 7) (pa_cons pe_int pa_nil)))))) pa_nil)))
      (pss_cons (ps_for PassesOwn.never rfl (pi_range1 rfl mr (pa_cons (pv 6) pa_nil)) (pg_name (i := 9) sc39.nd rfl (.inl rfl))
        (pss_one (ps_if (pt_cmpR op_eq (pe_call GD hr rfl gD FD.kp bD .nil pass0 (pa_cons (pv 0) (pa_cons pe_int pa_nil))) pe_int (nomark _))
          (pss_one (ps_expr (pe_bm PySem.F.plainAttrs_list PySem.F.slot_list_append PySem.F.type_list_append mt_append (pv 8) (pa_cons (pe_tup (pa_cons pe_str
            (pa_cons (pe_call GT hr rfl gT FT.kp bT .nil pass0 (pa_cons (pv 0) (pa_cons (pv 4) (pa_cons (pv 7) (pa_cons pe_int pa_nil)))))
            (pa_cons (pe_call GT hr rfl gT FT.kp bT .nil pass0 (pa_cons (pv 0) (pa_cons (pv 4) (pa_cons (pv 7) (pa_cons pe_int pa_nil))))) pa_nil)))) pa_nil))))
          (pss_one (ps_expr (pe_bm PySem.F.plainAttrs_list PySem.F.slot_list_append PySem.F.type_list_append mt_append (pv 8) (pa_cons
            (pe_call GA hr rfl gA FA.kp bA .nil pass0 (pa_cons (pv 0) (pa_cons (pv 3) (pa_cons (pv 4) (pa_cons (pv 7) (pa_cons (pe_op op_add pe_int (pe_call GD hr rfl gD FD.kp bD .nil pass0 (pa_cons (pv 0) (pa_cons pe_int pa_nil)))) pa_nil)))))) pa_nil)))))))
      (pss_cons (ps_set (i := 8) sc39.nd rfl (.inl rfl) (pe_call GN hr rfl gN FN.kp bN .nil pass0 (pa_cons (pv 8) pa_nil)))
      (pss_one (ps_ret (pe_tup (pa_cons (pv 1) (pa_cons (pe_callTy call_tuple_of (by rfl) mu (by decide +kernel) (pa_cons (pe_slice sl_list (pv 8) (po_some pe_int) po_none) pa_nil)) (pa_cons (pe_ix ix_list (pv 8) pe_int (fun _ _ => rfl)) pa_nil)))))))))), ?_⟩
    have em : ((m : Nat) : Int).toNat = m := by omega
    have enp : ((np : Nat) : Int).toNat = np := by omega
    refine ⟨.int m, rfl, m, rfl, by omega, by omega, fun va nva => ?_⟩
    rw [em]
    refine lc_range (n := m) (fun i H' => Same H H' ∧ H' va = some (natL (List.range i))) ⟨same_new nva, upd_same⟩ ?_ ?_
    · rintro i H1 hi ⟨s1, hv⟩
      refine ⟨rfl, _, rfl, _, hv, by rw [List.length_map, List.length_range]; exact line_0 (by omega), same_put s1 nva, ?_⟩
      rw [upd_same, natL, List.range_succ, List.map_append, Int.zero_add]
      rfl
    · rintro H1 ⟨s1, hv⟩
      have hT1 := hT.same s1
      have hS1 : Src K H1 t l sy va m ps := ⟨hT1, hSy.sym.kp (.of (M := []) s1) (by simp), hSy.ne, hSy.few, hSy.good, hv, hm⟩
      have hHd1 := hHd.kp hT (.of s1)
      have hBd1 := hBd.kp hT (.of s1)
      refine ⟨.ref t, rfl, .ref hd, rfl, .ref sy, rfl, .ref va, rfl, t, l, hd, sy, va, 2, m, qs, ps, rfl, by omega, by omega, hS1, hHd1, fun H2 cv g as k2 hT2 hc hgm hw hsz hdp => ?_⟩
      refine ⟨line_1 (by show 1 ≤ 100000; omega), fun al nal => ?_⟩
      have nal1 : H1 al = none := by
        cases e : H1 al with
        | none => rfl
        | some o =>
          by_cases z : al = t
          · exact absurd z.symm (hT2.ne nal).1
          · rw [k2.all _ _ (by simpa using z) e] at nal
            cases nal
      have alt : al ∉ [t] := by simp only [List.mem_singleton]; exact fun e => (hT1.ne nal1).1 e.symm
      refine ⟨.int np, rfl, np, rfl, by omega, by omega, ?_⟩
      rw [enp]
      refine for_range (n := np) (fun i σ H' => (∃ y, σ = [some (.ref t), some (.str nm), some (.ref hd), some (.ref bd), some (.ref sy), some (.int m), some (.int np), some (.ref va), some (.ref al), y]) ∧ Kp [t] H1 H' ∧ TapeAt H' t l ∧
          ∃ ws ts, H' al = some (.lst ws) ∧ Tms K H' ws (.a g as :: ts) ∧ ts.length = i ∧ ∀ p ∈ ts, AtG m (inB bs) p)
        ⟨⟨_, rfl⟩, k2.trans (.new nal), hT2.same (same_new nal), [cv], [], upd_same, .cons (hc.kp (.new (M := []) nal)) .nil, rfl, fun _ z => by cases z⟩ ?_ ?_
      · rintro i σ H3 hi ⟨⟨y, rfl⟩, k3, hT3, ws, ts, hal, hws, hl, hg⟩
        refine ⟨.ref t, rfl, t, l, 12, rfl, by omega, by omega, hT3, fun H4 n4 k4 hT4 hn4 => ?_⟩
        have k14 := k3.trans k4
        have hal4 := k4.all _ _ alt hal
        have hws4 : Tms K H4 ws (.a g as :: ts) := Tms.kp k4 _ hws
        -- what is put behind
        have fin : ∀ {H6 : Hp} {u : V} {τ : T}, Kp [t] H4 H6 → TapeAt H6 t l → Tm K H6 u τ → AtG m (inB bs) τ → H6 al = some (.lst ws) ∧ ws.length < sizeLine ∧ Kp [t] H1 (upd H6 al (.lst (ws ++ [u]))) ∧ TapeAt (upd H6 al (.lst (ws ++ [u]))) t l ∧
            ∃ ws' ts', (upd H6 al (.lst (ws ++ [u]))) al = some (.lst ws') ∧ Tms K (upd H6 al (.lst (ws ++ [u]))) ws' (.a g as :: ts') ∧ ts'.length = i + 1 ∧ ∀ p ∈ ts', AtG m (inB bs) p := fun {H6 u τ} k6 hT6 hu hτ => by
          have hal6 := k6.all _ _ alt hal4
          have hwl := pr_len hws
          have k7 : Kp [al] H6 (upd H6 al (.lst (ws ++ [u]))) := .put (by simp) hal6 True.intro
          refine ⟨hal6, line_0 (by rw [hwl, List.length_cons]; omega), (k14.trans k6).put_new nal1, hT6.upd (hT1.ne nal1).1 (hT1.ne nal1).2, ws ++ [u], ts ++ [τ], upd_same, ?_, by simp; omega, fun p hp => ?_⟩
          · exact pr_snoc (Tms.kp k7 _ (Tms.kp k6 _ hws4)) (hu.kp k7)
          · rcases List.mem_append.mp hp with z | z
            · exact hg p z
            · rw [List.mem_singleton.mp z]; exact hτ
        refine ⟨rfl, _, rfl, ite2 (fun _ => ?_) (fun _ => ?_)⟩
        · have hS4 := hS1.kp k14 hT4
          refine ⟨.ref al, rfl, .inl ⟨rfl, _, SqL.of hal4⟩, .ref t, rfl, .ref sy, rfl, .ref va, rfl, t, l, sy, va, 2, m, ps, rfl, by omega, by omega, by omega, hS4, fun H5 v1 τ1 k5 hT5 h1 w1 z1 d1 => ?_⟩
          have hS5 := hS4.kp k5 hT5
          refine ⟨.ref t, rfl, .ref sy, rfl, .ref va, rfl, t, l, sy, va, 2, m, ps, rfl, by omega, by omega, by omega, hS5, fun H6 v2 τ2 k6 hT6 h2 w2 z2 d2 => ?_⟩
          refine ⟨line_1 (by show 3 ≤ 100000; omega), fun b nb => ?_⟩
          have k7 : Kp [t] H6 (upd H6 b (.tup [.str "=", v1, v2])) := .new nb
          obtain ⟨f1, f2, f3, f4, f5⟩ := fin (u := .ref b) (τ := .a "=" [τ1, τ2]) ((k5.trans k6).trans k7) (hT6.same (same_new nb)) (.mk (SqT.of upd_same) (.cons ((h1.kp k6).kp k7) (.cons (h2.kp k7) .nil)))
            ⟨⟨"=", _, rfl, .inr rfl⟩, by rw [Wf, Wfs, Wfs, Wfs]; exact ⟨nm_eq, w1, w2, trivial⟩, by rw [size, sizes, sizes, sizes, dep, deps, deps, deps]; omega⟩
          exact ⟨al, ws, _, rfl, rfl, f1, f2, ⟨_, rfl⟩, f3, f4, f5⟩
        · refine ⟨.ref al, rfl, .inl ⟨rfl, _, SqL.of hal4⟩, .ref t, rfl, .ref bd, rfl, .ref sy, rfl, .ref va, rfl, .ref t, rfl, t, l, 2, rfl, by omega, by omega, hT4, fun H5 n5 k5 hT5 hn5 => ?_⟩
          have k15 := k14.trans k5
          have hS5 := hS1.kp k15 hT5
          have hBd5 := hBd1.kp hT1 k15
          refine ⟨_, _, rfl, rfl, t, l, bd, sy, va, 1 + n5, m, bs, ps, ?_, by omega, by omega, hS5, hBd5, fun H6 v g6 as6 k6 hT6 h6 hm6 w6 z6 d6 => ?_⟩
          · show [V.ref t, .ref bd, .ref sy, .ref va, .int (1 + (n5 : Int))] = _
            have e : (1 : Int) + (n5 : Int) = ((1 + n5 : Nat) : Int) := by omega
            rw [e]
          · obtain ⟨f1, f2, f3, f4, f5⟩ := fin (k5.trans k6) hT6 h6 ⟨⟨g6, as6, rfl, .inl hm6⟩, w6, z6, d6⟩
            exact ⟨al, ws, _, rfl, rfl, f1, f2, ⟨_, rfl⟩, f3, f4, f5⟩
      · rintro σ H3 ⟨⟨y, rfl⟩, k3, hT3, ws, ts, hal, hws, hl, hg⟩
        have hcg : AtG m (· ∈ qs) (.a g as) := ⟨⟨g, as, rfl, hgm⟩, hw, hsz, hdp⟩
        have hr := rmade (nm := nm) hm hcg hg (by omega) hnm
        have hz := sizes_le (b := 17) (ts := .a g as :: ts) fun p hp => by
          rcases List.mem_cons.mp hp with e | h
          · rw [e]; exact hsz
          · exact (hg p h).small.1
        have hdz := deps_le (b := 3) (ts := .a g as :: ts) fun p hp => by
          rcases List.mem_cons.mp hp with e | h
          · rw [e]; exact hdp
          · exact (hg p h).small.2
        rw [List.length_cons] at hz
        refine ⟨.ref al, rfl, al, ws, _, rfl, SqL.of hal, hws, by omega, by omega, fun H4 p ws4 s4 np4 hp4 hw4 => ?_⟩
        rw [List.map_cons] at hw4
        generalize hσ : num (varsL [] (.a g as :: ts)) = σ4 at hr hw4
        obtain ⟨c4, r4, rfl, hc4, hr4⟩ := pr_cons' hw4
        refine ⟨.str nm, rfl, .ref p, rfl, 1, rfl, p, _, rfl, SqL.of hp4, fun p5 np5 => ?_⟩
        rw [cut1]
        refine ⟨p5, _, rfl, .inl ⟨SqL.of upd_same, fun p6 np6 => ?_⟩⟩
        have k5 : Kp [t] H4 (upd H4 p5 (.lst (List.drop 1 (c4 :: r4)))) := .new np5
        have k6 : Kp [t] (upd H4 p5 (.lst (List.drop 1 (c4 :: r4)))) (upd (upd H4 p5 (.lst (List.drop 1 (c4 :: r4)))) p6 (.tup (List.drop 1 (c4 :: r4)))) := .new np6
        have hp6 : (upd (upd H4 p5 (.lst (List.drop 1 (c4 :: r4)))) p6 (.tup (List.drop 1 (c4 :: r4)))) p = some (.lst (c4 :: r4)) := same_new np6 _ _ (same_new np5 _ _ hp4)
        refine ⟨.ref p, rfl, p, _, 0, c4, rfl, rfl, SqL.of hp6, atI_nat (j := 0) rfl, line_1 (by show 3 ≤ 100000; omega), fun p7 np7 => ?_⟩
        have k7 : Kp [t] _ (upd (upd (upd H4 p5 (.lst (List.drop 1 (c4 :: r4)))) p6 (.tup (List.drop 1 (c4 :: r4)))) p7 (.tup [.str nm, .ref p6, c4])) := .new np7
        have k47 := (k5.trans k6).trans k7
        refine q _ _ _ (((Kp.of (M := [t]) s1).trans k3).trans ((Kp.of s4).trans k47)) (hT3.same (s4.trans (((same_new np5).trans (same_new np6)).trans (same_new np7)))) ?_ hr
        exact ⟨p7, p6, r4, c4, rfl, SqT.of upd_same, k7.sqt (SqT.of upd_same), Tms.kp k47 _ hr4, hc4.kp k47⟩
end
end K23

set_option Elab.async false
set_option linter.all false
set_option maxRecDepth 100000
set_option maxHeartbeats 4000000
/-! The law's names. -/
namespace K23
open PySem PySem.Spec PyProof.Rows L2
theorem str_j : ∀ j : Fin 10, ((0 + ((j.val : Nat) : Int)).natAbs.log2 < 1920) ∧ (Str.ofString (toString (0 + ((j.val : Nat) : Int)))).length ≤ 100 := by decide +kernel
abbrev strL (xs : List Str) : HO := .lst (xs.map V.str)
theorem flat_strs (xs : List Str) : (xs.map V.str).all flatV = true := by
  rw [List.all_eq_true]
  intro v hv
  obtain ⟨n, _, rfl⟩ := List.mem_map.mp hv
  rfl
section
variable {P : Program} {w : World} {K : PySem.W.Frag} {mg : Str → Option Value} {base : Heap}
abbrev N31 : List Str := ["_law_tape_here", "_law_many", "_law_stem", "_law_names_here", "_law_k", "_law_base", "_law_name", "_law_j"]
theorem sc31 : FnScope N31 ["_law_tape_here", "_law_many"] (defScope (topS 31)) := ⟨rfl, rfl, rfl, by decide +kernel, rfl, by decide +kernel, by decide +kernel⟩
def spNames : Sp := fun vs H Q _ => ∃ (t l : Addr) (m : Nat), vs = [.ref t, .int m] ∧ m ≤ 7 ∧ TapeAt H t l ∧
  ∀ H' p xs, Kp [t] H H' → H p = none → TapeAt H' t l → H' p = some (strL xs) → xs.length = m → (∀ x ∈ xs, x.length ≤ 900) → Q (.ref p) H'
theorem ok_names {f fD fW : Addr} {fd fdD fdW : FuncData} {k : Nat} (F : FnP K "_law_names" 31 f fd) (FD : FnP K "_law_draw" 21 fD fdD) (GD : FnOk P w K mg base CX0 k fD fdD ["_law_tape_here", "_law_many"] spDraw) (gD : mg "_law_draw" = some (.ref fD))
    (FW : FnP K "_law_word" 22 fW fdW) (GW : FnOk P w K mg base CX0 k fW fdW ["_law_tape_here", "_law_stem"] spWord) (gW : mg "_law_word" = some (.ref fW)) (mr : mg "range" = none) (ms : mg "str" = none) : FnOk P w K mg base CX0 (k + 1) f fd ["_law_tape_here", "_law_many"] spNames := by
  have bD : Binds K fdD ["_law_tape_here", "_law_many"] [] := FD.bindsN fun _ _ _ _ _ _ us hl => match us, hl with | [_, _], _ => rfl
  have bW : Binds K fdW ["_law_tape_here", "_law_stem"] [] := FW.bindsN fun _ _ _ _ _ _ us hl => match us, hl with | [_, _], _ => rfl
  refine F.go sc31 (fun vs H Q E h => ?_) (fun cdv A outer s H vs Q E hr h => ?_)
  · obtain ⟨t, l, m, rfl, _⟩ := h
    rfl
  · obtain ⟨t, l, m, rfl, hm, hT, q⟩ := h
    refine ⟨_, PSs.nox (pss_cons (ps_set (i := 2) sc31.nd rfl (.inl rfl) (pe_ix ix_list (pe_lst (pa_cons pe_str (pa_cons pe_str (pa_cons pe_str pa_nil)))) (pe_call GD hr rfl gD FD.kp bD .nil pass0 (pa_cons (pv 0) (pa_cons pe_int pa_nil))) (fun _ _ => rfl)))
      (pss_cons (ps_set (i := 3) sc31.nd rfl (.inl rfl) (pe_lst pa_nil))
      (pss_cons (ps_for PassesOwn.never rfl (pi_range1 rfl mr (pa_cons (pv 1) pa_nil)) (pg_name (i := 4) sc31.nd rfl (.inl rfl))
        (pss_cons (ps_set (i := 5) sc31.nd rfl (.inl rfl) (pe_call GW hr rfl gW FW.kp bW .nil pass0 (pa_cons (pv 0) (pa_cons (pv 2) pa_nil))))
        (pss_cons (ps_set (i := 6) sc31.nd rfl (.inl rfl) (pv 5))
        (pss_cons (ps_for PassesOwn.never rfl (pi_range1 rfl mr (pa_cons (pe_op op_add (pv 1) pe_int) pa_nil)) (pg_name (i := 7) sc31.nd rfl (.inl rfl))
          (pss_cons (ps_if (pw_and (pt_cmpR op_notIn_seq (pv 6) (pv 3) rfl) (pw_and1 (pt_cmpR op_ne (pv 6) pe_str (nomark _)))).pt (pss_one ps_break) pss_nil)
          (pss_one (ps_set (i := 6) sc31.nd rfl (.inl rfl) (pe_op op_add_str (pe_op op_add_str (pe_slice sl_str (pv 5) po_none (po_some pe_int)) pe_str) (pe_callTy call_str_int (by rfl) ms PyProof.Rows.boot_str (pa_cons (pv 7) pa_nil)))))))
        (pss_one (ps_expr (pe_bm PySem.F.plainAttrs_list PySem.F.slot_list_append PySem.F.type_list_append mt_append (pv 3) (pa_cons (pv 6) pa_nil)))))))) 
      (pss_one (ps_ret (pv 3)))))), ?_⟩
    refine ⟨line_1 (by show 3 ≤ 100000; omega), fun l0 nl0 => ⟨.ref t, rfl, t, l, 3, rfl, by decide, by decide, hT.same (same_new nl0), fun H1 n k1 hT1 hn => ?_⟩⟩
    have n0t : l0 ∉ [t] := by simp only [List.mem_singleton]; exact fun e => (hT.ne nl0).1 e.symm
    have h0 : H1 l0 = some (.lst [.str (Str.ofString ""), .str (Str.ofString "ref"), .str (Str.ofString "ruleOfSymbols")]) := k1.all _ _ n0t upd_same
    obtain ⟨stem, hst, hs1, hs2⟩ : ∃ x : Str, atI [V.str (Str.ofString ""), .str (Str.ofString "ref"), .str (Str.ofString "ruleOfSymbols")] (n : Int) = some (.str x) ∧ Sgs x ∧ x.length ≤ 13 := by
      have : n = 0 ∨ n = 1 ∨ n = 2 := by omega
      rcases this with rfl | rfl | rfl
      · exact ⟨_, atI_nat (j := 0) rfl, sgs_of (by decide +kernel), by decide +kernel⟩
      · exact ⟨_, atI_nat (j := 1) rfl, sgs_of (by decide +kernel), by decide +kernel⟩
      · exact ⟨_, atI_nat (j := 2) rfl, sgs_of (by decide +kernel), by decide +kernel⟩
    refine ⟨l0, _, _, _, rfl, rfl, SqL.of h0, hst, line_1 (by show 0 ≤ 100000; omega), fun p np => ?_⟩
    have k01 : Kp [t] H H1 := (Kp.new nl0).trans k1
    have hp0 : H p = none := by
      cases e : H p with
      | none => rfl
      | some o =>
        by_cases z : p = t
        · exact absurd z.symm (hT1.ne np).1
        · rw [k01.all _ _ (by simpa using z) e] at np
          cases np
    have hpt : p ∉ [t] := by simp only [List.mem_singleton]; exact fun e => (hT.ne hp0).1 e.symm
    refine ⟨.int m, rfl, m, rfl, by omega, by omega, ?_⟩
    have em : (m : Int).toNat = m := by omega
    rw [em]
    refine for_range (n := m) (fun i σ H' => (∃ y z u v, σ = [some (.ref t), some (.int m), some (.str stem), some (.ref p), y, z, u, v]) ∧ Kp [t] H H' ∧ TapeAt H' t l ∧ ∃ xs, H' p = some (strL xs) ∧ xs.length = i ∧ ∀ x ∈ xs, x.length ≤ 900)
      ⟨⟨_, _, _, _, rfl⟩, k01.trans (.new np), hT1.same (same_new np), [], upd_same, rfl, fun q hq => by cases hq⟩ ?_ ?_
    · rintro i σ H2 hi ⟨⟨y, z, u, v, rfl⟩, k2, hT2, xs, hxs, hl, hg⟩
      refine ⟨.ref t, rfl, .str stem, rfl, t, l, stem, rfl, hs1, hs2, hT2, fun H3 x k3 hT3 hx => ?_⟩
      have hxl : x.length ≤ 20 := hx.1.2
      have hxs3 := k3.all _ _ hpt hxs
      refine ⟨.str x, rfl, .int m, rfl, _, _, rfl, rfl, (m : Int) + 2, rfl, by omega, by omega, ?_⟩
      have em2 : ((m : Int) + 2).toNat = m + 2 := by omega
      rw [em2]
      refine (fun after => for_range (n := m + 2) (fun j σ H' => H' = H3 ∧ ∃ yk yx yv, σ = [some (.ref t), some (.int m), some (.str stem), some (.ref p), yk, some (.str x), some (.str yx), yv] ∧ yx.length ≤ 900)
        ⟨rfl, _, x, _, rfl, by omega⟩ ?_ after) ?_
      · rintro j σ H' hj ⟨rfl, yk, yx, yv, rfl, hyx⟩
        obtain ⟨j1, j2⟩ := str_j ⟨j, by omega⟩
        have j3 : (Str.ofString (toString (0 + (j : Int)))).length ≤ 100 := j2
        have hcut := cut_len x none (some 13)
        have l1 := len_app (cutS x none (some 13)) (Str.ofString "q")
        have l2 := len_app (cutS x none (some 13) ++ Str.ofString "q") (Str.ofString (toString (0 + (j : Int))))
        have lq : (Str.ofString "q").length = 1 := by decide +kernel
        refine ⟨.str yx, rfl, .ref p, rfl, p, _, rfl, .inl (SqL.of hxs3), rfl, flat_strs xs, _, rfl, ite2 (fun _ => ?_) (fun _ => ?_)⟩
        · refine ⟨.str yx, rfl, rfl, _, rfl, ite2 (fun _ => ?_) (fun _ => ?_)⟩
          · exact after _ _ ⟨rfl, _, yx, _, rfl, hyx⟩
          · exact ⟨.str x, rfl, 13, rfl, _, rfl, line_1 (by omega), _, _, rfl, rfl, line_1 (by omega), _, rfl, _, rfl, j1, _, _, rfl, rfl, line_1 (by omega), rfl, _, _, _, rfl, by omega⟩
        · exact iteF ⟨.str x, rfl, 13, rfl, _, rfl, line_1 (by omega), _, _, rfl, rfl, line_1 (by omega), _, rfl, _, rfl, j1, _, _, rfl, rfl, line_1 (by omega), rfl, _, _, _, rfl, by omega⟩
      · rintro σ H' ⟨rfl, yk, yx, yv, rfl, hyx⟩
        refine ⟨.ref p, rfl, .inl ⟨rfl, _, SqL.of hxs3⟩, .str yx, rfl, p, _, _, rfl, rfl, hxs3, by rw [List.length_map]; exact line_0 (by omega), ⟨_, _, _, _, rfl⟩, (k2.trans k3).put_new hp0, hT3.upd (hT.ne hp0).1 (hT.ne hp0).2, xs ++ [yx], ?_, by simp; omega, fun y hy => ?_⟩
        · rw [upd_same, strL, List.map_append]
          rfl
        · rcases List.mem_append.mp hy with z | z
          · exact hg y z
          · rw [List.mem_singleton.mp z]; exact hyx
    · rintro σ H2 ⟨⟨y, z, u, v, rfl⟩, k2, hT2, xs, hxs, hl, hg⟩
      exact ⟨.ref p, rfl, q _ p xs k2 hp0 hT2 hxs hl hg⟩
end
end K23

set_option Elab.async false
set_option linter.all false
set_option maxRecDepth 100000
set_option maxHeartbeats 4000000
/-! The given terms. -/
namespace K23
open PySem PySem.Spec PyProof.Rows L2
theorem shapedL {ts : List T} (h : ∀ t ∈ ts, Gd t ∧ dep t ≤ 60) : SeqAt.shaped (.list (toDs ts)) = true := by
  have h1 : PyData.canLayAll0 (toDs ts) = true := by
    induction ts with
    | nil => rw [toDs]; rfl
    | cons t ts ih =>
      rw [toDs]
      show ((toD t).canLay0 && PyData.canLayAll0 (toDs ts)) = true
      rw [lay_gd t (h t List.mem_cons_self).1, ih fun u hu => h u (List.mem_cons_of_mem _ hu)]
      rfl
  have h2 : PyData.depthAll (toDs ts) ≤ 60 := by
    clear h1
    induction ts with
    | nil => rw [toDs]; exact Nat.zero_le _
    | cons t ts ih =>
      rw [toDs]
      show max (toD t).depth (PyData.depthAll (toDs ts)) ≤ 60
      have := depth_le t
      have := (h t List.mem_cons_self).2
      have := ih fun u hu => h u (List.mem_cons_of_mem _ hu)
      omega
  show (PyData.canLayAll0 (toDs ts) && decide ((PyData.list (toDs ts)).depth ≤ 64)) = true
  rw [h1, Bool.true_and]
  refine decide_eq_true ?_
  show PyData.depthAll (toDs ts) + 1 ≤ 64
  omega
section
variable {P : Program} {w : World} {K : PySem.W.Frag} {mg : Str → Option Value} {base : Heap}
abbrev P35 : List Str := ["_law_tape_here", "_law_symbols_here", "_law_many"]
abbrev N35 : List Str := ["_law_tape_here", "_law_symbols_here", "_law_many", "_law_terms", "_law_k", "_law_symbol", "_law_term_here", "_law_j"]
theorem sc35 : FnScope N35 P35 (defScope (topS 35)) := ⟨rfl, rfl, rfl, by decide +kernel, rfl, by decide +kernel, by decide +kernel⟩
def spUni (K : PySem.W.Frag) : Sp := fun vs H Q _ => ∃ (t l sy : Addr) (m : Nat) (ps : List (Str × Nat)), vs = [.ref t, .ref sy, .int m] ∧ m ≤ 3 ∧ TapeAt H t l ∧ Syms K H sy ps ∧
  ∀ H' p us ts, Kp [t] H H' → H p = none → TapeAt H' t l → H' p = some (.lst us) → Tms K H' us ts → TGood ts → Q (.ref p) H'
theorem ok_uni {f fD fS : Addr} {fd fdD fdS : FuncData} {k : Nat} (F : FnP K "_law_universe" 35 f fd) (FD : FnP K "_law_draw" 21 fD fdD) (GD : FnOk P w K mg base CX0 k fD fdD ["_law_tape_here", "_law_many"] spDraw) (gD : mg "_law_draw" = some (.ref fD))
    (FS : FnP K "_law_size" 29 fS fdS) (GS : FnOk P w K mg base CX0 k fS fdS ["_law_term_here"] (spSize K 40)) (gS : mg "_law_size" = some (.ref fS)) (mr : mg "range" = none) (mn : mg "len" = none) (mu : mg "tuple" = none) : FnOk P w K mg base CX0 (k + 1) f fd P35 (spUni K) := by
  have bD : Binds K fdD ["_law_tape_here", "_law_many"] [] := FD.bindsN fun _ _ _ _ _ _ us hl => match us, hl with | [_, _], _ => rfl
  have bS : Binds K fdS ["_law_term_here"] [] := FS.bindsN fun _ _ _ _ _ _ us hl => match us, hl with | [_], _ => rfl
  refine F.go sc35 (fun vs H Q E h => ?_) (fun cdv A outer s H vs Q E hr h => ?_)
  · obtain ⟨t, l, sy, m, ps, rfl, _⟩ := h
    rfl
  · obtain ⟨t, l, sy, m, ps, rfl, hm, hT, hSy, q⟩ := h
    have hu65 : (A.deeper (envOfC "_law_universe" (defScope (topS 35)) s.heap.objs.size f cdv)).units + 65 < cLine := by have := hr.un; omega
    refine ⟨_, PSs.nox (pss_cons (ps_set (i := 3) sc35.nd rfl (.inr rfl) (pe_lst pa_nil))
      (pss_cons (ps_for PassesOwn.never rfl (pi_range1 rfl mr (pa_cons (pv 2) pa_nil)) (pg_name (i := 4) sc35.nd rfl (.inl rfl))
        (pss_cons (ps_set (i := 5) sc35.nd rfl (.inl rfl) (pe_ix ix_list (pv 1) (pe_call GD hr rfl gD FD.kp bD .nil pass0 (pa_cons (pv 0) (pa_cons (pe_callB call_len_seq (by rfl) mn PySem.boot_len (pa_cons (pv 1) pa_nil)) pa_nil))) (fun _ _ => rfl)))
        (pss_cons (ps_set (i := 6) sc35.nd rfl (.inl rfl) (pe_tup (pa_cons (pe_ix ix_tup (pv 5) pe_int (fun _ _ => rfl)) pa_nil)))
        (pss_cons (ps_if (pt_truth (pv 3) (fun _ => rfl)) (pss_one (ps_set (i := 6) sc35.nd rfl (.inl rfl) (pe_op op_catA (pv 6) (pe_callTy call_tuple_of (by rfl) mu (by decide +kernel) (pa_cons
            (pe_lc (own := [("_law_j", 7)]) (g := gName 7) (tt := tYes) rfl sc35.nd (pi_range1 rfl mr (pa_cons (pe_ix ix_tup (pv 5) pe_int (fun _ _ => rfl)) pa_nil))
              (blkOk_by (N := N35) (sc := defScope (topS 35)) (by decide +kernel)) (fun _ _ _ _ _ => pg_name (i := 7) sc35.nd rfl (.inl rfl)) (fun _ _ _ _ _ => pts_nil)
              (fun _ _ _ _ _ => pe_ix (r := rIxL K) ix_list (pv 3) (pe_call GD hr rfl gD FD.kp bD .nil pass0 (pa_cons (pv 0) (pa_cons (pe_callB (r := fun xs H Q => ∃ p ys, xs = [.ref p] ∧ (SqL K H p ys ∨ SqT K H p ys) ∧ Q (.int ys.length) H) call_len_seq (by rfl) mn PySem.boot_len (pa_cons (pv 3) pa_nil)) pa_nil))) (fun _ _ => rfl))) pa_nil))))) pss_nil)
        (pss_one (ps_if (PW.pt (pw_and (pt_cmpR (op_notInD hu65) (pv 6) (pv 3) rfl) (pw_and1 (pt_cmpR op_le (pe_call GS hr rfl gS FS.kp bS .nil pass0 (pa_cons (pv 6) pa_nil)) pe_int (nomark _)))))
          (pss_one (ps_expr (pe_bm PySem.F.plainAttrs_list PySem.F.slot_list_append PySem.F.type_list_append mt_append (pv 3) (pa_cons (pv 6) pa_nil)))) pss_nil))))))
      (pss_one (ps_ret (pv 3))))), ?_⟩
    refine ⟨line_1 (by show 0 ≤ 100000; omega), fun p np => ⟨.int m, rfl, m, rfl, by omega, by omega, ?_⟩⟩
    have em : ((m : Nat) : Int).toNat = m := by omega
    rw [em]
    have hpt : p ∉ [t] := by simp only [List.mem_singleton]; exact fun e => (hT.ne np).1 e.symm
    refine for_range (n := m) (fun i σ H' => (∃ y z u, σ = [some (.ref t), some (.ref sy), some (.int m), some (.ref p), y, z, u, none]) ∧ Kp [t] H H' ∧ TapeAt H' t l ∧ ∃ us ts, H' p = some (.lst us) ∧ Tms K H' us ts ∧ ts.length ≤ i ∧ ∀ τ ∈ ts, Gd τ ∧ size τ ≤ 12)
      ⟨⟨_, _, _, rfl⟩, .new np, hT.same (same_new np), [], [], upd_same, .nil, Nat.le_refl _, fun _ z => by cases z⟩ ?_ ?_
    · rintro i σ H2 hi ⟨⟨y, z, u, rfl⟩, k2, hT2, us, ts, hus, hts, hl, hg⟩
      have hS2 := hSy.kp hT k2
      have hpos : 1 ≤ ps.length := by
        cases ps with
        | nil => exact absurd rfl hSy.ne
        | cons _ _ => simp
      have hfew := hSy.few
      obtain ⟨sv, hsv, hsp⟩ := id hS2.sym
      have hsl := pr_len hsp
      refine ⟨.ref sy, rfl, .ref t, rfl, .ref sy, rfl, sy, sv, rfl, .inl (SqL.of hsv), t, l, ps.length, by rw [hsl]; rfl, by omega, by omega, hT2, fun H3 c k3 hT3 hc => ?_⟩
      obtain ⟨sv3, hsv3, hsp3⟩ := (hS2.kp hT2 k3).sym
      have hx : ps[c]? = some ps[c] := List.getElem?_eq_getElem hc
      obtain ⟨sa, hsa, ⟨a5, rfl, h5⟩⟩ := pr_get' hsp3 hx
      have gq := hSy.good _ (List.getElem_mem hc)
      generalize ps[c] = qq at h5 gq
      refine ⟨sy, sv3, _, .ref a5, rfl, rfl, SqL.of hsv3, atI_nat hsa, ?_⟩
      refine ⟨.ref a5, rfl, a5, _, 0, .str qq.1, rfl, rfl, h5, atI_nat (j := 0) rfl, line_1 (by show 1 ≤ 100000; omega), fun b nb => ?_⟩
      have s4 : Same H3 (upd H3 b (.tup [.str qq.1])) := same_new nb
      have k24 : Kp [t] H2 (upd H3 b (.tup [.str qq.1])) := k3.trans (.of s4)
      have hus4 := k24.all _ _ hpt hus
      have hts4 := Tms.kp k24 _ hts
      have hT4 := hT3.same s4
      have hul := pr_len hts
      -- the term is put behind, or not
      have fin : ∀ {H5 : Hp} {r : Addr} {as : List T} {ws : List V}, Kp [t] (upd H3 b (.tup [.str qq.1])) H5 → TapeAt H5 t l → SqT K H5 r (.str qq.1 :: ws) → Tms K H5 ws as → as.length ≤ 3 → (∀ τ ∈ as, Gd τ ∧ size τ ≤ 12) →
          Tm K H5 (.ref r) (.a qq.1 as) ∧ H5 p = some (.lst us) ∧ Tms K H5 us ts ∧ SeqAt.shaped (toD (.a qq.1 as)) = true ∧ SeqAt.shaped (.list (toDs ts)) = true ∧ Gd (.a qq.1 as) ∧ dep (.a qq.1 as) ≤ 40 ∧ size (.a qq.1 as) ≤ 1000 := fun {H5 r as ws} k5 hT5 h6 h7 h8 h9 => by
        have hgd : Gd (.a qq.1 as) := by
          rw [Gd]
          refine ⟨gq.1.1, ?_⟩
          clear h7 h8
          induction as with
          | nil => rw [Gds]; trivial
          | cons x xs ih => rw [Gds]; exact ⟨(h9 x List.mem_cons_self).1, ih fun τ hτ => h9 τ (List.mem_cons_of_mem _ hτ)⟩
        have hz := sizes_le (b := 12) fun τ hτ => (h9 τ hτ).2
        have hsz : size (.a qq.1 as) ≤ 37 := by rw [size]; omega
        have hdz := dep_size (.a qq.1 as)
        exact ⟨.mk h6 h7, k5.all _ _ hpt hus4, Tms.kp k5 _ hts4, shaped_gd hgd (by omega), shapedL fun τ hτ => ⟨(hg τ hτ).1, by have := dep_size τ; have := (hg τ hτ).2; omega⟩, hgd, by omega, by omega⟩
      have skip : ∀ {H5 : Hp}, Kp [t] (upd H3 b (.tup [.str qq.1])) H5 → TapeAt H5 t l → Kp [t] H H5 ∧ TapeAt H5 t l ∧ ∃ us ts, H5 p = some (.lst us) ∧ Tms K H5 us ts ∧ ts.length ≤ i + 1 ∧ ∀ τ ∈ ts, Gd τ ∧ size τ ≤ 12 := fun {H5} k5 hT5 =>
        ⟨(k2.trans k24).trans k5, hT5, us, ts, k5.all _ _ hpt hus4, Tms.kp k5 _ hts4, by omega, hg⟩
      have app : ∀ {H5 : Hp} {r : V} {τ : T}, Kp [t] (upd H3 b (.tup [.str qq.1])) H5 → TapeAt H5 t l → Tm K H5 r τ → Gd τ → size τ ≤ 12 → Kp [t] H (upd H5 p (.lst (us ++ [r]))) ∧ TapeAt (upd H5 p (.lst (us ++ [r]))) t l ∧
          ∃ us' ts', (upd H5 p (.lst (us ++ [r]))) p = some (.lst us') ∧ Tms K (upd H5 p (.lst (us ++ [r]))) us' ts' ∧ ts'.length ≤ i + 1 ∧ ∀ τ ∈ ts', Gd τ ∧ size τ ≤ 12 := fun {H5 r τ} k5 hT5 hr5 g5 z5 => by
        have hp5 := k5.all _ _ hpt hus4
        have k6 : Kp [p] H5 (upd H5 p (.lst (us ++ [r]))) := .put (by simp) hp5 True.intro
        refine ⟨((k2.trans k24).trans k5).put_new np, hT5.upd (hT.ne np).1 (hT.ne np).2, us ++ [r], ts ++ [τ], upd_same, pr_snoc (Tms.kp k6 _ (Tms.kp k5 _ hts4)) (hr5.kp k6), by simp; omega, fun σ hσ => ?_⟩
        rcases List.mem_append.mp hσ with z | z
        · exact hg σ z
        · rw [List.mem_singleton.mp z]; exact ⟨g5, z5⟩
      refine ⟨.ref p, rfl, !us.isEmpty, .inl ⟨us, SqL.of hus4, rfl⟩, ?_⟩
      refine ite2 (fun hne => ?_) (fun _ => ?_)
      · have hnz : 1 ≤ us.length := by
          cases us with
          | nil => cases hne
          | cons _ _ => simp
        have e2 : ((qq.2 : Nat) : Int).toNat = qq.2 := by omega
        refine ⟨.ref b, rfl, .ref a5, rfl, a5, _, 1, .int qq.2, rfl, rfl, (Kp.of (M := []) s4).sqt h5, atI_nat (j := 1) rfl, qq.2, rfl, by omega, by have := gq.2; omega, fun D nD => ?_⟩
        rw [e2]
        have hDt : D ∉ [t] := by simp only [List.mem_singleton]; exact fun e => (hT4.ne nD).1 e.symm
        refine lc_range (n := qq.2) (fun i H' => Kp [t] (upd H3 b (.tup [.str qq.1])) H' ∧ TapeAt H' t l ∧ ∃ ws as, H' D = some (.lst ws) ∧ Tms K H' ws as ∧ as.length = i ∧ ∀ τ ∈ as, Gd τ ∧ size τ ≤ 12)
          ⟨.new nD, hT4.same (same_new nD), [], [], upd_same, .nil, rfl, fun _ z => by cases z⟩ ?_ ?_
        · rintro j H5 hj ⟨k5, hT5, ws, as, hD, hw, hl5, ha⟩
          have hus5 := k5.all _ _ hpt hus4
          refine ⟨rfl, .ref p, rfl, .ref t, rfl, .ref p, rfl, p, us, rfl, .inl (SqL.of hus5), t, l, us.length, rfl, hnz, by omega, hT5, fun H6 n6 k6 hT6 hn6 => ?_⟩
          have hus6 := k6.all _ _ hpt hus5
          have hx6 : us[n6]? = some us[n6] := List.getElem?_eq_getElem hn6
          obtain ⟨τ, hτ, hm6⟩ := pr_get (Tms.kp (k5.trans k6) _ hts4) hx6
          have hD6 := k6.all _ _ hDt hD
          have hwl := pr_len hw
          refine ⟨p, us, _, _, rfl, rfl, SqL.of hus6, atI_nat hx6, ws, hD6, line_0 (by have := gq.2; omega), (k5.trans k6).put_new nD, hT6.upd (hT4.ne nD).1 (hT4.ne nD).2, ws ++ [us[n6]], as ++ [τ], upd_same, ?_, by simp; omega, fun σ hσ => ?_⟩
          · have k7 : Kp [D] H6 (upd H6 D (.lst (ws ++ [us[n6]]))) := .put (by simp) hD6 True.intro
            exact pr_snoc (Tms.kp k7 _ (Tms.kp k6 _ hw)) (Tm.kp k7 _ hm6)
          · rcases List.mem_append.mp hσ with z | z
            · exact ha σ z
            · rw [List.mem_singleton.mp z]; exact hg τ (List.mem_of_getElem? hτ)
        · rintro H5 ⟨k5, hT5, ws, as, hD, hw, hl5, ha⟩
          have hwl := pr_len hw
          refine ⟨D, ws, rfl, .inl ⟨SqL.of hD, fun r nr => ?_⟩⟩
          have k6 : Kp [t] H5 (upd H5 r (.tup ws)) := .new nr
          refine cat1 (k6.sqt (k5.sqt (SqT.of upd_same))) (SqT.of upd_same) (by have := gq.2; omega) fun H7 r7 s7 h7 => ?_
          have k47 := (k5.trans k6).trans (.of s7)
          obtain ⟨f1, f2, f3, f4, f5, f6, f7, f8⟩ := fin k47 ((hT5.same (same_new nr)).same s7) h7 (Tms.kp (.of (M := []) s7) _ (Tms.kp k6 _ hw)) (by have := gq.2; omega) ha
          refine ⟨.ref r7, rfl, .ref p, rfl, _, _, f1, .lst (SqL.of f2) (tms_dp f3), f4, f5, _, rfl, ite2 (fun _ => ?_) (fun _ => ?_)⟩
          · refine ⟨.ref r7, rfl, .ref r7, _, rfl, f1, f7, f8, fun H8 s8 => ⟨_, _, rfl, rfl, _, rfl, ite2 (fun hsz => ?_) (fun _ => ?_)⟩⟩
            · have hp8 := s8 _ _ f2
              refine ⟨.ref p, rfl, .inl ⟨rfl, _, SqL.of hp8⟩, .ref r7, rfl, p, us, _, rfl, rfl, hp8, line_0 (by omega), ⟨_, _, _, rfl⟩, ?_⟩
              exact app (k47.trans (.of s8)) (((hT5.same (same_new nr)).same s7).same s8) (f1.kp (.of (M := []) s8)) f6 (by have := of_decide_eq_true hsz; omega)
            · exact ⟨⟨_, _, _, rfl⟩, skip (k47.trans (.of s8)) (((hT5.same (same_new nr)).same s7).same s8)⟩
          · exact iteF ⟨⟨_, _, _, rfl⟩, skip k47 ((hT5.same (same_new nr)).same s7)⟩
      · obtain ⟨f1, f2, f3, f4, f5, f6, f7, f8⟩ := fin (.refl _ _) hT4 (SqT.of upd_same) .nil (by simp) (fun _ z => by cases z)
        refine ⟨.ref b, rfl, .ref p, rfl, _, _, f1, .lst (SqL.of f2) (tms_dp f3), f4, f5, _, rfl, ite2 (fun _ => ?_) (fun _ => ?_)⟩
        · refine ⟨.ref b, rfl, .ref b, _, rfl, f1, f7, f8, fun H8 s8 => ⟨_, _, rfl, rfl, _, rfl, ite2 (fun hsz => ?_) (fun _ => ?_)⟩⟩
          · have hp8 := s8 _ _ f2
            refine ⟨.ref p, rfl, .inl ⟨rfl, _, SqL.of hp8⟩, .ref b, rfl, p, us, _, rfl, rfl, hp8, line_0 (by omega), ⟨_, _, _, rfl⟩, ?_⟩
            exact app ((Kp.refl _ _).trans (.of s8)) (hT4.same s8) (f1.kp (.of (M := []) s8)) f6 (by have := of_decide_eq_true hsz; omega)
          · exact ⟨⟨_, _, _, rfl⟩, skip ((Kp.refl _ _).trans (.of s8)) (hT4.same s8)⟩
        · exact iteF ⟨⟨_, _, _, rfl⟩, skip (Kp.refl _ _) hT4⟩
    · rintro σ H2 ⟨⟨y, z, u, rfl⟩, k2, hT2, us, ts, hus, hts, hl, hg⟩
      exact ⟨.ref p, rfl, q H2 p us ts k2 np hT2 hus hts ⟨by omega, fun τ hτ => (hg τ hτ).1, fun τ hτ => (hg τ hτ).2⟩⟩
end
end K23

set_option Elab.async false
set_option linter.all false
set_option maxRecDepth 100000
set_option maxHeartbeats 4000000
/-! The law's tables and choices. -/
namespace K23
open PySem PySem.Spec PyProof.Rows L2
section
variable {P : Program} {w : World} {K : PySem.W.Frag} {mg : Str → Option Value} {base : Heap}
/-! ### _law_table -/
abbrev N33 : List Str := ["_law_terms", "_law_table_here", "_law_k"]
theorem sc33 : FnScope N33 ["_law_terms"] (defScope (topS 33)) := ⟨rfl, rfl, rfl, by decide +kernel, rfl, by decide +kernel, by decide +kernel⟩
def spTable (K : PySem.W.Frag) : Sp := fun vs H Q _ => ∃ (a : Addr) (us : List V) (row : List T), vs = [.ref a] ∧ SqT K H a us ∧ Tms K H us row ∧ us.length ≤ 1000 ∧ ∀ H' d, Same H H' → H d = none → TabAt K H' d (fun n => row[n]?) → Q (.ref d) H'
theorem ok_table {f : Addr} {fd : FuncData} {k : Nat} (F : FnP K "_law_table" 33 f fd) (mr : mg "range" = none) (mn : mg "len" = none) : FnOk P w K mg base CX0 (k + 1) f fd ["_law_terms"] (spTable K) := by
  refine F.go sc33 (fun vs H Q E h => ?_) (fun cdv A outer s H vs Q E hr h => ?_)
  · obtain ⟨a, us, row, rfl, _⟩ := h
    rfl
  · obtain ⟨a, us, row, rfl, hs, hu, hl, q⟩ := h
    refine ⟨_, PSs.nox (pss_cons (ps_set (i := 1) sc33.nd rfl (.inl rfl) pe_dnewK)
      (pss_cons (ps_for PassesOwn.never rfl (pi_range1 rfl mr (pa_cons (pe_callB call_len_seq (by rfl) mn PySem.boot_len (pa_cons (pv 0) pa_nil)) pa_nil)) (pg_name (i := 2) sc33.nd rfl (.inl rfl))
        (pss_one (ps_dput (hu_of hr) (pv 1) (pv 2) (pe_ix ix_tup (pv 0) (pv 2) (fun _ _ => rfl)) rfl)))
      (pss_one (ps_ret (pv 1))))), ?_⟩
    refine fun d nd => ⟨.ref a, rfl, a, us, rfl, .inr ((Kp.new (M := []) nd).sqt hs), us.length, rfl, by omega, by omega, ?_⟩
    have en : ((us.length : Nat) : Int).toNat = us.length := by omega
    rw [en]
    refine for_range (n := us.length) (fun i σ H' => (∃ y, σ = [some (.ref a), some (.ref d), y]) ∧ Same H H' ∧ ∃ kvs, H' d = some (.dK kvs) ∧ kvs.length ≤ i ∧ ∀ j : Nat, valV kvs (.inl (j : Int)) = if j < i then us[j]? else none)
      ⟨⟨_, rfl⟩, same_new nd, [], upd_same, Nat.le_refl _, fun j => by simp [valV_nil]⟩ ?_ ?_
    · rintro i σ H' hi ⟨⟨y, rfl⟩, s1, kvs, hD, hk, hc⟩
      have hx : us[i]? = some us[i] := List.getElem?_eq_getElem hi
      refine ⟨.ref a, rfl, .int _, rfl, a, us, _, us[i], rfl, rfl, (Kp.of (M := []) s1).sqt hs, by rw [Int.zero_add]; exact atI_nat hx, .ref d, rfl, .int _, rfl, d, _, rfl, DPut.k (k := .inl (0 + (i : Int))) hD (line_0 (by omega)), ⟨_, rfl⟩, same_put s1 nd, _, upd_same, Nat.le_trans (length_putK _ _ _) (by omega), fun j => ?_⟩
      rw [valV_put, Int.zero_add]
      by_cases e : j = i
      · subst e
        rw [if_pos rfl, if_pos (by omega), hx]
      · rw [if_neg (fun z => e (by injection z with z; omega)), hc]
        by_cases e2 : j < i
        · rw [if_pos e2, if_pos (by omega)]
        · rw [if_neg e2, if_neg (by omega)]
    · rintro σ H' ⟨⟨y, rfl⟩, s1, kvs, hD, hk, hc⟩
      refine ⟨.ref d, rfl, q H' d s1 nd ⟨kvs, hD, fun n => ?_⟩⟩
      rw [hc]
      by_cases e : n < us.length
      · rw [if_pos e]
        have hx : us[n]? = some us[n] := List.getElem?_eq_getElem e
        obtain ⟨t', h1, h2⟩ := pr_get hu hx
        exact .inr ⟨t', us[n], h1, hx, h2.kp (.of (M := []) s1)⟩
      · rw [if_neg e]
        refine .inl ⟨?_, rfl⟩
        exact List.getElem?_eq_none (by rw [← pr_len hu]; omega)
/-! ### _law_choices -/
abbrev N34 : List Str := ["_law_terms", "_law_many", "_law_rows", "_law_k", "_law_longer", "_law_row", "_law_term_here"]
theorem sc34 : FnScope N34 ["_law_terms", "_law_many"] (defScope (topS 34)) := ⟨rfl, rfl, rfl, by decide +kernel, rfl, by decide +kernel, by decide +kernel⟩
def spChsL (K : PySem.W.Frag) : Sp := fun vs H Q _ => ∃ (a : Addr) (c : Nat) (us : List V) (ts : List T), vs = [.ref a, .int c] ∧ c ≤ 3 ∧ SqL K H a us ∧ Tms K H us ts ∧ ts.length ≤ 3 ∧
  ∀ H' p ws, Same H H' → H p = none → H' p = some (.lst ws) → Paired (RowAt K H') ws (chs ts c) → Q (.ref p) H'
theorem ok_chsL {f : Addr} {fd : FuncData} {k : Nat} (F : FnP K "_law_choices" 34 f fd) (mr : mg "range" = none) (ml : mg "list" = none) : FnOk P w K mg base CX0 (k + 1) f fd ["_law_terms", "_law_many"] (spChsL K) := by
  refine F.go sc34 (fun vs H Q E h => ?_) (fun cdv A outer s H vs Q E hr h => ?_)
  · obtain ⟨a, c, us, ts, rfl, _⟩ := h
    rfl
  · obtain ⟨a, c, us, ts, rfl, hc, hs, ht, hl, q⟩ := h
    refine ⟨_, PSs.nox (pss_cons (ps_set (i := 2) sc34.nd rfl (.inl rfl) (pe_lst (pa_cons (pe_tup pa_nil) pa_nil)))
      (pss_cons (ps_for PassesOwn.never rfl (pi_range1 rfl mr (pa_cons (pv 1) pa_nil)) (pg_name (i := 3) sc34.nd rfl (.inl rfl))
        (pss_cons (ps_set (i := 4) sc34.nd rfl (.inl rfl) (pe_lst pa_nil))
        (pss_cons (ps_for PassesOwn.never rfl (pi_list (pe_callTy call_list_of (by rfl) ml (by decide +kernel) (pa_cons (pv 2) pa_nil))) (pg_name (i := 5) sc34.nd rfl (.inl rfl))
          (pss_one (ps_for PassesOwn.never rfl (pi_list (pv 0)) (pg_name (i := 6) sc34.nd rfl (.inl rfl))
            (pss_one (ps_expr (pe_bm PySem.F.plainAttrs_list PySem.F.slot_list_append PySem.F.type_list_append mt_append (pv 4) (pa_cons (pe_op op_catA (pv 5) (pe_tup (pa_cons (pv 6) pa_nil))) pa_nil)))))))
        (pss_one (ps_set (i := 2) sc34.nd rfl (.inl rfl) (pe_callTy call_list_of (by rfl) ml (by decide +kernel) (pa_cons (pv 4) pa_nil)))))))
      (pss_one (ps_ret (pv 2))))), ?_⟩
    refine ⟨Nat.zero_le _, fun p np => ⟨line_1 (by show 1 ≤ 100000; omega), fun l0 nl0 => ?_⟩⟩
    have s1 : Same H (upd H p (.tup [])) := same_new np
    have s2 : Same (upd H p (.tup [])) (upd (upd H p (.tup [])) l0 (.lst [.ref p])) := same_new nl0
    refine ⟨_, rfl, (c : Int), rfl, by omega, by omega, ?_⟩
    have ec : (c : Int).toNat = c := by omega
    rw [ec]
    refine for_range (n := c) (fun i σ H' => ∃ l y3 y4 y5 y6 ws, σ = [some (.ref a), some (.int c), some (.ref l), y3, y4, y5, y6] ∧ Same H H' ∧ H l = none ∧ H' l = some (.lst ws) ∧ Paired (RowAt K H') ws (chs ts i))
      ⟨l0, none, none, none, none, _, rfl, s1.trans s2, s1.free nl0, upd_same, .cons ⟨p, [], rfl, SqT.of (s2 _ _ upd_same), .nil⟩ .nil⟩ ?_ ?_
    · rintro i σ H0 hi ⟨l, y3, y4, y5, y6, ws, rfl, sm, nl, hL, hw⟩
      have hr27 : (chs ts i).length ≤ 27 := by rw [chs_len]; exact pow_le27 hl (by omega)
      have hwl := pr_len hw
      refine ⟨Nat.zero_le _, fun l2 n2 => ?_⟩
      have hL2 : (upd H0 l2 (.lst [])) l = some (.lst ws) := same_new n2 _ _ hL
      refine ⟨.ref l, rfl, l, ws, rfl, .inl (SqL.of hL2), fun l3 n3 => ⟨l3, rfl, ⟨ws, SqL.of upd_same⟩, ?_⟩⟩
      have s3 : Same (upd H0 l2 (.lst [])) (upd (upd H0 l2 (.lst [])) l3 (.lst ws)) := same_new n3
      have n32 : l3 ≠ l2 := fun z => by rw [z, upd_same] at n3; cases n3
      have mulb : (chs ts i).length * ts.length ≤ 27 * 3 := Nat.mul_le_mul hr27 hl
      refine for_list (xs := ws) (fun i1 σ H' => (∃ y5 y6, σ = [some (.ref a), some (.int c), some (.ref l), some (.int (0 + i)), some (.ref l2), y5, y6]) ∧ Same H0 H' ∧ H' l3 = some (.lst ws) ∧ ∃ rs, H' l2 = some (.lst rs) ∧ Paired (RowAt K H') rs (rd ts (chs ts i) i1 0))
        ⟨⟨_, _, rfl⟩, (same_new n2).trans s3, upd_same, [], s3 _ _ upd_same, by rw [rd_start]; exact .nil⟩ (fun i1 σ H' _ hh => SqL.of hh.2.2.1) ?_ ?_
      · rintro i1 x σ H1 hx ⟨⟨z5, z6, rfl⟩, sm1, h31, rs1, h21, hrs1⟩
        obtain ⟨row, hrow, ra⟩ := pr_get hw hx
        have hrow2 : (chs ts i).getD i1 [] = row := by rw [List.getD, hrow]; rfl
        have hi1 : i1 < (chs ts i).length := (List.getElem?_eq_some_iff.mp hrow).1
        have hlen : row.length = i := (chs_row.mp (List.mem_of_getElem? hrow)).1
        refine ⟨.ref a, rfl, a, rfl, ⟨us, (sm.trans sm1).seq hs⟩, for_list (xs := us) (fun j σ H' => (∃ y6, σ = [some (.ref a), some (.int c), some (.ref l), some (.int (0 + i)), some (.ref l2), some x, y6]) ∧ Same H0 H' ∧ H' l3 = some (.lst ws) ∧ ∃ rs, H' l2 = some (.lst rs) ∧ Paired (RowAt K H') rs (rd ts (chs ts i) i1 j))
          ⟨⟨_, rfl⟩, sm1, h31, rs1, h21, hrs1⟩ (fun j σ H' _ hh => (sm.trans hh.2.1).seq hs) ?_ ?_⟩
        · rintro j z σ H2 hz ⟨⟨w6, rfl⟩, sm2, h32, rs, h22, hrs⟩
          obtain ⟨t, htj, tm⟩ := pr_get ht hz
          obtain ⟨ar, ur, rfl, hur, tur⟩ := ra.kp (.of (M := []) sm2)
          have tm4 := tm.kp (.of (M := []) (sm.trans sm2))
          have hurl := pr_len tur
          have hrl := pr_len hrs
          have hrd := rd_len ts (chs ts i) i1 j
          refine ⟨.ref l2, rfl, .inl ⟨rfl, _, SqL.of h22⟩, .ref ar, rfl, z, rfl, line_1 (by show 1 ≤ 100000; omega), fun b nb => ?_⟩
          have s5 : Same H2 (upd H2 b (.tup [z])) := same_new nb
          have done : ∀ {H6 : Hp} {r : Addr} {vs : List V}, Same H2 H6 → SqT K H6 r vs → Tms K H6 vs (row ++ [t]) → H6 l2 = some (.lst rs) ∧ rs.length < sizeLine ∧ Same H0 (upd H6 l2 (.lst (rs ++ [.ref r]))) ∧ (upd H6 l2 (.lst (rs ++ [.ref r]))) l3 = some (.lst ws) ∧
              ∃ rs', (upd H6 l2 (.lst (rs ++ [.ref r]))) l2 = some (.lst rs') ∧ Paired (RowAt K (upd H6 l2 (.lst (rs ++ [.ref r])))) rs' (rd ts (chs ts i) i1 (j + 1)) := fun {H6 r vs} s6 h6 h7 => by
            have k7 : Kp [l2] H6 (upd H6 l2 (.lst (rs ++ [.ref r]))) := .put (by simp) (s6 _ _ h22) True.intro
            refine ⟨s6 _ _ h22, line_0 (by omega), same_put (sm2.trans s6) n2, by rw [upd_ne n32]; exact s6 _ _ h32, _, upd_same, ?_⟩
            rw [rd_step ts _ i1 htj, hrow2]
            exact pr_snoc (rows_kp k7 (rows_kp (.of (M := []) s6) hrs)) ⟨r, vs, rfl, k7.sqt h6, h7.kp k7⟩
          refine ⟨ar, b, ur, [z], rfl, rfl, (Kp.of (M := []) s5).sqt hur, SqT.of upd_same, line_1 (by simp only [List.length_singleton]; omega), fun e => ?_, fun _ e => (nomatch e), fun _ _ r nr => ?_⟩
          · subst e
            obtain ⟨d1, d2, d3, d4, d5⟩ := done s5 (SqT.of upd_same) (by
              rw [pr_nil tur]
              exact .cons (tm4.kp (.of (M := []) s5)) .nil)
            exact ⟨l2, rs, _, rfl, rfl, d1, d2, ⟨_, rfl⟩, d3, d4, d5⟩
          · have k6 : Kp [] (upd H2 b (.tup [z])) (upd (upd H2 b (.tup [z])) r (.tup (ur ++ [z]))) := .new nr
            obtain ⟨d1, d2, d3, d4, d5⟩ := done (s5.trans (same_new nr)) (SqT.of upd_same) (pr_snoc ((tur.kp (.of (M := []) s5)).kp k6) ((tm4.kp (.of (M := []) s5)).kp k6))
            exact ⟨l2, rs, _, rfl, rfl, d1, d2, ⟨_, rfl⟩, d3, d4, d5⟩
        · rintro σ H2 ⟨⟨w6, rfl⟩, sm2, h32, rs, h22, hrs⟩
          rw [pr_len ht, rd_next ts _ hi1] at hrs
          exact ⟨⟨_, _, rfl⟩, sm2, h32, rs, h22, hrs⟩
      · rintro σ H1 ⟨⟨z5, z6, rfl⟩, sm1, h31, rs1, h21, hrs1⟩
        rw [hwl, rd_end] at hrs1
        refine ⟨.ref l2, rfl, l2, rs1, rfl, .inl (SqL.of h21), fun l4 n4 => ⟨l4, _, _, _, _, rs1, rfl, (sm.trans sm1).trans (same_new n4), (sm.trans sm1).free n4, upd_same, rows_kp (.new (M := []) n4) hrs1⟩⟩
    · rintro σ H' ⟨l, y3, y4, y5, y6, ws, rfl, sm, nl, hL, hw⟩
      exact ⟨_, rfl, q H' l ws sm nl hL hw⟩
end
end K23

set_option Elab.async false
set_option linter.all false
set_option maxRecDepth 100000
set_option maxHeartbeats 4000000
/-! The law's levels and facts. -/
namespace K23
open PySem PySem.Spec PyProof.Rows L2
/-- an instance of the law: the premises' texts, the fact, its text -/
def InsL (K : PySem.W.Frag) (N : List Addr) (H : Hp) (v : V) (i : Ins) : Prop :=
  ∃ (a : Addr) (c : V) (l : Addr), v = .ref a ∧ SqT K H a [.ref l, c, .str (tx i.concl)] ∧ Tm K H c i.concl ∧ l ∉ N ∧ H l = some (.lst (i.prem.map fun t => .str (tx t)))
theorem InsL.kp {K : PySem.W.Frag} {N M : List Addr} {H H' : Hp} {v : V} {i : Ins} (k : Kp M H H') (hm : ∀ b ∈ M, b ∈ N) (h : InsL K N H v i) : InsL K N H' v i := by
  obtain ⟨a, c, l, e, h1, h2, h3, h4⟩ := h
  exact ⟨a, c, l, e, k.sqt h1, h2.kp k, h3, k.all _ _ (fun z => h3 (hm l z)) h4⟩
theorem insL_kp {K : PySem.W.Frag} {N M : List Addr} {H H' : Hp} {vs : List V} {is : List Ins} (k : Kp M H H') (hm : ∀ b ∈ M, b ∈ N) (h : Paired (InsL K N H) vs is) : Paired (InsL K N H') vs is := pr_map h fun _ _ q => q.kp k hm
theorem InsL.new {K : PySem.W.Frag} {N : List Addr} {D : Addr} {H : Hp} {v : V} {i : Ins} (n : H D = none) (h : InsL K N H v i) : InsL K (D :: N) H v i := by
  obtain ⟨a, c, l, e, h1, h2, h3, h4⟩ := h
  exact ⟨a, c, l, e, h1, h2, by rw [List.mem_cons, not_or]; exact ⟨ne_of_none h4 n, h3⟩, h4⟩
theorem InsL.weak {K : PySem.W.Frag} {N M : List Addr} {H : Hp} {v : V} {i : Ins} (hm : ∀ b ∈ M, b ∈ N) (h : InsL K N H v i) : InsL K M H v i := by
  obtain ⟨a, c, l, e, h1, h2, h3, h4⟩ := h
  exact ⟨a, c, l, e, h1, h2, fun z => h3 (hm l z), h4⟩
/-- texts as keys -/
abbrev KeyT (kv : Key × V) (c : T) : Prop := kv.1 = .inr (tx c)
theorem key_val (x : Str) : ∀ {kvs : List (Key × V)} {cs : List T}, Paired KeyT kvs cs → (valV kvs (.inr x)).isSome = hasT cs x
  | _, _, .nil => rfl
  | _, _, .cons (a := kv) (b := c) e t => by
    have ih := key_val x t
    have e : kv.1 = .inr (tx c) := e
    unfold hasT at ih ⊢
    rw [List.any_cons]
    by_cases h : tx c = x
    · rw [valV_pos (by rw [e, h]), decide_eq_true h]
      rfl
    · rw [valV_neg (fun z => h (by rw [e] at z; injection z)), ih, decide_eq_false h]
      rfl
theorem usable_len (cs : List T) (ps : List T) : decide (V.int (((ps.filter fun t => !hasT cs (tx t)).length : Nat) : Int) = V.int 0) = ps.all fun p => hasT cs (tx p) := by
  induction ps with
  | nil => rfl
  | cons p ps ih =>
    rw [List.all_cons, ← ih, List.filter_cons]
    cases h : hasT cs (tx p)
    · simp
      omega
    · simp
section
variable {P : Program} {w : World} {K : PySem.W.Frag} {mg : Str → Option Value} {base : Heap}
abbrev P37 : List Str := ["_law_rules", "_law_terms", "_law_height"]
abbrev N37 : List Str := ["_law_rules", "_law_terms", "_law_height", "_law_instances", "_law_rule", "_law_row", "_law_table_here", "_law_fact", "_law_facts_here", "_law_levels_here", "_law_k", "_law_fresh", "_law_instance", "_law_atom_here", "_law_key"]
theorem sc37 : FnScope N37 P37 (defScope (topS 37)) := ⟨rfl, rfl, rfl, by decide +kernel, rfl, by decide +kernel, by decide +kernel⟩
/-- what is asked, in lists -/
def GivenL (K : PySem.W.Frag) (H : Hp) (a b : Addr) (xs us : List V) (rs : List Rl) (ts : List T) : Prop :=
  SqL K H a xs ∧ Paired (RuleAt K H) xs rs ∧ SqL K H b us ∧ Tms K H us ts ∧ TGood ts ∧ (∀ r ∈ rs, RGood r) ∧ rs.length ≤ 20
def spLevels (K : PySem.W.Frag) : Sp := fun vs H Q _ => ∃ (a b : Addr) (n : Nat) (xs us : List V) (rs : List Rl) (ts : List T), vs = [.ref a, .ref b, .int n] ∧ n ≤ 6 ∧ GivenL K H a b xs us rs ts ∧
  ∀ H' p fp d fs cs, Same H H' → H' p = some (.lst [.ref fp, .ref d]) → H' fp = some (.lst fs) → Tms K H' fs cs → Kn (MemI ts (rs ++ [reflR])) n cs → cs.length ≤ 10000 → Q (.ref p) H'
theorem ok_levels {f fV fR fC fT : Addr} {fd fdV fdR fdC fdT : FuncData} {k : Nat} (F : FnP K "_law_levels" 37 f fd)
    (FV : FnP K "_law_variables" 27 fV fdV) (GV : FnOk P w K mg base CX0 k fV fdV ["_law_terms"] (spVarsOf K 10 true)) (gV : mg "_law_variables" = some (.ref fV))
    (FR : FnP K "_law_replaced" 25 fR fdR) (GR : FnOk P w K mg base CX0 k fR fdR ["_law_term_here", "_law_table_here"] (spRep K 10)) (gR : mg "_law_replaced" = some (.ref fR))
    (FC : FnP K "_law_choices" 34 fC fdC) (GC : FnOk P w K mg base CX0 k fC fdC ["_law_terms", "_law_many"] (spChsL K)) (gC : mg "_law_choices" = some (.ref fC))
    (FT : FnP K "_law_table" 33 fT fdT) (GT : FnOk P w K mg base CX0 k fT fdT ["_law_terms"] (spTable K)) (gT : mg "_law_table" = some (.ref fT))
    (mr : mg "range" = none) (ml : mg "list" = none) (mn : mg "len" = none) (mre : mg "repr" = none) : FnG P w K mg base (k + 1) f fd P37 (spLevels K) := by
  have bV : Binds K fdV ["_law_terms"] [] := FV.bindsN fun _ _ _ _ _ _ us hl => match us, hl with | [_], _ => rfl
  have bR : Binds K fdR ["_law_term_here", "_law_table_here"] [] := FR.bindsN fun _ _ _ _ _ _ us hl => match us, hl with | [_, _], _ => rfl
  have bC : Binds K fdC ["_law_terms", "_law_many"] [] := FC.bindsN fun _ _ _ _ _ _ us hl => match us, hl with | [_, _], _ => rfl
  have bT : Binds K fdT ["_law_terms"] [] := FT.bindsN fun _ _ _ _ _ _ us hl => match us, hl with | [_], _ => rfl
  refine F.goG sc37 (fun vs H Q E h => ?_) (fun cdv A outer s H vs Q E hr hg h => ?_)
  · obtain ⟨a, b, n, xs, us, rs, ts, rfl, _⟩ := h
    rfl
  · obtain ⟨a, b, n, xs, us, rs, ts, rfl, hn, ⟨hs, hrs, hb, hu, tg, rg, hrl⟩, q⟩ := h
    refine ⟨_, PSs.nox (pss_cons (ps_set (i := 3) sc37.nd rfl (.inl rfl) (pe_lst pa_nil))
      (pss_cons (ps_for PassesOwn.never rfl (pi_list (pe_op op_cat (pe_callTy call_list_of (by rfl) ml (by decide +kernel) (pa_cons (pv 0) pa_nil))
          (pe_lst (pa_cons (pe_tup (pa_cons pe_str (pa_cons (pe_tup pa_nil) (pa_cons (pe_tup (pa_cons pe_str (pa_cons pe_int (pa_cons pe_int pa_nil)))) pa_nil)))) pa_nil)))) (pg_name (i := 4) sc37.nd rfl (.inl rfl))
        (pss_one (ps_for PassesOwn.never rfl (pi_list (pe_call GC hr rfl gC FC.kp bC .nil pass0 (pa_cons (pv 1) (pa_cons (pe_callB call_len_seq (by rfl) mn PySem.boot_len (pa_cons (pe_call GV hr rfl gV FV.kp bV .nil pass0 (pa_cons
            (pe_op op_catA (pe_tup (pa_cons (pe_ix ix_tup (pv 4) pe_int (fun _ _ => rfl)) pa_nil)) (pe_ix ix_tup (pv 4) pe_int (fun _ _ => rfl))) pa_nil)) pa_nil)) pa_nil)))) (pg_name (i := 5) sc37.nd rfl (.inl rfl))
          (pss_cons (ps_set (i := 6) sc37.nd rfl (.inr rfl) (pe_call GT hr rfl gT FT.kp bT .nil pass0 (pa_cons (pv 5) pa_nil)))
          (pss_cons (ps_set (i := 7) sc37.nd rfl (.inl rfl) (pe_call GR hr rfl gR FR.kp bR .nil pass0 (pa_cons (pe_ix ix_tup (pv 4) pe_int (fun _ _ => rfl)) (pa_cons (pv 6) pa_nil))))
          (pss_one (ps_expr (pe_bm PySem.F.plainAttrs_list PySem.F.slot_list_append PySem.F.type_list_append mt_append (pv 3) (pa_cons (pe_tup (pa_cons
            (pe_lc (own := [("_law_atom_here", 13)]) (g := gName 13) (tt := tYes) rfl sc37.nd (pi_tup (pe_ix ix_tup (pv 4) pe_int (fun _ _ => rfl)))
              (blkOk_by (N := N37) (sc := defScope (topS 37)) (by decide +kernel)) (fun _ _ _ _ _ => pg_name (i := 13) sc37.nd rfl (.inl rfl)) (fun _ _ _ _ _ => pts_nil)
              (fun _ _ _ _ _ => pe_callB (r := rRepr K) (call_reprD hr hg) (by rfl) mre (by decide +kernel) (pa_cons (pe_call GR hr rfl gR FR.kp bR .nil pass0 (pa_cons (pv 13) (pa_cons (pv 6) pa_nil))) pa_nil)))
            (pa_cons (pv 7) (pa_cons (pe_callB (call_reprD hr hg) (by rfl) mre (by decide +kernel) (pa_cons (pv 7) pa_nil)) pa_nil)))) pa_nil)))))))))
      (pss_cons (ps_set (i := 8) sc37.nd rfl (.inl rfl) (pe_lst pa_nil))
      (pss_cons (ps_set (i := 9) sc37.nd rfl (.inr rfl) pe_dnewK)
      (pss_cons (ps_for PassesOwn.never rfl (pi_range1 rfl mr (pa_cons (pv 2) pa_nil)) (pg_name (i := 10) sc37.nd rfl (.inl rfl))
        (pss_cons (ps_set (i := 11) sc37.nd rfl (.inl rfl) (pe_lst pa_nil))
        (pss_cons (ps_for PassesOwn.never rfl (pi_list (pv 3)) (pg_name (i := 12) sc37.nd rfl (.inl rfl))
          (pss_one (ps_if (PW.pt (pw_and (pt_cmp (pc_dnotin (hu_of hr) (pe_ix ix_tup (pv 12) pe_int (fun _ _ => rfl)) (pv 9)) rfl) (pw_and1 (pt_cmpR op_eq (pe_callB call_len_seq (by rfl) mn PySem.boot_len (pa_cons
              (pe_lc (own := [("_law_key", 14)]) (g := gName 14) rfl sc37.nd (pi_list (pe_ix ix_tup (pv 12) pe_int (fun _ _ => rfl)))
                (blkOk_by (N := N37) (sc := defScope (topS 37)) (by decide +kernel)) (fun _ _ _ _ _ => pg_name (i := 14) sc37.nd rfl (.inl rfl)) (fun _ _ _ _ _ => pts_one (pt_cmp (pc_dnotin (hu_of hr) (pv 14) (pv 9)) rfl))
                (fun _ _ _ _ _ => pv 14)) pa_nil)) pe_int (nomark _)))))
            (pss_one (ps_expr (pe_bm PySem.F.plainAttrs_list PySem.F.slot_list_append PySem.F.type_list_append mt_append (pv 11) (pa_cons (pv 12) pa_nil)))) pss_nil)))
        (pss_one (ps_for PassesOwn.never rfl (pi_list (pv 11)) (pg_name (i := 12) sc37.nd rfl (.inl rfl))
          (pss_one (ps_if (pt_cmp (pc_dnotin (hu_of hr) (pe_ix ix_tup (pv 12) pe_int (fun _ _ => rfl)) (pv 9)) rfl)
            (pss_cons (ps_dput (hu_of hr) (pv 9) (pe_ix ix_tup (pv 12) pe_int (fun _ _ => rfl)) (pe_op op_add (pv 10) pe_int) rfl)
            (pss_one (ps_expr (pe_bm PySem.F.plainAttrs_list PySem.F.slot_list_append PySem.F.type_list_append mt_append (pv 8) (pa_cons (pe_ix ix_tup (pv 12) pe_int (fun _ _ => rfl)) pa_nil))))) pss_nil)))))))
      (pss_one (ps_ret (pe_lst (pa_cons (pv 8) (pa_cons (pv 9) pa_nil)))))))))), ?_⟩
    have hxl := pr_len hrs
    have htf := tg.few
    -- instances = []
    refine ⟨line_1 (by show 0 ≤ 100000; omega), fun il nil_ => ?_⟩
    have sI : Same H (upd H il (.lst [])) := same_new nil_
    -- list(rules) + [..]
    refine ⟨.ref a, rfl, a, xs, rfl, .inl (sI.seq hs), fun l1 n1 => ⟨Nat.zero_le _, fun e0 m0 => ⟨line_1 (by show 3 ≤ 100000; omega), fun e1 m1 => ⟨line_1 (by show 3 ≤ 100000; omega), fun e2 m2 => ⟨line_1 (by show 1 ≤ 100000; omega), fun l2 n2 => ?_⟩⟩⟩⟩⟩
    have s1 : Same (upd H il (.lst [])) (upd (upd H il (.lst [])) l1 (.lst xs)) := same_new n1
    generalize hH1 : upd (upd H il (.lst [])) l1 (.lst xs) = H1 at *
    have hl1 : H1 l1 = some (.lst xs) := by rw [← hH1]; exact upd_same
    have s2 : Same H1 (upd H1 e0 (.tup [])) := same_new m0
    have s3 : Same (upd H1 e0 (.tup [])) (upd (upd H1 e0 (.tup [])) e1 (.tup [.str "=", .int 0, .int 0])) := same_new m1
    have s4 : Same (upd (upd H1 e0 (.tup [])) e1 (.tup [.str "=", .int 0, .int 0])) (upd (upd (upd H1 e0 (.tup [])) e1 (.tup [.str "=", .int 0, .int 0])) e2 (.tup [.str "refl", .ref e0, .ref e1])) := same_new m2
    have hE0 : (upd (upd (upd H1 e0 (.tup [])) e1 (.tup [.str "=", .int 0, .int 0])) e2 (.tup [.str "refl", .ref e0, .ref e1])) e0 = some (.tup []) := s4 _ _ (s3 _ _ upd_same)
    have hE1 : (upd (upd (upd H1 e0 (.tup [])) e1 (.tup [.str "=", .int 0, .int 0])) e2 (.tup [.str "refl", .ref e0, .ref e1])) e1 = some (.tup [.str "=", .int 0, .int 0]) := s4 _ _ upd_same
    have hE2 : (upd (upd (upd H1 e0 (.tup [])) e1 (.tup [.str "=", .int 0, .int 0])) e2 (.tup [.str "refl", .ref e0, .ref e1])) e2 = some (.tup [.str "refl", .ref e0, .ref e1]) := upd_same
    have s14 : Same H1 _ := (s2.trans s3).trans s4
    generalize (upd (upd (upd H1 e0 (.tup [])) e1 (.tup [.str "=", .int 0, .int 0])) e2 (.tup [.str "refl", .ref e0, .ref e1])) = H4 at *
    have s5 : Same H4 (upd H4 l2 (.lst [.ref e2])) := same_new n2
    have hl1' : (upd H4 l2 (.lst [.ref e2])) l1 = some (.lst xs) := s5 _ _ (s14 _ _ hl1)
    refine ⟨l1, l2, xs, [.ref e2], rfl, rfl, hl1', upd_same, line_1 (by simp only [List.length_singleton]; omega), fun l3 n3 => ?_⟩
    have s6 : Same (upd H4 l2 (.lst [.ref e2])) (upd (upd H4 l2 (.lst [.ref e2])) l3 (.lst (xs ++ [.ref e2]))) := same_new n3
    have hil4 : H4 il = some (.lst []) := s14 _ _ (s1 _ _ upd_same)
    have sG : Same H _ := ((sI.trans s1).trans s14).trans (s5.trans s6)
    have hG3 : (upd (upd H4 l2 (.lst [.ref e2])) l3 (.lst (xs ++ [.ref e2]))) l3 = some (.lst (xs ++ [.ref e2])) := upd_same
    have hGi : (upd (upd H4 l2 (.lst [.ref e2])) l3 (.lst (xs ++ [.ref e2]))) il = some (.lst []) := s6 _ _ (s5 _ _ hil4)
    have n3il : l3 ≠ il := (ne_of_none (s5 _ _ hil4) n3).symm
    have hpr : Paired (RuleAt K (upd (upd H4 l2 (.lst [.ref e2])) l3 (.lst (xs ++ [.ref e2])))) (xs ++ [.ref e2]) (rs ++ [reflR]) := by
      refine pr_snoc (rules_kp (.of (M := []) sG) hrs) ?_
      have s46 := s5.trans s6
      exact ⟨e2, e0, [], .ref e1, rfl, SqT.of (s46 _ _ hE2), SqT.of (s46 _ _ hE0), .nil, .mk (SqT.of (s46 _ _ hE1)) (.cons (.ofVar 0) (.cons (.ofVar 0) .nil))⟩
    generalize upd (upd H4 l2 (.lst [.ref e2])) l3 (.lst (xs ++ [.ref e2])) = G0 at *
    have rg' : ∀ r ∈ rs ++ [reflR], RGood r := fun r hr => by
      rcases List.mem_append.mp hr with h | h
      · exact rg r h
      · rw [List.mem_singleton.mp h]; exact rgood_refl
    have hlen' : (rs ++ [reflR]).length = rs.length + 1 := by simp
    generalize hrs' : rs ++ [reflR] = rs' at *
    have hplen := pr_len hpr
    have smOf : ∀ {H' : Hp}, Kp [il] G0 H' → Same H H' := fun k => ((Kp.of sG).trans k).drop nil_ |>.same
    refine ⟨l3, rfl, ⟨_, SqL.of hG3⟩, for_list (xs := xs ++ [.ref e2]) (fun i σ H' => (∃ y4 y5 y6 y7, σ = [some (.ref a), some (.ref b), some (.int n), some (.ref il), y4, y5, y6, y7, none, none, none, none, none, none, none]) ∧ Kp [il] G0 H' ∧
        ∃ fs, H' il = some (.lst fs) ∧ Paired (InsL K [il] H') fs (insts ts (rs'.take i)))
      ⟨⟨none, none, none, none, rfl⟩, .refl _ _, [], hGi, .nil⟩ (fun i σ H' _ hh => hh.2.1.sql (by simpa using n3il) (SqL.of hG3)) ?_ ?_⟩
    · rintro i x σ H3 hx ⟨⟨y4, y5, y6, y7, rfl⟩, k3, fs, hil, hfs⟩
      obtain ⟨r, hri, hra⟩ := pr_get hpr hx
      have gr := rg' r (List.mem_of_getElem? hri)
      obtain ⟨ar, br, vr, cr, rfl, h1, h2, h3, h4⟩ := hra.kp k3
      have hvl := pr_len h3
      have hlp := gr.prems
      have gdd := gr.deps
      have gss := gr.sizes
      refine ⟨.ref b, rfl, .ref ar, rfl, ar, _, 2, cr, rfl, rfl, h1, atI_nat (j := 2) rfl, line_1 (by show 1 ≤ 100000; omega), fun p np => ?_⟩
      have k4 : Kp [] H3 (upd H3 p (.tup [cr])) := .new np
      refine ⟨.ref ar, rfl, ar, _, 1, .ref br, rfl, rfl, k4.sqt h1, atI_nat (j := 1) rfl, cat1 (SqT.of upd_same) (k4.sqt h2) (by omega) fun H5 r5 sx5 hx5 => ?_⟩
      have k35 : Kp [] H3 H5 := k4.trans (.of sx5)
      refine ⟨r5, _, _, rfl, by rw [if_pos rfl]; exact hx5, .cons (h4.kp k35) (h3.kp k35), gdd, gss, fun H6 pq s6' npq hpq => ?_⟩
      have k36 : Kp [] H3 H6 := k35.trans (.of s6')
      have sm6 := smOf (k3.trans (.of k36.same))
      refine ⟨pq, _, rfl, .inl (SqL.of hpq), b, nv r, us, ts, by rw [List.length_map]; rfl, gr.few, sm6.seq hb, hu.kp (.of (M := []) sm6), tg.few, fun H7 pr rws s7 npr hpr7 hrws => ?_⟩
      have k37 : Kp [] H3 H7 := k36.trans (.of s7)
      have nprfl : pr ≠ il := (ne_of_none (k36.same _ _ hil) npr).symm
      have hr27 : (chs ts (nv r)).length ≤ 27 := by rw [chs_len]; exact pow27 tg gr
      have hlenI := insts_len tg (rs := rs'.take i) fun r hr => rg' r (List.mem_of_mem_take hr)
      rw [List.length_take] at hlenI
      refine ⟨pr, rfl, ⟨rws, SqL.of hpr7⟩, for_list (xs := rws) (fun j σ H' => (∃ y5 y6 y7, σ = [some (.ref a), some (.ref b), some (.int n), some (.ref il), some (.ref ar), y5, y6, y7, none, none, none, none, none, none, none]) ∧ Kp [il] H7 H' ∧
          ∃ fs, H' il = some (.lst fs) ∧ Paired (InsL K [il] H') fs (insts ts (rs'.take i) ++ ((chs ts (nv r)).take j).map (insOf r)))
        ⟨⟨y5, y6, y7, rfl⟩, .refl _ _, fs, k37.same _ _ hil, by rw [List.take_zero, List.map_nil, List.append_nil]; exact insL_kp k37 (by simp) hfs⟩ (fun j σ H' _ hh => hh.2.1.sql (by simpa using nprfl) (SqL.of hpr7)) ?_ ?_⟩
      · rintro j x2 σ H8 hx2 ⟨⟨z5, z6, z7, rfl⟩, k8, gs, hgl, hgs⟩
        obtain ⟨row, hrow, hra2⟩ := pr_get hrws hx2
        have hmem := List.mem_of_getElem? hrow
        have ig := igood gr tg hmem
        have k38 : Kp [il] H3 H8 := (Kp.of k37.same).trans k8
        obtain ⟨aw, uw, rfl, haw, huw⟩ := hra2.kp k8
        have huwl : uw.length ≤ 1000 := by rw [pr_len huw, (chs_row.mp hmem).1]; have := gr.few; omega
        have sc := gr.small r.concl List.mem_cons_self
        -- the table
        refine ⟨.ref aw, rfl, aw, uw, row, rfl, haw, huw, huwl, fun H9 d s9 nd9 hT => ?_⟩
        have k39 : Kp [il] H3 H9 := k38.trans (.of s9)
        -- the fact
        refine ⟨.ref ar, rfl, ar, _, 2, cr, rfl, rfl, k39.sqt h1, atI_nat (j := 2) rfl, .ref d, rfl, cr, d, r.concl, (fun n => row[n]?), rfl, h4.kp k39, sc.2, by omega, hT, fun H10 fc s10 hfc => ?_⟩
        have k310 : Kp [il] H3 H10 := k39.trans (.of s10)
        have hfc : Tm K H10 fc (inst row r.concl) := hfc
        have hgl10 : H10 il = some (.lst gs) := s10 _ _ (s9 _ _ hgl)
        -- instances.append(..)
        refine ⟨.ref il, rfl, .inl ⟨rfl, _, SqL.of hgl10⟩, .ref ar, rfl, ar, _, 1, .ref br, rfl, rfl, k310.sqt h1, atI_nat (j := 1) rfl, br, rfl, ⟨vr, k310.sqt h2⟩, fun tl ntl => lc_tup (xs := vr) (fun m H' => Same H10 H' ∧ H' tl = some (.lst ((r.prem.take m).map fun t => .str (tx (inst row t)))))
          ⟨same_new ntl, upd_same⟩ (fun m H' _ hh => (Kp.of (M := []) hh.1).sqt (k310.sqt h2)) ?_ ?_⟩
        · rintro m x3 H11 hx3 ⟨s11, htl⟩
          obtain ⟨t, ht, htm⟩ := pr_get h3 hx3
          have hmt := List.mem_of_getElem? ht
          have sp := gr.small t (List.mem_cons_of_mem _ hmt)
          have k311 : Kp [il] H3 H11 := k310.trans (.of s11)
          have hti : inst row t ∈ (insOf r row).concl :: (insOf r row).prem := List.mem_cons_of_mem _ (List.mem_map.mpr ⟨t, hmt, rfl⟩)
          refine ⟨rfl, x3, rfl, .ref d, rfl, x3, d, t, (fun n => row[n]?), rfl, htm.kp k311, sp.2, by omega, hT.kp (.of (M := []) (s10.trans s11)) (by simp), fun H12 u12 s12 h12 => ?_⟩
          have h12 : Tm K H12 u12 (inst row t) := h12
          obtain ⟨au, rfl, p1, p2, p3, p4, p5⟩ := repr_parts h12 (ig.gd _ hti) (by have := ig.small _ hti; omega) (by have := ig.small _ hti; omega)
          refine ⟨au, _, rfl, p1, p2, p3, p4, p5, _, s12 _ _ htl, ?_, same_put (s11.trans s12) ntl, ?_⟩
          · rw [List.length_map, List.length_take]
            exact line_big (by omega)
          · rw [upd_same, take_snoc ht, List.map_append]
            rfl
        rintro H11 ⟨s11, htl⟩
        rw [pr_len h3, List.take_length] at htl
        have hgl11 : H11 il = some (.lst gs) := s11 _ _ hgl10
        have ntlil : tl ≠ il := (ne_of_none hgl10 ntl).symm
        have hfc11 : Tm K H11 fc (inst row r.concl) := hfc.kp (.of (M := []) s11)
        have hci : inst row r.concl ∈ (insOf r row).concl :: (insOf r row).prem := List.mem_cons_self
        obtain ⟨afc, rfl, p1, p2, p3, p4, p5⟩ := repr_parts hfc11 (ig.gd _ hci) (by have := ig.small _ hci; omega) (by have := ig.small _ hci; omega)
        refine ⟨.ref afc, rfl, .ref afc, rfl, afc, _, rfl, p1, p2, p3, p4, p5, line_1 (by show 3 ≤ 100000; omega), fun ia nia => ?_⟩
        have k12 : Kp [il] H11 (upd H11 ia (.tup [.ref tl, .ref afc, .str (tx (inst row r.concl))])) := .new nia
        have hgl12 := k12.same_at hgl11 nia
        have hgslen := pr_len hgs
        rw [List.length_append, List.length_map, List.length_take] at hgslen
        refine ⟨il, gs, _, rfl, rfl, hgl12, line_big (by omega), ⟨_, _, _, rfl⟩, ?_, _, upd_same, ?_⟩
        · exact ((k8.trans (.of ((s9.trans s10).trans s11))).trans k12).trans (.put (by simp) hgl12 True.intro)
        · have k13 : Kp [il] (upd H11 ia (.tup [.ref tl, .ref afc, .str (tx (inst row r.concl))])) (upd (upd H11 ia (.tup [.ref tl, .ref afc, .str (tx (inst row r.concl))])) il (.lst (gs ++ [.ref ia]))) := .put (by simp) hgl12 True.intro
          rw [take_snoc hrow, List.map_append, ← List.append_assoc]
          refine pr_snoc (insL_kp k13 (by simp) (insL_kp k12 (by simp) (insL_kp (.of (M := []) ((s9.trans s10).trans s11)) (by simp) hgs))) ?_
          refine ⟨ia, .ref afc, tl, rfl, k13.sqt (SqT.of upd_same), (hfc11.kp k12).kp k13, by simpa using ntlil, ?_⟩
          rw [upd_ne ntlil, upd_ne (ne_of_none htl nia), htl]
          show _ = some (HO.lst ((r.prem.map (inst row)).map fun t => V.str (tx t)))
          rw [List.map_map]
          rfl
      · rintro σ H8 ⟨⟨z5, z6, z7, rfl⟩, k8, gs, hgl, hgs⟩
        rw [pr_len hrws, List.take_length] at hgs
        refine ⟨⟨_, _, _, _, rfl⟩, (k3.trans (.of k37.same)).trans k8, gs, hgl, ?_⟩
        rw [insts_snoc hri]
        exact hgs
    · rintro σ G1 ⟨⟨y4, y5, y6, y7, rfl⟩, kG, fs, hil, hfs⟩
      rw [hplen, List.take_length] at hfs
      have ig : ∀ i ∈ insts ts rs', IGood i := insts_good rg' tg
      have hil6 := insts_len tg rg'
      have hI : ∀ j, j ∈ insts ts rs' ↔ MemI ts rs' j := fun _ => Iff.rfl
      generalize insts ts rs' = is at hfs ig hil6 hI
      have hfl := pr_len hfs
      -- facts_here = [], levels_here = {}
      refine ⟨line_1 (by show 0 ≤ 100000; omega), fun fl nfl => fun d nd => ?_⟩
      have t1 : Same G1 (upd G1 fl (.lst [])) := same_new nfl
      have t2 : Same (upd G1 fl (.lst [])) (upd (upd G1 fl (.lst [])) d (.dK [])) := same_new nd
      have nfd : fl ≠ d := ne_of_none upd_same nd
      have nd1 : G1 d = none := t1.free nd
      have hfl2 : (upd (upd G1 fl (.lst [])) d (.dK [])) fl = some (.lst []) := t2 _ _ upd_same
      have hd2 : (upd (upd G1 fl (.lst [])) d (.dK [])) d = some (.dK []) := upd_same
      have hil2 : (upd (upd G1 fl (.lst [])) d (.dK [])) il = some (.lst fs) := t2 _ _ (t1 _ _ hil)
      have hfs2 : Paired (InsL K [d, fl] (upd (upd G1 fl (.lst [])) d (.dK []))) fs is := by
        refine pr_map hfs fun v i q => ?_
        have q1 : InsL K [fl] G1 v i := (q.weak (M := []) (by simp)).new nfl
        have q2 : InsL K [d, fl] (upd G1 fl (.lst [])) v i := (q1.kp (.of (M := []) t1) (by simp)).new nd
        exact q2.kp (.of (M := []) t2) (by simp)
      have t12 := t1.trans t2
      generalize upd (upd G1 fl (.lst [])) d (.dK []) = G2 at *
      have nfil : il ≠ fl := ne_of_none hil nfl
      have ndil : il ≠ d := ne_of_none hil nd1
      refine ⟨.int n, rfl, n, rfl, by omega, by omega, ?_⟩
      have en : ((n : Nat) : Int).toNat = n := by omega
      rw [en]
      refine for_range (n := n) (fun i σ H' => (∃ y4 y5 y6 y7 y10 y11 y12, σ = [some (.ref a), some (.ref b), some (.int n), some (.ref il), y4, y5, y6, y7, some (.ref fl), some (.ref d), y10, y11, y12, none, none]) ∧ Kp [d, fl] G2 H' ∧
          ∃ kvs vs cs, H' d = some (.dK kvs) ∧ Paired KeyT kvs cs ∧ H' fl = some (.lst vs) ∧ Tms K H' vs cs ∧ Kn (MemI ts rs') i cs ∧ cs.length ≤ i * 600)
        ⟨⟨y4, y5, y6, y7, none, none, none, rfl⟩, .refl _ _, [], [], [], hd2, .nil, hfl2, .nil, kn_zero _, by simp⟩ ?_ ?_
      · rintro i σ H2 hi ⟨⟨z4, z5, z6, z7, z10, z11, z12, rfl⟩, k2, kvs, vs, cs, hdd, hkv, hff, hvs, kn, hcl⟩
        have hils : H2 il = some (.lst fs) := k2.all _ _ (by simp only [List.mem_cons, List.not_mem_nil, or_false, not_or]; exact ⟨ndil, nfil⟩) hil2
        have hfs3 := insL_kp k2 (by simp) hfs2
        have i6 : i * 600 ≤ 5 * 600 := Nat.mul_le_mul_right _ (by omega)
        -- fresh = []
        refine ⟨line_1 (by show 0 ≤ 100000; omega), fun fr nfr => ?_⟩
        have s3 : Same H2 (upd H2 fr (.lst [])) := same_new nfr
        have hfs4 : Paired (InsL K [fr, d, fl] H2) fs is := pr_map hfs3 fun v i q => q.new nfr
        refine ⟨.ref il, rfl, il, rfl, ⟨fs, SqL.of (s3 _ _ hils)⟩, for_list (xs := fs) (fun j σ H' => (∃ y12, σ = [some (.ref a), some (.ref b), some (.int n), some (.ref il), z4, z5, z6, z7, some (.ref fl), some (.ref d), some (.int (0 + i)), some (.ref fr), y12, none, none]) ∧ Same H2 H' ∧
            ∃ ws, H' fr = some (.lst ws) ∧ Paired (InsL K [fr, d, fl] H') ws ((is.take j).filter (fresh cs)))
          ⟨⟨_, rfl⟩, s3, [], upd_same, .nil⟩ (fun j σ H' _ hh => hh.2.1.seq (SqL.of hils)) ?_ ?_⟩
        · rintro j x σ H3 hx ⟨⟨y12, rfl⟩, s4, ws, hws, hwp⟩
          obtain ⟨ii, hii, hia⟩ := pr_get hfs4 hx
          have gi := ig ii (List.mem_of_getElem? hii)
          have hia3 := hia.kp (.of (M := []) s4) (by simp)
          obtain ⟨ai, c, l, rfl, h1, h2, h3, h4⟩ := id hia3
          have hd3 : H3 d = some (.dK kvs) := s4 _ _ hdd
          have hwl := pr_len hwp
          have hfw : ((is.take j).filter (fresh cs)).length ≤ (is.take j).length := List.length_filter_le _ _
          rw [List.length_take] at hfw
          refine ⟨.ref ai, rfl, ai, _, 2, .str (tx ii.concl), rfl, rfl, h1, atI_nat (j := 2) rfl, .ref d, rfl, d, _, rfl, DGet.k (k := .inr (tx ii.concl)) hd3, _, rfl, ?_⟩
          rw [key_val _ hkv]
          cases hh : hasT cs (tx ii.concl) with
          | true =>
            refine iteF (iteF ⟨⟨_, rfl⟩, s4, ws, hws, ?_⟩)
            have ef : fresh cs ii = false := by unfold fresh; rw [hh]; rfl
            rw [filter_snoc hii, ef]
            simpa using hwp
          | false =>
            refine iteT ?_
            refine ⟨.ref ai, rfl, ai, _, 0, .ref l, rfl, rfl, h1, atI_nat (j := 0) rfl, l, rfl, ⟨_, SqL.of h4⟩, fun D2 nD2 => lc_list (xs := ii.prem.map fun t => .str (tx t))
              (fun m H' => Same H3 H' ∧ H' D2 = some (.lst (((ii.prem.take m).filter fun t => !hasT cs (tx t)).map fun t => .str (tx t))))
              ⟨same_new nD2, upd_same⟩ (fun m H' _ hh => hh.1.seq (SqL.of h4)) ?_ ?_⟩
            · rintro m x3 H4 hx3 ⟨s5, hD2⟩
              rw [List.getElem?_map] at hx3
              cases ht : ii.prem[m]? with
              | none => rw [ht] at hx3; cases hx3
              | some t =>
                rw [ht] at hx3
                have ex3 : V.str (tx t) = x3 := Option.some.inj hx3
                subst ex3
                have hd4 : H4 d = some (.dK kvs) := s5 _ _ hd3
                refine ⟨rfl, .str (tx t), rfl, .ref d, rfl, d, _, rfl, DGet.k (k := .inr (tx t)) hd4, _, rfl, ?_⟩
                rw [key_val _ hkv]
                cases hq : hasT cs (tx t) with
                | true =>
                  refine iteF ⟨s5, ?_⟩
                  rw [filter_snoc ht, hq]
                  simpa using hD2
                | false =>
                  refine iteT ⟨.str (tx t), rfl, _, hD2, ?_, same_put s5 nD2, ?_⟩
                  · have h5 := gi.few
                    have h6 : ((ii.prem.take m).filter fun t => !hasT cs (tx t)).length ≤ (ii.prem.take m).length := List.length_filter_le _ _
                    rw [List.length_take] at h6
                    rw [List.length_map]
                    exact line_big (by omega)
                  · rw [upd_same, filter_snoc ht, hq, List.map_append]
                    rfl
            · rintro H4 ⟨s5, hD2⟩
              rw [List.length_map, List.take_length] at hD2
              refine ⟨D2, _, rfl, .inl (SqL.of hD2), rfl, _, rfl, ?_⟩
              rw [List.length_map, usable_len]
              have hw4 : H4 fr = some (.lst ws) := s5 _ _ hws
              have hwp4 := insL_kp (.of (M := []) s5) (by simp) hwp
              have efr : fresh cs ii = ii.prem.all fun p => hasT cs (tx p) := by unfold fresh usable; rw [hh]; rfl
              rw [← efr]
              cases hu2 : fresh cs ii with
              | true =>
                refine iteT ⟨.ref fr, rfl, .inl ⟨rfl, _, SqL.of hw4⟩, .ref ai, rfl, fr, ws, _, rfl, rfl, hw4, line_big (by omega), ⟨_, rfl⟩, same_put (s4.trans s5) nfr, _, upd_same, ?_⟩
                rw [filter_snoc hii, hu2]
                have k5 : Kp [fr] H4 (upd H4 fr (.lst (ws ++ [.ref ai]))) := .put (by simp) hw4 True.intro
                exact pr_snoc (insL_kp k5 (by simp) hwp4) ((hia3.kp (.of (M := []) s5) (by simp)).kp k5 (by simp))
              | false =>
                refine iteF ⟨⟨_, rfl⟩, s4.trans s5, ws, hw4, ?_⟩
                rw [filter_snoc hii, hu2]
                simpa using hwp4
        · rintro σ H3 ⟨⟨y12, rfl⟩, s4, ws, hws, hwp⟩
          rw [hfl, List.take_length] at hwp
          have hwl := pr_len hwp
          have hfw : (is.filter (fresh cs)).length ≤ is.length := List.length_filter_le _ _
          have hd3 : H3 d = some (.dK kvs) := s4 _ _ hdd
          have hf3 : H3 fl = some (.lst vs) := s4 _ _ hff
          have nfrd : fr ≠ d := (ne_of_none hdd nfr).symm
          have nfrf : fr ≠ fl := (ne_of_none hff nfr).symm
          refine ⟨.ref fr, rfl, fr, rfl, ⟨ws, SqL.of hws⟩, for_list (xs := ws) (fun m σ H' => (∃ y12, σ = [some (.ref a), some (.ref b), some (.int n), some (.ref il), z4, z5, z6, z7, some (.ref fl), some (.ref d), some (.int (0 + i)), some (.ref fr), y12, none, none]) ∧ Kp [d, fl] H3 H' ∧
              ∃ kvs' vs', H' d = some (.dK kvs') ∧ Paired KeyT kvs' (addAll cs ((is.filter (fresh cs)).take m)) ∧ H' fl = some (.lst vs') ∧ Tms K H' vs' (addAll cs ((is.filter (fresh cs)).take m)))
            ⟨⟨_, rfl⟩, .refl _ _, kvs, vs, hd3, hkv, hf3, Tms.kp (.of (M := []) s4) _ hvs⟩ (fun m σ H' _ hh => hh.2.1.sql (by simp only [List.mem_cons, List.not_mem_nil, or_false, not_or]; exact ⟨nfrd, nfrf⟩) (SqL.of hws)) ?_ ?_⟩
          · rintro m x σ H4 hx ⟨⟨w12, rfl⟩, k4, kvs', vs', hd4, hkv4, hf4, hvs4⟩
            obtain ⟨ii, hii, hia⟩ := pr_get hwp hx
            have hia4 := hia.kp k4 (by simp)
            obtain ⟨ai, c, l, rfl, h1, h2, h3, h4⟩ := id hia4
            have hl1 := addAll_len ((is.filter (fresh cs)).take m) cs
            rw [List.length_take] at hl1
            have hkl := pr_len hkv4
            have hvl4 := pr_len hvs4
            have e3 : addAll cs ((is.filter (fresh cs)).take (m + 1)) = addT (addAll cs ((is.filter (fresh cs)).take m)) ii.concl := by rw [take_snoc hii, addAll_snoc]
            have ev := key_val (tx ii.concl) hkv4
            refine ⟨.ref ai, rfl, ai, _, 2, .str (tx ii.concl), rfl, rfl, h1, atI_nat (j := 2) rfl, .ref d, rfl, d, _, rfl, DGet.k (k := .inr (tx ii.concl)) hd4, _, rfl, ?_⟩
            rw [ev, e3]
            unfold addT
            cases hh : hasT (addAll cs ((is.filter (fresh cs)).take m)) (tx ii.concl) with
            | true => exact iteF ⟨⟨_, rfl⟩, k4, kvs', vs', hd4, hkv4, hf4, hvs4⟩
            | false =>
              rw [hh] at ev
              have hnone : valV kvs' (.inr (tx ii.concl)) = none := by
                cases q : valV kvs' (.inr (tx ii.concl)) with
                | none => rfl
                | some u => rw [q] at ev; cases ev
              refine iteT ⟨.int _, rfl, _, _, rfl, rfl, .ref d, rfl, .ref ai, rfl, ai, _, 2, .str (tx ii.concl), rfl, rfl, h1, atI_nat (j := 2) rfl, d, _, rfl, DPut.k (k := .inr (tx ii.concl)) hd4 (line_big (by omega)), ?_⟩
              rw [putK_new _ hnone]
              have k5 : Kp [d, fl] H4 (upd H4 d (.dK (kvs' ++ [(.inr (tx ii.concl), .int (0 + i + 1))]))) := .put (by simp) hd4 True.intro
              have hf5 : (upd H4 d (.dK (kvs' ++ [(.inr (tx ii.concl), .int (0 + i + 1))]))) fl = some (.lst vs') := by rw [upd_ne nfd]; exact hf4
              have hd5 : (upd H4 d (.dK (kvs' ++ [(.inr (tx ii.concl), .int (0 + i + 1))]))) d = some (.dK (kvs' ++ [(.inr (tx ii.concl), .int (0 + i + 1))])) := upd_same
              generalize upd H4 d (.dK (kvs' ++ [(.inr (tx ii.concl), .int (0 + i + 1))])) = H5 at *
              refine ⟨.ref fl, rfl, .inl ⟨rfl, _, SqL.of hf5⟩, .ref ai, rfl, ai, _, 1, c, rfl, rfl, k5.sqt h1, atI_nat (j := 1) rfl, fl, vs', _, rfl, rfl, hf5, line_big (by omega), ⟨_, rfl⟩, ?_, kvs' ++ [(.inr (tx ii.concl), .int (0 + i + 1))], vs' ++ [c], ?_, pr_snoc hkv4 rfl, upd_same, ?_⟩
              · exact (k4.trans k5).trans (.put (by simp) hf5 True.intro)
              · rw [upd_ne nfd.symm]; exact hd5
              · have k6 : Kp [d, fl] H5 (upd H5 fl (.lst (vs' ++ [c]))) := .put (by simp) hf5 True.intro
                exact pr_snoc (Tms.kp k6 _ (Tms.kp k5 _ hvs4)) (Tm.kp k6 _ (Tm.kp k5 _ h2))
          · rintro σ H4 ⟨⟨w12, rfl⟩, k4, kvs', vs', hd4, hkv4, hf4, hvs4⟩
            rw [hwl, List.take_length] at hkv4 hvs4
            have hl1 := addAll_len (is.filter (fresh cs)) cs
            refine ⟨⟨_, _, _, _, _, _, _, rfl⟩, (k2.trans (.of s4)).trans k4, kvs', vs', roundL is cs, hd4, hkv4, hf4, hvs4, kn_roundL hI ig kn, ?_⟩
            have e4 : (roundL is cs).length ≤ cs.length + (is.filter (fresh cs)).length := hl1
            rw [Nat.add_mul]
            omega
      · rintro σ H2 ⟨⟨z4, z5, z6, z7, z10, z11, z12, rfl⟩, k2, kvs, vs, cs, hdd, hkv, hff, hvs, kn, hcl⟩
        have i6 : n * 600 ≤ 6 * 600 := Nat.mul_le_mul_right _ hn
        refine ⟨.ref fl, rfl, .ref d, rfl, line_1 (by show 2 ≤ 100000; omega), fun p np => ?_⟩
        have k3 : Kp [] H2 (upd H2 p (.lst [.ref fl, .ref d])) := .new np
        have kk : Same G1 H2 := (((Kp.of t12).trans k2).drop nd1).drop nfl |>.same
        refine q _ p fl d vs cs (((smOf kG).trans kk).trans k3.same) upd_same (k3.same _ _ hff) (hvs.kp k3) kn (by omega)
end
end K23

set_option Elab.async false
set_option linter.all false
set_option maxRecDepth 100000
set_option maxHeartbeats 4000000
/-! The law's facts; likeness of tuples of facts. -/
namespace K23
open PySem PySem.Spec PyProof.Rows L2
section
variable {P : Program} {w : World} {K : PySem.W.Frag} {mg : Str → Option Value} {base : Heap}
theorem sc38 : FnScope P37 P37 (defScope (topS 38)) := ⟨rfl, rfl, rfl, by decide +kernel, rfl, by decide +kernel, by decide +kernel⟩
def spFactsL (K : PySem.W.Frag) : Sp := fun vs H Q _ => ∃ (a b : Addr) (n : Nat) (xs us : List V) (rs : List Rl) (ts : List T), vs = [.ref a, .ref b, .int n] ∧ n ≤ 6 ∧ GivenL K H a b xs us rs ts ∧
  ∀ H' fp fs cs, Same H H' → H' fp = some (.lst fs) → Tms K H' fs cs → Kn (MemI ts (rs ++ [reflR])) n cs → cs.length ≤ 10000 → Q (.ref fp) H'
theorem ok_factsL {f fV : Addr} {fd fdV : FuncData} {k : Nat} (F : FnP K "_law_facts" 38 f fd) (FV : FnP K "_law_levels" 37 fV fdV) (GV : FnG P w K mg base k fV fdV P37 (spLevels K)) (gV : mg "_law_levels" = some (.ref fV)) : FnG P w K mg base (k + 1) f fd P37 (spFactsL K) := by
  have bV : Binds K fdV P37 [] := FV.bindsN fun _ _ _ _ _ _ us hl => match us, hl with | [_, _, _], _ => rfl
  refine F.goG sc38 (fun vs H Q E h => ?_) (fun cdv A outer s H vs Q E hr hg h => ?_)
  · obtain ⟨a, b, n, xs, us, rs, ts, rfl, _⟩ := h
    rfl
  · obtain ⟨a, b, n, xs, us, rs, ts, rfl, hn, hG, q⟩ := h
    refine ⟨_, PSs.nox (pss_one (ps_ret (pe_ix ix_list (pe_callG GV hr hg rfl gV FV.kp bV (pa_cons (pv 0) (pa_cons (pv 1) (pa_cons (pv 2) pa_nil)))) pe_int (fun _ _ => rfl)))), ?_⟩
    refine ⟨.ref a, rfl, .ref b, rfl, .int n, rfl, a, b, n, xs, us, rs, ts, rfl, hn, hG, fun H' p fp d fs cs s1 hp hf ht kn hl => ⟨p, _, 0, .ref fp, rfl, rfl, SqL.of hp, atI_nat (j := 0) rfl, q H' fp fs cs s1 hf ht kn hl⟩⟩
/-! ### _law_alike -/
/-- tuples of facts: what repr asks of them -/
theorem show_tup {cs : List T} (h : ∀ c ∈ cs, Gd c ∧ size c ≤ 480 ∧ dep c ≤ 22) (hl : cs.length ≤ 600) : (PyData.tuple (toDs cs)).showable = true ∧ (PyData.tuple (toDs cs)).hasDict = false ∧ (PyData.tuple (toDs cs)).depth ≤ 64 ∧ (PyData.tuple (toDs cs)).shown.length ≤ sizeLine ∧ SeqAt.shaped (.tuple (toDs cs)) = true := by
  have hgs : Gds cs := by
    clear hl
    induction cs with
    | nil => rw [Gds]; trivial
    | cons x xs ih => rw [Gds]; exact ⟨(h x List.mem_cons_self).1, ih fun t ht => h t (List.mem_cons_of_mem _ ht)⟩
  have hz : sizes cs ≤ 600 * 480 := Nat.le_trans (sizes_le fun t ht => (h t ht).2.1) (Nat.mul_le_mul_right _ hl)
  have hd : deps cs ≤ 22 := deps_le fun t ht => (h t ht).2.2
  have hd2 := depths_le cs
  have hdep : (PyData.tuple (toDs cs)).depth ≤ 23 := by
    show PyData.depthAll (toDs cs) + 1 ≤ 23
    omega
  have hlay : (PyData.tuple (toDs cs)).canLay0 = true := lays_gd cs hgs
  refine ⟨shows_gd cs hgs, PyData.hasDict_of_canLay _ hlay, by omega, ?_, ?_⟩
  · rw [sizeLine_eq, slen, PyData.shown, tupleText, str_app, str_app, List.length_append, List.length_append]
    have e1 : ("(" : Str).cps.toList.length = 1 := by decide
    have e2 : ∀ b : Bool, (Str.ofString (if b = true then ",)" else ")")).cps.toList.length ≤ 2 := by decide
    have e3 := e2 ((PyData.shownAll (toDs cs)).length == 1)
    have e4 : (Str.join ", " (PyData.shownAll (toDs cs))).cps.toList.length ≤ 32 * sizes cs := by
      cases cs with
      | nil => rw [toDs, PyData.shownAll]; exact Nat.zero_le _
      | cons c r =>
        rw [Gds] at hgs
        rw [toDs, PyData.shownAll, join_cons, comma, shown_code c hgs.1, shown_codes r hgs.2, List.length_append, sizes]
        have h1 := code_len c hgs.1
        have h2 := codes_len r hgs.2
        omega
    rw [e1]
    have h9 : 1 + (Str.join ", " (PyData.shownAll (toDs cs))).cps.toList.length + (Str.ofString (if ((PyData.shownAll (toDs cs)).length == 1) = true then ",)" else ")")).cps.toList.length ≤ 16777216 := by omega
    exact h9
  · show ((PyData.tuple (toDs cs)).canLay0 && decide ((PyData.tuple (toDs cs)).depth ≤ 64)) = true
    rw [hlay, Bool.true_and]
    exact decide_eq_true (by omega)
theorem eqv_tup {cs : List T} (h : ∀ c ∈ cs, Gd c) : PyData.eqv (.tuple (toDs cs)) (.tuple (toDs cs)) = true := by
  have hgs : Gds cs := by
    induction cs with
    | nil => rw [Gds]; trivial
    | cons x xs ih => rw [Gds]; exact ⟨h x List.mem_cons_self, ih fun t ht => h t (List.mem_cons_of_mem _ ht)⟩
  rw [PyData.eqv]
  exact (eqvs_iff cs cs hgs hgs).mpr rfl
theorem nd_sub {α : Type} : ∀ {l m : List α}, l.Nodup → (∀ x ∈ l, x ∈ m) → l.length ≤ m.length
  | [], m, _, _ => by simp
  | a :: l, m, nd, h => by
    classical
    have ha := h a List.mem_cons_self
    have nd' := List.nodup_cons.mp nd
    have ih := nd_sub (l := l) (m := m.erase a) nd'.2 fun x hx => (List.mem_erase_of_ne (fun e => nd'.1 (by rw [← e]; exact hx))).mpr (h x (List.mem_cons_of_mem _ hx))
    rw [List.length_erase_of_mem ha] at ih
    have : 1 ≤ m.length := List.length_pos_of_mem ha
    rw [List.length_cons]
    omega
/-- facts are few -/
theorem kn_few {ts : List T} {rs : List Rl} {n : Nat} {cs : List T} (tg : TGood ts) (rg : ∀ r ∈ rs, RGood r) (hl : rs.length ≤ 20) (kn : Kn (MemI ts (rs ++ [reflR])) n cs) : cs.length ≤ 600 ∧ ∀ c ∈ cs, Gd c ∧ size c ≤ 480 ∧ dep c ≤ 22 := by
  have rg' : ∀ r ∈ rs ++ [reflR], RGood r := fun r hr => by
    rcases List.mem_append.mp hr with h | h
    · exact rg r h
    · rw [List.mem_singleton.mp h]; exact rgood_refl
  have hil := insts_len tg rg'
  have h1 := nd_sub kn.nodup (m := (insts ts (rs ++ [reflR])).map (·.concl)) fun c hc => by
    have hF := (kn.mem c).mp hc
    cases n with
    | zero => exact hF.elim
    | succ n =>
      obtain ⟨i, hi, e, _⟩ := hF
      exact List.mem_map.mpr ⟨i, hi, e⟩
  rw [List.length_map] at h1
  rw [List.length_append, List.length_singleton] at hil
  exact ⟨by omega, fun c hc => F.good (fun i hi => insts_good rg' tg i hi) ((kn.mem c).mp hc)⟩
theorem sc30 : FnScope ["_law_told", "_law_due"] ["_law_told", "_law_due"] (defScope (topS 30)) := ⟨rfl, rfl, rfl, by decide +kernel, rfl, by decide +kernel, by decide +kernel⟩
def spAlike (K : PySem.W.Frag) : Sp := fun vs H Q _ => ∃ (a b : Addr) (xs ys : List V) (cs : List T), vs = [.ref a, .ref b] ∧ SqT K H a xs ∧ SqT K H b ys ∧ Tms K H xs cs ∧ Tms K H ys cs ∧ (∀ c ∈ cs, Gd c ∧ size c ≤ 480 ∧ dep c ≤ 22) ∧ cs.length ≤ 600 ∧ Q (.bl true) H
theorem ok_alike {f : Addr} {fd : FuncData} {k : Nat} (F : FnP K "_law_alike" 30 f fd) (mi : mg "isinstance" = none) (mt : mg "int" = none) (mu : mg "tuple" = none) (mre : mg "repr" = none) : FnG P w K mg base (k + 1) f fd ["_law_told", "_law_due"] (spAlike K) := by
  refine F.goG sc30 (fun vs H Q E h => ?_) (fun cdv A outer s H vs Q E hr hg h => ?_)
  · obtain ⟨a, b, xs, ys, cs, rfl, _⟩ := h
    rfl
  · obtain ⟨a, b, xs, ys, cs, rfl, ha, hb, hx, hy, hc, hl, q⟩ := h
    have hu64 : (A.deeper (envOfC "_law_alike" (defScope (topS 30)) s.heap.objs.size f cdv)).units + 64 < cLine := by have := hr.un; omega
    refine ⟨_, PSs.nox (pss_cons (ps_if (PW.pt (pw_and (pt_val (pe_callB call_isi (by rfl) mi (by decide +kernel) (pa_cons (pv 1) (pa_cons (pe_bltn (v := .ty "tuple") (by rfl) mu (by decide +kernel) rfl) pa_nil))))
          (pw_and1 (pt_not (pt_val (pe_callB call_isi (by rfl) mi (by decide +kernel) (pa_cons (pv 0) (pa_cons (pe_bltn (v := .ty "tuple") (by rfl) mu (by decide +kernel) rfl) pa_nil)))))))) (pss_one (ps_ret pe_bl)) pss_nil)
      (pss_cons (ps_if (PW.pt (pw_and (pt_val (pe_callB call_isi (by rfl) mi (by decide +kernel) (pa_cons (pv 1) (pa_cons (pe_bltn (v := .ty "int") (by rfl) mt boot_int rfl) pa_nil))))
          (pw_and1 (pt_not (pt_val (pe_callB call_isi (by rfl) mi (by decide +kernel) (pa_cons (pv 0) (pa_cons (pe_bltn (v := .ty "int") (by rfl) mt boot_int rfl) pa_nil)))))))) (pss_one (ps_ret pe_bl)) pss_nil)
      (pss_one (ps_ret (pe_and (pe_cmpR (op_eqD hu64) (pv 0) (pv 1) (nomark _)) (pe_one (pe_cmpR op_eq (pe_callB (call_reprD hr hg) (by rfl) mre (by decide +kernel) (pa_cons (pv 0) pa_nil))
        (pe_callB (call_reprD hr hg) (by rfl) mre (by decide +kernel) (pa_cons (pv 1) pa_nil)) (nomark _)))))))), ?_⟩
    obtain ⟨p1, p2, p3, p4, p5⟩ := show_tup hc hl
    have da : Dp K H (.ref a) (.tuple (toDs cs)) := .tup ha (tms_dp hx)
    have db : Dp K H (.ref b) (.tuple (toDs cs)) := .tup hb (tms_dp hy)
    refine ⟨_, rfl, _, _, .type "tuple", _, true, rfl, .ty "tuple", tyx_tup hb, kit_ty (by decide +kernel), true, rfl, iteT ⟨_, rfl, _, _, .type "tuple", _, true, rfl, .ty "tuple", tyx_tup ha, kit_ty (by decide +kernel), true, rfl, iteF ?_⟩⟩
    refine ⟨_, rfl, _, _, .type "tuple", _, false, rfl, .ty "int", tyx_tup hb, kit_ty (by decide +kernel), false, rfl, iteF (iteF ?_)⟩
    refine ⟨.ref a, rfl, .ref b, rfl, _, _, da, db, p5, p5, _, rfl, ?_⟩
    rw [eqv_tup fun c h => (hc c h).1]
    refine iteT ⟨.ref a, rfl, a, _, rfl, da, p1, p2, p3, p4, .ref b, rfl, b, _, rfl, db, p1, p2, p3, p4, rfl, ?_⟩
    have e : decide (V.str (PyData.tuple (toDs cs)).shown = V.str (PyData.tuple (toDs cs)).shown) = true := decide_eq_true rfl
    show Q (.bl (decide _)) H
    rw [e]
    exact q
end
end K23

set_option Elab.async false
set_option linter.all false
set_option maxRecDepth 100000
set_option maxHeartbeats 4000000
/-! The law in plain terms: whole new relations change nothing. -/
namespace K23
open PySem PySem.Spec PyProof.Rows L2
/-- what further rules conclude -/
def conc (furs : List Rl) : List (Str × Nat) := furs.map fun r => relT r.concl
def kept (con : List (Str × Nat)) (cs : List T) : List T := cs.filter fun c => !decide (relT c ∈ con)
theorem insts_app (ts : List T) (a b : List Rl) : insts ts (a ++ b) = insts ts a ++ insts ts b := by
  unfold insts
  rw [List.flatMap_append]
theorem mem_insts {ts : List T} {rs : List Rl} {i : Ins} (h : i ∈ insts ts rs) : ∃ r ∈ rs, ∃ row ∈ chs ts (nv r), i = insOf r row := by
  obtain ⟨r, hr, hi⟩ := List.mem_flatMap.mp h
  obtain ⟨row, h1, h2⟩ := List.mem_map.mp hi
  exact ⟨r, hr, row, h1, h2.symm⟩
theorem law_plain {ts : List T} {olds furs : List Rl} {qs os : List (Str × Nat)} {n : Nat} {cs0 cs2 : List T} (tg : TGood ts)
    (ho : ∀ r ∈ olds, ∃ hs, RMade hs qs r) (hf : ∀ r ∈ furs, ∃ bs, RMade os bs r) (hd : ∀ q ∈ os, q ∉ qs) (hw : ∀ q ∈ os, Wd q.1)
    (k0 : Kn (MemI ts (olds ++ [reflR])) n cs0) (s0 : cs0.Pairwise fun a b => leT a b = true)
    (k2 : Kn (MemI ts ((furs ++ olds) ++ [reflR])) n cs2) (s2 : cs2.Pairwise fun a b => leT a b = true) : kept (conc furs) cs2 = kept (conc furs) cs0 := by
  have hF : ∀ c, ¬ relT c ∈ conc furs → (F (MemI ts (olds ++ [reflR])) n c ↔ F (MemI ts ((furs ++ olds) ++ [reflR])) n c) := fun c hc => by
    refine F.same (bad := fun q => q ∈ conc furs) (fun i hi => ?_) (fun i hi => ?_) (fun i hi p hp hb => ?_) n c hc
    · show i ∈ insts ts ((furs ++ olds) ++ [reflR])
      rw [List.append_assoc, insts_app]
      exact List.mem_append_right _ hi
    · have hi : i ∈ insts ts ((furs ++ olds) ++ [reflR]) := hi
      rw [List.append_assoc, insts_app] at hi
      rcases List.mem_append.mp hi with h | h
      · right
        obtain ⟨r, hr, row, _, rfl⟩ := mem_insts h
        obtain ⟨bs, hm⟩ := hf r hr
        obtain ⟨g, as, e, _⟩ := hm.head
        have e2 : relT (insOf r row).concl = relT r.concl := relT_inst row (fun n z => by rw [e] at z; cases z)
        show relT (insOf r row).concl ∈ conc furs
        rw [e2]
        exact List.mem_map.mpr ⟨r, hr, rfl⟩
      · exact .inl h
    · have hi : i ∈ insts ts (olds ++ [reflR]) := hi
      obtain ⟨r, hr, row, _, rfl⟩ := mem_insts hi
      rcases List.mem_append.mp hr with h | h
      · obtain ⟨hs, hm⟩ := ho r h
        obtain ⟨u, hu, rfl⟩ := List.mem_map.mp hp
        obtain ⟨g, as, e, hin⟩ := hm.body u hu
        have e2 : relT (inst row u) = relT u := relT_inst row (fun n z => by rw [e] at z; cases z)
        have hb : relT (inst row u) ∈ conc furs := hb
        rw [e2, e, relT] at hb
        obtain ⟨r', hr', e3⟩ := List.mem_map.mp hb
        obtain ⟨bs, hm'⟩ := hf r' hr'
        obtain ⟨g', as', e4, hos⟩ := hm'.head
        simp only [e4, relT] at e3
        have eg : g' = g := congrArg Prod.fst e3
        have el : as'.length = as.length := by have := congrArg Prod.snd e3; simpa using this
        rw [eg, el] at hos
        rcases hin with h3 | h3
        · exact hd _ hos h3
        · have z := (hw _ hos).ne
          exact z (congrArg Prod.fst h3)
      · rw [List.mem_singleton.mp h] at hp
        have hp : p ∈ ([] : List T).map (inst row) := hp
        simp at hp
  refine sorted_one (fun t ht => k2.gd t (List.mem_filter.mp ht).1) (s2.filter _) (s0.filter _) (k2.nodup.filter _) (k0.nodup.filter _) fun t => ?_
  unfold kept
  rw [List.mem_filter, List.mem_filter]
  constructor
  · rintro ⟨h1, h2⟩
    have h3 : ¬ relT t ∈ conc furs := by simpa using h2
    exact ⟨(k0.mem t).mpr ((hF t h3).mpr ((k2.mem t).mp h1)), h2⟩
  · rintro ⟨h1, h2⟩
    have h3 : ¬ relT t ∈ conc furs := by simpa using h2
    exact ⟨(k2.mem t).mpr ((hF t h3).mp ((k0.mem t).mp h1)), h2⟩
theorem two_one {ts : List T} {rs : List Rl} {n : Nat} {cs cs' : List T} (k : Kn (MemI ts rs) n cs) (s : cs.Pairwise fun a b => leT a b = true) (k' : Kn (MemI ts rs) n cs') (s' : cs'.Pairwise fun a b => leT a b = true) : cs' = cs :=
  sorted_one k'.gd s' s k'.nodup k.nodup fun t => by rw [k'.mem, k.mem]
theorem kn_perm {I : Ins → Prop} {n : Nat} {cs cs' : List T} (k : Kn I n cs) (p : cs'.Perm cs) : Kn I n cs' :=
  ⟨p.nodup_iff.mpr k.nodup, fun c hc => k.gd c (p.mem_iff.mp hc), fun c => by rw [p.mem_iff]; exact k.mem c⟩

/-! ### pairs as data -/
def dP (q : Str × Nat) : PyData := .tuple [.str q.1, .int q.2]
theorem dP_eqv (q r : Str × Nat) : PyData.eqv (dP q) (dP r) = decide (q = r) := by
  unfold dP
  rw [PyData.eqv, PyData.eqvAll, PyData.eqv, PyData.eqvAll, PyData.eqv, PyData.eqvAll]
  obtain ⟨x, n⟩ := q
  obtain ⟨y, m⟩ := r
  rw [Bool.eq_iff_iff]
  simp
  intro _
  omega
theorem dP_any (q : Str × Nat) (ps : List (Str × Nat)) : ((ps.map dP).any fun z => PyData.eqv z (dP q)) = decide (q ∈ ps) := by
  induction ps with
  | nil => simp
  | cons p ps ih =>
    rw [List.map_cons, List.any_cons, ih, dP_eqv]
    rw [Bool.eq_iff_iff]
    simp
    constructor
    · rintro (h | h)
      · exact .inl h.symm
      · exact .inr h
    · rintro (h | h)
      · exact .inl h.symm
      · exact .inr h
theorem PrAt.dp {K : PySem.W.Frag} {H : Hp} {v : V} {q : Str × Nat} (h : PrAt K H v q) : Dp K H v (dP q) := by
  obtain ⟨a, rfl, hs⟩ := h
  exact .tup hs (.cons (.str _) (.cons (.int _) .nil))
theorem prs_dp {K : PySem.W.Frag} {H : Hp} : ∀ {vs : List V} {ps : List (Str × Nat)}, Paired (PrAt K H) vs ps → DpAll K H vs (ps.map dP)
  | _, _, .nil => .nil
  | _, _, .cons h t => .cons h.dp (prs_dp t)
theorem dP_lay {q : Str × Nat} (h : Nm q.1) : (dP q).canLay0 = true := by
  unfold dP
  simp only [PyData.canLay0, PyData.canLayAll0, strOk_nm h, Bool.and_self]
theorem dP_shaped {q : Str × Nat} (h : Nm q.1) : SeqAt.shaped (dP q) = true := by
  show ((dP q).canLay0 && decide ((dP q).depth ≤ 64)) = true
  have e : (dP q).depth = 1 := rfl
  rw [dP_lay h, e]
  rfl
theorem dPs_shaped {ps : List (Str × Nat)} (h : ∀ q ∈ ps, Nm q.1) : SeqAt.shaped (.list (ps.map dP)) = true := by
  have h1 : PyData.canLayAll0 (ps.map dP) = true := by
    induction ps with
    | nil => rfl
    | cons q ps ih =>
      rw [List.map_cons]
      show ((dP q).canLay0 && PyData.canLayAll0 (ps.map dP)) = true
      rw [dP_lay (h q List.mem_cons_self), ih fun r hr => h r (List.mem_cons_of_mem _ hr)]
      rfl
  have h2 : PyData.depthAll (ps.map dP) ≤ 1 := by
    clear h1 h
    induction ps with
    | nil => exact Nat.zero_le _
    | cons q ps ih =>
      rw [List.map_cons]
      show max (dP q).depth (PyData.depthAll (ps.map dP)) ≤ 1
      have e : (dP q).depth = 1 := rfl
      omega
  show (PyData.canLayAll0 (ps.map dP) && decide ((PyData.list (ps.map dP)).depth ≤ 64)) = true
  rw [h1, Bool.true_and]
  refine decide_eq_true ?_
  show PyData.depthAll (ps.map dP) + 1 ≤ 64
  omega
end K23

set_option Elab.async false
set_option linter.all false
set_option maxRecDepth 100000
set_option maxHeartbeats 4000000
/-! law. -/
namespace K23
open PySem PySem.Spec PyProof.Rows L2
theorem one_add (n : Nat) : (1 : Int) + (n : Int) = ((1 + n : Nat) : Int) := by omega
theorem ne_len {α : Type} {l : List α} {n : Nat} (h : l.length = n) (hn : 1 ≤ n) : l ≠ [] := fun e => by
  rw [e] at h
  simp at h
  omega
theorem at3 {n : Nat} (h : n < 3) : atI [V.int 0, .int 1, .int 2] (n : Int) = some (.int (n : Int)) := by
  have : n = 0 ∨ n = 1 ∨ n = 2 := by omega
  rcases this with rfl | rfl | rfl
  · exact atI_nat (j := 0) rfl
  · exact atI_nat (j := 1) rfl
  · exact atI_nat (j := 2) rfl
theorem Rels.of {K : PySem.W.Frag} {H : Hp} {p : Addr} {qs : List (Str × Nat)} (h : PrL K H p qs) (hn : qs ≠ []) (hl : qs.length ≤ 4) (hg : ∀ q ∈ qs, Wd q.1 ∧ q.2 ≤ 4) : Rels K H p qs := ⟨h, hn, by omega, hg⟩
/-- a pair is not in a list of pairs -/
theorem notin_rd {K : PySem.W.Frag} {H : Hp} {v : V} {m : Addr} {q : Str × Nat} {ms : List (Str × Nat)} {vs : List V} {Q : VK} (h : PrAt K H v q) (hm : H m = some (.lst vs)) (hp : Paired (PrAt K H) vs ms) (hq : Nm q.1) (hms : ∀ r ∈ ms, Nm r.1)
    (k : Q (.bl (!decide (q ∈ ms))) H) : rNotInD K v (.ref m) H Q :=
  ⟨dP q, ms.map dP, h.dp, .lst (SqL.of hm) (prs_dp hp), dP_shaped hq, dPs_shaped hms, by rw [dP_any]; exact k⟩
theorem fact_at {K : PySem.W.Frag} {H : Hp} {v : V} {c : T} (hm : Tm K H v c) (hg : Gd c) : ∃ fa g vs, v = .ref fa ∧ SqT K H fa (.str g :: vs) ∧ relT c = (g, (V.str g :: vs).length) ∧ Nm g := by
  cases c with
  | v n => simp [Gd] at hg
  | a g as =>
    obtain ⟨fa, vs, rfl, h1, h2⟩ := hm.app
    rw [Gd] at hg
    exact ⟨fa, g, vs, rfl, h1, by rw [relT, List.length_cons, pr_len h2], hg.1⟩
section
variable {P : Program} {w : World} {K : PySem.W.Frag} {mg : Str → Option Value} {base : Heap}
abbrev N40 : List Str := ["_law_script", "_law_tape_here", "_law_symbols_here", "_law_relations_here", "_law_others", "_law_many", "_law_names_here", "_law_old", "_law_k", "_law_heads", "_law_premises", "_law_further", "_law_made", "_law_concluded", "_law_terms", "_law_height", "_law_before", "_law_after", "_law_kept", "_law_relation", "_law_rule", "_law_fact"]
theorem sc40 : FnScope N40 ["_law_script"] (defScope (topS 40)) := ⟨rfl, rfl, rfl, by decide +kernel, rfl, by decide +kernel, by decide +kernel⟩
def spLaw (K : PySem.W.Frag) (Pt : Addr) : Sp := fun vs H Q _ => ∃ (a : Addr) (ns : List Int), vs = [.ref a] ∧ SqL K H a (ns.map V.int) ∧ LamX.Tabs (TT Pt) H ∧ ∀ H', Q (.bl true) H'
/-- a value is stored at either end -/
theorem g_join {i : Nat} {x : V} {tc : L2.TT} {ta tb R : TS} {D : Ends} {σ : L2.St} {H : Hp} (Pv : L2.St → Hp → Prop) (h1 : (∀ σ' H', Pv σ' H' → R D σ' H') → tIfS tc ta tb { D with nx := R D } (σ.set i (some x)) H) (h2 : ∀ σ' H', Pv σ' H' → R D σ' H') :
    gName i x σ H (tSeq (tIfS tc ta tb) R D) := h1 h2
theorem ok_law {f fTp fD fSy fRe fNa fRu fUn fFa fAl fFL Pt : Addr} {fd fdTp fdD fdSy fdRe fdNa fdRu fdUn fdFa fdAl fdFL : FuncData} {k : Nat} (F : FnP K "law" 40 f fd)
    (FTp : FnP K "_law_tape" 20 fTp fdTp) (GTp : FnOk P w K mg base CX0 k fTp fdTp ["_law_script"] (spTape K)) (gTp : mg "_law_tape" = some (.ref fTp))
    (FD : FnP K "_law_draw" 21 fD fdD) (GD : FnOk P w K mg base CX0 k fD fdD ["_law_tape_here", "_law_many"] spDraw) (gD : mg "_law_draw" = some (.ref fD))
    (FSy : FnP K "_law_symbols" 23 fSy fdSy) (GSy : FnOk P w K mg base CX0 k fSy fdSy ["_law_tape_here", "_law_many"] (spPairs K 1)) (gSy : mg "_law_symbols" = some (.ref fSy))
    (FRe : FnP K "_law_relations" 36 fRe fdRe) (GRe : FnOk P w K mg base CX0 k fRe fdRe ["_law_tape_here", "_law_many"] (spPairs K 0)) (gRe : mg "_law_relations" = some (.ref fRe))
    (FNa : FnP K "_law_names" 31 fNa fdNa) (GNa : FnOk P w K mg base CX0 k fNa fdNa ["_law_tape_here", "_law_many"] spNames) (gNa : mg "_law_names" = some (.ref fNa))
    (FRu : FnP K "_law_rule_over" 39 fRu fdRu) (GRu : FnOk P w K mg base CX0 k fRu fdRu P39 (spRule K)) (gRu : mg "_law_rule_over" = some (.ref fRu))
    (FUn : FnP K "_law_universe" 35 fUn fdUn) (GUn : FnOk P w K mg base CX0 k fUn fdUn P35 (spUni K)) (gUn : mg "_law_universe" = some (.ref fUn))
    (FFa : FnP K "facts_within" 18 fFa fdFa) (GFa : FnG P w K mg base k fFa fdFa ["rules", "terms", "height"] (spFacts K Pt)) (gFa : mg "facts_within" = some (.ref fFa))
    (FAl : FnP K "_law_alike" 30 fAl fdAl) (GAl : FnG P w K mg base k fAl fdAl ["_law_told", "_law_due"] (spAlike K)) (gAl : mg "_law_alike" = some (.ref fAl))
    (FFL : FnP K "_law_facts" 38 fFL fdFL) (GFL : FnG P w K mg base k fFL fdFL P37 (spFactsL K)) (gFL : mg "_law_facts" = some (.ref fFL))
    (mr : mg "range" = none) (mn : mg "len" = none) (mu : mg "tuple" = none) (ms : mg "sorted" = none) (mi : mg "isinstance" = none) : FnG P w K mg base (k + 1) f fd ["_law_script"] (spLaw K Pt) := by
  have bTp : Binds K fdTp ["_law_script"] [] := FTp.bindsN fun _ _ _ _ _ _ us hl => match us, hl with | [_], _ => rfl
  have bD : Binds K fdD ["_law_tape_here", "_law_many"] [] := FD.bindsN fun _ _ _ _ _ _ us hl => match us, hl with | [_, _], _ => rfl
  have bSy : Binds K fdSy ["_law_tape_here", "_law_many"] [] := FSy.bindsN fun _ _ _ _ _ _ us hl => match us, hl with | [_, _], _ => rfl
  have bRe : Binds K fdRe ["_law_tape_here", "_law_many"] [] := FRe.bindsN fun _ _ _ _ _ _ us hl => match us, hl with | [_, _], _ => rfl
  have bNa : Binds K fdNa ["_law_tape_here", "_law_many"] [] := FNa.bindsN fun _ _ _ _ _ _ us hl => match us, hl with | [_, _], _ => rfl
  have bRu : Binds K fdRu P39 [] := FRu.bindsN fun _ _ _ _ _ _ us hl => match us, hl with | [_, _, _, _, _, _, _], _ => rfl
  have bUn : Binds K fdUn P35 [] := FUn.bindsN fun _ _ _ _ _ _ us hl => match us, hl with | [_, _, _], _ => rfl
  have bFa : Binds K fdFa ["rules", "terms", "height"] [] := FFa.bindsN fun _ _ _ _ _ _ us hl => match us, hl with | [_, _, _], _ => rfl
  have bAl : Binds K fdAl ["_law_told", "_law_due"] [] := FAl.bindsN fun _ _ _ _ _ _ us hl => match us, hl with | [_, _], _ => rfl
  have bFL : Binds K fdFL P37 [] := FFL.bindsN fun _ _ _ _ _ _ us hl => match us, hl with | [_, _, _], _ => rfl
  refine F.goG sc40 (fun vs H Q E h => ?_) (fun cdv A outer s H vs Q E hr hg h => ?_)
  · obtain ⟨a, ns, rfl, _⟩ := h
    rfl
  · obtain ⟨a, ns, rfl, hs, hTb, q⟩ := h
    have hu65 : (A.deeper (envOfC "law" (defScope (topS 40)) s.heap.objs.size f cdv)).units + 65 < cLine := by have := hr.un; omega
    refine ⟨_, PSs.nox (pss_cons (ps_set (i := 1) sc40.nd rfl (.inl rfl) (pe_call GTp hr rfl gTp FTp.kp bTp .nil pass0 (pa_cons (pv 0) pa_nil)))
      (pss_cons (ps_set (i := 2) sc40.nd rfl (.inl rfl) (pe_call GSy hr rfl gSy FSy.kp bSy .nil pass0 (pa_cons (pv 1) (pa_cons (pe_op op_add pe_int (pe_call GD hr rfl gD FD.kp bD .nil pass0 (pa_cons (pv 1) (pa_cons pe_int pa_nil)))) pa_nil))))
      (pss_cons (ps_set (i := 3) sc40.nd rfl (.inr rfl) (pe_call GRe hr rfl gRe FRe.kp bRe .nil pass0 (pa_cons (pv 1) (pa_cons (pe_op op_add pe_int (pe_call GD hr rfl gD FD.kp bD .nil pass0 (pa_cons (pv 1) (pa_cons pe_int pa_nil)))) pa_nil))))
      (pss_cons (ps_set (i := 4) sc40.nd rfl (.inr rfl) (pe_lc (own := [("_law_relation", 19)]) (g := gName 19) rfl sc40.nd (pi_list (pe_call GRe hr rfl gRe FRe.kp bRe .nil pass0 (pa_cons (pv 1) (pa_cons (pe_op op_add pe_int (pe_call GD hr rfl gD FD.kp bD .nil pass0 (pa_cons (pv 1) (pa_cons pe_int pa_nil)))) pa_nil))))
          (blkOk_by (N := N40) (sc := defScope (topS 40)) (by decide +kernel)) (fun _ _ _ _ _ => pg_name (i := 19) sc40.nd rfl (.inl rfl)) (fun _ _ _ _ _ => pts_one (pt_cmpR (r := rNotInD K) (op_notInD hu65) (pv 19) (pv 3) rfl)) (fun _ _ _ _ _ => pv 19)))
      (pss_cons (ps_if (pt_not (pt_truth (pv 4) (fun _ => rfl)))
        (pss_cons (ps_set (i := 4) sc40.nd rfl (.inr rfl) (pe_lst (pa_cons (pe_tup (pa_cons (pe_ix ix_tup (pe_ix ix_list (pv 3) pe_int (fun _ _ => rfl)) pe_int (fun _ _ => rfl)) (pa_cons (pe_op op_add (pe_ix ix_tup (pe_ix ix_list (pv 3) pe_int (fun _ _ => rfl)) pe_int (fun _ _ => rfl)) pe_int) pa_nil))) pa_nil)))
        (pss_one (ps_set (i := 3) sc40.nd rfl (.inr rfl) (pe_lc (own := [("_law_relation", 19)]) (g := gName 19) rfl sc40.nd (pi_list (pv 3))
          (blkOk_by (N := N40) (sc := defScope (topS 40)) (by decide +kernel)) (fun _ _ _ _ _ => pg_name (i := 19) sc40.nd rfl (.inl rfl)) (fun _ _ _ _ _ => pts_one (pt_cmpR (r := rNotInD K) (op_notInD hu65) (pv 19) (pv 4) rfl)) (fun _ _ _ _ _ => pv 19))))) pss_nil)
      (pss_cons (ps_set (i := 5) sc40.nd rfl (.inl rfl) (pe_op op_add pe_int (pe_call GD hr rfl gD FD.kp bD .nil pass0 (pa_cons (pv 1) (pa_cons pe_int pa_nil)))))
      (pss_cons (ps_set (i := 6) sc40.nd rfl (.inl rfl) (pe_call GNa hr rfl gNa FNa.kp bNa .nil pass0 (pa_cons (pv 1) (pa_cons (pe_op op_add (pv 5) pe_int) pa_nil))))
      (pss_cons (ps_set (i := 7) sc40.nd rfl (.inl rfl) (pe_lst pa_nil))
      (pss_cons (ps_for PassesOwn.never rfl (pi_range1 rfl mr (pa_cons (pv 5) pa_nil)) (pg_name (i := 8) sc40.nd rfl (.inl rfl))
        (pss_cons (ps_set (i := 9) sc40.nd rfl (.inl rfl) (pe_ix ix_list (pe_lst (pa_cons (pv 3) (pa_cons (pe_op op_cat (pv 3) (pv 4)) pa_nil))) (pe_call GD hr rfl gD FD.kp bD .nil pass0 (pa_cons (pv 1) (pa_cons pe_int pa_nil))) (fun _ _ => rfl)))
        (pss_cons (ps_set (i := 10) sc40.nd rfl (.inl rfl) (pe_ix ix_list (pe_lst (pa_cons pe_int (pa_cons pe_int (pa_cons pe_int pa_nil)))) (pe_call GD hr rfl gD FD.kp bD .nil pass0 (pa_cons (pv 1) (pa_cons pe_int pa_nil))) (fun _ _ => rfl)))
        (pss_one (ps_expr (pe_bm PySem.F.plainAttrs_list PySem.F.slot_list_append PySem.F.type_list_append mt_append (pv 7) (pa_cons (pe_call GRu hr rfl gRu FRu.kp bRu .nil pass0 (pa_cons (pv 1) (pa_cons (pe_ix ix_list (pv 6) (pv 8) (fun _ _ => rfl)) (pa_cons (pv 9) (pa_cons (pv 3) (pa_cons (pv 2)
            (pa_cons (pe_op op_add pe_int (pe_call GD hr rfl gD FD.kp bD .nil pass0 (pa_cons (pv 1) (pa_cons pe_int pa_nil)))) (pa_cons (pv 10) pa_nil)))))))) pa_nil)))))))
      (pss_cons (ps_set (i := 11) sc40.nd rfl (.inl rfl) (pe_lst pa_nil))
      (pss_cons (ps_for PassesOwn.never rfl (pi_range1 rfl mr (pa_cons (pe_op op_add pe_int (pe_call GD hr rfl gD FD.kp bD .nil pass0 (pa_cons (pv 1) (pa_cons pe_int pa_nil)))) pa_nil)) (pg_name (i := 8) sc40.nd rfl (.inl rfl))
        (pss_cons (ps_set (i := 10) sc40.nd rfl (.inl rfl) (pe_ix ix_list (pe_lst (pa_cons pe_int (pa_cons pe_int (pa_cons pe_int pa_nil)))) (pe_call GD hr rfl gD FD.kp bD .nil pass0 (pa_cons (pv 1) (pa_cons pe_int pa_nil))) (fun _ _ => rfl)))
        (pss_cons (ps_set (i := 12) sc40.nd rfl (.inl rfl) (pe_call GRu hr rfl gRu FRu.kp bRu .nil pass0 (pa_cons (pv 1) (pa_cons (pe_ix ix_list (pv 6) (pe_op op_add (pv 5) (pv 8)) (fun _ _ => rfl)) (pa_cons (pv 4) (pa_cons (pe_op op_cat (pv 3) (pv 4)) (pa_cons (pv 2)
            (pa_cons (pe_op op_add pe_int (pe_call GD hr rfl gD FD.kp bD .nil pass0 (pa_cons (pv 1) (pa_cons pe_int pa_nil)))) (pa_cons (pv 10) pa_nil)))))))))
        (pss_one (ps_expr (pe_bm PySem.F.plainAttrs_list PySem.F.slot_list_append PySem.F.type_list_append mt_append (pv 11) (pa_cons (pv 12) pa_nil)))))))
      (pss_cons (ps_set (i := 13) sc40.nd rfl (.inr rfl) (pe_lc (own := [("_law_rule", 20)]) (g := gName 20) (tt := tYes) rfl sc40.nd (pi_list (pv 11))
          (blkOk_by (N := N40) (sc := defScope (topS 40)) (by decide +kernel)) (fun _ _ _ _ _ => pg_name (i := 20) sc40.nd rfl (.inl rfl)) (fun _ _ _ _ _ => pts_nil)
          (fun _ _ _ _ _ => pe_tup (pa_cons (pe_ix (r := rIxT K) ix_tup (pe_ix (r := rIxT K) ix_tup (pv 20) pe_int (fun _ _ => rfl)) pe_int (fun _ _ => rfl))
            (pa_cons (pe_callB (r := fun xs H Q => ∃ p ys, xs = [.ref p] ∧ (SqL K H p ys ∨ SqT K H p ys) ∧ Q (.int ys.length) H) call_len_seq (by rfl) mn PySem.boot_len (pa_cons (pe_ix (r := rIxT K) ix_tup (pv 20) pe_int (fun _ _ => rfl)) pa_nil)) pa_nil)))))
      (pss_cons (ps_set (i := 14) sc40.nd rfl (.inl rfl) (pe_call GUn hr rfl gUn FUn.kp bUn .nil pass0 (pa_cons (pv 1) (pa_cons (pv 2) (pa_cons (pe_op op_add pe_int (pe_call GD hr rfl gD FD.kp bD .nil pass0 (pa_cons (pv 1) (pa_cons pe_int pa_nil)))) pa_nil)))))
      (pss_cons (ps_set (i := 15) sc40.nd rfl (.inl rfl) (pe_op op_add pe_int (pe_call GD hr rfl gD FD.kp bD .nil pass0 (pa_cons (pv 1) (pa_cons pe_int pa_nil)))))
      (pss_cons (ps_set (i := 16) sc40.nd rfl (.inl rfl) (pe_callG GFa hr hg rfl gFa FFa.kp bFa (pa_cons (pe_callTy call_tuple_of (by rfl) mu (by decide +kernel) (pa_cons (pv 7) pa_nil)) (pa_cons (pe_callTy call_tuple_of (by rfl) mu (by decide +kernel) (pa_cons (pv 14) pa_nil)) (pa_cons (pv 15) pa_nil)))))
      (pss_cons (ps_set (i := 17) sc40.nd rfl (.inl rfl) (pe_callG GFa hr hg rfl gFa FFa.kp bFa (pa_cons (pe_callTy call_tuple_of (by rfl) mu (by decide +kernel) (pa_cons (pe_op op_cat (pv 11) (pv 7)) pa_nil)) (pa_cons (pe_callTy call_tuple_of (by rfl) mu (by decide +kernel) (pa_cons (pv 14) pa_nil)) (pa_cons (pv 15) pa_nil)))))
      (pss_cons (ps_if (PW.pt (pw_or (pt_not (pt_val (pe_callG GAl hr hg rfl gAl FAl.kp bAl (pa_cons (pv 16) (pa_cons (pe_callTy call_tuple_of (by rfl) mu (by decide +kernel) (pa_cons (pe_callB (cr_sortT hr) (by rfl) ms (by decide +kernel) (pa_cons
            (pe_callG GFL hr hg rfl gFL FFL.kp bFL (pa_cons (pv 7) (pa_cons (pv 14) (pa_cons (pv 15) pa_nil)))) pa_nil)) pa_nil)) pa_nil)))))
          (pw_or1 (pt_not (pt_val (pe_callB call_isi (by rfl) mi (by decide +kernel) (pa_cons (pv 17) (pa_cons (pe_bltn (v := .ty "tuple") (by rfl) mu (by decide +kernel) rfl) pa_nil)))))))) (pss_one (ps_ret pe_bl)) pss_nil)
      (pss_cons (ps_set (i := 18) sc40.nd rfl (.inl rfl) (pe_callTy call_tuple_of (by rfl) mu (by decide +kernel) (pa_cons (pe_lc (own := [("_law_fact", 21)]) (g := gName 21) rfl sc40.nd (pi_tup (pv 17))
          (blkOk_by (N := N40) (sc := defScope (topS 40)) (by decide +kernel)) (fun _ _ _ _ _ => pg_name (i := 21) sc40.nd rfl (.inl rfl))
          (fun _ _ _ _ _ => pts_one (pt_cmpR (r := rNotInD K) (op_notInD hu65) (pe_tup (pa_cons (pe_ix (r := rIxT K) ix_tup (pv 21) pe_int (fun _ _ => rfl)) (pa_cons (pe_callB (r := fun xs H Q => ∃ p ys, xs = [.ref p] ∧ (SqL K H p ys ∨ SqT K H p ys) ∧ Q (.int ys.length) H) call_len_seq (by rfl) mn PySem.boot_len (pa_cons (pv 21) pa_nil)) pa_nil))) (pv 13) rfl)) (fun _ _ _ _ _ => pv 21)) pa_nil)))
      (pss_one (ps_ret (pe_callG GAl hr hg rfl gAl FAl.kp bAl (pa_cons (pv 18) (pa_cons (pe_callTy call_tuple_of (by rfl) mu (by decide +kernel) (pa_cons (pe_lc (own := [("_law_fact", 21)]) (g := gName 21) rfl sc40.nd (pi_tup (pv 16))
          (blkOk_by (N := N40) (sc := defScope (topS 40)) (by decide +kernel)) (fun _ _ _ _ _ => pg_name (i := 21) sc40.nd rfl (.inl rfl))
          (fun _ _ _ _ _ => pts_one (pt_cmpR (r := rNotInD K) (op_notInD hu65) (pe_tup (pa_cons (pe_ix (r := rIxT K) ix_tup (pv 21) pe_int (fun _ _ => rfl)) (pa_cons (pe_callB (r := fun xs H Q => ∃ p ys, xs = [.ref p] ∧ (SqL K H p ys ∨ SqT K H p ys) ∧ Q (.int ys.length) H) call_len_seq (by rfl) mn PySem.boot_len (pa_cons (pv 21) pa_nil)) pa_nil))) (pv 13) rfl)) (fun _ _ _ _ _ => pv 21)) pa_nil)) pa_nil))))))))))))))))))))))), ?_⟩
    -- the tape
    refine ⟨.ref a, rfl, a, ns, rfl, hs, fun H1 t l s1 nt hT1 => ?_⟩
    -- symbols
    refine ⟨.ref t, rfl, .ref t, rfl, t, l, 3, rfl, by omega, by omega, hT1, fun H2 n2 k2 hT2 hn2 => ⟨_, _, rfl, rfl, t, l, 1 + n2, by show [V.ref t, V.int (1 + (n2 : Int))] = _; rw [one_add], by omega, by omega, hT2, fun H3 sy ps k3 nsy hT3 hps hpl hpg => ?_⟩⟩
    have hSy3 : Syms K H3 sy ps := ⟨hps, ne_len hpl (by omega), by omega, hpg⟩
    -- relations
    refine ⟨.ref t, rfl, .ref t, rfl, t, l, 3, rfl, by omega, by omega, hT3, fun H4 n4 k4 hT4 hn4 => ⟨_, _, rfl, rfl, t, l, 1 + n4, by show [V.ref t, V.int (1 + (n4 : Int))] = _; rw [one_add], by omega, by omega, hT4, fun H5 re qs k5 nre hT5 hqs hql hqg => ?_⟩⟩
    -- others
    refine ⟨.ref t, rfl, .ref t, rfl, t, l, 2, rfl, by omega, by omega, hT5, fun H6 n6 k6 hT6 hn6 => ⟨_, _, rfl, rfl, t, l, 1 + n6, by show [V.ref t, V.int (1 + (n6 : Int))] = _; rw [one_add], by omega, by omega, hT6, fun H7 o0 os0 k7 no0 hT7 hos0 hol0 hog0 => ?_⟩⟩
    have k57 := k6.trans k7
    have hqs7 : PrL K H7 re qs := hqs.kp k57 (by simpa using tape_prl hT5 hqs)
    obtain ⟨rv7, hrv7, hrp7⟩ := id hqs7
    obtain ⟨ov, hov, hop⟩ := id hos0
    have hqNm : ∀ q ∈ qs, Nm q.1 := fun q hq => (hqg q hq).1.1
    have hovl := pr_len hop
    refine ⟨o0, rfl, ⟨ov, SqL.of hov⟩, fun D nD => lc_list (xs := ov) (fun i H' => Same H7 H' ∧ ∃ ws, H' D = some (.lst ws) ∧ Paired (PrAt K H') ws ((os0.take i).filter fun q => !decide (q ∈ qs)))
      ⟨same_new nD, [], upd_same, .nil⟩ (fun i H' _ hh => hh.1.seq (SqL.of hov)) ?_ ?_⟩
    · rintro i x H8 hx ⟨s8, ws, hD, hws⟩
      obtain ⟨qq, hqq, hqa⟩ := pr_get hop hx
      have gq := hog0 _ (List.mem_of_getElem? hqq)
      have hqa8 := hqa.kp (.of (M := []) s8)
      have hwl := pr_len hws
      have hfl : ((os0.take i).filter fun q => !decide (q ∈ qs)).length ≤ (os0.take i).length := List.length_filter_le _ _
      rw [List.length_take] at hfl
      refine ⟨rfl, x, rfl, .ref re, rfl, notin_rd hqa8 (s8 _ _ hrv7) (prs_kp (.of (M := []) s8) hrp7) gq.1.1 hqNm ⟨_, rfl, ?_⟩⟩
      cases hd : decide (qq ∈ qs) with
      | true =>
        refine iteF ⟨s8, ws, hD, ?_⟩
        rw [filter_snoc hqq, hd]
        simpa using hws
      | false =>
        refine iteT ⟨x, rfl, ws, hD, line_0 (by omega), same_put s8 nD, _, upd_same, ?_⟩
        rw [filter_snoc hqq, hd]
        have k9 : Kp [D] H8 (upd H8 D (.lst (ws ++ [x]))) := .put (by simp) hD True.intro
        exact pr_snoc (prs_kp k9 hws) (hqa8.kp k9)
    rintro H8 ⟨s8, ws, hD, hws⟩
    rw [hovl, List.take_length] at hws
    have kk8 : Kp [t] H3 H8 := ((k4.trans k5).trans k57).trans (.of s8)
    have hT8 := hT7.same s8
    have hSy8 := hSy3.kp hT3 kk8
    have hqs8 := hqs7.kp (Kp.of (M := []) s8) (by simp)
    have hwl8 := pr_len hws
    have hfl8 : (os0.filter fun q => !decide (q ∈ qs)).length ≤ os0.length := List.length_filter_le _ _
    dsimp only
    refine g_join (fun σ' H' => ∃ re ot qs os, σ' = [some (.ref a), some (.ref t), some (.ref sy), some (.ref re), some (.ref ot), none, none, none, none, none, none, none, none, none, none, none, none, none, none, none, none, none] ∧ Kp [t] H3 H' ∧ TapeAt H' t l ∧ Syms K H' sy ps ∧
        Rels K H' re qs ∧ Rels K H' ot os ∧ qs.length ≤ 4 ∧ os.length ≤ 4 ∧ ∀ q ∈ os, q ∉ qs) (fun after => ?_) ?_
    · refine ⟨.ref D, rfl, !ws.isEmpty, .inl ⟨ws, SqL.of hD, rfl⟩, ite2 (fun he => ?_) (fun hne => after _ _ ⟨re, D, qs, os0.filter fun q => !decide (q ∈ qs), rfl, kk8, hT8, hSy8, .of hqs8 (ne_len hql (by omega)) (by omega) (fun q hq => ⟨(hqg q hq).1, by have := (hqg q hq).2; omega⟩), .of ⟨ws, hD, hws⟩ ?_ (by omega) ?_, by omega, by omega, ?_⟩)⟩
      · -- the one other relation
        obtain ⟨rv8, hrv8, hrp8⟩ := id hqs8
        cases hq0 : qs with
        | nil => rw [hq0] at hql; simp at hql; omega
        | cons q0 qr =>
          have g0 := hqg q0 (by rw [hq0]; exact List.mem_cons_self)
          rw [hq0] at hrp8
          obtain ⟨v0, rr, rfl, ⟨a0, rfl, ha0⟩, hrr⟩ := pr_cons' hrp8
          refine ⟨.ref re, rfl, re, _, 0, .ref a0, rfl, rfl, SqL.of hrv8, atI_nat (j := 0) rfl, a0, _, 0, .str q0.1, rfl, rfl, ha0, atI_nat (j := 0) rfl, .ref re, rfl, re, _, 0, .ref a0, rfl, rfl, SqL.of hrv8, atI_nat (j := 0) rfl, a0, _, 1, .int q0.2, rfl, rfl, ha0, atI_nat (j := 1) rfl, _, _, rfl, rfl,
            line_1 (by show 2 ≤ 100000; omega), fun b nb => ⟨line_1 (by show 1 ≤ 100000; omega), fun o2 no2 => ?_⟩⟩
          have sb : Same H8 (upd H8 b (.tup [.str q0.1, .int ((q0.2 : Int) + 1)])) := same_new nb
          have so : Same (upd H8 b (.tup [.str q0.1, .int ((q0.2 : Int) + 1)])) (upd (upd H8 b (.tup [.str q0.1, .int ((q0.2 : Int) + 1)])) o2 (.lst [.ref b])) := same_new no2
          have hO9 : PrL K (upd (upd H8 b (.tup [.str q0.1, .int ((q0.2 : Int) + 1)])) o2 (.lst [.ref b])) o2 [(q0.1, q0.2 + 1)] := ⟨_, upd_same, .cons ⟨b, rfl, SqT.of (so _ _ upd_same)⟩ .nil⟩
          have s89 := sb.trans so
          generalize upd (upd H8 b (.tup [.str q0.1, .int ((q0.2 : Int) + 1)])) o2 (.lst [.ref b]) = H9 at *
          have hR9 : PrL K H9 re (q0 :: qr) := (PrL.kp (Kp.of (M := []) s89) (by simp) ⟨_, hrv8, .cons ⟨a0, rfl, ha0⟩ hrr⟩)
          obtain ⟨rv9, hrv9, hrp9⟩ := hR9
          obtain ⟨ov9, hov9, hop9⟩ := id hO9
          have hrl9 := pr_len hrp9
          have hNm1 : ∀ r ∈ [(q0.1, q0.2 + 1)], Nm r.1 := fun r hr => by rw [List.mem_singleton.mp hr]; exact g0.1.1
          refine ⟨.ref re, rfl, re, rfl, ⟨rv9, SqL.of hrv9⟩, fun D2 nD2 => lc_list (xs := rv9) (fun i H' => Same H9 H' ∧ ∃ ws, H' D2 = some (.lst ws) ∧ Paired (PrAt K H') ws (((q0 :: qr).take i).filter fun q => !decide (q ∈ [(q0.1, q0.2 + 1)])))
            ⟨same_new nD2, [], upd_same, .nil⟩ (fun i H' _ hh => hh.1.seq (SqL.of hrv9)) ?_ ?_⟩
          · rintro i x H10 hx ⟨s10, zs, hD2, hzs⟩
            obtain ⟨qq, hqq, hqa⟩ := pr_get hrp9 hx
            have gq := hqg qq (by rw [hq0]; exact List.mem_of_getElem? hqq)
            have hqa8 := hqa.kp (.of (M := []) s10)
            have hzl := pr_len hzs
            have hfl : (((q0 :: qr).take i).filter fun q => !decide (q ∈ [(q0.1, q0.2 + 1)])).length ≤ ((q0 :: qr).take i).length := List.length_filter_le _ _
            rw [List.length_take] at hfl
            refine ⟨rfl, x, rfl, .ref o2, rfl, notin_rd hqa8 (s10 _ _ hov9) (prs_kp (.of (M := []) s10) hop9) gq.1.1 hNm1 ⟨_, rfl, ?_⟩⟩
            rw [hq0] at hql
            cases hd : decide (qq ∈ [(q0.1, q0.2 + 1)]) with
            | true =>
              refine iteF ⟨s10, zs, hD2, ?_⟩
              rw [filter_snoc hqq, hd]
              simpa using hzs
            | false =>
              refine iteT ⟨x, rfl, zs, hD2, line_0 (by omega), same_put s10 nD2, _, upd_same, ?_⟩
              rw [filter_snoc hqq, hd]
              have k11 : Kp [D2] H10 (upd H10 D2 (.lst (zs ++ [x]))) := .put (by simp) hD2 True.intro
              exact pr_snoc (prs_kp k11 hzs) (hqa8.kp k11)
          · rintro H10 ⟨s10, zs, hD2, hzs⟩
            rw [hrl9, List.take_length] at hzs
            rw [hq0] at hql
            have hfl : ((q0 :: qr).filter fun q => !decide (q ∈ [(q0.1, q0.2 + 1)])).length ≤ (q0 :: qr).length := List.length_filter_le _ _
            have hin : q0 ∈ (q0 :: qr).filter fun q => !decide (q ∈ [(q0.1, q0.2 + 1)]) := by
              refine List.mem_filter.mpr ⟨List.mem_cons_self, ?_⟩
              have : ¬ q0 ∈ [(q0.1, q0.2 + 1)] := fun z => by
                have := congrArg Prod.snd (List.mem_singleton.mp z)
                simp at this
              simpa using this
            refine after _ _ ⟨D2, o2, _, [(q0.1, q0.2 + 1)], rfl, kk8.trans (.of (s89.trans s10)), hT8.same (s89.trans s10), hSy8.kp hT8 (.of (s89.trans s10)), .of ⟨zs, hD2, hzs⟩ (fun e => by rw [e] at hin; cases hin) (by omega) (fun q hq => ?_),
              .of (hO9.kp (Kp.of (M := []) s10) (by simp)) (by simp) (by simp) (fun q hq => by rw [List.mem_singleton.mp hq]; exact ⟨g0.1, by have := g0.2; show q0.2 + 1 ≤ 4; omega⟩), by omega, by simp, fun q hq hq2 => ?_⟩
            · have := hqg q (by rw [hq0]; exact (List.mem_filter.mp hq).1)
              exact ⟨this.1, by omega⟩
            · have := (List.mem_filter.mp hq2).2
              rw [decide_eq_true hq] at this
              cases this
      · intro e
        rw [e] at hwl8
        cases ws with
        | nil => exact hne rfl
        | cons _ _ => simp at hwl8
      · intro q hq
        have := hog0 q (List.mem_filter.mp hq).1
        exact ⟨this.1, by omega⟩
      · intro q hq
        simpa using (List.mem_filter.mp hq).2
    · rintro σ H9 ⟨re, ot, qs, os, rfl, kk9, hT9, hSy9, hR9, hO9, hql9, hol9, hdj⟩
      -- many, names
      refine ⟨.ref t, rfl, t, l, 4, rfl, by omega, by omega, hT9, fun H10 n10 k10 hT10 hn10 => ⟨_, _, rfl, rfl, ?_⟩⟩
      refine ⟨.ref t, rfl, .int _, rfl, _, _, rfl, rfl, t, l, 1 + n10 + 3, ?_, by omega, hT10, fun H11 nl xs k11 nnl hT11 hxs hxl hxb => ?_⟩
      · show [V.ref t, V.int (1 + (n10 : Int) + 3)] = _
        have e : (1 : Int) + (n10 : Int) + 3 = ((1 + n10 + 3 : Nat) : Int) := by omega
        rw [e]
      -- old = []
      refine ⟨line_1 (by show 0 ≤ 100000; omega), fun ol nol => ?_⟩
      have k911 : Kp [t] H9 H11 := k10.trans k11
      have k9B : Kp [t] H9 (upd H11 ol (.lst [])) := k911.trans (.new nol)
      have olt : ol ∉ [t] := by simp only [List.mem_singleton]; exact fun e => (hT11.ne nol).1 e.symm
      have nlt : nl ∉ [t] := by simp only [List.mem_singleton]; exact fun e => (hT10.ne nnl).1 e.symm
      have hnol : nl ≠ ol := ne_of_none hxs nol
      refine ⟨.int _, rfl, _, rfl, by omega, by omega, ?_⟩
      have em : ((1 : Int) + (n10 : Int)).toNat = 1 + n10 := by omega
      rw [em]
      refine for_range (n := 1 + n10) (fun i σ H' => (∃ y8 y9 y10, σ = [some (.ref a), some (.ref t), some (.ref sy), some (.ref re), some (.ref ot), some (.int (1 + (n10 : Int))), some (.ref nl), some (.ref ol), y8, y9, y10, none, none, none, none, none, none, none, none, none, none, none]) ∧
          Kp [t] H11 H' ∧ TapeAt H' t l ∧ ∃ vs rs, H' ol = some (.lst vs) ∧ Paired (RuleAt K H') vs rs ∧ rs.length = i ∧ ∀ r ∈ rs, ∃ hs, RMade hs qs r)
        ⟨⟨_, _, _, rfl⟩, .new nol, hT11.same (same_new nol), [], [], upd_same, .nil, rfl, fun _ z => by cases z⟩ ?_ ?_
      · rintro i σ H12 hi ⟨⟨y8, y9, y10, rfl⟩, k12, hT12, vs, rs, hol, hrs, hrl, hrm⟩
        have k912 := k911.trans k12
        have hR12 := hR9.kp hT9 k912
        have hO12 := hO9.kp hT9 k912
        obtain ⟨rv, hrv, hrp⟩ := id hR12.rel
        obtain ⟨ov, hov, hop⟩ := id hO12.rel
        have hrvl := pr_len hrp
        have hovl := pr_len hop
        refine ⟨.ref re, rfl, .ref re, rfl, .ref ot, rfl, re, ot, rv, ov, rfl, rfl, hrv, hov, line_1 (by omega), fun c nc => ⟨line_1 (by show 2 ≤ 100000; omega), fun ll nll => ⟨.ref t, rfl, t, l, 2, rfl, by omega, by omega, (hT12.same (same_new nc)).same (same_new nll), fun H13 n13 k13 hT13 hn13 => ?_⟩⟩⟩
        have sc : Same H12 (upd H12 c (.lst (rv ++ ov))) := same_new nc
        have sl : Same (upd H12 c (.lst (rv ++ ov))) (upd (upd H12 c (.lst (rv ++ ov))) ll (.lst [.ref re, .ref c])) := same_new nll
        have k1213 : Kp [t] H12 H13 := (Kp.of (sc.trans sl)).trans k13
        have hll : H13 ll = some (.lst [.ref re, .ref c]) := k13.all _ _ (by simp only [List.mem_singleton]; exact fun e => ((hT12.same sc).ne nll).1 e.symm) upd_same
        have hRc : Rels K (upd (upd H12 c (.lst (rv ++ ov))) ll (.lst [.ref re, .ref c])) c (qs ++ os) := by
          have k := Kp.of (M := []) (sc.trans sl)
          refine ⟨⟨rv ++ ov, sl _ _ upd_same, pr_app (prs_kp k hrp) (prs_kp k hop)⟩, fun e => hR9.ne (List.append_eq_nil_iff.mp e).1, by rw [List.length_append]; omega, fun q hq => ?_⟩
          rcases List.mem_append.mp hq with h | h
          · exact hR9.good q h
          · exact hO9.good q h
        obtain ⟨hd, hq, hat, hHd⟩ : ∃ hd hq, atI [V.ref re, .ref c] (n13 : Int) = some (.ref hd) ∧ Rels K H13 hd hq := by
          have : n13 = 0 ∨ n13 = 1 := by omega
          rcases this with rfl | rfl
          · exact ⟨re, qs, atI_nat (j := 0) rfl, hR12.kp hT12 k1213⟩
          · exact ⟨c, qs ++ os, atI_nat (j := 1) rfl, hRc.kp ((hT12.same sc).same sl) k13⟩
        refine ⟨ll, _, _, _, rfl, rfl, SqL.of hll, hat, ?_⟩
        refine ⟨line_1 (by show 3 ≤ 100000; omega), fun l5 n5 => ⟨.ref t, rfl, t, l, 3, rfl, by omega, by omega, hT13.same (same_new n5), fun H14 n14 k14 hT14 hn14 => ?_⟩⟩
        have hl5 : H14 l5 = some (.lst [.int 0, .int 1, .int 2]) := k14.all _ _ (by simp only [List.mem_singleton]; exact fun e => (hT13.ne n5).1 e.symm) upd_same
        have k1314 : Kp [t] H13 H14 := (Kp.new n5).trans k14
        refine ⟨l5, _, _, _, rfl, rfl, SqL.of hl5, at3 hn14, ?_⟩
        have k1214 := k1213.trans k1314
        have hol14 := k1214.all _ _ olt hol
        have hxs14 : H14 nl = some (strL xs) := (k12.trans k1214).all _ _ nlt hxs
        have hix : i < xs.length := by omega
        have hx : (xs.map V.str)[i]? = some (.str xs[i]) := by rw [List.getElem?_map, List.getElem?_eq_getElem hix]; rfl
        have k914 := k912.trans k1214
        refine ⟨.ref ol, rfl, .inl ⟨rfl, _, SqL.of hol14⟩, .ref t, rfl, .ref nl, rfl, .int _, rfl, nl, _, _, .str xs[i], rfl, rfl, SqL.of hxs14, by rw [Int.zero_add]; exact atI_nat hx, .ref hd, rfl, .ref re, rfl, .ref sy, rfl, .ref t, rfl, t, l, 3, rfl, by omega, by omega, hT14, fun H15 n15 k15 hT15 hn15 => ?_⟩
        refine ⟨_, _, rfl, rfl, .int _, rfl, t, l, hd, re, sy, xs[i], 1 + n15, n14, ps, hq, qs, ?_, by have := hxb _ (List.getElem_mem hix); omega, by omega, by omega, hT15, hSy9.kp hT9 (k914.trans k15), hHd.kp hT13 (k1314.trans k15), hR9.kp hT9 (k914.trans k15), fun H16 v r k16 hT16 hra hrm2 => ?_⟩
        · show [V.ref t, .str xs[i], .ref hd, .ref re, .ref sy, .int (1 + (n15 : Int)), .int (n14 : Int)] = _
          rw [one_add]
        · have k1216 := (k1214.trans k15).trans k16
          have hol16 := k1216.all _ _ olt hol
          have hvl := pr_len hrs
          have k17 : Kp [ol] H16 (upd H16 ol (.lst (vs ++ [v]))) := .put (by simp) hol16 True.intro
          refine ⟨ol, vs, _, rfl, rfl, hol16, line_0 (by omega), ⟨_, _, _, rfl⟩, (k12.trans k1216).put_new nol, hT16.upd (hT11.ne nol).1 (hT11.ne nol).2, vs ++ [v], rs ++ [r], upd_same, pr_snoc (rules_kp k17 (rules_kp k1216 hrs)) (hra.kp k17), by simp; omega, fun q hq => ?_⟩
          rcases List.mem_append.mp hq with z | z
          · exact hrm q z
          · rw [List.mem_singleton.mp z]; exact ⟨_, hrm2⟩
      · rintro σ H12 ⟨⟨y8, y9, y10, rfl⟩, k12, hT12, vs, rs, hol, hrs, hrl, hrm⟩
        -- further = []
        refine ⟨line_1 (by show 0 ≤ 100000; omega), fun fl nfl => ?_⟩
        have k912 := k911.trans k12
        have sfl : Same H12 (upd H12 fl (.lst [])) := same_new nfl
        have flt : fl ∉ [t] := by simp only [List.mem_singleton]; exact fun e => (hT12.ne nfl).1 e.symm
        refine ⟨.ref t, rfl, t, l, 3, rfl, by omega, by omega, hT12.same sfl, fun H13 n13 k13 hT13 hn13 => ⟨_, _, rfl, rfl, _, rfl, by omega, by omega, ?_⟩⟩
        have em2 : ((1 : Int) + (n13 : Int)).toNat = 1 + n13 := by omega
        rw [em2]
        have k1213 : Kp [t] H12 H13 := (Kp.of sfl).trans k13
        have hfl13 : H13 fl = some (.lst []) := k13.all _ _ flt upd_same
        refine for_range (n := 1 + n13) (fun i σ H' => (∃ y8 y10 y12, σ = [some (.ref a), some (.ref t), some (.ref sy), some (.ref re), some (.ref ot), some (.int (1 + (n10 : Int))), some (.ref nl), some (.ref ol), y8, y9, y10, some (.ref fl), y12, none, none, none, none, none, none, none, none, none]) ∧
            Kp [t] H12 H' ∧ TapeAt H' t l ∧ ∃ fv fs, H' fl = some (.lst fv) ∧ Paired (RuleAt K H') fv fs ∧ fs.length = i ∧ ∀ r ∈ fs, ∃ bs, RMade os bs r)
          ⟨⟨_, _, _, rfl⟩, k1213, hT13, [], [], hfl13, .nil, rfl, fun _ z => by cases z⟩ ?_ ?_
        · rintro i σ H14 hi ⟨⟨z8, z10, z12, rfl⟩, k14, hT14, fv, fs, hfv, hfs, hfl, hfm⟩
          have k914 := k912.trans k14
          refine ⟨line_1 (by show 3 ≤ 100000; omega), fun l5 n5 => ⟨.ref t, rfl, t, l, 3, rfl, by omega, by omega, hT14.same (same_new n5), fun H15 n15 k15 hT15 hn15 => ?_⟩⟩
          have hl5 : H15 l5 = some (.lst [.int 0, .int 1, .int 2]) := k15.all _ _ (by simp only [List.mem_singleton]; exact fun e => (hT14.ne n5).1 e.symm) upd_same
          have k1415 : Kp [t] H14 H15 := (Kp.new n5).trans k15
          have k915 := k914.trans k1415
          have hR15 := hR9.kp hT9 k915
          have hO15 := hO9.kp hT9 k915
          obtain ⟨rv, hrv, hrp⟩ := id hR15.rel
          obtain ⟨ov, hov, hop⟩ := id hO15.rel
          have hrvl := pr_len hrp
          have hovl := pr_len hop
          have hxs15 : H15 nl = some (strL xs) := ((k12.trans k14).trans k1415).all _ _ nlt hxs
          have hix : 1 + n10 + i < xs.length := by omega
          have hx : (xs.map V.str)[1 + n10 + i]? = some (.str xs[1 + n10 + i]) := by rw [List.getElem?_map, List.getElem?_eq_getElem hix]; rfl
          refine ⟨l5, _, _, _, rfl, rfl, SqL.of hl5, at3 hn15, ?_⟩
          refine ⟨.ref t, rfl, .ref nl, rfl, .int _, rfl, .int _, rfl, _, _, rfl, rfl, nl, _, _, .str xs[1 + n10 + i], rfl, rfl, SqL.of hxs15, ?_, .ref ot, rfl, .ref re, rfl, .ref ot, rfl, re, ot, rv, ov, rfl, rfl, hrv, hov, line_1 (by omega), fun c nc => ?_⟩
          · have e : (1 : Int) + (n10 : Int) + (0 + (i : Int)) = ((1 + n10 + i : Nat) : Int) := by omega
            rw [e]
            exact atI_nat hx
          have sc : Same H15 (upd H15 c (.lst (rv ++ ov))) := same_new nc
          have hRc : Rels K (upd H15 c (.lst (rv ++ ov))) c (qs ++ os) := by
            have k := Kp.of (M := []) sc
            refine ⟨⟨rv ++ ov, upd_same, pr_app (prs_kp k hrp) (prs_kp k hop)⟩, fun e => hR9.ne (List.append_eq_nil_iff.mp e).1, by rw [List.length_append]; omega, fun q hq => ?_⟩
            rcases List.mem_append.mp hq with h | h
            · exact hR9.good q h
            · exact hO9.good q h
          have hT15c := hT15.same sc
          refine ⟨.ref sy, rfl, .ref t, rfl, t, l, 3, rfl, by omega, by omega, hT15c, fun H16 n16 k16 hT16 hn16 => ?_⟩
          have k916 := (k915.trans (.of sc)).trans k16
          refine ⟨_, _, rfl, rfl, .int _, rfl, t, l, ot, c, sy, xs[1 + n10 + i], 1 + n16, n15, ps, os, qs ++ os, ?_, by have := hxb _ (List.getElem_mem hix); omega, by omega, by omega, hT16, hSy9.kp hT9 k916, hO9.kp hT9 k916, hRc.kp hT15c k16, fun H17 v r k17 hT17 hra hrm2 => ?_⟩
          · show [V.ref t, .str xs[1 + n10 + i], .ref ot, .ref c, .ref sy, .int (1 + (n16 : Int)), .int (n15 : Int)] = _
            rw [one_add]
          · have k1417 := ((k1415.trans (.of sc)).trans k16).trans k17
            have hfv17 := k1417.all _ _ flt hfv
            have hvl := pr_len hfs
            have k18 : Kp [fl] H17 (upd H17 fl (.lst (fv ++ [v]))) := .put (by simp) hfv17 True.intro
            refine ⟨.ref fl, rfl, .inl ⟨rfl, _, SqL.of hfv17⟩, v, rfl, fl, fv, _, rfl, rfl, hfv17, line_0 (by omega), ⟨_, _, _, rfl⟩, (k14.trans k1417).put_new nfl, hT17.upd (hT12.ne nfl).1 (hT12.ne nfl).2, fv ++ [v], fs ++ [r], upd_same, pr_snoc (rules_kp k18 (rules_kp k1417 hfs)) (hra.kp k18), by simp; omega, fun q hq => ?_⟩
            rcases List.mem_append.mp hq with z | z
            · exact hfm q z
            · rw [List.mem_singleton.mp z]; exact ⟨_, hrm2⟩
        · rintro σ H14 ⟨⟨z8, z10, z12, rfl⟩, k14, hT14, fv, fs, hfv, hfs, hfl, hfm⟩
          have hvl := pr_len hfs
          -- concluded
          refine ⟨.ref fl, rfl, fl, rfl, ⟨fv, SqL.of hfv⟩, fun cl ncl => lc_list (xs := fv) (fun i H' => Same H14 H' ∧ ∃ ws, H' cl = some (.lst ws) ∧ Paired (PrAt K H') ws (conc (fs.take i)))
            ⟨same_new ncl, [], upd_same, .nil⟩ (fun i H' _ hh => hh.1.seq (SqL.of hfv)) ?_ ?_⟩
          · rintro i x H15 hx ⟨s15, ws, hcl, hws⟩
            obtain ⟨r, hri, hra⟩ := pr_get hfs hx
            obtain ⟨bs, hm⟩ := hfm r (List.mem_of_getElem? hri)
            obtain ⟨g, as, ec, _⟩ := hm.head
            obtain ⟨ar, br, vr, cr, rfl, h1, h2, h3, h4⟩ := hra.kp (.of (M := []) s15)
            rw [ec] at h4
            obtain ⟨ca, cv, rfl, hca, hcv⟩ := h4.app
            have hwl := pr_len hws
            rw [conc, List.length_map, List.length_take] at hwl
            refine ⟨rfl, .ref ar, rfl, ar, _, 2, .ref ca, rfl, rfl, h1, atI_nat (j := 2) rfl, ca, _, 0, .str g, rfl, rfl, hca, atI_nat (j := 0) rfl, .ref ar, rfl, ar, _, 2, .ref ca, rfl, rfl, h1, atI_nat (j := 2) rfl, ca, _, rfl, .inr hca, line_1 (by show 2 ≤ 100000; omega), fun b nb => ?_⟩
            have kb : Kp [] H15 (upd H15 b (.tup [.str g, .int ((V.str g :: cv).length : Nat)])) := .new nb
            have hcl2 := kb.same_at hcl nb
            have kc : Kp [cl] (upd H15 b (.tup [.str g, .int ((V.str g :: cv).length : Nat)])) (upd (upd H15 b (.tup [.str g, .int ((V.str g :: cv).length : Nat)])) cl (.lst (ws ++ [.ref b]))) := .put (by simp) hcl2 True.intro
            refine ⟨ws, hcl2, line_0 (by omega), same_put (s15.trans kb.same) ncl, _, upd_same, ?_⟩
            have e : conc (fs.take (i + 1)) = conc (fs.take i) ++ [(g, (V.str g :: cv).length)] := by
              unfold conc
              rw [take_snoc hri, List.map_append, List.map_cons, List.map_nil, ec, relT, List.length_cons, pr_len hcv]
            rw [e]
            exact pr_snoc (prs_kp kc (prs_kp kb hws)) ⟨b, rfl, kc.sqt (SqT.of upd_same)⟩
          rintro H15 ⟨s15, cws, hcl, hcws⟩
          rw [hvl, List.take_length] at hcws
          have k1215 : Kp [t] H12 H15 := k14.trans (.of s15)
          have hT15 := hT14.same s15
          have hSy15 := hSy9.kp hT9 (k912.trans k1215)
          -- the terms
          refine ⟨.ref t, rfl, .ref sy, rfl, .ref t, rfl, t, l, 3, rfl, by omega, by omega, hT15, fun H16 n16 k16 hT16 hn16 => ⟨_, _, rfl, rfl, t, l, sy, 1 + n16, ps, by show [V.ref t, .ref sy, .int (1 + (n16 : Int))] = _; rw [one_add], by omega, hT16, hSy15.kp hT15 k16, fun H17 ul us ts k17 nul hT17 hul hus tg => ?_⟩⟩
          -- the height
          refine ⟨.ref t, rfl, t, l, 6, rfl, by omega, by omega, hT17, fun H18 n18 k18 hT18 hn18 => ⟨_, _, rfl, rfl, ?_⟩⟩
          have k1518 := (k16.trans k17).trans k18
          have k1218 := k1215.trans k1518
          have k1118 := k12.trans k1218
          -- all that is wanted from now on
          have sH : Same H H18 := by
            have kk := ((((((Kp.of s1 : Kp [t] H H1).trans k2).trans k3).trans kk9).trans k911).trans k1118)
            exact (kk.drop nt).same
          have hol18 := k1218.all _ _ olt hol
          have hrs18 := rules_kp k1218 hrs
          have hfv18 := ((Kp.of s15).trans k1518).all _ _ flt hfv
          have hfs18 := rules_kp ((Kp.of (M := [t]) s15).trans k1518) hfs
          have hcl18 : H18 cl = some (.lst cws) := k1518.all _ _ (by simp only [List.mem_singleton]; exact fun e => (hT14.ne ncl).1 e.symm) hcl
          have hcw18 := prs_kp k1518 hcws
          have ult : ul ∉ [t] := by simp only [List.mem_singleton]; exact fun e => (hT16.ne nul).1 e.symm
          have hul18 := k18.all _ _ ult hul
          have hus18 := Tms.kp k18 _ hus
          have hTb18 := hTb.ext sH
          have hrl2 := pr_len hrs18
          have hfl2 := pr_len hfs18
          have hgo : ∀ r ∈ rs, RGood r := fun r hr => (hrm r hr).choose_spec.good
          have hgf : ∀ r ∈ fs, RGood r := fun r hr => (hfm r hr).choose_spec.good
          have hown : ∀ q ∈ os, Wd q.1 := fun q hq => (hO9.good q hq).1
          clear hT1 hT2 hT3 hT4 hT5 hT6 hT7 hT8 hT9 hT10 hT11 hT12 hT13 hT14 hT15 hT16 hT17
          clear k2 k3 k4 k5 k6 k7 k57 kk8 kk9 k10 k11 k911 k9B k12 k912 k1213 k13 k14 k1215 k16 k17 k18 k1518 k1218 k1118
          have six : 1 + n18 ≤ 6 := by omega
          have hn18 := one_add n18
          -- before
          refine ⟨.ref ol, rfl, ol, vs, rfl, .inl ⟨SqL.of hol18, fun t1 nt1 => ?_⟩⟩
          have sA : Same H18 (upd H18 t1 (.tup vs)) := same_new nt1
          refine ⟨.ref ul, rfl, ul, us, rfl, .inl ⟨SqL.of (sA _ _ hul18), fun t2 nt2 => ?_⟩⟩
          have sB : Same (upd H18 t1 (.tup vs)) (upd (upd H18 t1 (.tup vs)) t2 (.tup us)) := same_new nt2
          have sAB := sA.trans sB
          refine ⟨.int _, rfl, t1, t2, 1 + n18, vs, us, rs, ts, ?_, six, ⟨SqT.of (sB _ _ upd_same), rules_kp (.of (M := []) sAB) hrs18, SqT.of upd_same, Tms.kp (.of (M := []) sAB) _ hus18, tg, hgo, by omega, hTb18.ext sAB⟩, fun G1 p1 ws1 cs0 e1 hTb1 hp1 hw1 hpw0 kn0 hl0 => ?_⟩
          · show [V.ref t1, .ref t2, .int (1 + (n18 : Int))] = _
            rw [hn18]
          have eG1 := (LamX.ExtN.of sAB).trans e1
          have hol1 := eG1 _ _ hol18 (fun _ z => nomatch z)
          have hfv1 := eG1 _ _ hfv18 (fun _ z => nomatch z)
          have hcl1 := eG1 _ _ hcl18 (fun _ z => nomatch z)
          have hul1 := eG1 _ _ hul18 (fun _ z => nomatch z)
          have hrs1 := extN_rules eG1 hrs18
          have hfs1 := extN_rules eG1 hfs18
          have hus1 : Tms K G1 us ts := tms_ext (fun a xs h => extN_sqt eG1 h) ts hus18
          obtain ⟨few0, good0⟩ := kn_few tg hgo (by omega) kn0
          -- after
          refine ⟨.ref fl, rfl, .ref ol, rfl, fl, ol, fv, vs, rfl, rfl, hfv1, hol1, line_1 (by omega), fun t3 nt3 => ?_⟩
          have sC : Same G1 (upd G1 t3 (.lst (fv ++ vs))) := same_new nt3
          refine ⟨t3, _, rfl, .inl ⟨SqL.of upd_same, fun t4 nt4 => ?_⟩⟩
          have sD : Same (upd G1 t3 (.lst (fv ++ vs))) (upd (upd G1 t3 (.lst (fv ++ vs))) t4 (.tup (fv ++ vs))) := same_new nt4
          have ht4 : (upd (upd G1 t3 (.lst (fv ++ vs))) t4 (.tup (fv ++ vs))) t4 = some (.tup (fv ++ vs)) := upd_same
          have sCD := sC.trans sD
          generalize upd (upd G1 t3 (.lst (fv ++ vs))) t4 (.tup (fv ++ vs)) = G2 at *
          refine ⟨.ref ul, rfl, ul, us, rfl, .inl ⟨SqL.of (sCD _ _ hul1), fun t5 nt5 => ?_⟩⟩
          have sE : Same G2 (upd G2 t5 (.tup us)) := same_new nt5
          have sCE := sCD.trans sE
          refine ⟨.int _, rfl, t4, t5, 1 + n18, fv ++ vs, us, fs ++ rs, ts, ?_, six, ⟨SqT.of (sE _ _ ht4), pr_app (rules_kp (.of (M := []) sCE) hfs1) (rules_kp (.of (M := []) sCE) hrs1), SqT.of upd_same, Tms.kp (.of (M := []) sCE) _ hus1, tg, fun r hr => ?_, by rw [List.length_append]; omega, hTb1.ext sCE⟩,
            fun G3 p2 ws2 cs2 e3 hTb3 hp2 hw2 hpw2 kn2 hl2 => ?_⟩
          · show [V.ref t4, .ref t5, .int (1 + (n18 : Int))] = _
            rw [hn18]
          · rcases List.mem_append.mp hr with h | h
            · exact hgf r h
            · exact hgo r h
          have eG3 := (LamX.ExtN.of sCE).trans e3
          have hol3 := eG3 _ _ hol1 (fun _ z => nomatch z)
          have hcl3 := eG3 _ _ hcl1 (fun _ z => nomatch z)
          have hul3 := eG3 _ _ hul1 (fun _ z => nomatch z)
          have hp13 := eG3 _ _ hp1 (fun _ z => nomatch z)
          have hrs3 := extN_rules eG3 hrs1
          have hus3 : Tms K G3 us ts := tms_ext (fun a xs h => extN_sqt eG3 h) ts hus1
          have hw13 : Tms K G3 ws1 cs0 := tms_ext (fun a xs h => extN_sqt eG3 h) cs0 hw1
          obtain ⟨few2, good2⟩ := kn_few tg (rs := fs ++ rs) (fun r hr => by
            rcases List.mem_append.mp hr with h | h
            · exact hgf r h
            · exact hgo r h) (by rw [List.length_append]; omega) kn2
          have hcw3 : Paired (PrAt K G3) cws (conc fs) := pr_map hcw18 fun _ _ ⟨a, e, h⟩ => ⟨a, e, extN_sqt (eG1.trans eG3) h⟩
          have hcNm : ∀ q ∈ conc fs, Nm q.1 := fun q hq => by
            obtain ⟨r, hr, rfl⟩ := List.mem_map.mp hq
            obtain ⟨bs, hm⟩ := hfm r hr
            obtain ⟨g, as, ec, ho⟩ := hm.head
            show Nm (relT r.concl).1
            rw [ec, relT]
            exact (hown _ ho).1
          -- alike(before, tuple(sorted(_law_facts(..))))
          refine ⟨.ref p1, rfl, .ref ol, rfl, .ref ul, rfl, .int _, rfl, ol, ul, 1 + n18, vs, us, rs, ts, ?_, six, ⟨SqL.of hol3, hrs3, SqL.of hul3, hus3, tg, hgo, by omega⟩, fun G4 fp fvs cs1 s4 hfp hfw kn1 hl1 => ?_⟩
          · show [V.ref ol, .ref ul, .int (1 + (n18 : Int))] = _
            rw [hn18]
          obtain ⟨few1, good1⟩ := kn_few tg hgo (by omega) kn1
          refine ⟨fp, fvs, cs1, rfl, SqL.of hfp, hfw, fun c hc => ⟨(good1 c hc).1, by have := (good1 c hc).2.2; omega⟩, fun p3 ys cs1' np3 hys hperm hpw1 => ?_⟩
          have ecs : cs1' = cs0 := two_one kn0 hpw0 (kn_perm kn1 hperm) hpw1
          subst ecs
          have sF : Same G4 (upd G4 p3 (.lst ys)) := same_new np3
          refine ⟨p3, ys, rfl, .inl ⟨SqL.of upd_same, fun t6 nt6 => ?_⟩⟩
          have sG : Same (upd G4 p3 (.lst ys)) (upd (upd G4 p3 (.lst ys)) t6 (.tup ys)) := same_new nt6
          have sFG := sF.trans sG
          have sall := s4.trans sFG
          refine ⟨p1, t6, ws1, ys, cs1', rfl, SqT.of (sall _ _ hp13), SqT.of upd_same, Tms.kp (.of (M := []) sall) _ hw13, Tms.kp (.of (M := []) sFG) _ hys, good0, few0, true, rfl, iteF ?_⟩
          have hp25 := sall _ _ hp2
          have hp15 := sall _ _ hp13
          have hcl5 := sall _ _ hcl3
          have hw25 := Tms.kp (.of (M := []) sall) _ hw2
          have hw15 := Tms.kp (.of (M := []) sall) _ hw13
          have hcw5 := prs_kp (.of (M := []) sall) hcw3
          clear hol18 hrs18 hfv18 hfs18 hcl18 hcw18 hul18 hus18 hol1 hfv1 hcl1 hul1 hrs1 hfs1 hus1 hol3 hcl3 hul3 hp13 hrs3 hus3 hw13 hcw3
          generalize upd (upd G4 p3 (.lst ys)) t6 (.tup ys) = G5 at *
          refine ⟨_, rfl, _, _, .type "tuple", _, true, rfl, .ty "tuple", tyx_tup (SqT.of hp25), kit_ty (by decide +kernel), true, rfl, iteF ?_⟩
          -- kept
          have hfin := law_plain tg (fun r hr => ⟨_, (hrm r hr).choose_spec⟩) (fun r hr => hfm r hr) hdj hown kn0 hpw0 kn2 hpw2
          have hw2l := pr_len hw25
          have hw1l := pr_len hw15
          refine ⟨.ref p2, rfl, p2, rfl, ⟨ws2, SqT.of hp25⟩, fun D1 nD1 => lc_tup (xs := ws2) (fun i H' => Same G5 H' ∧ ∃ zs, H' D1 = some (.lst zs) ∧ Tms K H' zs (kept (conc fs) (cs2.take i)))
            ⟨same_new nD1, [], upd_same, .nil⟩ (fun i H' _ hh => SqT.of (hh.1 _ _ hp25)) ?_ ?_⟩
          · rintro i x H6 hx ⟨s6, zs, hD, hzs⟩
            obtain ⟨c, hci, hcm⟩ := pr_get hw25 hx
            have hcm6 := hcm.kp (.of (M := []) s6)
            obtain ⟨fa, g, gv, rfl, hfa, hrel, hgN⟩ := fact_at hcm6 (good2 c (List.mem_of_getElem? hci)).1
            have hzl := pr_len hzs
            have hfl9 : (kept (conc fs) (cs2.take i)).length ≤ (cs2.take i).length := List.length_filter_le _ _
            rw [List.length_take] at hfl9
            refine ⟨rfl, .ref fa, rfl, fa, _, 0, .str g, rfl, rfl, hfa, atI_nat (j := 0) rfl, .ref fa, rfl, fa, _, rfl, .inr hfa, line_1 (by show 2 ≤ 100000; omega), fun b nb => ?_⟩
            have kb : Kp [] H6 (upd H6 b (.tup [.str g, .int ((V.str g :: gv).length : Nat)])) := .new nb
            have hpa : PrAt K (upd H6 b (.tup [.str g, .int ((V.str g :: gv).length : Nat)])) (.ref b) (relT c) := ⟨b, rfl, by rw [hrel]; exact SqT.of upd_same⟩
            refine ⟨.ref cl, rfl, notin_rd hpa (kb.same _ _ (s6 _ _ hcl5)) (prs_kp kb (prs_kp (.of (M := []) s6) hcw5)) (by rw [hrel]; exact hgN) hcNm ⟨_, rfl, ?_⟩⟩
            have hD2 := kb.same _ _ hD
            have hzs2 := Tms.kp kb _ hzs
            have ek : kept (conc fs) (cs2.take (i + 1)) = kept (conc fs) (cs2.take i) ++ (if (!decide (relT c ∈ conc fs)) = true then [c] else []) := filter_snoc hci
            rw [ek]
            cases hd : decide (relT c ∈ conc fs) with
            | true =>
              refine iteF ⟨s6.trans kb.same, zs, hD2, ?_⟩
              rw [hd] at ek
              simpa using hzs2
            | false =>
              refine iteT ⟨.ref fa, rfl, zs, hD2, line_0 (by omega), same_put (s6.trans kb.same) nD1, _, upd_same, ?_⟩
              have k7 : Kp [D1] (upd H6 b (.tup [.str g, .int ((V.str g :: gv).length : Nat)])) (upd (upd H6 b (.tup [.str g, .int ((V.str g :: gv).length : Nat)])) D1 (.lst (zs ++ [.ref fa]))) := .put (by simp) hD2 True.intro
              exact pr_snoc (Tms.kp k7 _ hzs2) (Tm.kp k7 _ (Tm.kp kb _ hcm6))
          rintro H6 ⟨s6, zs, hD, hzs⟩
          rw [hw2l, List.take_length] at hzs
          refine ⟨D1, zs, rfl, .inl ⟨SqL.of hD, fun t7 nt7 => ?_⟩⟩
          have s7 : Same H6 (upd H6 t7 (.tup zs)) := same_new nt7
          have ht7 : (upd H6 t7 (.tup zs)) t7 = some (.tup zs) := upd_same
          have hzs7 := Tms.kp (.of (M := []) s7) _ hzs
          have s67 := s6.trans s7
          have hp17 := s67 _ _ hp15
          have hcl7 := s67 _ _ hcl5
          have hw17 := Tms.kp (.of (M := []) s67) _ hw15
          have hcw7 := prs_kp (.of (M := []) s67) hcw5
          generalize upd H6 t7 (.tup zs) = G7 at *
          refine ⟨.ref t7, rfl, .ref p1, rfl, p1, rfl, ⟨ws1, SqT.of hp17⟩, fun D3 nD3 => lc_tup (xs := ws1) (fun i H' => Same G7 H' ∧ ∃ zs, H' D3 = some (.lst zs) ∧ Tms K H' zs (kept (conc fs) (cs1'.take i)))
            ⟨same_new nD3, [], upd_same, .nil⟩ (fun i H' _ hh => SqT.of (hh.1 _ _ hp17)) ?_ ?_⟩
          · rintro i x H8 hx ⟨s8, ys8, hD, hzs⟩
            obtain ⟨c, hci, hcm⟩ := pr_get hw17 hx
            have hcm6 := hcm.kp (.of (M := []) s8)
            obtain ⟨fa, g, gv, rfl, hfa, hrel, hgN⟩ := fact_at hcm6 (good0 c (List.mem_of_getElem? hci)).1
            have hzl := pr_len hzs
            have hfl9 : (kept (conc fs) (cs1'.take i)).length ≤ (cs1'.take i).length := List.length_filter_le _ _
            rw [List.length_take] at hfl9
            refine ⟨rfl, .ref fa, rfl, fa, _, 0, .str g, rfl, rfl, hfa, atI_nat (j := 0) rfl, .ref fa, rfl, fa, _, rfl, .inr hfa, line_1 (by show 2 ≤ 100000; omega), fun b nb => ?_⟩
            have kb : Kp [] H8 (upd H8 b (.tup [.str g, .int ((V.str g :: gv).length : Nat)])) := .new nb
            have hpa : PrAt K (upd H8 b (.tup [.str g, .int ((V.str g :: gv).length : Nat)])) (.ref b) (relT c) := ⟨b, rfl, by rw [hrel]; exact SqT.of upd_same⟩
            refine ⟨.ref cl, rfl, notin_rd hpa (kb.same _ _ (s8 _ _ hcl7)) (prs_kp kb (prs_kp (.of (M := []) s8) hcw7)) (by rw [hrel]; exact hgN) hcNm ⟨_, rfl, ?_⟩⟩
            have hD2 := kb.same _ _ hD
            have hzs2 := Tms.kp kb _ hzs
            have ek : kept (conc fs) (cs1'.take (i + 1)) = kept (conc fs) (cs1'.take i) ++ (if (!decide (relT c ∈ conc fs)) = true then [c] else []) := filter_snoc hci
            rw [ek]
            cases hd : decide (relT c ∈ conc fs) with
            | true =>
              refine iteF ⟨s8.trans kb.same, ys8, hD2, ?_⟩
              rw [hd] at ek
              simpa using hzs2
            | false =>
              refine iteT ⟨.ref fa, rfl, ys8, hD2, line_0 (by omega), same_put (s8.trans kb.same) nD3, _, upd_same, ?_⟩
              have k7 : Kp [D3] (upd H8 b (.tup [.str g, .int ((V.str g :: gv).length : Nat)])) (upd (upd H8 b (.tup [.str g, .int ((V.str g :: gv).length : Nat)])) D3 (.lst (ys8 ++ [.ref fa]))) := .put (by simp) hD2 True.intro
              exact pr_snoc (Tms.kp k7 _ hzs2) (Tm.kp k7 _ (Tm.kp kb _ hcm6))
          rintro H8 ⟨s8, ys8, hD8, hys8⟩
          rw [hw1l, List.take_length, ← hfin] at hys8
          refine ⟨D3, ys8, rfl, .inl ⟨SqL.of hD8, fun t9 nt9 => ?_⟩⟩
          have s9 : Same H8 (upd H8 t9 (.tup ys8)) := same_new nt9
          have hkl : (kept (conc fs) cs2).length ≤ cs2.length := List.length_filter_le _ _
          exact ⟨t7, t9, zs, ys8, kept (conc fs) cs2, rfl, SqT.of (s9 _ _ (s8 _ _ ht7)), SqT.of upd_same, Tms.kp (.of (M := []) (s8.trans s9)) _ hzs7, Tms.kp (.of (M := []) s9) _ hys8, fun c hc => good2 c (List.mem_filter.mp hc).1, by omega, q _⟩
end
end K23

set_option Elab.async false
set_option linter.all false
set_option maxRecDepth 100000
set_option maxHeartbeats 0
/-! The head: the module's body makes the world. -/
namespace K23
open PySem PySem.Spec PyProof.Rows L2
def dF (x : Str) (i : Nat) : He.DefD := ⟨(x, none), x, x, defArgs (topS i), defBody (topS i), defScope (topS i), [], []⟩
def fnK : List He.DefD := [dF "note_variables" 4, dF "variables_of" 5, dF "replaced" 6, dF "instance_of" 7, dF "power" 8, dF "choices" 9, dF "variable_count" 12, dF "with_refl" 13, dF "ground_instances" 16, dF "first_instances" 17, dF "facts_within" 18,
  dF "_law_tape" 20, dF "_law_draw" 21, dF "_law_word" 22, dF "_law_symbols" 23, dF "_law_term" 24, dF "_law_replaced" 25, dF "_law_collect" 26, dF "_law_variables" 27, dF "_law_numbered" 28, dF "_law_size" 29, dF "_law_alike" 30, dF "_law_names" 31, dF "_law_atom" 32,
  dF "_law_table" 33, dF "_law_choices" 34, dF "_law_universe" 35, dF "_law_relations" 36, dF "_law_levels" 37, dF "_law_facts" 38, dF "_law_rule_over" 39, dF "law" 40]
def namesK : List Str := ["note_variables", "variables_of", "replaced", "instance_of", "power", "choices", "variable_count", "with_refl", "ground_instances", "first_instances", "facts_within",
  "_law_tape", "_law_draw", "_law_word", "_law_symbols", "_law_term", "_law_replaced", "_law_collect", "_law_variables", "_law_numbered", "_law_size", "_law_alike", "_law_names", "_law_atom", "_law_table", "_law_choices", "_law_universe", "_law_relations", "_law_levels", "_law_facts", "_law_rule_over"]
def freeK : List Str := ["isinstance", "int", "tuple", "list", "range", "len", "sum", "repr", "all", "sorted", "abs", "max", "str"]
def faK : List He.Fa := (namesK.map He.Fa.glo) ++ [.glo "law", .glo "REFL", .int "MOST_CHOICES" 600] ++ freeK.map He.Fa.free
def looseK : List Str := "RuleError" :: "TooLarge" :: "REFL" :: "MOST_CHOICES" :: namesK
/-- a tuple's items, in the written part -/
def tupAt (K : PySem.W.Frag) (a : Addr) : Option (List Value) := match K.lookup a with
  | some ⟨.type c, _, .seq its _, _⟩ => if decide (c = "tuple") && decide (its.size ≤ 100) then some its.toList else none
  | _ => none
def exK (K : PySem.W.Frag) : Bool := match tupAt K (He.ga K "REFL") with
  | some [.str x _, .ref e0, .ref e1] => decide (x = "refl") && ((match tupAt K e0 with
    | some [] => true
    | _ => false) && (match tupAt K e1 with
    | some [.str y _, .int i _, .int j _] => decide (y = "=") && (decide (i = 0) && decide (j = 0))
    | _ => false))
  | _ => false
def tfK : List He.Defn := [("with_refl", none)]
abbrev RK : PySem.W.OpenRow := PySem.W.OpenLaw.row PySem.Challenge.rw_openrules_k23_whole_new_relations_change
abbrev hkK : PySem.W.Hook := He.hookX 4 faK fnK [] tfK exK
def obK (s : PySem.W.SharedT) : He.AlX := He.obsX 4 faK fnK [] tfK exK (HandSHeadRun.getT s)
theorem obK_eq (s : PySem.W.SharedT) : obK s = hkK.obs s.abs := He.obsX_eq (HandSHeadRun.getT_eq s)
theorem runK (w : World) : HandSHeadRun.RunEq RK (PySem.W.view RK.prog [40]) hkK obK 4000 looseK w := by
  intro os
  kernel_rfl
end K23

set_option Elab.async false
set_option linter.all false
set_option maxRecDepth 100000
set_option maxHeartbeats 2000000
/-! The end: the law's call, by a promise that wants no repr under way. -/
namespace K23
open PySem PySem.Spec PyProof.Rows L2
/-- what is tracked at the call: the one table, the script if it is not in the written part -/
def trk (Pt a : Addr) (f : Bool) (o : HO) : Hp := fun b => if b = Pt then some (.tbl #[]) else if b = a then (if f = true then some o else none) else none
section
variable {Pt a b : Addr} {f : Bool} {o u : HO}
theorem trk_tab : trk Pt a f o Pt = some (.tbl #[]) := if_pos rfl
theorem trk_a (h : a ≠ Pt) : trk Pt a f o a = if f = true then some o else none := (if_neg h).trans (if_pos rfl)
theorem trk_out (h1 : b ≠ Pt) (h2 : b ≠ a) : trk Pt a f o b = none := (if_neg h1).trans (if_neg h2)
theorem trk_in (h : trk Pt a f o b = some u) : (b = Pt ∧ u = .tbl #[]) ∨ (b ≠ Pt ∧ b = a ∧ f = true ∧ u = o) := by
  by_cases h1 : b = Pt
  · rw [h1, trk_tab] at h
    exact .inl ⟨h1, (Option.some.inj h).symm⟩
  · by_cases h2 : b = a
    · subst h2
      rw [trk_a h1] at h
      cases f with
      | true => exact .inr ⟨h1, rfl, rfl, (Option.some.inj h).symm⟩
      | false => cases h
    · rw [trk_out h1 h2] at h
      cases h
end
abbrev seqO (us : List Value) : Obj := { cls := .type "list", data := .seq us.toArray }
abbrev tabO : Obj := { cls := .none, data := .fields #[] }
theorem law_end {P : Program} {w : World} {K : PySem.W.Frag} {mg mb : Str → Option Value} {k : Nat} {fa a c Pt : Addr} {fd : FuncData} {x : Str} {sp : Sp} {s : Shared} {us : List Value} {ns : List Int}
    (inK : K.In s.heap) (gl : s.heap.Ns mainGlobals mg) (bn : s.heap.Ns builtinsNs mb) (bb : ∀ y : Str, y ≠ "__name__" → mb y = bootBuiltins y) (nlim : s.heap.NoLimit) (g0 : s.gens = #[])
    (hP : s.heap.get? Pt = some tabO) (outP : K.lookup Pt = none) (hC : PySem.W.CodeHd s.heap c Pt)
    (bmod : ∃ (m : Addr) (ob : Obj), mg "__builtins__" = some (.ref m) ∧ m ≠ builtinsNs ∧ s.heap.get? m = some ob ∧ ob.cls = .type "module" ∧ ob.dict = some builtinsNs ∧ ob.data = .plain)
    (hob : s.heap.get? a = some (seqO us)) (iar : IntsAre us ns) (hlen : ns.length ≤ sizeLine) (room : Room k callerA)
    (F : ∀ B : Heap, K.In B → B.Ns mainGlobals mg → LamX.TabB B mg c Pt → FnG P w K mg B k fa fd [x] sp) (bind : ∀ (t : Shared) (v : Value), BindsTo t fd ⟨[v], []⟩ [(x, v)])
    (ask : ∀ H : Hp, H Pt = some (.tbl #[]) → SqL K H a (ns.map V.int) → sp [.ref a] H (fun v _ => v = .bl true) fun _ _ _ => False) :
    codeAny (model P w) callerA (.call (.ref fa) ⟨[.ref a], []⟩) (fun r s' => r = .ok (.ret (.bool true)) ∧ OldK s.heap s'.heap ∧ s'.os = s.os ∧ AllBare s'.gens) s := by
  have vi := vals_ints iar
  have vl := iar.length
  have aP : a ≠ Pt := fun z => by
    rw [z, hP] at hob
    have z2 : Data.fields #[] = Data.seq us.toArray _ := congrArg Obj.data (Option.some.inj hob)
    cases z2
  -- the tracked part
  have toSq : ∀ f : Bool, (f = false → K.lookup a ≠ none) → SqL K (trk Pt a f (.frz (seqO us) (.lst (ns.map V.int)))) a (ns.map V.int) := fun f hf => by
    cases f with
    | true => exact .inl (.inr ⟨seqO us, by rw [trk_a aP]; rfl⟩)
    | false =>
      cases e : K.lookup a with
      | none => exact absurd e (hf rfl)
      | some ob =>
        have e2 := inK a ob e
        rw [hob] at e2
        have e3 : seqO us = ob := Option.some.inj e2
        subst e3
        exact .inr ⟨_, us.toArray, _, e, rfl, rfl, rfl, by rw [List.size_toArray, vl]; exact hlen, by simpa using vi⟩
  obtain ⟨f, hf0, hf1⟩ : ∃ f : Bool, (f = false → K.lookup a ≠ none) ∧ (f = true → K.lookup a = none) := by
    cases e : K.lookup a with
    | none => exact ⟨true, (fun z => nomatch z), fun _ => rfl⟩
    | some ob => exact ⟨false, (fun _ z => nomatch z), (fun z => nomatch z)⟩
  have hS := toSq f hf0
  generalize hH : trk Pt a f (.frz (seqO us) (.lst (ns.map V.int))) = H at hS
  have inH : ∀ {b : Addr} {u : HO}, H b = some u → (b = Pt ∧ u = .tbl #[]) ∨ (b ≠ Pt ∧ b = a ∧ f = true ∧ u = .frz (seqO us) (.lst (ns.map V.int))) := fun h => trk_in (by rw [hH]; exact h)
  have tabH : H Pt = some (.tbl #[]) := by rw [← hH]; exact trk_tab
  have freeH : ∀ {b : Addr} {ob : Obj}, s.heap.get? b = some ob → (∀ vs n, ob.data ≠ .seq vs n) → ob.data ≠ .fields #[] → H b = none := fun {b ob} e d1 d2 => by
    cases q : H b with
    | none => rfl
    | some u =>
      rcases inH q with ⟨eb, _⟩ | ⟨_, eb, _⟩
      · rw [eb, hP] at e
        exact absurd (congrArg Obj.data (Option.some.inj e)).symm d2
      · rw [eb, hob] at e
        exact absurd (congrArg Obj.data (Option.some.inj e)).symm (d1 _ _)
  have okH : HOk P w H s.heap := fun b u q => by
    rcases inH q with ⟨eb, eu⟩ | ⟨_, eb, _, eu⟩
    · rw [eb, eu]
      exact hP
    · rw [eb, eu]
      exact ⟨hob, by rw [List.length_map]; exact hlen, us, _, vi, hob⟩
  have keepB : ∀ {b : Addr} {ob : Obj}, s.heap.get? b = some ob → H b = none → (hidT s.heap H).get? b = some ob := fun e n => hidT_get e n
  have dictB : ∀ {b : Addr} {m : Str → Option Value}, s.heap.Ns b m → (hidT s.heap H).Ns b m := fun {b m} ⟨ob, es, ep, e, d, r⟩ =>
    ⟨ob, es, ep, keepB e (freeH e (fun vs n z => by rw [d] at z; cases z) fun z => by rw [d] at z; cases z), d, r⟩
  have inB : K.In (hidT s.heap H) := fun b ob e => keepB (inK b ob e) (by
    cases q : H b with
    | none => rfl
    | some u =>
      rcases inH q with ⟨eb, _⟩ | ⟨_, eb, ef, _⟩
      · rw [eb, outP] at e
        cases e
      · rw [eb, hf1 ef] at e
        cases e)
  have modB : L2.Mod K mg (hidT s.heap H) := ⟨inB, dictB gl, ⟨mb, dictB bn, bb⟩, by
    obtain ⟨mc, z1, z2⟩ := nlim
    exact ⟨mc, dictB z1, z2⟩⟩
  have tb : LamX.TabB (hidT s.heap H) mg c Pt := by
    refine ⟨?_, ?_, fun z => ?_⟩
    · obtain ⟨ob, vs, fl, tf, flg, tg, inF, tx, tt, e1, r1, r2, r3, rest⟩ := hC
      refine ⟨ob, vs, fl, tf, flg, tg, inF, tx, tt, keepB e1 (freeH e1 (fun vs n z => ?_) fun z => ?_), r1, r2, r3, rest⟩
      · rw [r2] at z
        cases z
      · rw [r2] at z
        have z2 : vs = #[] := by injection z
        rw [z2] at r3
        simp at r3
    · obtain ⟨m, ob, b1, b2, b3, b4, b5, b6⟩ := bmod
      refine ⟨m, ob, b1, b2, fun z => ?_, fun z => ?_, keepB b3 (freeH b3 (fun vs n z => ?_) fun z => ?_), b4, b5, b6⟩
      · obtain ⟨og, es, ep, e, hd, _⟩ := gl
        rw [z, e] at b3
        have e2 : og = ob := Option.some.inj b3
        rw [e2, b6] at hd
        cases hd
      · rw [z, hP] at b3
        have e2 : tabO = ob := Option.some.inj b3
        rw [← e2] at b6
        cases b6
      · rw [b6] at z
        cases z
      · rw [b6] at z
        cases z
    · obtain ⟨og, es, ep, e, hd, _⟩ := gl
      rw [z, hP] at e
      have e2 : tabO = og := Option.some.inj e
      rw [← e2] at hd
      cases hd
  have env : Env0 P w K mg (hidT s.heap H) callerA [] s H := ⟨rfl, modB, fun b ob e => of_hidT e, Nat.le_of_eq (hidT_size _ _), trivial, (fun b hb => nomatch (show b ∈ ([] : List Addr) from hb)), okH, .of_eq g0⟩
  refine codeAny_mono ((F _ inB (dictB gl) tb).run callerA [] s H ⟨[.ref a], []⟩ [.ref a] [.ref a] _ _ room rfl env (bind s (.ref a)) (.cons rfl .nil) (ask H tabH hS)) fun res s' hq => ?_
  cases res with
  | error e => exact False.elim hq
  | ok fl =>
    cases fl with
    | next => exact hq.elim
    | brk => exact hq.elim
    | cont => exact hq.elim
    | ret val =>
      obtain ⟨v, H', hos, hbare, chg, okH', hrel, hv⟩ := hq
      have hv : v = .bl true := hv
      subst hv
      obtain rfl : val = Value.bool true := hrel
      have stay : ∀ b ob, b ≠ Pt → s.heap.get? b = some ob → s'.heap.get? b = some ob := fun b ob nb e => by
        cases q : H b with
        | none => exact chg.keep b ob e q (fun z => nomatch (show b ∈ ([] : List Addr) from z)) (by simp)
        | some u =>
          rcases inH q with ⟨eb, _⟩ | ⟨_, _, _, eu⟩
          · exact absurd eb nb
          · rw [eu] at q
            have z1 := okH b _ q
            have z2 := okH' b _ (chg.frzs b _ _ q)
            rw [z1.1] at e
            rw [← Option.some.inj e]
            exact z2.1
      obtain ⟨more, ht⟩ := chg.tbls Pt #[] tabH
      have ht2 : s'.heap.get? Pt = some { cls := .none, data := .fields (#[] ++ more) } := okH' Pt _ ht
      refine ⟨rfl, ⟨fun b ob e => ?_, fun b ob e => ?_⟩, hos, hbare⟩
      · by_cases hb : b = Pt
        · subst hb
          rw [hP] at e
          have e2 : tabO = ob := Option.some.inj e
          subst e2
          exact .inr (.inl ⟨(hC.tab hP).isCodeTable, rfl, #[], more, rfl, ht2⟩)
        · exact .inl (stay b ob hb e)
      · by_cases hb : b = Pt
        · exact ⟨_, by rw [hb]; exact ht2⟩
        · exact ⟨ob, stay b ob hb e⟩
end K23

set_option Elab.async false
set_option linter.all false
set_option maxRecDepth 100000
set_option maxHeartbeats 4000000
/-! All joined. -/
namespace K23
open PySem PySem.Spec PyProof.Rows L2
section
variable {K : PySem.W.Frag} {h : Heap} {mg : Str → Option Value} {w : World}
abbrev SK (w : World) (h : Heap) (K : PySem.W.Frag) : Prop := He.SaysX faK fnK [] tfK exK w h K
abbrev fA (K : PySem.W.Frag) (x : Str) : Addr := He.fAd K (x, none)
theorem tupAt_ok {a : Addr} {us : List Value} {vs : List V} (e : tupAt K a = some us) (r : Vals vs us) (H : Hp) : SqT K H a vs := by
  unfold tupAt at e
  cases q : K.lookup a with
  | none => rw [q] at e; cases e
  | some o =>
    obtain ⟨oc, od, dt, osl⟩ := o
    rw [q] at e
    cases oc with
    | type c =>
      cases dt with
      | seq its n =>
        have e : (if (decide (c = "tuple") && decide (its.size ≤ 100)) = true then some its.toList else none) = some us := e
        by_cases hb : (decide (c = "tuple") && decide (its.size ≤ 100)) = true
        · rw [if_pos hb] at e
          obtain ⟨h1, h2⟩ := Bool.and_eq_true_iff.mp hb
          have h3 := of_decide_eq_true h2
          refine .inr ⟨_, its, n, q, congrArg Value.type (of_decide_eq_true h1), rfl, line_1 (by omega), ?_⟩
          rw [Option.some.inj e]
          exact r
        · rw [if_neg hb] at e
          cases e
      | _ => cases e
    | _ => cases dt <;> cases e
theorem refl_at (e : exK K = true) (H : Hp) : RuleAt K H (.ref (He.ga K "REFL")) reflR := by
  unfold exK at e
  split at e
  · rename_i x t e0 e1 q
    obtain ⟨g1, g2⟩ := Bool.and_eq_true_iff.mp e
    obtain ⟨g3, g4⟩ := Bool.and_eq_true_iff.mp g2
    have ex := of_decide_eq_true g1
    split at g3
    · rename_i q0
      split at g4
      · rename_i y t1 i t2 j t3 q1
        obtain ⟨g5, g6⟩ := Bool.and_eq_true_iff.mp g4
        obtain ⟨g7, g8⟩ := Bool.and_eq_true_iff.mp g6
        have ey := of_decide_eq_true g5
        have ei := of_decide_eq_true g7
        have ej := of_decide_eq_true g8
        subst ex
        subst ey
        subst ei
        subst ej
        refine ⟨_, e0, [], .ref e1, rfl, tupAt_ok (vs := [.str "refl", .ref e0, .ref e1]) q (.cons ⟨_, rfl⟩ (.cons rfl (.cons rfl .nil))) H, tupAt_ok q0 .nil H, .nil, ?_⟩
        exact .mk (tupAt_ok (vs := [.str "=", .int 0, .int 0]) q1 (.cons ⟨_, rfl⟩ (.cons ⟨_, rfl⟩ (.cons ⟨_, rfl⟩ .nil))) H) (.cons (.ofVar 0) (.cons (.ofVar 0) .nil))
      · cases g4
    · cases g3
  · cases e
theorem code_of {x : Str} {i : Nat} {f : Addr} {fd : FuncData} (F : FnP K x i f fd) (e : f = fA K x) : CodeAt K f (He.codeOf K (x, none)) := by
  obtain ⟨oc, od, dV, kV, doc, pm, an, cdv, ct, osl, efd, lk, hcd, _, _⟩ := F.ex
  obtain ⟨c, ec⟩ := He.codeIn_ref hcd
  intro oc' od' fd' osl' lk'
  rw [lk] at lk'
  injection lk' with lk'
  injection lk' with _ _ z _
  injection z with z
  rw [← z, efd]
  show cdv = .ref (He.codeOf K (x, none))
  rw [ec]
  have lk2 : K.lookup (He.fAd K (x, none)) = some ⟨oc, od, .func fd, osl⟩ := by subst e; exact lk
  rw [He.codeOf_eq lk2 (by rw [efd]; exact ec)]
/-- the law's promise, over any base -/
theorem law_promise {P : Program} (X : K.In h) (G : h.Ns mainGlobals mg) (S : SK w h K) : ∃ fd : FuncData, FnP K "law" 40 (fA K "law") fd ∧ mg "law" = some (.ref (fA K "law")) ∧
    ∀ B : Heap, K.In B → B.Ns mainGlobals mg → LamX.TabB B mg (He.cT K ("with_refl", none)).1 (He.cT K ("with_refl", none)).2 → FnG P w K mg B 42 (fA K "law") fd ["_law_script"] (spLaw K (He.cT K ("with_refl", none)).2) := by
  have D := S.t.d
  obtain ⟨d0, F0⟩ := D.def_ 0 (d := dF "note_variables" 4) rfl
  obtain ⟨d1, F1⟩ := D.def_ 1 (d := dF "variables_of" 5) rfl
  obtain ⟨d2, F2⟩ := D.def_ 2 (d := dF "replaced" 6) rfl
  obtain ⟨d3, F3⟩ := D.def_ 3 (d := dF "instance_of" 7) rfl
  obtain ⟨d4, F4⟩ := D.def_ 4 (d := dF "power" 8) rfl
  obtain ⟨d5, F5⟩ := D.def_ 5 (d := dF "choices" 9) rfl
  obtain ⟨d6, F6⟩ := D.def_ 6 (d := dF "variable_count" 12) rfl
  obtain ⟨d7, F7⟩ := D.def_ 7 (d := dF "with_refl" 13) rfl
  obtain ⟨d8, F8⟩ := D.def_ 8 (d := dF "ground_instances" 16) rfl
  obtain ⟨d9, F9⟩ := D.def_ 9 (d := dF "first_instances" 17) rfl
  obtain ⟨d10, F10⟩ := D.def_ 10 (d := dF "facts_within" 18) rfl
  obtain ⟨d11, F11⟩ := D.def_ 11 (d := dF "_law_tape" 20) rfl
  obtain ⟨d12, F12⟩ := D.def_ 12 (d := dF "_law_draw" 21) rfl
  obtain ⟨d13, F13⟩ := D.def_ 13 (d := dF "_law_word" 22) rfl
  obtain ⟨d14, F14⟩ := D.def_ 14 (d := dF "_law_symbols" 23) rfl
  obtain ⟨d15, F15⟩ := D.def_ 15 (d := dF "_law_term" 24) rfl
  obtain ⟨d16, F16⟩ := D.def_ 16 (d := dF "_law_replaced" 25) rfl
  obtain ⟨d17, F17⟩ := D.def_ 17 (d := dF "_law_collect" 26) rfl
  obtain ⟨d18, F18⟩ := D.def_ 18 (d := dF "_law_variables" 27) rfl
  obtain ⟨d19, F19⟩ := D.def_ 19 (d := dF "_law_numbered" 28) rfl
  obtain ⟨d20, F20⟩ := D.def_ 20 (d := dF "_law_size" 29) rfl
  obtain ⟨d21, F21⟩ := D.def_ 21 (d := dF "_law_alike" 30) rfl
  obtain ⟨d22, F22⟩ := D.def_ 22 (d := dF "_law_names" 31) rfl
  obtain ⟨d23, F23⟩ := D.def_ 23 (d := dF "_law_atom" 32) rfl
  obtain ⟨d24, F24⟩ := D.def_ 24 (d := dF "_law_table" 33) rfl
  obtain ⟨d25, F25⟩ := D.def_ 25 (d := dF "_law_choices" 34) rfl
  obtain ⟨d26, F26⟩ := D.def_ 26 (d := dF "_law_universe" 35) rfl
  obtain ⟨d27, F27⟩ := D.def_ 27 (d := dF "_law_relations" 36) rfl
  obtain ⟨d28, F28⟩ := D.def_ 28 (d := dF "_law_levels" 37) rfl
  obtain ⟨d29, F29⟩ := D.def_ 29 (d := dF "_law_facts" 38) rfl
  obtain ⟨d30, F30⟩ := D.def_ 30 (d := dF "_law_rule_over" 39) rfl
  obtain ⟨d31, F31⟩ := D.def_ 31 (d := dF "law" 40) rfl
  have g0 := He.glo_ok X G (D.fact 0 (f := .glo "note_variables") rfl)
  have g1 := He.glo_ok X G (D.fact 1 (f := .glo "variables_of") rfl)
  have g2 := He.glo_ok X G (D.fact 2 (f := .glo "replaced") rfl)
  have g3 := He.glo_ok X G (D.fact 3 (f := .glo "instance_of") rfl)
  have g4 := He.glo_ok X G (D.fact 4 (f := .glo "power") rfl)
  have g5 := He.glo_ok X G (D.fact 5 (f := .glo "choices") rfl)
  have g6 := He.glo_ok X G (D.fact 6 (f := .glo "variable_count") rfl)
  have g7 := He.glo_ok X G (D.fact 7 (f := .glo "with_refl") rfl)
  have g8 := He.glo_ok X G (D.fact 8 (f := .glo "ground_instances") rfl)
  have g9 := He.glo_ok X G (D.fact 9 (f := .glo "first_instances") rfl)
  have g10 := He.glo_ok X G (D.fact 10 (f := .glo "facts_within") rfl)
  have g11 := He.glo_ok X G (D.fact 11 (f := .glo "_law_tape") rfl)
  have g12 := He.glo_ok X G (D.fact 12 (f := .glo "_law_draw") rfl)
  have g13 := He.glo_ok X G (D.fact 13 (f := .glo "_law_word") rfl)
  have g14 := He.glo_ok X G (D.fact 14 (f := .glo "_law_symbols") rfl)
  have g15 := He.glo_ok X G (D.fact 15 (f := .glo "_law_term") rfl)
  have g16 := He.glo_ok X G (D.fact 16 (f := .glo "_law_replaced") rfl)
  have g17 := He.glo_ok X G (D.fact 17 (f := .glo "_law_collect") rfl)
  have g18 := He.glo_ok X G (D.fact 18 (f := .glo "_law_variables") rfl)
  have g19 := He.glo_ok X G (D.fact 19 (f := .glo "_law_numbered") rfl)
  have g20 := He.glo_ok X G (D.fact 20 (f := .glo "_law_size") rfl)
  have g21 := He.glo_ok X G (D.fact 21 (f := .glo "_law_alike") rfl)
  have g22 := He.glo_ok X G (D.fact 22 (f := .glo "_law_names") rfl)
  have g23 := He.glo_ok X G (D.fact 23 (f := .glo "_law_atom") rfl)
  have g24 := He.glo_ok X G (D.fact 24 (f := .glo "_law_table") rfl)
  have g25 := He.glo_ok X G (D.fact 25 (f := .glo "_law_choices") rfl)
  have g26 := He.glo_ok X G (D.fact 26 (f := .glo "_law_universe") rfl)
  have g27 := He.glo_ok X G (D.fact 27 (f := .glo "_law_relations") rfl)
  have g28 := He.glo_ok X G (D.fact 28 (f := .glo "_law_levels") rfl)
  have g29 := He.glo_ok X G (D.fact 29 (f := .glo "_law_facts") rfl)
  have g30 := He.glo_ok X G (D.fact 30 (f := .glo "_law_rule_over") rfl)
  have g31 := He.glo_ok X G (D.fact 31 (f := .glo "law") rfl)
  have gR := He.glo_ok X G (D.fact 32 (f := .glo "REFL") rfl)
  obtain ⟨t6, gM⟩ := He.int_ok X G (D.fact 33 (f := .int "MOST_CHOICES" 600) rfl)
  have m0 := He.free_ok X G (D.fact 34 (f := .free "isinstance") rfl)
  have m1 := He.free_ok X G (D.fact 35 (f := .free "int") rfl)
  have m2 := He.free_ok X G (D.fact 36 (f := .free "tuple") rfl)
  have m3 := He.free_ok X G (D.fact 37 (f := .free "list") rfl)
  have m4 := He.free_ok X G (D.fact 38 (f := .free "range") rfl)
  have m5 := He.free_ok X G (D.fact 39 (f := .free "len") rfl)
  have m6 := He.free_ok X G (D.fact 40 (f := .free "sum") rfl)
  have m7 := He.free_ok X G (D.fact 41 (f := .free "repr") rfl)
  have m8 := He.free_ok X G (D.fact 42 (f := .free "all") rfl)
  have m9 := He.free_ok X G (D.fact 43 (f := .free "sorted") rfl)
  have m10 := He.free_ok X G (D.fact 44 (f := .free "abs") rfl)
  have m11 := He.free_ok X G (D.fact 45 (f := .free "max") rfl)
  have m12 := He.free_ok X G (D.fact 46 (f := .free "str") rfl)
  refine ⟨d31, F31, g31, fun B inB nsB TB => ?_⟩
  -- the program's defs
  have Epow : FnOk P w K mg B CX0 12 (fA K "power") d4 ["base", "exponent"] spPower := (ok_power (k := 0) F4 m4).mono (by omega)
  have Ecnt : FnOk P w K mg B CX0 12 (fA K "variable_count") d6 ["rule"] (spCount K 10) := ok_count (k := 10) F6 F1 F0 g1 g0 m0 m1 m3 m2 m5
  have Eins : FnOk P w K mg B CX0 12 (fA K "instance_of") d3 ["term", "terms"] (spInst K 10) := (ok_inst (k := 10) F3 F2 g2 m0 m1 m2 m4 m5).mono (by omega)
  have Echs : FnOk P w K mg B CX0 12 (fA K "choices") d5 ["count", "terms"] (spChs K) := (ok_chs (k := 0) F5 m4).mono (by omega)
  have Eref : FnOk P w K mg B CX0 12 (fA K "with_refl") d7 ["rules"] (spRefl K (He.cT K ("with_refl", none)).2) := (ok_refl (k := 0) F7 (code_of (x := "with_refl") (i := 13) F7 rfl) TB gR (refl_at S.more) m9 m3).mono (by omega)
  have Egro := ok_ground F8 F7 Eref g7 F4 Epow g4 F6 Ecnt g6 F3 Eins g3 F5 Echs g5 gM m6 m5 m7
  have Efir := ok_first F9 F8 Egro g8 m4 m8
  have Efac := ok_facts F10 F9 Efir g9 m9 m2
  -- the law's defs
  have Etap : FnOk P w K mg B CX0 41 (fA K "_law_tape") d11 ["_law_script"] (spTape K) := (ok_tape (k := 0) F11 m1 m10 m3).mono (by omega)
  have Edr : FnOk P w K mg B CX0 1 (fA K "_law_draw") d12 ["_law_tape_here", "_law_many"] spDraw := ok_draw (k := 0) F12 m1 m10 m5 m11
  have Ewo := ok_word F13 F12 Edr g12 m1
  have Edr2 : FnOk P w K mg B CX0 2 (fA K "_law_draw") d12 ["_law_tape_here", "_law_many"] spDraw := Edr.mono (by omega)
  have Esym := ok_symbols F14 F12 Edr2 g12 F13 Ewo g13 m4
  have Erel := ok_relations F27 F12 Edr2 g12 F13 Ewo g13 m4
  have Enam := ok_names F22 F12 Edr2 g12 F13 Ewo g13 m4 m12
  have Eter : FnOk P w K mg B CX0 3 (fA K "_law_term") d15 P24 (spTerm K 2) := ok_term F15 g15 F12 Edr g12 m5 m2 m4 2
  have Edr3 : FnOk P w K mg B CX0 3 (fA K "_law_draw") d12 ["_law_tape_here", "_law_many"] spDraw := Edr.mono (by omega)
  have Eato := ok_atom F23 F12 Edr3 g12 F15 Eter g15 m5 m2 m4
  have EvaL : FnOk P w K mg B CX0 11 (fA K "_law_variables") d18 ["_law_terms"] (spVarsOf K 10 false) := ok_varsL (k := 10) F18 F17 g17 m0 m1
  have EvaT : FnOk P w K mg B CX0 11 (fA K "_law_variables") d18 ["_law_terms"] (spVarsOf K 10 true) := ok_varsT (k := 10) F18 F17 g17 m0 m1
  have ErpL : FnOk P w K mg B CX0 11 (fA K "_law_replaced") d16 ["_law_term_here", "_law_table_here"] (spRep K 10) := (ok_repL F16 g16 m0 m1 m2 10).mono (by omega)
  have Enum := ok_num F19 F18 EvaL g18 F16 ErpL g16 m5 m4
  have Edr12 : FnOk P w K mg B CX0 12 (fA K "_law_draw") d12 ["_law_tape_here", "_law_many"] spDraw := Edr.mono (by omega)
  have Erul := ok_rule F30 F12 Edr12 g12 F15 (Eter.mono (by omega)) g15 F23 (Eato.mono (by omega)) g23 F19 Enum g19 m2 m4
  have Esiz : FnOk P w K mg B CX0 40 (fA K "_law_size") d20 ["_law_term_here"] (spSize K 40) := ok_size F20 g20 m0 m1 m6 40
  have Eun := ok_uni F26 F12 (Edr.mono (by omega)) g12 F20 Esiz g20 m4 m5 m2
  have EchL : FnOk P w K mg B CX0 11 (fA K "_law_choices") d25 ["_law_terms", "_law_many"] (spChsL K) := (ok_chsL (k := 0) F25 m4 m3).mono (by omega)
  have Etab : FnOk P w K mg B CX0 11 (fA K "_law_table") d24 ["_law_terms"] (spTable K) := (ok_table (k := 0) F24 m4 m5).mono (by omega)
  have Elev := ok_levels F28 F18 EvaT g18 F16 ErpL g16 F25 EchL g25 F24 Etab g24 m4 m3 m5 m7
  have EfaL := ok_factsL F29 F28 Elev g28
  have Eali : FnG P w K mg B 1 (fA K "_law_alike") d21 ["_law_told", "_law_due"] (spAlike K) := ok_alike (k := 0) F21 m0 m1 m2 m7
  exact ok_law F31 F11 Etap g11 F12 (Edr.mono (by omega)) g12 F14 (Esym.mono (by omega)) g14 F27 (Erel.mono (by omega)) g27 F22 (Enam.mono (by omega)) g22 F30 (Erul.mono (by omega)) g30 F26 Eun g26
    F10 (Efac.mono (by omega)) g10 F21 (Eali.mono (by omega)) g21 F29 (EfaL.mono (by omega)) g29 m4 m5 m2 m9 m0
end
end K23
open PySem PySem.W PySem.Calls PyProof.Rows
theorem PySem.Challenge.cw_openrules_k23_whole_new_relations_change_holds : PySem.Challenge.rw_openrules_k23_whole_new_relations_change.Holds := by
  w_on; o_law
  refine HandSHeadRun.head_any (r := K23.RK) (q := view K23.RK.prog [40]) (H := K23.hkK) (ob := K23.obK) (M := 4000) (loose := K23.looseK) (d := HandSHeadRun.topDef K23.RK.prog 40) (kwd := []) K23.obK_eq
    (by kernel_rfl) (fun s => by kernel_rfl) K23.runK (by kernel_rfl) (by kernel_rfl) (by kernel_rfl) (by rfl) (by first | assumption | decide +kernel) (by decide +kernel) ⟨rfl, rfl, rfl, rfl, rfl, by decide +kernel⟩ ?hw ?hc
  case hw => w_witness2
  case hc =>
    refine Att.attach_callB (l := PySem.Challenge.rw_openrules_k23_whole_new_relations_change) (n := 63) rfl (by kernel_rfl) fun w s0 s1 mg mb fa o pm cd doc a vs ns G Y ho hd hcd hmg hob hi hl hbits hg => ?_
    obtain ⟨K, X, S⟩ := Y
    have en : (HandSHeadRun.topDef K23.RK.prog 40).name = ("law" : PySem.Str) := by kernel_rfl
    obtain ⟨fd, FL, gL, FG⟩ := K23.law_promise (P := PySem.Challenge.rw_openrules_k23_whole_new_relations_change.prog) X G.T.g S
    rw [en, gL] at hmg
    have ea : K23.fA K "law" = fa := by
      have z := Option.some.inj hmg
      injection z
    subst ea
    have bL := L2.FunD.bindsA (ps := ["_law_script"]) FL fun _ _ _ _ _ _ us hl => match us, hl with | [_], _ => rfl
    have mem : (("with_refl", none) : He.Defn) ∈ K23.tfK := List.mem_singleton.mpr rfl
    exact K23.law_end X G.T.g G.T.b G.T.builtins G.T.nolimit hg (S.empty _ mem) (S.out _ mem) (PySem.W.codeHd_of_K X (S.hd _ mem)) G.T.bmain hob hi (Nat.le_trans hl (by decide)) ⟨rfl, by decide, by decide⟩ FG (fun t v => bL t [v] rfl)
      fun H hH hS => ⟨a, ns, rfl, hS, fun p hp => by
        have ep : p = ((He.cT K ("with_refl", none)).2, K23.TT (He.cT K ("with_refl", none)).2 |>.head!.2) := by
          rw [List.mem_singleton.mp hp]
          rfl
        rw [ep]
        exact LamX.TabS.nil hH, fun _ => rfl⟩
