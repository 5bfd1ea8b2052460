import PyProof.Rows.All
import Wide.All
import OpenK.AllK
import Wide.FinOn
import HandS.ForMost
import HandS.ForExc
import HandS.Evl
import HandS.IsInst
import HandS.RevRange
import HandS.ExcIs
import HandS.ExcValue
import HandS.Style
import HandS.Conv
import HandS.SortInts
import HandS.Dict
import HandS.DictComp
import HandS.SortKw
import KE.DataMinMax
import HandS.Strs
import HandS.Zip
import HandS.Iter
import HandS.WordsDict
import HandS.SetKeys
import HandS.More
import HandS.Replace
import KE.SortData
import PySem.Challenge.RW_mirrorwords_k04_whole_least_of_all_texts
set_option Elab.async false
set_option linter.all false
set_option maxRecDepth 100000
set_option maxHeartbeats 4000000
/-! texts as lists of codes; the ledger of a frame's own objects; what a reading comes to -/
namespace Mw
open PySem PySem.Spec PyProof.Rows L2 Evl

abbrev Tx := List Nat
/-- a text by its codes -/
def T (l : Tx) : Str := ⟨l.toArray⟩
theorem T_inj {a b : Tx} (h : T a = T b) : a = b := by
  have q : a.toArray = b.toArray := congrArg Str.cps h
  simpa using q
theorem T_eq (a b : Tx) : (T a = T b) ↔ a = b := ⟨T_inj, fun h => by rw [h]⟩
theorem T_len (a : Tx) : (T a).length = a.length := by simp [T, Str.length]
theorem T_cps (a : Tx) : (T a).cps.toList = a := by simp [T]
theorem T_of (s : Str) : s = T s.cps.toList := by simp [T]
theorem T_app (a b : Tx) : T a ++ T b = T (a ++ b) := by
  show Str.append (T a) (T b) = T (a ++ b)
  simp [Str.append, T]
abbrev tS (l : Tx) : V := .str (T l)
theorem tS_eq (a b : Tx) : (tS a = tS b) ↔ a = b := ⟨fun h => T_inj (V.str.inj h), fun h => by rw [h]⟩
theorem dec_tS (a b : Tx) : decide (tS a = tS b) = decide (a = b) := by
  by_cases h : a = b
  · rw [decide_eq_true h, decide_eq_true ((tS_eq a b).mpr h)]
  · rw [decide_eq_false h, decide_eq_false (fun z => h ((tS_eq a b).mp z))]
theorem dec_tI (a b : Int) : decide (V.int a = V.int b) = decide (a = b) := by
  by_cases h : a = b
  · rw [decide_eq_true h, decide_eq_true (by rw [h])]
  · rw [decide_eq_false h, decide_eq_false (fun z => h (V.int.inj z))]
theorem dec_tB (a b : Bool) : decide (V.bl a = V.bl b) = (a == b) := by
  cases a <;> cases b <;> first | decide | rfl
theorem sz6 {n : Nat} (h : n ≤ 1000000) : n ≤ sizeLine := by rw [sizeLine_eq]; omega
theorem szL6 {n : Nat} (h : n < 1000000) : n < sizeLine := by rw [sizeLine_eq]; omega

/-! ### the named readings of operators -/
abbrev rAddI : R2 := rI0 fun i j => .int (i + j)
abbrev rSubI : R2 := rI0 fun i j => .int (i - j)
abbrev rMulI : R2 := rI CMul fun i j => .int (i * j)
abbrev rDivI : R2 := rI CDiv fun i j => .int (i / j)
abbrev rModI : R2 := rI (fun _ j => 0 < j) fun i j => .int (i % j)
abbrev rPowI : R2 := rI CPow fun i j => .int (i ^ j.toNat)
abbrev rLtI : R2 := rI0 fun i j => .bl (decide (i < j))
abbrev rLeI : R2 := rI0 fun i j => .bl (decide (i ≤ j))
abbrev rGtI : R2 := rI0 fun i j => .bl (decide (j < i))
abbrev rGeI : R2 := rI0 fun i j => .bl (decide (j ≤ i))
abbrev rAddT : R2 := fun x y H Q => ∃ i j, x = .str i ∧ y = .str j ∧ i.length + j.length ≤ sizeLine ∧ Q (.str (i ++ j)) H
abbrev rLtT' : R2 := fun x y H Q => ∃ i j, x = .str i ∧ y = .str j ∧ Q (.bl (decide (i.cps.toList < j.cps.toList))) H
abbrev rGtT' : R2 := fun x y H Q => ∃ i j, x = .str i ∧ y = .str j ∧ Q (.bl (decide (j.cps.toList < i.cps.toList))) H
abbrev rInC : R2 := fun x y H Q => ∃ (c : Nat) (z : Str), x = .str ⟨#[c]⟩ ∧ y = .str z ∧ Q (.bl (decide (c ∈ z.cps.toList))) H
abbrev rNinC : R2 := fun x y H Q => ∃ (c : Nat) (z : Str), x = .str ⟨#[c]⟩ ∧ y = .str z ∧ Q (.bl (!decide (c ∈ z.cps.toList))) H
abbrev rIsNn : R2 := fun x y H Q => y = .non ∧ Q (.bl (decide (x = .non))) H
abbrev rNotNn : R2 := fun x y H Q => y = .non ∧ Q (.bl (!decide (x = .non))) H
abbrev rLenT : List V → Hp → VK → Prop := fun xs H Q => ∃ z : Str, xs = [.str z] ∧ z.length ≤ sizeLine ∧ Q (.int z.length) H
abbrev rMax2I : List V → Hp → VK → Prop := fun xs H Q => ∃ i j, xs = [.int i, .int j] ∧ Q (.int (if j > i then j else i)) H
abbrev rMin2I : List V → Hp → VK → Prop := fun xs H Q => ∃ i j, xs = [.int i, .int j] ∧ Q (.int (if j < i then j else i)) H
abbrev tNegI (ta : TE) : TE := tUn (rU fun i => .int (-i)) ta

/-! ### values -/
section
variable {K : PySem.W.Frag} {σ : L2.St} {H H' : Hp} {ta tb tc te : TE} {t u : TT} {x y z v w : V} {r r' : R2}
theorem e_negI {i : Int} (h : Ev ta σ H (.int i)) : Ev (tNegI ta) σ H (.int (-i)) := ev_un h ru_neg
theorem r_eqI {i j : Int} : RV rEq (.int i) (.int j) H (.bl (decide (i = j))) := fun H1 _ _ q => ⟨rfl, by rw [dec_tI]; exact q H1 (Ex.refl H1)⟩
theorem r_neI {i j : Int} : RV rNe (.int i) (.int j) H (.bl (!decide (i = j))) := fun H1 _ _ q => ⟨rfl, by rw [dec_tI]; exact q H1 (Ex.refl H1)⟩
theorem r_eqS {a b : Tx} : RV rEq (tS a) (tS b) H (.bl (decide (a = b))) := fun H1 _ _ q => ⟨rfl, by rw [dec_tS]; exact q H1 (Ex.refl H1)⟩
theorem r_neS {a b : Tx} : RV rNe (tS a) (tS b) H (.bl (!decide (a = b))) := fun H1 _ _ q => ⟨rfl, by rw [dec_tS]; exact q H1 (Ex.refl H1)⟩
theorem r_addT {a b : Tx} (h : a.length + b.length ≤ 1000000) : RV rAddT (tS a) (tS b) H (tS (a ++ b)) := fun H1 _ _ q =>
  ⟨_, _, rfl, rfl, by rw [T_len, T_len]; exact sz6 h, by rw [T_app]; exact q H1 (Ex.refl H1)⟩
theorem r_ltT {a b : Tx} : RV rLtT' (tS a) (tS b) H (.bl (decide (a < b))) := fun H1 _ _ q => ⟨_, _, rfl, rfl, by rw [T_cps, T_cps]; exact q H1 (Ex.refl H1)⟩
theorem r_gtT {a b : Tx} : RV rGtT' (tS a) (tS b) H (.bl (decide (b < a))) := fun H1 _ _ q => ⟨_, _, rfl, rfl, by rw [T_cps, T_cps]; exact q H1 (Ex.refl H1)⟩
theorem r_inC {c : Nat} {l : Tx} : RV rInC (tS [c]) (tS l) H (.bl (decide (c ∈ l))) := fun H1 _ _ q => ⟨c, T l, rfl, rfl, by rw [T_cps]; exact q H1 (Ex.refl H1)⟩
theorem r_ninC {c : Nat} {l : Tx} : RV rNinC (tS [c]) (tS l) H (.bl (!decide (c ∈ l))) := fun H1 _ _ q => ⟨c, T l, rfl, rfl, by rw [T_cps]; exact q H1 (Ex.refl H1)⟩
theorem r_isN {x : V} : RV rIsNn x .non H (.bl (decide (x = .non))) := fun H1 _ _ q => ⟨rfl, q H1 (Ex.refl H1)⟩
theorem r_notN {x : V} : RV rNotNn x .non H (.bl (!decide (x = .non))) := fun H1 _ _ q => ⟨rfl, q H1 (Ex.refl H1)⟩
/-- the item of a text, at a place within -/
def at0 (l : Tx) (i : Int) : Nat := l.getD i.toNat 0
theorem atI_at0 {l : Tx} {i : Int} (h0 : 0 ≤ i) (h1 : i < l.length) : atI l i = some (at0 l i) := by
  obtain ⟨n, rfl⟩ : ∃ n : Nat, i = n := ⟨i.toNat, by omega⟩
  have hn : n < l.length := by omega
  refine atI_nat ?_
  unfold at0
  simp [List.getD, List.getElem?_eq_getElem hn]
theorem r_ixS {l : Tx} {i : Int} (h0 : 0 ≤ i) (h1 : i < l.length) (hl : l.length ≤ 1000000) : RV rIxS (tS l) (.int i) H (tS [at0 l i]) := fun H1 _ _ q =>
  ⟨T l, i, at0 l i, rfl, rfl, by rw [T_len]; exact sz6 hl, by rw [T_cps]; exact atI_at0 h0 h1, q H1 (Ex.refl H1)⟩
/-- an item of a list that is read, the list's items made of ns by f -/
theorem atI_map {α : Type} {f : α → V} {ns : List α} {i : Int} {n : α} (h0 : 0 ≤ i) (h : ns[i.toNat]? = some n) : atI (ns.map f) i = some (f n) := by
  obtain ⟨m, rfl⟩ : ∃ m : Nat, i = m := ⟨i.toNat, by omega⟩
  refine atI_nat ?_
  rw [List.getElem?_map]
  have h' : ns[m]? = some n := by simpa using h
  rw [h']; rfl
theorem rc_lenT {l : Tx} (hl : l.length ≤ 1000000) : RC rLenT [tS l] H (.int l.length) := fun H1 _ _ q => ⟨T l, rfl, by rw [T_len]; exact sz6 hl, by rw [T_len]; exact q H1 (Ex.refl H1)⟩
theorem rc_lenL {p : Addr} {xs : List V} (h : SqL K H p xs) : RC (rLenS K) [.ref p] H (.int xs.length) := fun H1 e _ q => ⟨p, xs, rfl, .inl (ex_l e h), q H1 (Ex.refl H1)⟩
theorem rc_max2 {i j : Int} : RC rMax2I [.int i, .int j] H (.int (max i j)) := fun H1 _ _ q => ⟨i, j, rfl, by
  have e : (if j > i then j else i) = max i j := by omega
  rw [e]; exact q H1 (Ex.refl H1)⟩
theorem rc_min2 {i j : Int} : RC rMin2I [.int i, .int j] H (.int (min i j)) := fun H1 _ _ q => ⟨i, j, rfl, by
  have e : (if j < i then j else i) = min i j := by omega
  rw [e]; exact q H1 (Ex.refl H1)⟩
theorem rc_all {p : Addr} {bs : List Bool} (h : SqL K H p (bs.map V.bl)) : RC (rAll K) [.ref p] H (.bl (bs.all id)) := fun H1 e _ q => ⟨p, bs, rfl, ex_l e h, q H1 (Ex.refl H1)⟩
/-- a built-in upon a new list -/
theorem e_cbN {r : List V → Hp → VK → Prop} {xs : List V} (h : EvL te σ H xs) (hr : ∀ p H1, Ex H H1 → H1 p = some (.lst xs) → RC r [.ref p] H1 z) : Ev (tCB r (tCons te tNil)) σ H z := fun H1 e Q q =>
  h H1 e _ fun p H2 _ e2 h2 => hr p H2 (e.trans e2) h2 H2 (Ex.refl H2) Q fun H3 e3 => q H3 (e2.trans e3)
theorem e_if {b : Bool} (h : EvT t σ H b) (h1 : b = true → Ev ta σ H v) (h2 : b = false → Ev tb σ H w) : Ev (tIf t ta tb) σ H (if b then v else w) := fun H1 e Q q => h H1 e _ fun H2 e2 => by
  cases b with
  | true => exact h1 rfl H2 (e.trans e2) Q fun H3 e3 => q H3 (e2.trans e3)
  | false => exact h2 rfl H2 (e.trans e2) Q fun H3 e3 => q H3 (e2.trans e3)
theorem et_yes : EvT tYes σ H true := fun H1 _ _ q => q H1 (Ex.refl H1)
/-- slices of texts -/
theorem sl_cut (l : Tx) (lo hi : Option Int) : cutS (T l) lo hi = T ((l.drop (HT.sIx l.length 0 lo)).take (HT.sIx l.length l.length hi - HT.sIx l.length 0 lo)) := by
  unfold cutS
  simp [T, Str.length]
theorem e_sl {tl th : TO} {l : Tx} {lo hi : Option Int} (h : Ev te σ H (tS l)) (h1 : EvO tl σ H lo) (h2 : EvO th σ H hi) (hl : l.length ≤ 1000000) :
    Ev (tSl rSlS te tl th) σ H (tS ((l.drop (HT.sIx l.length 0 lo)).take (HT.sIx l.length l.length hi - HT.sIx l.length 0 lo))) := fun H1 e _ q =>
  h H1 e _ fun H2 e2 => h1 H2 (e.trans e2) _ fun H3 e3 => h2 H3 ((e.trans e2).trans e3) _ fun H4 e4 =>
    ⟨T l, rfl, by rw [T_len]; exact sz6 hl, by rw [sl_cut]; exact q H4 ((e2.trans e3).trans e4)⟩
theorem sIx_pos (n d : Nat) (i : Int) (h : 0 ≤ i) : HT.sIx n d (some i) = min i.toNat n := by
  obtain ⟨m, rfl⟩ : ∃ m : Nat, i = m := ⟨i.toNat, by omega⟩
  rw [HT.sIx_nat]; simp
end

/-! ### the ledger -/
/-- H0: the heap at the entry; S: what of it may have changed; L: objects that are known and not among the others of H0 -/
structure Am (S : List Addr) (H0 : Hp) (L : List (Addr × HO)) (H : Hp) : Prop where
  old : ∀ a o, H0 a = some o → a ∉ S → H a = some o
  own : ∀ p ∈ L, H p.1 = some p.2
  new : ∀ p ∈ L, H0 p.1 = none ∨ p.1 ∈ S
  nd : (L.map (·.1)).Nodup
section
variable {S : List Addr} {H0 H H1 : Hp} {L : List (Addr × HO)} {p : Addr} {o o' : HO}
theorem Am.start (H : Hp) : Am [] H [] H := ⟨fun _ _ h _ => h, (fun _ h => (by cases h)), (fun _ h => (by cases h)), List.Pairwise.nil⟩
theorem Am.ex (am : Am S H0 L H) (e : Ex H H1) : Am S H0 L H1 := ⟨fun a o h n => e a o (am.old a o h n), fun p h => e _ _ (am.own p h), am.new, am.nd⟩
theorem Am.add (am : Am S H0 L H) (hp : H p = none) (e : Ex H H1) (h : H1 p = some o) : Am S H0 ((p, o) :: L) H1 := by
  refine ⟨fun a o h n => e a o (am.old a o h n), fun q hq => ?_, fun q hq => ?_, ?_⟩
  · rcases List.mem_cons.mp hq with rfl | hq
    · exact h
    · exact e _ _ (am.own q hq)
  · rcases List.mem_cons.mp hq with rfl | hq
    · show H0 p = none ∨ p ∈ S
      by_cases hs : p ∈ S
      · exact .inr hs
      · refine .inl ?_
        cases z : H0 p with
        | none => rfl
        | some w => rw [am.old p w z hs] at hp; cases hp
    · exact am.new q hq
  · refine List.nodup_cons.mpr ⟨fun hm => ?_, am.nd⟩
    obtain ⟨q, hq, e1⟩ := List.mem_map.mp hm
    have z := am.own q hq
    have e2 : q.1 = p := e1
    rw [e2, hp] at z; cases z
theorem Am.new1 (am : Am S H0 L H) (hp : H p = none) : Am S H0 ((p, o) :: L) (upd H p o) := am.add hp (Ex.new hp) upd_same
theorem nodup_at {α β : Type} : ∀ {l : List (α × β)} {i j : Nat} {x y : α × β}, (l.map (·.1)).Nodup → l[i]? = some x → l[j]? = some y → x.1 = y.1 → i = j
  | l, i, j, x, y, nd, h1, h2, e => by
    have a1 : (l.map (·.1))[i]? = some x.1 := by rw [List.getElem?_map, h1]; rfl
    have a2 : (l.map (·.1))[j]? = some x.1 := by rw [List.getElem?_map, h2]; exact congrArg some e.symm
    obtain ⟨b1, c1⟩ := List.getElem?_eq_some_iff.mp a1
    obtain ⟨b2, c2⟩ := List.getElem?_eq_some_iff.mp a2
    exact (List.getElem_inj nd).mp (c1.trans c2.symm)
theorem Am.set (i : Nat) (am : Am S H0 L H) (h : L[i]? = some (p, o)) : Am S H0 (L.set i (p, o')) (upd H p o') := by
  have hm : (p, o) ∈ L := List.mem_of_getElem? h
  have hi : i < L.length := (List.getElem?_eq_some_iff.mp h).1
  refine ⟨fun a u ha n => ?_, fun q hq => ?_, fun q hq => ?_, ?_⟩
  · have hne : a ≠ p := fun z => by
      rcases am.new _ hm with k | k
      · rw [z, k] at ha; cases ha
      · exact n (z ▸ k)
    rw [upd_ne hne]; exact am.old a u ha n
  · obtain ⟨j, hj⟩ := List.getElem?_of_mem hq
    by_cases e : j = i
    · subst e
      rw [List.getElem?_set_self hi] at hj
      cases hj
      exact upd_same
    · rw [List.getElem?_set_ne (Ne.symm e)] at hj
      have hne : q.1 ≠ p := fun z => e (nodup_at am.nd hj h z)
      rw [upd_ne hne]
      exact am.own q (List.mem_of_getElem? hj)
  · obtain ⟨j, hj⟩ := List.getElem?_of_mem hq
    by_cases e : j = i
    · subst e
      rw [List.getElem?_set_self hi] at hj
      cases hj
      exact am.new (p, o) hm
    · rw [List.getElem?_set_ne (Ne.symm e)] at hj
      exact am.new q (List.mem_of_getElem? hj)
  · have e : (L.set i (p, o')).map (·.1) = L.map (·.1) := by
      rw [List.map_set]
      apply List.ext_getElem?
      intro j
      by_cases e : i = j
      · subst e
        rw [List.getElem?_set_self (by simpa using hi), List.getElem?_map, h]; rfl
      · rw [List.getElem?_set_ne e]
    rw [e]; exact am.nd
theorem Am.sub {L' : List (Addr × HO)} (am : Am S H0 L H) (h : L'.Sublist L) : Am S H0 L' H :=
  ⟨am.old, fun p hp => am.own p (h.subset hp), fun p hp => am.new p (h.subset hp), am.nd.sublist (h.map _)⟩
theorem Am.at (i : Nat) (am : Am S H0 L H) (h : L[i]? = some (p, o)) : H p = some o := am.own _ (List.mem_of_getElem? h)
theorem Am.toEx (am : Am [] H0 L H) : Ex H0 H := fun a o h => am.old a o h (by simp)
theorem Am.free (i : Nat) (am : Am [] H0 L H) (h : L[i]? = some (p, o)) : H0 p = none := by
  rcases am.new _ (List.mem_of_getElem? h) with k | k
  · exact k
  · cases k
end

/-! ### statements over the ledger -/
section
variable {K : PySem.W.Frag} {S : List Addr} {H0 H H' : Hp} {L : List (Addr × HO)} {σ : L2.St} {ta tb te : TE} {t : TT} {x y z v w : V} {D : Ends} {tu tw tz : TS}
theorem a_asg {i : Nat} (am : Am S H0 L H) (h : Ev te σ H v) (k : ∀ H, Am S H0 L H → D.nx (σ.set i (some v)) H) : tAsg te (gName i) D σ H := s_asg h fun H1 e => k H1 (am.ex e)
theorem aq_asg {i : Nat} (am : Am S H0 L H) (h : Ev te σ H v) (k : ∀ H, Am S H0 L H → tz D (σ.set i (some v)) H) : tSeq (tAsg te (gName i)) tz D σ H := q_asg h fun H1 e => k H1 (am.ex e)
theorem a_asgL {i : Nat} {xs : List V} (am : Am S H0 L H) (h : EvL te σ H xs) (k : ∀ p H, Am S H0 ((p, .lst xs) :: L) H → D.nx (σ.set i (some (.ref p))) H) : tAsg te (gName i) D σ H :=
  s_asgL h fun p H1 hp e h1 => k p H1 (am.add hp e h1)
theorem aq_asgL {i : Nat} {xs : List V} (am : Am S H0 L H) (h : EvL te σ H xs) (k : ∀ p H, Am S H0 ((p, .lst xs) :: L) H → tz D (σ.set i (some (.ref p))) H) : tSeq (tAsg te (gName i)) tz D σ H :=
  q_asgL h fun p H1 hp e h1 => k p H1 (am.add hp e h1)
theorem a_ret (am : Am S H0 L H) (h : Ev te σ H v) (k : ∀ H, Am S H0 L H → D.rt v H) : tRet te D σ H := s_ret h fun H1 e => k H1 (am.ex e)
theorem a_retL {xs : List V} (am : Am S H0 L H) (h : EvL te σ H xs) (k : ∀ p H, Am S H0 ((p, .lst xs) :: L) H → D.rt (.ref p) H) : tRet te D σ H := s_retL h fun p H1 hp e h1 => k p H1 (am.add hp e h1)
theorem a_if {b : Bool} (am : Am S H0 L H) (h : EvT t σ H b) (h1 : b = true → ∀ H, Am S H0 L H → tu D σ H) (h2 : b = false → ∀ H, Am S H0 L H → tw D σ H) : tIfS t tu tw D σ H :=
  s_if h (fun e H1 x => h1 e H1 (am.ex x)) fun e H1 x => h2 e H1 (am.ex x)
theorem aq_if {b : Bool} (am : Am S H0 L H) (h : EvT t σ H b) (h1 : b = true → ∀ H, Am S H0 L H → tu { D with nx := tz D } σ H) (h2 : b = false → ∀ H, Am S H0 L H → tw { D with nx := tz D } σ H) : tSeq (tIfS t tu tw) tz D σ H :=
  q_if h (fun e H1 x => h1 e H1 (am.ex x)) fun e H1 x => h2 e H1 (am.ex x)
theorem aq_when {b : Bool} (am : Am S H0 L H) (h : EvT t σ H b) (h1 : b = true → ∀ H, Am S H0 L H → tu { D with nx := tz D } σ H) (h2 : b = false → ∀ H, Am S H0 L H → tz D σ H) : tSeq (tIfS t tu tNext) tz D σ H :=
  aq_if am h h1 h2
theorem a_when {b : Bool} (am : Am S H0 L H) (h : EvT t σ H b) (h1 : b = true → ∀ H, Am S H0 L H → tu D σ H) (h2 : b = false → ∀ H, Am S H0 L H → D.nx σ H) : tIfS t tu tNext D σ H :=
  a_if am h h1 h2
theorem a_drop (am : Am S H0 L H) (h : Ev te σ H v) (k : ∀ H, Am S H0 L H → D.nx σ H) : tDrop te D σ H := s_drop h fun H1 e => k H1 (am.ex e)
theorem aq_drop (am : Am S H0 L H) (h : Ev te σ H v) (k : ∀ H, Am S H0 L H → tz D σ H) : tSeq (tDrop te) tz D σ H := q_drop h fun H1 e => k H1 (am.ex e)
/-- xs.append(e), xs in the ledger at i -/
theorem a_app (i : Nat) {l : Addr} {xs : List V} (am : Am S H0 L H) (hi : L[i]? = some (l, .lst xs)) (ha : Ev ta σ H (.ref l)) (h : Ev te σ H v) (hz : xs.length < 100000)
    (k : ∀ H, Am S H0 (L.set i (l, .lst (xs ++ [v]))) H → D.nx σ H) : tDrop (tBM K "list" rAppend ta (tCons te tNil)) D σ H :=
  s_app (am.at i hi) ha h hz fun H1 e => k _ ((am.ex e).set i hi)
theorem aq_app (i : Nat) {l : Addr} {xs : List V} (am : Am S H0 L H) (hi : L[i]? = some (l, .lst xs)) (ha : Ev ta σ H (.ref l)) (h : Ev te σ H v) (hz : xs.length < 100000)
    (k : ∀ H, Am S H0 (L.set i (l, .lst (xs ++ [v]))) H → tz D σ H) : tSeq (tDrop (tBM K "list" rAppend ta (tCons te tNil))) tz D σ H :=
  q_app (am.at i hi) ha h hz fun H1 e => k _ ((am.ex e).set i hi)
/-- xs[j] = e -/
theorem a_setL (i : Nat) {l : Addr} {xs : List V} {j : Nat} (am : Am S H0 L H) (hi : L[i]? = some (l, .lst xs)) (h : Ev te σ H v) (ho : Ev ta σ H (.ref l)) (hj' : Ev tb σ H (.int (j : Int))) (hj : j < xs.length)
    (k : ∀ H, Am S H0 (L.set i (l, .lst (xs.set j v))) H → D.nx σ H) : tAsg te (gSub ta tb rSetL) D σ H :=
  s_setL (am.at i hi) h ho hj' hj fun H1 e => k _ ((am.ex e).set i hi)
theorem aq_setL (i : Nat) {l : Addr} {xs : List V} {j : Nat} (am : Am S H0 L H) (hi : L[i]? = some (l, .lst xs)) (h : Ev te σ H v) (ho : Ev ta σ H (.ref l)) (hj' : Ev tb σ H (.int (j : Int))) (hj : j < xs.length)
    (k : ∀ H, Am S H0 (L.set i (l, .lst (xs.set j v))) H → tz D σ H) : tSeq (tAsg te (gSub ta tb rSetL)) tz D σ H :=
  q_setL (am.at i hi) h ho hj' hj fun H1 e => k _ ((am.ex e).set i hi)

/-! ### what is walked -/
/-- J walks xs, wherever the heap is as P says -/
def Sq (J : It) (P : Hp → Prop) (xs : List V) : Prop := ∀ H, P H → (∀ (i : Nat) x, xs[i]? = some x → J.go i H ∧ ∀ y H', J.yld i H y H' → H' = H ∧ y = x) ∧ J.stop xs.length H
def Wk (wi : TI) (σ : L2.St) (H : Hp) (P : Hp → Prop) (xs : List V) : Prop := ∀ H1, Ex H H1 → ∀ R : It → Hp → Prop, (∀ J H2, Ex H1 H2 → Sq J P xs → R J H2) → wi σ H1 R
/-- over a new list -/
def WkN (wi : TI) (σ : L2.St) (H : Hp) (xs : List V) : Prop := ∀ H1, Ex H H1 → ∀ R : It → Hp → Prop, (∀ p J H2, H1 p = none → Ex H1 H2 → H2 p = some (.lst xs) → Sq J (fun H' => H' p = some (.lst xs)) xs → R J H2) → wi σ H1 R
theorem sq_list {a : Addr} {xs : List V} : Sq (Itl K a) (fun H => SqL K H a xs) xs := fun H h =>
  ⟨fun i x hx => ⟨⟨xs, x, h, hx⟩, fun y H' hy => ⟨hy.1, Option.some.inj ((hy.2 xs h).symm.trans hx)⟩⟩, ⟨xs, h, Nat.le_refl _⟩⟩
theorem sq_tup {a : Addr} {xs : List V} : Sq (Itt K a) (fun H => SqT K H a xs) xs := fun H h =>
  ⟨fun i x hx => ⟨⟨xs, x, h, hx⟩, fun y H' hy => ⟨hy.1, Option.some.inj ((hy.2 xs h).symm.trans hx)⟩⟩, ⟨xs, h, Nat.le_refl _⟩⟩
theorem sq_range {lo : Int} {n : Nat} : Sq (Itr lo n) (fun _ => True) ((List.range n).map fun i => .int (lo + (i : Nat))) := fun H _ => by
  refine ⟨fun i x hx => ?_, by show n ≤ _; simp⟩
  rw [List.getElem?_map] at hx
  by_cases hi : i < n
  · rw [List.getElem?_range hi] at hx
    exact ⟨hi, fun y H' hy => ⟨hy.1, hy.2.trans (Option.some.inj hx)⟩⟩
  · rw [List.getElem?_eq_none (by simp; omega)] at hx; cases hx
theorem sq_rangeC {lo c : Int} {n : Nat} : Sq (Itc lo c n) (fun _ => True) ((List.range n).map fun i => .int (lo + (i : Nat) * c)) := fun H _ => by
  refine ⟨fun i x hx => ?_, by show n ≤ _; simp⟩
  rw [List.getElem?_map] at hx
  by_cases hi : i < n
  · rw [List.getElem?_range hi] at hx
    exact ⟨hi, fun y H' hy => ⟨hy.1, hy.2.trans (Option.some.inj hx)⟩⟩
  · rw [List.getElem?_eq_none (by simp; omega)] at hx; cases hx
theorem sq_text {l : Tx} : Sq (Its (T l)) (fun _ => True) (l.map fun c => tS [c]) := fun H _ => by
  refine ⟨fun i x hx => ?_, by show (T l).cps.size ≤ _; simp [T]⟩
  rw [List.getElem?_map] at hx
  cases hc : l[i]? with
  | none => rw [hc] at hx; cases hx
  | some c =>
    rw [hc] at hx
    have hi : i < l.length := (List.getElem?_eq_some_iff.mp hc).1
    refine ⟨by show i < (T l).cps.size; simpa [T] using hi, fun y H' hy => ⟨hy.1, ?_⟩⟩
    obtain ⟨c', e1, e2⟩ := hy.2
    have e3 : l[i]? = some c' := by simpa [T] using e1
    rw [hc] at e3
    have e4 : c = c' := Option.some.inj e3
    subst e4
    exact e2.trans (Option.some.inj hx)
theorem wk_list {a : Addr} {xs : List V} {tl : TE} (h : Ev tl σ H (.ref a)) (hx : SqL K H a xs) : Wk (iList K tl) σ H (fun H => SqL K H a xs) xs := fun H1 e R q =>
  h H1 e _ fun H2 e2 => ⟨a, rfl, ⟨xs, ex_l (e.trans e2) hx⟩, q _ H2 e2 sq_list⟩
theorem wk_tup {a : Addr} {xs : List V} {tl : TE} (h : Ev tl σ H (.ref a)) (hx : SqT K H a xs) : Wk (iTup K tl) σ H (fun H => SqT K H a xs) xs := fun H1 e R q =>
  h H1 e _ fun H2 e2 => ⟨a, rfl, ⟨xs, ex_t (e.trans e2) hx⟩, q _ H2 e2 sq_tup⟩
theorem wk_range1 {ta : TA} {n : Int} (h : EvA ta σ H [.int n]) (hn : -1000000 ≤ n ∧ n ≤ 1000000) : Wk (iRng1 ta) σ H (fun _ => True) ((List.range n.toNat).map fun i => .int (i : Nat)) := fun H1 e R q =>
  h H1 e _ fun H2 e2 => ⟨n, rfl, by omega, by omega, q _ H2 e2 (by
    have z := sq_range (lo := 0) (n := n.toNat)
    simpa only [Int.zero_add] using z)⟩
theorem wk_range2 {ta : TA} {lo n : Int} (h : EvA ta σ H [.int lo, .int n]) (hn : -1000000 ≤ lo ∧ lo ≤ 1000000 ∧ -1000000 ≤ n ∧ n ≤ 1000000) :
    Wk (iRng2 ta) σ H (fun _ => True) ((List.range (n - lo).toNat).map fun i => .int (lo + (i : Nat))) := fun H1 e R q =>
  h H1 e _ fun H2 e2 => ⟨lo, n, rfl, ⟨by omega, by omega, by omega, by omega⟩, q _ H2 e2 sq_range⟩
theorem wk_text {te : TE} {l : Tx} (h : Ev te σ H (tS l)) : Wk (iStr te) σ H (fun _ => True) (l.map fun c => tS [c]) := fun H1 e R q =>
  h H1 e _ fun H2 e2 => ⟨T l, rfl, q _ H2 e2 sq_text⟩
theorem wk_newL {xs : List V} {tl : TE} (h : EvL tl σ H xs) : WkN (iList K tl) σ H xs := fun H1 e R q =>
  h H1 e _ fun p H2 hp e2 h2 => ⟨p, rfl, ⟨xs, sq_of h2⟩, q p _ H2 hp e2 h2 fun H3 h3 => sq_list H3 (sq_of h3)⟩

/-! ### loops -/
/-- over ns, told by f: Iv by what is gone through -/
theorem a_for {α : Type} {wi : TI} {P : Hp → Prop} {f : α → V} {ns : List α} {j : Nat} (Iv : List α → L2.St → Hp → Prop) (am : Am S H0 L H) (hw : Wk wi σ H P (ns.map f)) (h0 : ∀ H, Am S H0 L H → Iv [] σ H)
    (hP : ∀ pre σ' H', Iv pre σ' H' → P H')
    (hs : ∀ pre n post σ' H', ns = pre ++ n :: post → Iv pre σ' H' → tu { D with nx := Iv (pre ++ [n]), ct := Iv (pre ++ [n]), bk := D.nx } (σ'.set j (some (f n))) H')
    (hd : ∀ σ' H', Iv ns σ' H' → D.nx σ' H') : tFor wi (gName j) tu D σ H := by
  refine hw H (Ex.refl H) _ fun J H2 e sq => ?_
  refine ⟨fun i m σ' H' => i + m = ns.length ∧ Iv (ns.take i) σ' H', ⟨ns.length, by omega, h0 H2 (am.ex e)⟩, ?_⟩
  rintro i m σ' H' ⟨im, hI⟩
  obtain ⟨q1, q2⟩ := sq H' (hP _ _ _ hI)
  by_cases hi : i < ns.length
  · have g : (ns.map f)[i]? = some (f ns[i]) := by rw [List.getElem?_map, List.getElem?_eq_getElem hi]; rfl
    have hsp : ns = ns.take i ++ ns[i] :: ns.drop (i + 1) := by
      rw [← List.drop_eq_getElem_cons hi, List.take_append_drop]
    have ht : ns.take (i + 1) = ns.take i ++ [ns[i]] := by rw [List.take_succ_eq_append_getElem hi]
    obtain ⟨g1, g2⟩ := q1 i _ g
    refine .inr ⟨g1, Iv (ns.take i ++ [ns[i]]), fun σ2 H2 hN => ⟨m - 1, by omega, by omega, by rw [ht]; exact hN⟩, fun y H'' hy => ?_⟩
    obtain ⟨e1, e2⟩ := g2 y H'' hy
    subst e1 e2
    exact hs _ _ _ σ' H'' hsp hI
  · have ei : i = ns.length := by omega
    subst ei
    rw [List.take_length] at hI
    rw [List.length_map] at q2
    exact .inl ⟨q2, hd σ' H' hI⟩
theorem aq_for {α : Type} {wi : TI} {P : Hp → Prop} {f : α → V} {ns : List α} {j : Nat} (Iv : List α → L2.St → Hp → Prop) (am : Am S H0 L H) (hw : Wk wi σ H P (ns.map f)) (h0 : ∀ H, Am S H0 L H → Iv [] σ H)
    (hP : ∀ pre σ' H', Iv pre σ' H' → P H')
    (hs : ∀ pre n post σ' H', ns = pre ++ n :: post → Iv pre σ' H' → tu { D with nx := Iv (pre ++ [n]), ct := Iv (pre ++ [n]), bk := tz D } (σ'.set j (some (f n))) H')
    (hd : ∀ σ' H', Iv ns σ' H' → tz D σ' H') : tSeq (tFor wi (gName j) tu) tz D σ H := a_for (D := { D with nx := tz D }) Iv am hw h0 hP hs hd
/-- while -/
theorem a_while (W : Nat → L2.St → Hp → Prop) (m0 : Nat) (h0 : W m0 σ H)
    (hs : ∀ m σ' H', W m σ' H' → ∃ b, EvT t σ' H' b ∧ (b = true → ∀ H1, Ex H' H1 → ∀ N : L2.St → Hp → Prop, (∀ m' σ2 H2, m' < m → W m' σ2 H2 → N σ2 H2) → tu { D with nx := N, ct := N, bk := D.nx } σ' H1) ∧ (b = false → ∀ H1, Ex H' H1 → D.nx σ' H1)) : tWhile t tu D σ H :=
  s_while W m0 h0 fun m σ' H' hw => by
    obtain ⟨b, hb, h1, h2⟩ := hs m σ' H' hw
    exact ⟨b, hb, fun e H1 ex => ⟨fun σ2 H2 => ∃ m', m' < m ∧ W m' σ2 H2, fun _ _ h => h, h1 e H1 ex _ fun m' σ2 H2 l w => ⟨m', l, w⟩⟩, h2⟩
theorem aq_while (W : Nat → L2.St → Hp → Prop) (m0 : Nat) (h0 : W m0 σ H)
    (hs : ∀ m σ' H', W m σ' H' → ∃ b, EvT t σ' H' b ∧ (b = true → ∀ H1, Ex H' H1 → ∀ N : L2.St → Hp → Prop, (∀ m' σ2 H2, m' < m → W m' σ2 H2 → N σ2 H2) → tu { D with nx := N, ct := N, bk := tz D } σ' H1) ∧ (b = false → ∀ H1, Ex H' H1 → tz D σ' H1)) : tSeq (tWhile t tu) tz D σ H := a_while (D := { D with nx := tz D }) W m0 h0 hs

/-! ### comprehensions -/
theorem filter_snoc {α : Type} (b : α → Bool) (l : List α) (n : α) : (l ++ [n]).filter b = l.filter b ++ (if b n = true then [n] else []) := by
  rw [List.filter_append]
  by_cases h : b n = true
  · rw [if_pos h, List.filter_cons_of_pos h]; rfl
  · rw [if_neg h, List.filter_cons_of_neg h]; rfl
theorem el_lc {α : Type} {wi : TI} {P : Hp → Prop} {f : α → V} {ns : List α} {j : Nat} {vs : List Nat} (b : α → Bool) (v : α → V) (hw : Wk wi σ H P (ns.map f)) (hm : ∀ H H', Ex H H' → P H → P H') (hp : P H) (hz : ns.length ≤ 100000)
    (hv : ∀ x, wipe ((wipe σ vs).set j (some x)) vs = wipe σ vs)
    (ht : ∀ n ∈ ns, EvT t ((wipe σ vs).set j (some (f n))) H (b n)) (he : ∀ n ∈ ns, b n = true → Ev te ((wipe σ vs).set j (some (f n))) H (v n)) :
    EvL (tLc wi (gName j) t te vs) σ H ((ns.filter b).map v) := fun H1 e Q q => by
  refine hw H1 e _ fun J H2 e2 sq => fun Dl hD => ?_
  refine ⟨fun i m H' => i + m = ns.length ∧ Ex H2 H' ∧ H' Dl = some (.lst (((ns.take i).filter b).map v)), ⟨ns.length, by omega, Ex.new hD, upd_same⟩, ?_⟩
  rintro i m H' ⟨im, e3, hl⟩
  obtain ⟨q1, q2⟩ := sq H' (hm _ _ ((e.trans e2).trans e3) hp)
  by_cases hi : i < ns.length
  · have g : (ns.map f)[i]? = some (f ns[i]) := by rw [List.getElem?_map, List.getElem?_eq_getElem hi]; rfl
    have hmem : ns[i] ∈ ns := List.getElem_mem hi
    have ht2 : ns.take (i + 1) = ns.take i ++ [ns[i]] := by rw [List.take_succ_eq_append_getElem hi]
    obtain ⟨g1, g2⟩ := q1 i _ g
    refine .inr ⟨g1, fun H'' => Ex H2 H'' ∧ H'' Dl = some (.lst (((ns.take (i + 1)).filter b).map v)), fun H'' hN => ⟨m - 1, by omega, by omega, hN.1, hN.2⟩, fun y H'' hy => ?_⟩
    obtain ⟨e4, e5⟩ := g2 y H'' hy
    subst e4 e5
    refine ⟨hv _, ?_⟩
    refine ht _ hmem H'' ((e.trans e2).trans e3) _ fun H5 e6 => ?_
    rw [ht2, filter_snoc]
    cases hb : b ns[i] with
    | true =>
      show te ((wipe σ vs).set j (some (f ns[i]))) H5 _
      refine he _ hmem hb H5 (((e.trans e2).trans e3).trans e6) _ fun H6 e7 => ?_
      refine ⟨_, e7 _ _ (e6 _ _ hl), ?_, Ex.mut ((e3.trans e6).trans e7) hD, ?_⟩
      · refine szL6 ?_
        rw [List.length_map]
        have := List.length_filter_le b (ns.take i)
        rw [List.length_take] at this
        omega
      · rw [upd_same, if_pos rfl, List.map_append]; rfl
    | false =>
      show Ex H2 H5 ∧ _
      refine ⟨e3.trans e6, ?_⟩
      rw [if_neg Bool.false_ne_true, List.append_nil]
      exact e6 _ _ hl
  · have ei : i = ns.length := by omega
    subst ei
    rw [List.take_length] at hl
    rw [List.length_map] at q2
    exact .inl ⟨q2, q Dl H' (fresh_back e2 hD) (e2.trans e3) hl⟩
/-- without a test -/
theorem el_lcY {α : Type} {wi : TI} {P : Hp → Prop} {f : α → V} {ns : List α} {j : Nat} {vs : List Nat} (v : α → V) (hw : Wk wi σ H P (ns.map f)) (hm : ∀ H H', Ex H H' → P H → P H') (hp : P H) (hz : ns.length ≤ 100000)
    (hv : ∀ x, wipe ((wipe σ vs).set j (some x)) vs = wipe σ vs) (he : ∀ n ∈ ns, Ev te ((wipe σ vs).set j (some (f n))) H (v n)) :
    EvL (tLc wi (gName j) tYes te vs) σ H (ns.map v) := by
  have z := el_lc (t := tYes) (fun _ => true) v hw hm hp hz hv (fun _ _ => et_yes) (fun n hn _ => he n hn)
  rwa [List.filter_eq_self.mpr (fun _ _ => rfl)] at z
theorem pm_true {H H' : Hp} (_ : Ex H H') (_ : True) : True := trivial
/-- items of a new list -/
theorem el_lcN {α : Type} {tl : TE} {f : α → V} {ns : List α} {j : Nat} {vs : List Nat} (b : α → Bool) (v : α → V) (h : EvL tl σ H (ns.map f)) (hz : ns.length ≤ 100000)
    (hv : ∀ x, wipe ((wipe σ vs).set j (some x)) vs = wipe σ vs)
    (ht : ∀ n ∈ ns, EvT t ((wipe σ vs).set j (some (f n))) H (b n)) (he : ∀ n ∈ ns, b n = true → Ev te ((wipe σ vs).set j (some (f n))) H (v n)) :
    EvL (tLc (iList K tl) (gName j) t te vs) σ H ((ns.filter b).map v) := fun H1 e Q q =>
  h H1 e _ fun p H2 hp e2 h2 => by
    have z := el_lc (σ := σ) (H := H2) (wi := iList K (tC (.ref p))) (f := f) (ns := ns) (j := j) (vs := vs) (t := t) (te := te) b v (wk_list ev_c (sq_of h2)) (fun _ _ ex s => ex_l ex s) (sq_of h2) hz hv
      (fun n hn => (ht n hn).mono (e.trans e2)) (fun n hn hb => (he n hn hb).mono (e.trans e2))
    exact z H2 (Ex.refl H2) Q fun p' H3 hp' e3 h3 => q p' H3 (fresh_back e2 hp') (e2.trans e3) h3
end
end Mw
/-! rules of our own over the layer -/
namespace Mw
open PySem PySem.Spec PyProof.Rows L2 Evl

/-- where the classes stand -/
structure Ad where
  K : PySem.W.Frag
  cME : Addr
  cBT : Addr
  cBL : Addr
  cBW : Addr
  cBA : Addr
  cNT : Addr
  cNP : Addr
  cFu : Addr
  cBook : Addr
  cGroups : Addr

section
variable {X : Cx} {e : Expr} {te : TE} {pos : Pos}
theorem pe_globS {x z : Str} (hg : Gl X x) (hm : ∃ t, X.mg x = some (.str z t)) (hd : (x == ("__debug__" : Str)) = false := by decide) : PE X (.Name x pos) (tC (.str z)) := by
  obtain ⟨t, h⟩ := hm
  exact pe_glob hg h ⟨t, rfl⟩ hd
theorem pe_globI {x : Str} {i : Int} (hg : Gl X x) (hm : ∃ t, X.mg x = some (.int i t)) (hd : (x == ("__debug__" : Str)) = false := by decide) : PE X (.Name x pos) (tC (.int i)) := by
  obtain ⟨t, h⟩ := hm
  exact pe_glob hg h ⟨t, rfl⟩ hd

/-! ### calls -/
/-- a def that may be called by its name -/
structure Cal (P : Program) (w : World) (K : PySem.W.Frag) (mg : Str → Option Value) (base : Heap) (CX : CXT) (k : Nat) (x : Str) (ps : List Str) (sp : Sp) : Prop where
  ex : ∃ f fd, FnOk P w K mg base CX k f fd ps sp ∧ mg x = some (.ref f) ∧ PySem.W.keepIn K (.ref f) = true ∧ Binds K fd ps []
theorem pe_cal {CX : CXT} {k : Nat} {x : Str} {ps : List Str} {sp : Sp} {E : XK} {e : Expr} {es : List Expr} {t : TA} {p : Pos} (c : Cal X.prog X.w X.K X.mg X.base CX k x ps sp) (hr : Room k X.A) (hg : Gl X x) (hx : Passes CX X E) (ha : PA X (e :: es) t)
    (hdb : (x == ("__debug__" : Str)) = false := by decide) (he : starEach (e :: es) X.env = (false, eval e X.env) :: starEach es X.env := by rfl) (hpl : (backTo pos (starEach es X.env)).any (·.1) = false := by rfl) :
    PE X (.Call (.Name x p) (e :: es) [] pos) (tCall sp [] E t) := by
  obtain ⟨f, fd, F, hm, hk, hb⟩ := c.ex
  exact pe_call F hr hg hm hk hb .nil hx ha hdb he hpl
theorem pe_calS {k : Nat} {x : Str} {ps : List Str} {sp : Sp} {E : L2.St → XK} {e : Expr} {es : List Expr} {t : TA} {p : Pos} {CX : CXT} (c : Cal X.prog X.w X.K X.mg X.base CX k x ps sp) (hr : Room k X.A) (hg : Gl X x) (hx : ∀ σ, PassesAt CX X σ (E σ)) (ha : PA X (e :: es) t)
    (hdb : (x == ("__debug__" : Str)) = false := by decide) (he : starEach (e :: es) X.env = (false, eval e X.env) :: starEach es X.env := by rfl) (hpl : (backTo pos (starEach es X.env)).any (·.1) = false := by rfl) :
    PE X (.Call (.Name x p) (e :: es) [] pos) (tCallS sp E t) := by
  obtain ⟨f, fd, F, hm, hk, hb⟩ := c.ex
  exact pe_callS F hr hg hm hk hb hx ha hdb he hpl
theorem passX {E : XK} (tk : Takes X (fun cls d _ H => E cls d H)) : Passes (L2.CX X.prog X.w) X E := passes_call tk fun _ _ _ _ h => h

/-! ### raise C('..') -/
def tRz (E : XK) (C : Addr) : TS := fun _ _ H => E (.ref C) none H
/-- what the written part says of an own exception without own __init__ -/
structure XCls (K : PySem.W.Frag) (mg : Str → Option Value) (x : Str) (C : Addr) : Prop where
  g : mg x = some (.ref C)
  ex : PySem.W.excIn K C [.type "ValueError", .type "Exception", .type "BaseException", .type "object"] "ValueError.__new__" = true
  kp : PySem.W.keepIn K (.ref C) = true
  sb : PySem.W.subIn K (.ref C) (.type "BaseException") = some true
  ty : PySem.W.typeIn K (.ref C) = some (.type "type")
theorem ps_rz {x m : Str} {j : Nat} {p p2 pos2 : Pos} {E : XK} {C : Addr} (hc : X.calm = true) (c : XCls X.K X.mg x C) (hg : Gl X x) (tk : Takes X (fun cls d _ H => E cls d H)) (hdb : (x == ("__debug__" : Str)) = false := by decide) :
    PS X (.Raise (some (.Call (.Name x p) [.Constant (.str m) j p2] [] pos)) none pos2) (tRz E C) :=
  ps_raise hc tk (pmk_own PySem.F.excBase_ValueError c.ex c.g c.kp (raises_own c.sb c.ty) hg hdb)

/-! ### text[::-1] -/
def tRevT (te : TE) : TE := fun σ H Q => te σ H fun x H1 => ∃ z : Str, x = .str z ∧ z.length ≤ sizeLine ∧ Q (.str ⟨z.cps.toList.reverse.toArray⟩) H1
theorem range_down (n : Nat) : Builtin.Str.strSliceIndices none none (-1) n = (List.range n).reverse := by
  show sliceRange (((n : Nat) : Int) - 1) (-1) (-1) = _
  rw [PySem.W.krv_sliceRange, PySem.W.krv_range]
theorem pick_down (z : Str) : ((List.range z.length).reverse.filterMap (z.cps[·]?)) = z.cps.toList.reverse := by
  rw [List.filterMap_reverse]
  exact congrArg List.reverse (PySem.W.krv_all z.cps)
theorem pe_revT {k : Nat} {p1 p2 p3 : Pos} (he : PE X e te) : PE X (.Subscript e (.Slice none none (some (.UnaryOp .USub (.Constant (.int 1) k p1) p2)) p3) pos) (tRevT te) := by
  refine ⟨fun pins s σ H Q I h => Subscript_ (thn (he.run pins s σ H _ I h) fun v s1 hv => ?_)⟩
  obtain ⟨x, H1, J, rx, z, ex, hz, q⟩ := hv
  subst ex
  obtain ⟨t, rfl⟩ := rx
  have hd : PO X (some (.UnaryOp .USub (.Constant (.int 1) k p1) p2)) (tPart (tNegI (tC (.int 1)))) := po_some (pe_un un_neg pe_int)
  refine wpAny_Slice (thn ((po_none (X := X)).run pins s1 σ H1 (fun o G => o = none ∧ G = H1) J ⟨rfl, rfl⟩) fun vl s2 w1 => ?_)
  obtain ⟨l, G1, J1, pl, rfl, rfl⟩ := w1
  refine thn ((po_none (X := X)).run pins s2 σ G1 (fun o G => o = none ∧ G = G1) J1 ⟨rfl, rfl⟩) fun vu s3 w2 => ?_
  obtain ⟨u, G2, J2, pu, rfl, rfl⟩ := w2
  refine thn (hd.run pins s3 σ G2 (fun o G => o = some (-1) ∧ G = G2) J2 ⟨1, rfl, -1, rfl, rfl, rfl⟩) fun vs s4 w3 => ?_
  obtain ⟨o, G3, J3, ps, rfl, rfl⟩ := w3
  have J4 : Inv X pins σ G3 { s4 with heap := s4.heap.push { cls := .type "slice", data := .fields #[vl, vu, vs] } } := J3.kept (t' := s4.toks) fun b ob z => Heap.get?_push_of_some _ z
  obtain ⟨l1, rfl, q1⟩ := IsPart.raw pl
  obtain ⟨u1, rfl, q2⟩ := IsPart.raw pu
  obtain ⟨d1, rfl, q3⟩ := IsPart.raw ps
  obtain ⟨⟨di, dt⟩, rfl⟩ : ∃ y, d1 = some y := by
    cases d1 with
    | none => cases q3
    | some y => exact ⟨y, rfl⟩
  have q4 : di = -1 := Option.some.inj q3
  subst q4
  refine tail_any (ops := [.str z t, .ref s4.heap.objs.size]) (typeIs_str _ z t) PySem.F.slot_str_getitem.lookup ?_ (by with_unfolding_all rfl)
  refine wpAny_getItem_str_slice (l := l1) (u := u1) (st := some (-1, dt)) ⟨_, Heap.get?_push_size _ rfl, rfl, rfl⟩ rfl ?_
  have q1' : l1.map (·.1) = none := q1
  have q2' : u1.map (·.1) = none := q2
  have pk : slicePicked z l1 u1 (some (-1, dt)) = (List.range z.length).reverse := by
    unfold slicePicked
    rw [q1', q2']
    exact range_down _
  unfold sliceMade
  rw [pk, if_neg (show ¬ (((Option.map (·.1) (some ((-1 : Int), dt))).getD 1 == 1 && ((List.range z.length).reverse.length == z.length)) = true) from fun w => by
    rw [Bool.and_eq_true] at w
    have w1 : ((-1 : Int) == 1) = true := w.1
    exact absurd w1 (by decide)), pick_down]
  exact ⟨by show (z.cps.toList.reverse.toArray).size ≤ sizeLine; simpa [Str.length] using hz, .str _, G3, J4.tok _, ⟨_, rfl⟩, q⟩
end
section
variable {σ : L2.St} {H : Hp} {te : TE}
theorem e_rev {l : Tx} (h : Ev te σ H (tS l)) (hl : l.length ≤ 1000000) : Ev (tRevT te) σ H (tS l.reverse) := fun H1 e _ q =>
  h H1 e _ fun H2 e2 => ⟨T l, rfl, by rw [T_len]; exact sz6 hl, by rw [T_cps]; exact q H2 e2⟩
end

/-! ### text * int -/
def rMulT : R2 := fun x y H Q => ∃ (z : Str) (n : Int), x = .str z ∧ y = .int n ∧ 0 ≤ n ∧ n ≤ 1000000 ∧ z.length * n.toNat ≤ 1000000 ∧ Q (.str ⟨(List.replicate n.toNat z.cps.toList).flatten.toArray⟩) H
theorem fold_cat (xs : List (Array Nat)) : ∀ acc : Array Nat, (xs.foldl (· ++ ·) acc).toList = acc.toList ++ (xs.map Array.toList).flatten := by
  induction xs with
  | nil => intro acc; simp
  | cons x r ih => intro acc; rw [List.foldl_cons, ih]; simp
theorem fold_rep (z : Str) (k : Nat) : (⟨(List.replicate k z.cps).foldl (· ++ ·) #[]⟩ : Str) = ⟨(List.replicate k z.cps.toList).flatten.toArray⟩ := by
  congr 1
  apply Array.toList_inj.mp
  rw [fold_cat]
  simp
theorem tooL6 {n : Nat} (h : n ≤ 1000000) : Builtin.Str.tooLong n = false := by
  unfold Builtin.Str.tooLong
  rw [decide_eq_false]
  have := sizeLine_eq
  omega
theorem op_mulT {X : Cx} : OpR X (binaryOp .Mult) rMulT := by
  intro pins s σ H x y v u Q I rx ry h
  obtain ⟨z, n, rfl, rfl, h0, h1, h2, q⟩ := h
  obtain ⟨t, rfl⟩ := rx
  obtain ⟨t', rfl⟩ := ry
  have fin : ∀ r : Str, r = ⟨(List.replicate n.toNat z.cps.toList).flatten.toArray⟩ → r.length ≤ sizeLine → ∀ k, EP X pins σ Q (.str r k) { s with toks := s.toks + 1 } := fun r e _ k =>
    ⟨.str r, H, I.tok _, ⟨_, rfl⟩, by rw [e]; exact q⟩
  have hlen : ∀ k : Nat, (⟨(List.replicate k z.cps.toList).flatten.toArray⟩ : Str).length = z.length * k := fun k => by
    simp [Str.length, Nat.mul_comm]
  refine PySem.P.mul_str (by
    rw [decide_eq_false (by omega), decide_eq_false (by omega)]; rfl) (fun a b => ?_) (fun a b => tooL6 h2) ?_
  · have hn : 1 ≤ n := by omega
    obtain ⟨m, rfl⟩ : ∃ m : Nat, n = m := ⟨n.toNat, by omega⟩
    have h3 : z.length * m ≤ 1000000 := h2
    have h4 : ((z.length * m : Nat) : Int) ≤ ((1000000 : Nat) : Int) := Int.ofNat_le.mpr h3
    rw [Int.natCast_mul] at h4
    have h5 : (z.length : Int) ≤ (2 ^ 63 - 1) / (m : Int) := (Int.le_ediv_iff_mul_le (by omega)).mpr (by omega)
    omega
  · by_cases a : n < 1
    · have e : n = 0 := by omega
      subst e
      rw [if_pos a]
      exact ⟨by show 0 ≤ sizeLine; exact Nat.zero_le _, fin _ rfl (Nat.zero_le _) _⟩
    · rw [if_neg a]
      by_cases b : (n == 1 || z.length == 0) = true
      · rw [if_pos b]
        refine ⟨.str z, H, I, ⟨_, rfl⟩, ?_⟩
        have ez : z = ⟨(List.replicate n.toNat z.cps.toList).flatten.toArray⟩ := by
          rcases Bool.or_eq_true _ _ ▸ b with b | b
          · have e : n = 1 := by simpa using b
            subst e
            simp
          · have e : z.cps = #[] := by
              have : z.cps.size = 0 := by simpa [Str.length] using b
              exact Array.eq_empty_of_size_eq_zero this
            obtain ⟨c⟩ := z
            dsimp only at e
            subst e
            simp
        rw [← ez] at q
        exact q
      · rw [if_neg b]
        have hl : (⟨(List.replicate n.toNat z.cps).foldl (· ++ ·) #[]⟩ : Str).length ≤ sizeLine := by
          rw [fold_rep, hlen]
          exact sz6 h2
        exact ⟨hl, fin _ (fold_rep z n.toNat) hl _⟩
def repT (l : Tx) (n : Nat) : Tx := (List.replicate n l).flatten
theorem r_mulT {H : Hp} {l : Tx} {n : Int} (h0 : 0 ≤ n) (h1 : n ≤ 1000000) (h2 : l.length * n.toNat ≤ 1000000) : RV rMulT (tS l) (.int n) H (tS (repT l n.toNat)) := fun H1 _ _ q =>
  ⟨T l, n, rfl, rfl, h0, h1, by rw [T_len]; exact h2, by rw [T_cps]; exact q H1 (Ex.refl H1)⟩
end Mw
/-! an error that a try catches and a name keeps; what isinstance says of it -/
namespace Mw
open PySem PySem.Spec PyProof.Rows L2 Evl

/-- an error of the class at C that stands at a -/
def ExK (C a : Addr) : HO := .ext fun h => ∃ (oe : Obj) (vs : Array Value), h.get? a = some oe ∧ Zc (.ref C) none oe ∧ oe.data = .fields vs
section
variable {X : Cx} {pins : List (Addr × Obj)} {σ : L2.St} {H : Hp} {s : Shared} {a : Addr} {o : HO}
/-- an object that the frame did not find at its entry is taken up -/
theorem track (I : Inv X pins σ H s) (hn : H a = none) (hL : a ≠ X.env.locals) (h0 : X.s_0.heap.get? a = none) (hc : ∀ x c, X.env.cells.lookup x = some c → c ≠ a) (hp : ∀ p ∈ X.pn ++ pins, p.1 ≠ a)
    (new : ObjOk X.prog X.w (upd H a o) s.heap a o) : Inv X pins σ (upd H a o) s := by
  have ne0 : ∀ b u, X.s_0.heap.get? b = some u → b ≠ a := fun b u e z => by rw [z, h0] at e; cases e
  have neH : ∀ b u, H b = some u → b ≠ a := fun b u e z => by rw [z, hn] at e; cases e
  constructor
  · exact I.ok
  · exact I.os
  · exact I.bare
  · have b := I.base
    constructor
    · exact b.keep
    · exact b.slot
    · intro c u e n x
      rw [upd_ne (ne0 c u e)]; exact b.free c u e n x
    · exact b.there
    · intro c xs e
      have z := b.tups c xs e
      rw [upd_ne (neH c _ z)]; exact z
    · intro c u v e
      have z := b.frzs c u v e
      rw [upd_ne (neH c _ z)]; exact z
    · intro c ps e
      obtain ⟨m, z⟩ := b.tbls c ps e
      exact ⟨m, by rw [upd_ne (neH c _ z)]; exact z⟩
  · exact I.loc
  · exact I.cell
  · rw [upd_ne (Ne.symm hL)]; exact I.free
  · intro x c e
    rw [upd_ne (hc x c e)]; exact I.freeC x c e
  · intro p m
    obtain ⟨e1, e2, e3⟩ := I.pin p m
    exact ⟨e1, by rw [upd_ne (hp p m)]; exact e2, e3⟩
  · exact I.hok.laidN (fun _ _ z => z) hn new
  · exact I.len
end

/-- try: BODY except C as n: y = n: y keeps what was caught -/
def tTryK (K : PySem.W.Frag) (C : Addr) (i j : Nat) (tb : WX → TS) : TS := fun D σ H =>
  tb (fun cls d σ' H' => ∃ D' : Addr, cls = .ref D' ∧ d = none ∧ PySem.W.exmOne K (.ref D') (.ref C) = some true ∧ ∀ a, H' a = none → D.nx ((σ'.set j (some (.ref a))).set i none) (upd H' a (ExK D' a))) D σ H
section
variable {X : Cx} {x n y : Str} {C : Addr} {i j : Nat} {body : List Stmt} {np p1 p2 p3 pos pos' : Pos} {tb : WX → TS}
theorem ps_tryK (hs : X.stack = X.env :: X.outer) (hf : X.env.frame = some X.env.locals) (hex : X.ex = []) (hN : X.N.Nodup) (hi : X.N[i]? = some n) (hj : X.N[j]? = some y) (hij : i ≠ j) (hln : X.env.scope.names.lookup n = some .local) (hly : X.env.scope.names.lookup y = some .local)
    (hg : Gl X x) (hm : X.mg x = some (.ref C)) (hb : ∀ (W : WX) (pn : List (Addr × Obj)) (xe : Value → Shared → Prop), Takes (X.tr pn xe) W → PSs (X.tr pn xe) body (tb W))
    (hd : (n == ("__debug__" : Str)) = false := by decide) (hdc : (n == ("__classdict__" : Str)) = false := by decide) (hdx : (x == ("__debug__" : Str)) = false := by decide) (hsw : swapsWith (.Name n p1) (some (.Name y p2)) p3.line X.env = pure false := by rfl) :
    PS X (.Try body [.ExceptHandler (some (.Name x np)) (some n) [.Assign [.Name y p2] (.Name n p1) p3] pos'] [] [] pos) (tTryK X.K C i j tb) := by
  refine ⟨fun pins s σ H D I h => ?_⟩
  have ok := I.ok
  have hfr : X.A.frames = some (X.env :: X.outer) := by rw [← hs]; exact ok.frames
  have sui : ∀ (a : Addr) (l : List (Addr × Obj)), PSs (X.suite a l) [.Assign [.Name y p2] (.Name n p1) p3] (tAsg (tVar i) (gName j)) := fun a l =>
    pss_one (ps_set (X := X.suite a l) (i := j) hN hj (.inl hly) (pe_var (X := X.suite a l) hi (.inl hln) hd hdc) hsw (.inr hly))
  let Wt : WX := fun cls d σ' H' => ∃ D' : Addr, cls = .ref D' ∧ d = none ∧ PySem.W.exmOne X.K (.ref D') (.ref C) = some true ∧ ∀ a, H' a = none → D.nx ((σ'.set j (some (.ref a))).set i none) (upd H' a (ExK D' a))
  let Q3 : Value → Shared → Prop := fun e s3 => wpAny (model X.prog X.w) X.A (handleBy e X.env [.ExceptHandler (some (.Name x np)) (some n) [.Assign [.Name y p2] (.Name n p1) p3] pos']) (SP X pins D) X.xe s3
  let Q1 : Value → Shared → Prop := fun e s1 => wpAny (model X.prog X.w) X.A (noteFrame e X.env) (fun _ s2 => wpAny (model X.prog X.w) X.A (setFlight e none) (fun _ s3 => Q3 e s3) X.xe s2) X.xe s1
  have tk : Takes (X.tr (X.pn ++ pins) Q1) Wt := by
    intro u s' xx
    obtain ⟨a, B, sI, pins', σ1, H1, cls, d, rfl, J0, nb, up, sky, na, os, ag, D', rfl, rfl, hex1, kn⟩ := xx
    have J : Inv X pins σ1 H1 sI := J0.ofTry ok
    have sk : Sky B (X.env :: X.outer) a (Zc (.ref D') none) X.env.locals s'.heap := by
      have z := sky
      rw [show (X.tr (X.pn ++ pins) Q1).stack = X.env :: X.outer from hs] at z
      exact z
    show wpAny (model X.prog X.w) X.A (noteFrame (.ref a) X.env) (fun _ s2 => wpAny (model X.prog X.w) X.A (setFlight (.ref a) none) (fun _ s3 => Q3 (.ref a) s3) X.xe s2) X.xe s'
    refine Sky.land Zc.steady hfr hf sk fun g fl upg => ?_
    have Jg : Inv X pins σ1 H1 { s' with heap := g } := J.landed nb fl.1 (up.trans upg) os ag
    obtain ⟨og, vg, hag, hzg, hdg⟩ := fl.there
    have nfr : a ∉ frs (X.env :: X.outer) := fun hmem => by
      obtain ⟨_, o', e', hnf⟩ := fl.2.2.1.mem hmem
      rw [hag] at e'
      cases e'
      exact hnf _ hdg
    have nL : a ≠ X.env.locals := fun z => nfr (List.mem_filterMap.mpr ⟨X.env, List.mem_cons_self, by rw [hf, z]⟩)
    have nF : a ∉ X.fs := fun hmem => by
      obtain ⟨e1, he1, q1⟩ := List.mem_filterMap.mp hmem
      exact nfr (List.mem_filterMap.mpr ⟨e1, List.mem_cons_of_mem _ he1, q1⟩)
    have Sg := Jg.suite hag hdg na nL nF
    have nI : sI.heap.get? a = none := by
      cases z : sI.heap.get? a with
      | none => rfl
      | some u =>
        have nfr' : a ∉ frs X.stack := by rw [hs]; exact nfr
        have z2 := nb a u z nfr'
        rw [fl.2.1] at z2
        cases z2
    have n0 : X.s_0.heap.get? a = none := by
      cases z : X.s_0.heap.get? a with
      | none => rfl
      | some u =>
        obtain ⟨o', z2⟩ := J.base.there a u z (by rw [hex]; exact List.not_mem_nil)
        rw [nI] at z2
        cases z2
    refine wpAny_handleBy_cons (codeAny_handlers_test ?_) (fun q => by cases q)
    have LT : PySem.W.Looks (model X.prog X.w) g (typeOf (.ref a)) (.ref D') := fun A Q E s k q => wpAny_typeOf_ref (k _ _ hag) (by rw [hzg.1]; exact q)
    have LM := PySem.W.exm_one (M := model X.prog X.w) Jg.kIn LT hex1
    refine ld_glob (X := X.suite a ((a, og) :: (X.pn ++ pins))) Sg hg hm (LM.here ?_) hdx
    refine codeAny_handlers_suite_as (HandSPX.lands_againZ fl fun g2 fl2 upg2 => ?_)
    have Jk : Inv X pins σ1 H1 { s' with heap := g2 } := J.landed nb fl2.1 ((up.trans upg).trans upg2) os ag
    obtain ⟨o2, v2, ha2, hz2, hd2⟩ := fl2.there
    have Jt : Inv X pins σ1 (upd H1 a (ExK D' a)) { s' with heap := g2 } := track Jk na nL n0
      (fun x1 c e1 z => by
        obtain ⟨v, oc, e2, e3⟩ := Jk.cell x1 c e1
        rw [z] at e2
        have e4 : g2.get? a = some oc := e2
        rw [ha2] at e4
        cases e4
        rw [hd2] at e3
        cases e3)
      (fun p m z => by
        obtain ⟨e1, _⟩ := J.pin p m
        rw [z, nI] at e1
        cases e1)
      ⟨⟨o2, v2, ha2, hz2, hd2⟩, ⟨o2, ha2⟩, fun h1 h2 w1 k => by
        obtain ⟨u1, u2, e1, e2, e3⟩ := w1
        exact ⟨u1, u2, k _ e1, e2, e3⟩⟩
    have St : Inv (X.suite a (X.pn ++ pins)) [] σ1 (upd H1 a (ExK D' a)) { s' with heap := g2 } :=
      ⟨Jt.ok.suite _ _, Jt.os, Jt.bare, Jt.base, Jt.loc, Jt.cell, Jt.free, Jt.freeC, fun p hp => Jt.pin p (by rw [List.append_nil] at hp; exact hp), Jt.hok, Jt.len⟩
    refine store_ok (X := X.suite a (X.pn ++ pins)) (v := .ref a) St hN hi (.inl hln) rfl (fun s5 S5 => ?_) (.inr hln)
    have hlen : i < σ1.length := by rw [Jt.len]; exact (List.getElem?_eq_some_iff.mp hi).1
    refine wpAny_mono ((sui a (X.pn ++ pins)).run [] s5 _ _ { nx := fun σ2 H2 => σ2 = (σ1.set i (some (.ref a))).set j (some (.ref a)) ∧ H2 = upd H1 a (ExK D' a), rt := fun _ _ => False } S5 ⟨.ref a, by rw [List.getElem?_set_self hlen], rfl, rfl⟩) (fun f s6 hsp => ?_) (fun _ _ z => False.elim z)
    cases f with
    | next =>
      obtain ⟨σ6, H6, S6, rfl, rfl⟩ := hsp
      have J6 : Inv X pins ((σ1.set i (some (.ref a))).set j (some (.ref a))) (upd H1 a (ExK D' a)) s6 :=
        ⟨ok, S6.os, S6.bare, S6.base, S6.loc, S6.cell, S6.free, S6.freeC, fun p hp => S6.pin p (List.mem_append_left _ hp), S6.hok, S6.len⟩
      refine gone_ok J6 hN hi hln fun s7 J7 => ⟨_, _, J7, ?_⟩
      have e : ((σ1.set i (some (V.ref a))).set j (some (V.ref a))).set i none = (σ1.set j (some (V.ref a))).set i none := by
        rw [List.set_comm _ _ hij, List.set_set]
      rw [e]
      exact kn a na
    | brk => obtain ⟨_, _, _, z⟩ := hsp; exact z.elim
    | cont => obtain ⟨_, _, _, z⟩ := hsp; exact z.elim
    | ret u => obtain ⟨_, _, _, _, _, z⟩ := hsp; exact z.elim
  refine wpAny_Try_except (wpAny_mono ((hb Wt (X.pn ++ pins) Q1 tk).run [] s σ H D (I.toTry _) h) (fun f s1 hsp => ?_) (fun e s1 he => he))
  cases f with
  | next => obtain ⟨σ2, H2, J2, q⟩ := hsp; exact wpAny_execs_nil ⟨σ2, H2, J2.ofTry ok, q⟩
  | brk => obtain ⟨σ2, H2, J2, q⟩ := hsp; exact ⟨σ2, H2, J2.ofTry ok, q⟩
  | cont => obtain ⟨σ2, H2, J2, q⟩ := hsp; exact ⟨σ2, H2, J2.ofTry ok, q⟩
  | ret u => obtain ⟨v, σ2, H2, J2, r, q⟩ := hsp; exact ⟨v, σ2, H2, J2.ofTry ok, r, q⟩
end

/-! ### isinstance of what is kept -/
def rIsX (K : PySem.W.Frag) : List V → Hp → VK → Prop := fun xs H Q => ∃ (a D : Addr) (c : V) (u : Value) (b : Bool), xs = [.ref a, c] ∧ H a = some (ExK D a) ∧ ExcC K D ∧ ClsV c u ∧ PySem.W.kitOne K (.ref D) u = some b ∧ Q (.bl b) H
def rIsXT (K : PySem.W.Frag) : List V → Hp → VK → Prop := fun xs H Q => ∃ (a D tp : Addr) (cs : List V) (us : List Value) (b : Bool), xs = [.ref a, .ref tp] ∧ H a = some (ExK D a) ∧ ExcC K D ∧ H tp = some (.tup cs) ∧ Paired ClsV cs us ∧ PySem.W.kitAny K (.ref D) us = some b ∧ Q (.bl b) H
section
variable {X : Cx} {pins : List (Addr × Obj)} {σ : L2.St} {H : Hp} {s : Shared} {a D : Addr}
theorem exk_at (I : Inv X pins σ H s) (h : H a = some (ExK D a)) (C : ExcC X.K D) : ∃ oe, PySem.W.KitX X.K (.ref a) (.ref D) (fun h => PySem.W.InstAt h a oe D none) ∧ PySem.W.InstAt s.heap a oe D none := by
  obtain ⟨⟨oe, vs, e1, e2, e3⟩, _⟩ := I.hok a _ h
  refine ⟨oe, PySem.W.handS_kitx_exc C.hg C.hk C.hs C.hd C.ha C.hn C.ht C.hm, ?_⟩
  obtain ⟨oc, od, dt, sl⟩ := oe
  obtain ⟨z1, z2⟩ := e2
  dsimp only at z1 z2 e3
  subst z1 z2 e3
  exact ⟨e1, rfl, rfl, trivial⟩
theorem call_isX : CallR X (.builtin "isinstance") (rIsX X.K) := by
  intro pins s σ H xs us Q I r h
  obtain ⟨a, D, c, u, b, rfl, hh, C, k, e, q⟩ := h
  obtain ⟨u1, u2, rfl, r1, r2⟩ := vals2 r
  cases (show u1 = Value.ref a from r1)
  have e2 := k.eq r2
  subst e2
  obtain ⟨oe, Z, J⟩ := exk_at I hh C
  exact PySem.W.kia_one Z I.kIn J e (fun z => nomatch z) fun tk => ⟨.bl b, H, I.tok tk, rfl, q⟩
theorem call_isXT : CallR X (.builtin "isinstance") (rIsXT X.K) := by
  intro pins s σ H xs us Q I r h
  obtain ⟨a, D, tp, cs, ws, b, rfl, hh, C, hT, k, e, q⟩ := h
  obtain ⟨u1, u2, rfl, r1, r2⟩ := vals2 r
  cases (show u1 = Value.ref a from r1)
  cases (show u2 = Value.ref tp from r2)
  obtain ⟨oe, Z, J⟩ := exk_at I hh C
  obtain ⟨_, its, rv, o, h1, h2, n, h3⟩ := (show ObjOk X.prog X.w H s.heap tp (.tup cs) from I.hok tp _ hT)
  have e3 := ClsV.all k rv
  subst e3
  obtain ⟨oc, od, dt, sl⟩ := o
  simp only at h2 h3
  subst h2 h3
  exact PySem.W.kia_tup Z I.kIn J h1 e (fun z => nomatch z) fun tk => ⟨.bl b, H, I.tok tk, rfl, q⟩
end
section
variable {K : PySem.W.Frag} {σ : L2.St} {H H' : Hp} {a D : Addr} {te : TE} {ta : TA}
theorem rc_isX {c : V} {u : Value} {b : Bool} (h : H a = some (ExK D a)) (C : ExcC K D) (k : ClsV c u) (e : PySem.W.kitOne K (.ref D) u = some b) : RC (rIsX K) [.ref a, c] H (.bl b) := fun H1 x _ q =>
  ⟨a, D, c, u, b, rfl, x a _ h, C, k, e, q H1 (Ex.refl H1)⟩
/-- isinstance(x, (c, ..)), the tuple made on the way -/
theorem e_isXT {cs : List V} {us : List Value} {b : Bool} (h : H a = some (ExK D a)) (C : ExcC K D) (hx : Ev te σ H (.ref a)) (hc : EvA ta σ H cs) (hz : cs.length ≤ 1000) (k : Paired ClsV cs us) (e : PySem.W.kitAny K (.ref D) us = some b) :
    Ev (tCB (rIsXT K) (tCons te (tCons (tTup ta) tNil))) σ H (.bl b) := fun H1 x Q q =>
  hx H1 x _ fun H2 x2 => eu_tup hc (by omega) H2 (x.trans x2) _ fun p H3 _ x3 h3 => ⟨a, D, p, cs, us, b, rfl, ((x.trans x2).trans x3) a _ h, C, h3, k, e, q H3 (x2.trans x3)⟩
theorem rc_isi {x c : V} {t u : Value} {b : Bool} (ty : ∀ H1, Ex H H1 → TyX K H1 x t) (k : ClsV c u) (e : PySem.W.kitOne K t u = some b) : RC (rIsi K) [x, c] H (.bl b) := fun H1 ex _ q => ⟨x, c, t, u, b, rfl, k, ty H1 ex, e, q H1 (Ex.refl H1)⟩
end

/-! ### kinds of things; written texts -/
theorem tyOf_ex {K : PySem.W.Frag} {H H1 : Hp} {x : V} {t : Value} (e : Ex H H1) (h : TyOf K H x t) : TyOf K H1 x t := by
  cases h with
  | non => exact .non
  | bl b => exact .bl b
  | int i => exact .int i
  | str z => exact .str z
  | flt z => exact .flt z
  | lst h => exact .lst (e _ _ h)
  | frz h => exact .frz (e _ _ h)
  | tup h => exact .tup (e _ _ h)
  | dK h => exact .dK (e _ _ h)
  | dT h => exact .dT (e _ _ h)
  | ins h c h1 h2 h3 h4 => exact .ins (e _ _ h) c h1 h2 h3 h4
theorem tyX_ex {K : PySem.W.Frag} {H H1 : Hp} {x : V} {t : Value} (e : Ex H H1) (h : TyX K H x t) : TyX K H1 x t := by
  cases h with
  | base h => exact .base (tyOf_ex e h)
  | byt b => exact .byt b
  | set h => exact .set (e _ _ h)
  | kList h c => exact .kList h c
  | kTuple h c => exact .kTuple h c
  | kDict h c => exact .kDict h c
  | fTuple h => exact .fTuple (e _ _ h)
  | fDict h => exact .fDict (e _ _ h)
/-- v is no text -/
def Odd (K : PySem.W.Frag) (H : Hp) (v : V) : Prop := ∃ n : String, TyX K H v (.type n) ∧ n ∈ ["NoneType", "int", "bool", "list", "tuple", "dict"]
theorem Odd.ex {K : PySem.W.Frag} {H H1 : Hp} {v : V} (e : Ex H H1) (h : Odd K H v) : Odd K H1 v := by
  obtain ⟨n, h1, h2⟩ := h
  exact ⟨n, tyX_ex e h1, h2⟩
theorem odd_str {K : PySem.W.Frag} {n : String} (h : n ∈ ["NoneType", "int", "bool", "list", "tuple", "dict"]) : PySem.W.kitOne K (.type n) (.type "str") = some false := by
  simp only [List.mem_cons, List.not_mem_nil, or_false] at h
  rcases h with rfl | rfl | rfl | rfl | rfl | rfl <;> exact kit_ty (by decide +kernel)
section
variable {X : Cx} {pos : Pos}
theorem pe_strT {x : Str} {l : Tx} {j : Nat} (h : x = T l) : PE X (.Constant (.str x) j pos) (tC (tS l)) := by
  subst h; exact pe_str
theorem pe_globT {x : Str} {l : Tx} (hg : Gl X x) (hm : ∃ t, X.mg x = some (.str (T l) t)) (hd : (x == ("__debug__" : Str)) = false := by decide) : PE X (.Name x pos) (tC (tS l)) := pe_globS hg hm hd
end
def letters : Tx := [97, 98, 99, 100, 101, 102, 103, 104, 105, 106, 107, 108, 109, 110, 111, 112, 113, 114, 115, 116, 117, 118, 119, 120, 121, 122]
section
variable {K : PySem.W.Frag} {σ : L2.St} {H H' : Hp} {ta tb te : TE} {x y z v : V}
theorem r_divI {i j : Int} (h : 0 < j ∧ j < 1073741824) : RV rDivI (.int i) (.int j) H (.int (i / j)) := rv_I h
theorem r_modI {i j : Int} (h : 0 < j) : RV rModI (.int i) (.int j) H (.int (i % j)) := rv_I h
theorem r_mulI {i j : Int} (h : (-(2 ^ 64) < i ∧ i < 2 ^ 64) ∨ (-(2 ^ 64) < j ∧ j < 2 ^ 64)) : RV rMulI (.int i) (.int j) H (.int (i * j)) := rv_I h
theorem r_powI {i j : Int} (h : 0 ≤ j ∧ j ≤ 1000000 ∧ i.natAbs < 2 ^ 64) : RV rPowI (.int i) (.int j) H (.int (i ^ j.toNat)) := rv_I h
theorem r_eqN {i : V} : RV rEq .non .non H (.bl true) := fun H1 _ _ q => ⟨rfl, q H1 (Ex.refl H1)⟩
/-- a promise that a value comes of it; E is not wished -/
def spV (R : List V → Hp → V → Prop) : Sp := fun vs H Q _ => ∃ v, R vs H v ∧ ∀ H', Ex H H' → Q v H'
/-- .. a new list -/
def spL (R : List V → Hp → List V → Prop) : Sp := fun vs H Q _ => ∃ xs, R vs H xs ∧ ∀ p H', H p = none → Ex H H' → H' p = some (.lst xs) → Q (.ref p) H'
/-- .. a value, or an error of the class at C -/
def spVX (R : List V → Hp → V → Prop) (B : List V → Hp → Addr → Prop) : Sp := fun vs H Q E => (∃ v, R vs H v ∧ ∀ H', Ex H H' → Q v H') ∨ ∃ C, B vs H C ∧ ∀ H', Ex H H' → E (.ref C) none H'
def spLX (R : List V → Hp → List V → Prop) (B : List V → Hp → Addr → Prop) : Sp := fun vs H Q E => (∃ xs, R vs H xs ∧ ∀ p H', H p = none → Ex H H' → H' p = some (.lst xs) → Q (.ref p) H') ∨ ∃ C, B vs H C ∧ ∀ H', Ex H H' → E (.ref C) none H'
theorem e_callV {R : List V → Hp → V → Prop} {E : XK} {ta : TA} {vs : List V} (h : EvA ta σ H vs) (hR : ∀ H1, Ex H H1 → R vs H1 z) : Ev (tCall (spV R) [] E ta) σ H z :=
  ev_call h fun H1 e Q q E => ⟨z, by rw [List.append_nil]; exact hR H1 e, q⟩
theorem e_callL {R : List V → Hp → List V → Prop} {E : XK} {ta : TA} {vs xs : List V} (h : EvA ta σ H vs) (hR : ∀ H1, Ex H H1 → R vs H1 xs) : EvL (tCall (spL R) [] E ta) σ H xs :=
  el_call h fun H1 e Q q E => ⟨xs, by rw [List.append_nil]; exact hR H1 e, q⟩
theorem e_callVX {R : List V → Hp → V → Prop} {B : List V → Hp → Addr → Prop} {E : XK} {ta : TA} {vs : List V} (h : EvA ta σ H vs) (hR : ∀ H1, Ex H H1 → R vs H1 z) : Ev (tCall (spVX R B) [] E ta) σ H z :=
  ev_call h fun H1 e Q q E => .inl ⟨z, by rw [List.append_nil]; exact hR H1 e, q⟩
theorem e_callLX {R : List V → Hp → List V → Prop} {B : List V → Hp → Addr → Prop} {E : XK} {ta : TA} {vs xs : List V} (h : EvA ta σ H vs) (hR : ∀ H1, Ex H H1 → R vs H1 xs) : EvL (tCall (spLX R B) [] E ta) σ H xs :=
  el_call h fun H1 e Q q E => .inl ⟨xs, by rw [List.append_nil]; exact hR H1 e, q⟩
end

/-! ### "".join(..) -/
abbrev rJoin (K : PySem.W.Frag) : V → List V → Hp → VK → Prop := fun x xs H Q => ∃ a p, ∃ ys : List Str, x = .str a ∧ xs = [.ref p] ∧ (SqL K H p (ys.map V.str) ∨ SqT K H p (ys.map V.str)) ∧ (ys.map (·.length)).sum + ys.length * a.length ≤ 16777216 ∧ Q (.str (Txt.join a ys)) H
abbrev tJoin (K : PySem.W.Frag) (to te : TE) : TE := tM1 (rJoin K) to te
theorem joinL_nil : ∀ ls : List Tx, TL.joinL [] ls = ls.flatten
  | [] => rfl
  | [p] => by show p = [p].flatten; simp
  | p :: q :: r => by
    show p ++ ([] ++ TL.joinL [] (q :: r)) = (p :: q :: r).flatten
    rw [joinL_nil (q :: r)]; simp
theorem join_T (ls : List Tx) : Txt.join (T []) (ls.map T) = T ls.flatten := by
  refine TL.ext_tl ?_
  rw [TL.join_eq, TL.tl_join, List.map_map]
  show TL.joinL [] (ls.map (TL.tl ∘ T)) = ls.flatten
  have e : (TL.tl ∘ T) = (id : Tx → Tx) := funext fun l => T_cps l
  rw [e, List.map_id, joinL_nil]
theorem sum_len (ls : List Tx) : ((ls.map T).map (·.length)).sum = ls.flatten.length := by
  rw [List.length_flatten, List.map_map]
  exact congrArg List.sum (List.map_congr_left fun l _ => T_len l)
section
variable {K : PySem.W.Frag} {σ : L2.St} {H H' : Hp} {ta tb te to : TE} {x y z v : V}
theorem e_join {ls : List Tx} (ho : Ev to σ H (tS [])) (h : EvL te σ H (ls.map tS)) (hz : ls.flatten.length ≤ 1000000) : Ev (tJoin K to te) σ H (tS ls.flatten) := fun H1 e _ q =>
  ho H1 e _ fun H2 e2 => ⟨⟨_, rfl⟩, h H2 (e.trans e2) _ fun p H3 _ e3 h3 => ⟨T [], p, ls.map T, rfl, rfl, .inl (by rw [List.map_map]; exact sq_of h3), by
    rw [sum_len, T_len]; simp only [List.length_nil, Nat.mul_zero]; omega, by rw [join_T]; exact q H3 (e2.trans e3)⟩⟩
/-- a list that is there -/
theorem e_joinL {ls : List Tx} {p : Addr} (ho : Ev to σ H (tS [])) (h : Ev te σ H (.ref p)) (hp : SqL K H p (ls.map tS)) (hz : ls.flatten.length ≤ 1000000) : Ev (tJoin K to te) σ H (tS ls.flatten) := fun H1 e _ q =>
  ho H1 e _ fun H2 e2 => ⟨⟨_, rfl⟩, h H2 (e.trans e2) _ fun H3 e3 => ⟨T [], p, ls.map T, rfl, rfl, .inl (by rw [List.map_map]; exact ex_l ((e.trans e2).trans e3) hp), by
    rw [sum_len, T_len]; simp only [List.length_nil, Nat.mul_zero]; omega, by rw [join_T]; exact q H3 (e2.trans e3)⟩⟩
theorem cut_map {α : Type} (f : α → V) (ns : List α) (lo hi : Option Int) : cutV (ns.map f) lo hi = ((ns.drop (HT.sIx ns.length 0 lo)).take (HT.sIx ns.length ns.length hi - HT.sIx ns.length 0 lo)).map f := by
  unfold cutV
  rw [List.length_map, List.map_take, List.map_drop]
/-- a slice of a list that is read -/
theorem e_slL {α : Type} {f : α → V} {ns : List α} {tl th : TO} {a : Addr} {lo hi : Option Int} (h : Ev te σ H (.ref a)) (h1 : EvO tl σ H lo) (h2 : EvO th σ H hi) (hs : SqL K H a (ns.map f)) :
    EvL (tSl (rSlL K) te tl th) σ H (((ns.drop (HT.sIx ns.length 0 lo)).take (HT.sIx ns.length ns.length hi - HT.sIx ns.length 0 lo)).map f) := by
  rw [← cut_map]
  exact el_sl h h1 h2 hs
/-- one of several values -/
def EvP (te : TE) (σ : L2.St) (H : Hp) (P : V → Prop) : Prop := ∀ H1, Ex H H1 → ∀ Q : VK, (∀ v H2, P v → Ex H1 H2 → Q v H2) → te σ H1 Q
variable {S : List Addr} {H0 : Hp} {L : List (Addr × HO)} {D : Ends} {tz : TS} {P : V → Prop}
theorem a_asgP {i : Nat} (am : Am S H0 L H) (h : EvP te σ H P) (k : ∀ v H, P v → Am S H0 L H → D.nx (σ.set i (some v)) H) : tAsg te (gName i) D σ H := h H (Ex.refl H) _ fun v H1 p e => k v H1 p (am.ex e)
theorem aq_asgP {i : Nat} (am : Am S H0 L H) (h : EvP te σ H P) (k : ∀ v H, P v → Am S H0 L H → tz D (σ.set i (some v)) H) : tSeq (tAsg te (gName i)) tz D σ H := a_asgP (D := { D with nx := tz D }) am h k
theorem a_retP (am : Am S H0 L H) (h : EvP te σ H P) (k : ∀ v H, P v → Am S H0 L H → D.rt v H) : tRet te D σ H := h H (Ex.refl H) _ fun v H1 p e => k v H1 p (am.ex e)
end

/-! ### slices of texts by their common forms -/
theorem cut_to {α : Type} (l : List α) {i : Int} (h : 0 ≤ i) : (l.drop (HT.sIx l.length 0 none)).take (HT.sIx l.length l.length (some i) - HT.sIx l.length 0 none) = l.take i.toNat := by
  rw [HT.sIx_none, sIx_pos _ _ _ h, List.drop_zero, Nat.sub_zero]
  rw [List.take_eq_take_iff]; omega
theorem cut_from {α : Type} (l : List α) {i : Int} (h : 0 ≤ i) : (l.drop (HT.sIx l.length 0 (some i))).take (HT.sIx l.length l.length none - HT.sIx l.length 0 (some i)) = l.drop i.toNat := by
  rw [HT.sIx_none, sIx_pos _ _ _ h]
  by_cases c : i.toNat ≤ l.length
  · rw [Nat.min_eq_left c, List.take_of_length_le (by rw [List.length_drop]; exact Nat.le_refl _)]
  · rw [Nat.min_eq_right (by omega), List.drop_of_length_le (Nat.le_refl _), List.drop_of_length_le (by omega : l.length ≤ i.toNat)]
    simp
theorem cut_mid {α : Type} (l : List α) {i j : Int} (h : 0 ≤ i) (h2 : 0 ≤ j) : (l.drop (HT.sIx l.length 0 (some i))).take (HT.sIx l.length l.length (some j) - HT.sIx l.length 0 (some i)) = (l.drop i.toNat).take (j.toNat - i.toNat) := by
  rw [sIx_pos _ _ _ h, sIx_pos _ _ _ h2]
  by_cases c : i.toNat ≤ l.length
  · rw [Nat.min_eq_left c, List.take_eq_take_iff, List.length_drop]; omega
  · rw [List.drop_of_length_le (by omega : l.length ≤ min i.toNat l.length), List.drop_of_length_le (by omega : l.length ≤ i.toNat)]
    simp
theorem sIx_neg1 (n d : Nat) : HT.sIx n d (some (-1)) = n - 1 := by
  have h := HT.clip_eq (-1) n d
  rw [if_pos (by decide)] at h
  omega
theorem cut_but {α : Type} (l : List α) : (l.drop (HT.sIx l.length 0 none)).take (HT.sIx l.length l.length (some (-1)) - HT.sIx l.length 0 none) = l.dropLast := by
  rw [HT.sIx_none, sIx_neg1, List.drop_zero, Nat.sub_zero, List.dropLast_eq_take]
/-- without its first and last -/
def inL {α : Type} (l : List α) : List α := l.tail.dropLast
theorem cut_in {α : Type} (l : List α) : (l.drop (HT.sIx l.length 0 (some 1))).take (HT.sIx l.length l.length (some (-1)) - HT.sIx l.length 0 (some 1)) = inL l := by
  rw [sIx_neg1, sIx_pos _ _ _ (by decide)]
  unfold inL
  rw [List.dropLast_eq_take, List.length_tail]
  cases l with
  | nil => rfl
  | cons x r =>
    have e : min (1 : Int).toNat (x :: r).length = 1 := by
      show min 1 (r.length + 1) = 1
      omega
    rw [e]
    rfl
section
variable {σ : L2.St} {H : Hp} {te ti tj : TE} {l : Tx} {i j : Int}
theorem e_slTo (h : Ev te σ H (tS l)) (h1 : Ev ti σ H (.int i)) (h0 : 0 ≤ i) (hl : l.length ≤ 1000000) : Ev (tSl rSlS te tNoPart (tPart ti)) σ H (tS (l.take i.toNat)) := by
  have z := e_sl h eo_none (eo_some h1) hl
  rwa [cut_to l h0] at z
theorem e_slFrom (h : Ev te σ H (tS l)) (h1 : Ev ti σ H (.int i)) (h0 : 0 ≤ i) (hl : l.length ≤ 1000000) : Ev (tSl rSlS te (tPart ti) tNoPart) σ H (tS (l.drop i.toNat)) := by
  have z := e_sl h (eo_some h1) eo_none hl
  rwa [cut_from l h0] at z
theorem e_slMid (h : Ev te σ H (tS l)) (h1 : Ev ti σ H (.int i)) (h2 : Ev tj σ H (.int j)) (h0 : 0 ≤ i) (h3 : 0 ≤ j) (hl : l.length ≤ 1000000) : Ev (tSl rSlS te (tPart ti) (tPart tj)) σ H (tS ((l.drop i.toNat).take (j.toNat - i.toNat))) := by
  have z := e_sl h (eo_some h1) (eo_some h2) hl
  rwa [cut_mid l h0 h3] at z
theorem e_slBut (h : Ev te σ H (tS l)) (hl : l.length ≤ 1000000) : Ev (tSl rSlS te tNoPart (tPart (tNegI (tC (.int 1))))) σ H (tS l.dropLast) := by
  have z := e_sl h eo_none (eo_some (e_negI (ev_c (v := .int 1)))) hl
  rwa [cut_but l] at z
theorem e_slIn (h : Ev te σ H (tS l)) (hl : l.length ≤ 1000000) : Ev (tSl rSlS te (tPart (tC (.int 1))) (tPart (tNegI (tC (.int 1))))) σ H (tS (inL l)) := by
  have z := e_sl h (eo_some (ev_c (v := .int 1))) (eo_some (e_negI (ev_c (v := .int 1)))) hl
  rwa [cut_in l] at z
end

/-! ### what is known of the error classes -/
structure XC (A : Ad) (D : Addr) (b0 b1 b2 b3 b4 b5 b6 : Bool) : Prop where
  ex : ExcC A.K D
  exm : PySem.W.exmOne A.K (.ref D) (.ref A.cME) = some true
  ve : PySem.W.kitOne A.K (.ref D) (.type "ValueError") = some true
  kBT : PySem.W.kitOne A.K (.ref D) (.ref A.cBT) = some b0
  kBL : PySem.W.kitOne A.K (.ref D) (.ref A.cBL) = some b1
  kBW : PySem.W.kitOne A.K (.ref D) (.ref A.cBW) = some b2
  kBA : PySem.W.kitOne A.K (.ref D) (.ref A.cBA) = some b3
  kNT : PySem.W.kitOne A.K (.ref D) (.ref A.cNT) = some b4
  kNP : PySem.W.kitOne A.K (.ref D) (.ref A.cNP) = some b5
  kFu : PySem.W.kitOne A.K (.ref D) (.ref A.cFu) = some b6
/-- the call lets out an error of the class at C -/
def SpX (sp : Sp) (vs : List V) (H : Hp) (C : Addr) : Prop := ∀ H1, Ex H H1 → ∀ (Q : VK) (E : XK), (∀ H2, Ex H1 H2 → E (.ref C) none H2) → sp vs H1 Q E
section
variable {K : PySem.W.Frag} {σ : L2.St} {H H0 : Hp} {S : List Addr} {L : List (Addr × HO)} {ta : TA} {D : Ends} {tz : TS} {C ME : Addr} {sp : Sp} {vs : List V}
theorem spx_VX {R : List V → Hp → V → Prop} {B : List V → Hp → Addr → Prop} (h : ∀ H1, Ex H H1 → B vs H1 C) : SpX (spVX R B) vs H C := fun H1 e Q E q => .inr ⟨C, h H1 e, q⟩
theorem spx_LX {R : List V → Hp → List V → Prop} {B : List V → Hp → Addr → Prop} (h : ∀ H1, Ex H H1 → B vs H1 C) : SpX (spLX R B) vs H C := fun H1 e Q E q => .inr ⟨C, h H1 e, q⟩
theorem aq_tryK {i j : Nat} (am : Am S H0 L H) (h : EvA ta σ H vs) (hs : SpX sp vs H C) (xm : PySem.W.exmOne K (.ref C) (.ref ME) = some true)
    (k : ∀ a H, Am S H0 ((a, ExK C a) :: L) H → tz D ((σ.set j (some (.ref a))).set i none) H) : tSeq (tTryK K ME i j fun W => tDrop (tCallS sp (WE W) ta)) tz D σ H :=
  h H (Ex.refl H) _ fun H1 e1 => hs H1 e1 _ _ fun H2 e2 => ⟨C, rfl, rfl, xm, fun a ha => k a _ ((am.ex (e1.trans e2)).new1 ha)⟩
/-- .. that lets out nothing, and hands back one value -/
theorem aq_tryN {i j : Nat} {z : V} (am : Am S H0 L H) (h : EvA ta σ H vs) (hs : SpV sp vs H z) (k : ∀ H, Am S H0 L H → tz D σ H) : tSeq (tTryK K ME i j fun W => tDrop (tCallS sp (WE W) ta)) tz D σ H :=
  h H (Ex.refl H) _ fun H1 e1 => hs H1 e1 _ (fun H2 e2 => k H2 (am.ex (e1.trans e2))) _
end

/-! ### == of lists -/
section
variable {K : PySem.W.Frag} {σ : L2.St} {H H0 : Hp} {S : List Addr} {L : List (Addr × HO)} {ta tb te : TE} {D : Ends} {tz : TS} {p q : Addr}
def dI (ns : List Int) : PyData := .list (ns.map .int)
def dTs (ls : List Tx) : PyData := .list (ls.map fun l => .str (T l))
theorem dpAll_ints : ∀ ns : List Int, DpAll K H (ns.map V.int) (ns.map PyData.int)
  | [] => .nil
  | n :: r => .cons (.int n) (dpAll_ints r)
theorem dpAll_texts : ∀ ls : List Tx, DpAll K H (ls.map tS) (ls.map fun l => PyData.str (T l))
  | [] => .nil
  | l :: r => .cons (.str (T l)) (dpAll_texts r)
theorem dp_ints {ns : List Int} (h : SqL K H p (ns.map V.int)) : Dp K H (.ref p) (dI ns) := .lst h (dpAll_ints ns)
theorem dp_texts {ls : List Tx} (h : SqL K H p (ls.map tS)) : Dp K H (.ref p) (dTs ls) := .lst h (dpAll_texts ls)
theorem layAll_ints : ∀ ns : List Int, PyData.canLayAll0 (ns.map PyData.int) = true
  | [] => by simp [PyData.canLayAll0]
  | n :: r => by simp [PyData.canLayAll0, PyData.canLay0, layAll_ints r]
theorem depth_ints : ∀ ns : List Int, PyData.depthAll (ns.map PyData.int) = 0
  | [] => by simp [PyData.depthAll]
  | n :: r => by simp [PyData.depthAll, PyData.depth, depth_ints r]
theorem shaped_ints (ns : List Int) : SeqAt.shaped (dI ns) = true := by
  unfold SeqAt.shaped dI
  rw [PyData.canLay0, layAll_ints, PyData.depth, depth_ints]; rfl
theorem eqvAll_ints : ∀ a b : List Int, PyData.eqvAll (a.map PyData.int) (b.map PyData.int) = decide (a = b)
  | [], [] => by simp [PyData.eqvAll]
  | [], y :: b => by simp [PyData.eqvAll]
  | x :: a, [] => by simp [PyData.eqvAll]
  | x :: a, y :: b => by
    rw [List.map_cons, List.map_cons, PyData.eqvAll, eqvAll_ints a b, PyData.eqv]
    by_cases h1 : x = y
    · by_cases h2 : a = b <;> simp [h1, h2]
    · simp [h1]
theorem eqv_ints (a b : List Int) : PyData.eqv (dI a) (dI b) = decide (a = b) := by
  unfold dI; rw [PyData.eqv, eqvAll_ints]
def okT (l : Tx) : Bool := PyData.strOk (T l)
theorem layAll_texts : ∀ ls : List Tx, (∀ l ∈ ls, okT l = true) → PyData.canLayAll0 (ls.map fun l => PyData.str (T l)) = true
  | [], _ => by simp [PyData.canLayAll0]
  | l :: r, h => by
    have h1 : PyData.strOk (T l) = true := h l (List.mem_cons_self ..)
    simp only [List.map_cons, PyData.canLayAll0, PyData.canLay0, h1, layAll_texts r fun x hx => h x (List.mem_cons_of_mem _ hx), Bool.and_self]
theorem depth_texts : ∀ ls : List Tx, PyData.depthAll (ls.map fun l => PyData.str (T l)) = 0
  | [] => by simp [PyData.depthAll]
  | l :: r => by simp [PyData.depthAll, PyData.depth, depth_texts r]
theorem shaped_texts {ls : List Tx} (h : ∀ l ∈ ls, okT l = true) : SeqAt.shaped (dTs ls) = true := by
  unfold SeqAt.shaped dTs
  rw [PyData.canLay0, layAll_texts ls h, PyData.depth, depth_texts]; rfl
theorem eqvAll_texts : ∀ a b : List Tx, PyData.eqvAll (a.map fun l => PyData.str (T l)) (b.map fun l => PyData.str (T l)) = decide (a = b)
  | [], [] => by simp [PyData.eqvAll]
  | [], y :: b => by simp [PyData.eqvAll]
  | x :: a, [] => by simp [PyData.eqvAll]
  | x :: a, y :: b => by
    rw [List.map_cons, List.map_cons, PyData.eqvAll, eqvAll_texts a b, PyData.eqv]
    by_cases h1 : x = y
    · by_cases h2 : a = b <;> simp [h1, h2]
    · have h3 : ¬ T x = T y := fun z => h1 (T_inj z)
      simp [h1, h3]
theorem eqv_texts (a b : List Tx) : PyData.eqv (dTs a) (dTs b) = decide (a = b) := by
  unfold dTs; rw [PyData.eqv, eqvAll_texts]
theorem dp_ex {H1 : Hp} (e : Ex H H1) : ∀ {v : V} {d : PyData}, Dp K H v d → Dp K H1 v d := fun {v d} h => by
  refine Dp.rec (motive_1 := fun v d _ => Dp K H1 v d) (motive_2 := fun vs ds _ => DpAll K H1 vs ds) .non (fun b => .bl b) (fun i => .int i) (fun x => .str x) (fun s _ ih => .lst (ex_l e s) ih) (fun s _ ih => .tup (ex_t e s) ih) .nil (fun _ _ a b => .cons a b) h
theorem rv_eqD {x y : V} {d e : PyData} {b : Bool} (h1 : Dp K H x d) (h2 : Dp K H y e) (s1 : SeqAt.shaped d = true) (s2 : SeqAt.shaped e = true) (hb : PyData.eqv d e = b) : RV (rEqD K) x y H (.bl b) := fun H1 ex _ q =>
  ⟨d, e, dp_ex ex h1, dp_ex ex h2, s1, s2, by rw [hb]; exact q H1 (Ex.refl H1)⟩
theorem rv_neD {x y : V} {d e : PyData} {b : Bool} (h1 : Dp K H x d) (h2 : Dp K H y e) (s1 : SeqAt.shaped d = true) (s2 : SeqAt.shaped e = true) (hb : PyData.eqv d e = b) : RV (rNeD K) x y H (.bl (!b)) := fun H1 ex _ q =>
  ⟨d, e, dp_ex ex h1, dp_ex ex h2, s1, s2, by rw [hb]; exact q H1 (Ex.refl H1)⟩
theorem rv_eqI {a b : List Int} (h1 : SqL K H p (a.map V.int)) (h2 : SqL K H q (b.map V.int)) : RV (rEqD K) (.ref p) (.ref q) H (.bl (decide (a = b))) := rv_eqD (dp_ints h1) (dp_ints h2) (shaped_ints a) (shaped_ints b) (eqv_ints a b)
theorem rv_neI {a b : List Int} (h1 : SqL K H p (a.map V.int)) (h2 : SqL K H q (b.map V.int)) : RV (rNeD K) (.ref p) (.ref q) H (.bl (!decide (a = b))) := rv_neD (dp_ints h1) (dp_ints h2) (shaped_ints a) (shaped_ints b) (eqv_ints a b)
theorem rv_eqTs {a b : List Tx} (h1 : SqL K H p (a.map tS)) (h2 : SqL K H q (b.map tS)) (o1 : ∀ l ∈ a, okT l = true) (o2 : ∀ l ∈ b, okT l = true) : RV (rEqD K) (.ref p) (.ref q) H (.bl (decide (a = b))) := rv_eqD (dp_texts h1) (dp_texts h2) (shaped_texts o1) (shaped_texts o2) (eqv_texts a b)
theorem rv_neTs {a b : List Tx} (h1 : SqL K H p (a.map tS)) (h2 : SqL K H q (b.map tS)) (o1 : ∀ l ∈ a, okT l = true) (o2 : ∀ l ∈ b, okT l = true) : RV (rNeD K) (.ref p) (.ref q) H (.bl (!decide (a = b))) := rv_neD (dp_texts h1) (dp_texts h2) (shaped_texts o1) (shaped_texts o2) (eqv_texts a b)

/-! ### displays of things of many kinds: each item bears p -/
def EvQ (te : TE) (σ : L2.St) (H : Hp) (P : V → Hp → Prop) : Prop := ∀ H1, Ex H H1 → ∀ Q : VK, (∀ v H2, Ex H1 H2 → P v H2 → Q v H2) → te σ H1 Q
def EvQA (ta : TA) (σ : L2.St) (H : Hp) (n : Nat) (P : V → Hp → Prop) : Prop := ∀ H1, Ex H H1 → ∀ Q : List V → Hp → Prop, (∀ vs H2, Ex H1 H2 → vs.length = n → (∀ v ∈ vs, P v H2) → Q vs H2) → ta σ H1 Q
variable {P : V → Hp → Prop}
theorem EvQ.mono {H' : Hp} (e : Ex H H') (h : EvQ te σ H P) : EvQ te σ H' P := fun H1 a Q q => h H1 (e.trans a) Q q
theorem eq_ev {v : V} (h : Ev te σ H v) (hp : ∀ H1, Ex H H1 → P v H1) : EvQ te σ H P := fun H1 e Q q => h H1 e Q fun H2 e2 => q v H2 e2 (hp H2 (e.trans e2))
theorem eq_evL {xs : List V} (h : EvL te σ H xs) (hp : ∀ p H1, Ex H H1 → H1 p = some (.lst xs) → P (.ref p) H1) : EvQ te σ H P := fun H1 e Q q => h H1 e Q fun p H2 _ e2 h2 => q _ H2 e2 (hp p H2 (e.trans e2) h2)
theorem eq_evU {xs : List V} (h : EvU te σ H xs) (hp : ∀ p H1, Ex H H1 → H1 p = some (.tup xs) → P (.ref p) H1) : EvQ te σ H P := fun H1 e Q q => h H1 e Q fun p H2 _ e2 h2 => q _ H2 e2 (hp p H2 (e.trans e2) h2)
theorem eq_dnew (hp : ∀ p H1, H1 p = some (.dK []) → P (.ref p) H1) : EvQ tDNewK σ H P := fun H1 _ Q q => fun p h => q _ _ (Ex.new h) (hp p _ upd_same)
theorem eqa_nil : EvQA tNil σ H 0 P := fun H1 _ Q q => q [] H1 (Ex.refl H1) rfl fun v h => by cases h
theorem eqa_cons {tr : TA} {n : Nat} (hm : ∀ v H H', Ex H H' → P v H → P v H') (h : EvQ te σ H P) (hr : EvQA tr σ H n P) : EvQA (tCons te tr) σ H (n + 1) P := fun H1 e Q q =>
  h H1 e _ fun v H2 e2 pv => hr H2 (e.trans e2) _ fun vs H3 e3 hl pa => q _ H3 (e2.trans e3) (by rw [List.length_cons, hl]) fun w hw => by
    rcases List.mem_cons.mp hw with rfl | hw
    · exact hm _ _ _ e3 pv
    · exact pa w hw
theorem aq_asgQ {i n : Nat} {ta : TA} (am : Am S H0 L H) (hm : ∀ v H H', Ex H H' → P v H → P v H') (h : EvQA ta σ H n P) (hn : n ≤ 1000) (k : ∀ p xs H, Am S H0 ((p, .lst xs) :: L) H → xs.length = n → (∀ v ∈ xs, P v H) → tz D (σ.set i (some (.ref p))) H) :
    tSeq (tAsg (tLst ta) (gName i)) tz D σ H := h H (Ex.refl H) _ fun xs H1 e hl pa => ⟨sz6 (by omega), fun p hp => k p xs _ ((am.ex e).new1 hp) hl fun v hv => hm v _ _ (Ex.new hp) (pa v hv)⟩
end

/-! ### isinstance of an own error class, from what the top has left -/
section
variable {K : PySem.W.Frag} {C D : Addr}
theorem kit_self : PySem.W.kitOne K (.ref D) (.ref D) = some true := by
  unfold PySem.W.kitOne
  rw [if_pos (beq_self_eq_true _)]
theorem kit_cls (h1 : PySem.W.isClsIn K C = true) (h2 : PySem.W.typeIn K (.ref C) = some (.type "type")) (h3 : PySem.W.subIn K (.ref D) (.ref C) = some false) (h4 : (Value.ref D == Value.ref C) = false) : PySem.W.kitOne K (.ref D) (.ref C) = some false := by
  have e : ((PySem.W.clsIn K C).isSome && PySem.W.typeIn K (.ref C) == some (.type "type")) = true := by
    have h1' : (PySem.W.clsIn K C).isSome = true := h1
    rw [h1', h2]; rfl
  unfold PySem.W.kitOne
  rw [h4, if_neg Bool.false_ne_true]
  show (if ((PySem.W.clsIn K C).isSome && PySem.W.typeIn K (.ref C) == some (.type "type")) = true then PySem.W.subIn K (.ref D) (.ref C) else none) = some false
  rw [if_pos e, h3]
theorem kit_ve (h : PySem.W.subIn K (.ref D) (.type "ValueError") = some true) : PySem.W.kitOne K (.ref D) (.type "ValueError") = some true := by
  have e : (Value.ref D == Value.type "ValueError") = false := by rfl
  unfold PySem.W.kitOne
  rw [e, if_neg Bool.false_ne_true]
  show (if PySem.W.kitMeta "ValueError" = true then PySem.W.subIn K (.ref D) (.type "ValueError") else none) = some true
  rw [if_pos (by decide +kernel), h]
end

/-! ### more of lists, tries, ranges -/
section
variable {K : PySem.W.Frag} {σ : L2.St} {H H0 : Hp} {S : List Addr} {L : List (Addr × HO)} {ta tb te : TE} {D : Ends} {tz : TS} {C ME : Addr}
/-- xs + ys, both new -/
theorem el_cat {xs ys : List V} (ha : EvL ta σ H xs) (hb : EvL tb σ H ys) (hz : xs.length + ys.length ≤ 1000000) : EvL (tOp rCat ta tb) σ H (xs ++ ys) := fun H1 e Q q =>
  ha H1 e _ fun p H2 hp e2 h2 => hb H2 (e.trans e2) _ fun r H3 hr e3 h3 => ⟨p, r, xs, ys, rfl, rfl, e3 p _ h2, h3, sz6 hz, fun l hl => q l _ (fresh_back (e2.trans e3) hl) ((e2.trans e3).trans (Ex.new hl)) upd_same⟩
/-- xs + ys, the first one there -/
theorem el_catV {xs ys : List V} {p : Addr} (ha : Ev ta σ H (.ref p)) (h : H p = some (.lst xs)) (hb : EvL tb σ H ys) (hz : xs.length + ys.length ≤ 1000000) : EvL (tOp rCat ta tb) σ H (xs ++ ys) := fun H1 e Q q =>
  ha H1 e _ fun H2 e2 => hb H2 (e.trans e2) _ fun r H3 hr e3 h3 => ⟨p, r, xs, ys, rfl, rfl, ((e.trans e2).trans e3) p _ h, h3, sz6 hz, fun l hl => q l _ (fresh_back (e2.trans e3) hl) ((e2.trans e3).trans (Ex.new hl)) upd_same⟩
/-- a slice of a new list -/
theorem el_slN {xs : List V} {tl th : TO} {lo hi : Option Int} (h : EvL te σ H xs) (h1 : EvO tl σ H lo) (h2 : EvO th σ H hi) : EvL (tSl (rSlL K) te tl th) σ H (cutV xs lo hi) := fun H1 e Q q =>
  h H1 e _ fun p H2 hp e2 h3 => h1 H2 (e.trans e2) _ fun H3 e3 => h2 H3 ((e.trans e2).trans e3) _ fun H4 e4 =>
    ⟨p, xs, rfl, sq_of ((e3.trans e4) p _ h3), fun l hl => q l _ (fresh_back ((e2.trans e3).trans e4) hl) (((e2.trans e3).trans e4).trans (Ex.new hl)) upd_same⟩
/-- an item of a new list -/
theorem e_ixN {xs : List V} {i : Int} {v : V} (h : EvL ta σ H xs) (hi : Ev tb σ H (.int i)) (ha : atI xs i = some v) : Ev (tOp (rIxL K) ta tb) σ H v :=
  ev_opL1 h (fun _ e => hi.mono e) fun _ _ h1 _ => rv_ixL (sq_of h1) ha
/-- a try whose body lets out an error of the class at C, the slots as they were -/
theorem aq_tryB {i j : Nat} {tb : WX → TS} (am : Am S H0 L H) (xm : PySem.W.exmOne K (.ref C) (.ref ME) = some true) (hb : ∀ (W : WX) (D : Ends), (∀ H1, Ex H H1 → W (.ref C) none σ H1) → tb W D σ H)
    (k : ∀ a H, Am S H0 ((a, ExK C a) :: L) H → tz D ((σ.set j (some (.ref a))).set i none) H) : tSeq (tTryK K ME i j tb) tz D σ H :=
  hb _ _ fun H1 e1 => ⟨C, rfl, rfl, xm, fun a ha => k a _ ((am.ex e1).new1 ha)⟩
theorem x_drop {W : WX} {sp : Sp} {ta : TA} {vs : List V} (h : EvA ta σ H vs) (hs : SpX sp vs H C) (hw : ∀ H1, Ex H H1 → W (.ref C) none σ H1) : tDrop (tCallS sp (WE W) ta) D σ H :=
  h H (Ex.refl H) _ fun H1 e1 => hs H1 e1 _ _ fun H2 e2 => hw H2 (e1.trans e2)
theorem wk_range3 {ta : TA} {lo n : Int} {c : Nat} (h : EvA ta σ H [.int lo, .int n, .int c]) (hc : 1 ≤ c) (hc2 : c ≤ 1000) (hn : -1000000 ≤ lo ∧ lo ≤ 1000000 ∧ -1000000 ≤ n ∧ n ≤ 1000000) :
    Wk (iRng3 ta) σ H (fun _ => True) ((List.range (Builtin.Range.rangeSize lo n c).toNat).map fun i => .int (lo + (i : Nat) * (c : Int))) := fun H1 e R q =>
  h H1 e _ fun H2 e2 => by
    have hs : 0 ≤ Builtin.Range.rangeSize lo n c := by
      unfold Builtin.Range.rangeSize
      rw [if_pos (by omega)]
      split
      · have := Int.ediv_nonneg (a := n - lo - 1) (b := (c : Int)) (by omega) (by omega)
        omega
      · exact Int.le_refl 0
    have hs2 : Builtin.Range.rangeSize lo n c ≤ 3000000 := by
      unfold Builtin.Range.rangeSize
      rw [if_pos (by omega)]
      split
      · have := Int.ediv_le_self (a := n - lo - 1) (c : Int) (by omega)
        omega
      · decide
    refine ⟨lo, n, c, (Builtin.Range.rangeSize lo n c).toNat, rfl, ⟨by omega, by omega, ?_, by omega⟩, q _ H2 e2 sq_rangeC⟩
    have fl : ∀ x : Int, -100000000 ≤ x → x ≤ 100000000 → Builtin.Range.rangeFitsLong x = true := fun x h1 h2 => by
      unfold Builtin.Range.rangeFitsLong
      rw [Bool.and_eq_true]
      exact ⟨decide_eq_true (by omega), decide_eq_true (by omega)⟩
    unfold Builtin.Range.small
    rw [if_pos (by omega), fl _ (by omega) (by omega), fl _ (by omega) (by omega), fl _ (by omega) (by omega), fl _ (by omega) (by omega), fl _ (by omega) (by omega)]
    simp
def dB (bs : List Bool) : PyData := .list (bs.map .bool)
theorem dpAll_bools : ∀ bs : List Bool, DpAll K H (bs.map V.bl) (bs.map PyData.bool)
  | [] => .nil
  | b :: r => .cons (.bl b) (dpAll_bools r)
theorem layAll_bools : ∀ bs : List Bool, PyData.canLayAll0 (bs.map PyData.bool) = true
  | [] => by simp [PyData.canLayAll0]
  | b :: r => by simp [PyData.canLayAll0, PyData.canLay0, layAll_bools r]
theorem depth_bools : ∀ bs : List Bool, PyData.depthAll (bs.map PyData.bool) = 0
  | [] => by simp [PyData.depthAll]
  | b :: r => by simp [PyData.depthAll, PyData.depth, depth_bools r]
theorem shaped_bools (bs : List Bool) : SeqAt.shaped (dB bs) = true := by
  unfold SeqAt.shaped dB
  rw [PyData.canLay0, layAll_bools, PyData.depth, depth_bools]; rfl
theorem eqvAll_bools : ∀ a b : List Bool, PyData.eqvAll (a.map PyData.bool) (b.map PyData.bool) = decide (a = b)
  | [], [] => by simp [PyData.eqvAll]
  | [], y :: b => by simp [PyData.eqvAll]
  | x :: a, [] => by simp [PyData.eqvAll]
  | x :: a, y :: b => by
    rw [List.map_cons, List.map_cons, PyData.eqvAll, eqvAll_bools a b, PyData.eqv]
    by_cases h1 : x = y
    · by_cases h2 : a = b <;> simp [h1, h2]
    · simp [h1]
theorem rv_eqBs {p q : Addr} {a b : List Bool} (h1 : SqL K H p (a.map V.bl)) (h2 : SqL K H q (b.map V.bl)) : RV (rEqD K) (.ref p) (.ref q) H (.bl (decide (a = b))) :=
  rv_eqD (.lst h1 (dpAll_bools a)) (.lst h2 (dpAll_bools b)) (shaped_bools a) (shaped_bools b) (show PyData.eqv (dB a) (dB b) = decide (a = b) by unfold dB; rw [PyData.eqv, eqvAll_bools])
end
end Mw
/-! lists of lists, enumerate, walks downwards, min, max, sorted -/
namespace Mw
open PySem PySem.Spec PyProof.Rows L2 Evl

section
variable {K : PySem.W.Frag} {S : List Addr} {H0 H H1 : Hp} {L L' : List (Addr × HO)} {σ : L2.St} {ta : TA} {te tl : TE} {D : Ends} {tu tz : TS}
theorem Am.perm (am : Am S H0 L H) (h : L'.Perm L) : Am S H0 L' H :=
  ⟨am.old, fun p hp => am.own p (h.mem_iff.mp hp), fun p hp => am.new p (h.mem_iff.mp hp), (h.map _).nodup_iff.mpr am.nd⟩
theorem Am.drop1 {p : Addr × HO} (am : Am S H0 (p :: L) H) : Am S H0 L H := am.sub (List.sublist_cons_self _ _)
/-- a new list that meets P -/
def EvLP (te : TE) (σ : L2.St) (H : Hp) (P : List V → Prop) : Prop := ∀ H1, Ex H H1 → ∀ Q : VK, (∀ p xs H2, P xs → H1 p = none → Ex H1 H2 → H2 p = some (.lst xs) → Q (.ref p) H2) → te σ H1 Q
theorem EvL.toP {xs : List V} {P : List V → Prop} (h : EvL te σ H xs) (hp : P xs) : EvLP te σ H P := fun H1 e Q q => h H1 e Q fun p H2 a b c => q p xs H2 hp a b c
theorem EvLP.mono {P : List V → Prop} (e : Ex H H1) (h : EvLP te σ H P) : EvLP te σ H1 P := fun H2 e2 Q q => h H2 (e.trans e2) Q q
/-- the ledger's part of a list of lists -/
def ledE (ents : List (Addr × List V)) : List (Addr × HO) := ents.map fun e => (e.1, HO.lst e.2)
def refE (ents : List (Addr × List V)) : List V := ents.map fun e => V.ref e.1
theorem ledE_set (ents : List (Addr × List V)) (i : Nat) (r : Addr) (xs : List V) : ledE (ents.set i (r, xs)) = (ledE ents).set i (r, .lst xs) := List.map_set
theorem refE_set {ents : List (Addr × List V)} {i : Nat} {r : Addr} {xs ys : List V} (h : ents[i]? = some (r, ys)) : refE (ents.set i (r, xs)) = refE ents := by
  unfold refE
  rw [List.map_set]
  apply List.ext_getElem?
  intro j
  by_cases e : i = j
  · subst e
    have hi := (List.getElem?_eq_some_iff.mp h).1
    rw [List.getElem?_set_self (by simpa using hi), List.getElem?_map, h]; rfl
  · rw [List.getElem?_set_ne e]
/-- a comprehension of new lists -/
theorem lc_lists {α : Type} {wi : TI} {P : Hp → Prop} {f : α → V} {ns : List α} {j : Nat} {vs : List Nat} (Pg : α → List V → Prop) (am : Am S H0 L H) (hw : Wk wi σ H P (ns.map f)) (hm : ∀ H H', Ex H H' → P H → P H') (hp : P H) (hz : ns.length ≤ 100000)
    (hv : ∀ x, wipe ((wipe σ vs).set j (some x)) vs = wipe σ vs) (he : ∀ n ∈ ns, EvLP te ((wipe σ vs).set j (some (f n))) H (Pg n)) {Q : VK}
    (k : ∀ p ents H2, Paired (fun n e => Pg n e.2) ns ents → Am S H0 ((p, .lst (refE ents)) :: (ledE ents ++ L)) H2 → Ex H H2 → Q (.ref p) H2) : tLc wi (gName j) tYes te vs σ H Q := by
  refine hw H (Ex.refl H) _ fun J H2 e2 sq => fun Dl hD => ?_
  refine ⟨fun i m H' => i + m = ns.length ∧ Ex H2 H' ∧ ∃ ents, Paired (fun n (e : Addr × List V) => Pg n e.2) (ns.take i) ents ∧ Am S H0 ((Dl, .lst (refE ents)) :: (ledE ents ++ L)) H',
    ⟨ns.length, by omega, Ex.new hD, [], .nil, (am.ex e2).new1 hD⟩, ?_⟩
  rintro i m H' ⟨im, e3, ents, pr, am⟩
  obtain ⟨q1, q2⟩ := sq H' (hm _ _ (e2.trans e3) hp)
  have hlen : ents.length = (ns.take i).length := (Paired.length pr).symm
  by_cases hi : i < ns.length
  · have g : (ns.map f)[i]? = some (f ns[i]) := by rw [List.getElem?_map, List.getElem?_eq_getElem hi]; rfl
    have hmem : ns[i] ∈ ns := List.getElem_mem hi
    have ht2 : ns.take (i + 1) = ns.take i ++ [ns[i]] := by rw [List.take_succ_eq_append_getElem hi]
    obtain ⟨g1, g2⟩ := q1 i _ g
    refine .inr ⟨g1, fun H'' => Ex H2 H'' ∧ ∃ ents, Paired (fun n (e : Addr × List V) => Pg n e.2) (ns.take (i + 1)) ents ∧ Am S H0 ((Dl, .lst (refE ents)) :: (ledE ents ++ L)) H'', fun H'' hN => ⟨m - 1, by omega, by omega, hN.1, hN.2⟩, fun y H'' hy => ?_⟩
    obtain ⟨e4, e5⟩ := g2 y H'' hy
    subst e4 e5
    refine ⟨hv _, ?_⟩
    show te ((wipe σ vs).set j (some (f ns[i]))) H'' _
    refine he _ hmem H'' (e2.trans e3) _ fun r xs H6 px hr e7 h6 => ?_
    have am6 := am.add hr e7 h6
    have am7 := am6.set (o' := .lst (refE ents ++ [.ref r])) 1 rfl
    refine ⟨_, am6.at 1 rfl, ?_, Ex.mut (e3.trans e7) hD, ents ++ [(r, xs)], ?_, am7.perm ?_⟩
    · refine szL6 ?_
      unfold refE
      rw [List.length_map, hlen, List.length_take]
      omega
    · rw [ht2]
      exact pr.snoc px
    · show List.Perm ((Dl, HO.lst (refE (ents ++ [(r, xs)]))) :: (ledE (ents ++ [(r, xs)]) ++ L)) ((r, HO.lst xs) :: (Dl, HO.lst (refE ents ++ [V.ref r])) :: (ledE ents ++ L))
      have e1 : refE (ents ++ [(r, xs)]) = refE ents ++ [V.ref r] := by unfold refE; rw [List.map_append]; rfl
      have e2 : ledE (ents ++ [(r, xs)]) = ledE ents ++ [(r, HO.lst xs)] := by unfold ledE; rw [List.map_append]; rfl
      rw [e1, e2, List.append_assoc]
      refine List.Perm.trans (List.Perm.cons _ ?_) (List.Perm.swap ..)
      exact List.perm_middle
  · have ei : i = ns.length := by omega
    subst ei
    rw [List.take_length] at pr
    rw [List.length_map] at q2
    exact .inl ⟨q2, k Dl ents H' pr am (e2.trans e3)⟩
theorem aq_asgLL {α : Type} {wi : TI} {P : Hp → Prop} {f : α → V} {ns : List α} {i j : Nat} {vs : List Nat} (Pg : α → List V → Prop) (am : Am S H0 L H) (hw : Wk wi σ H P (ns.map f)) (hm : ∀ H H', Ex H H' → P H → P H') (hp : P H) (hz : ns.length ≤ 100000)
    (hv : ∀ x, wipe ((wipe σ vs).set j (some x)) vs = wipe σ vs) (he : ∀ n ∈ ns, EvLP te ((wipe σ vs).set j (some (f n))) H (Pg n))
    (k : ∀ p ents H2, Paired (fun n e => Pg n e.2) ns ents → Am S H0 ((p, .lst (refE ents)) :: (ledE ents ++ L)) H2 → tz D (σ.set i (some (.ref p))) H2) : tSeq (tAsg (tLc wi (gName j) tYes te vs) (gName i)) tz D σ H :=
  lc_lists Pg am hw hm hp hz hv he (Q := fun x H1 => tz D (σ.set i (some x)) H1) fun p ents H2 h1 h2 _ => k p ents H2 h1 h2
theorem a_retLL {α : Type} {wi : TI} {P : Hp → Prop} {f : α → V} {ns : List α} {j : Nat} {vs : List Nat} (Pg : α → List V → Prop) (am : Am S H0 L H) (hw : Wk wi σ H P (ns.map f)) (hm : ∀ H H', Ex H H' → P H → P H') (hp : P H) (hz : ns.length ≤ 100000)
    (hv : ∀ x, wipe ((wipe σ vs).set j (some x)) vs = wipe σ vs) (he : ∀ n ∈ ns, EvLP te ((wipe σ vs).set j (some (f n))) H (Pg n))
    (k : ∀ p ents H2, Paired (fun n e => Pg n e.2) ns ents → Am S H0 ((p, .lst (refE ents)) :: (ledE ents ++ L)) H2 → D.rt (.ref p) H2) : tRet (tLc wi (gName j) tYes te vs) D σ H :=
  lc_lists Pg am hw hm hp hz hv he (Q := fun x H1 => D.rt x H1) fun p ents H2 h1 h2 _ => k p ents H2 h1 h2
theorem paired_at {α β : Type} {F : α → β → Prop} : ∀ {xs : List α} {ys : List β} {i : Nat} {x : α}, Paired F xs ys → xs[i]? = some x → ∃ y, ys[i]? = some y ∧ F x y
  | _, _, _, _, .nil, h => by cases h
  | _, _, 0, _, .cons (b := b) f _, h => ⟨b, rfl, by rw [← Option.some.inj h]; exact f⟩
  | _, _, i + 1, _, .cons _ r, h => paired_at (i := i) r h
/-- enumerate of a list -/
theorem a_forE {α : Type} {f : α → V} {ns : List α} {i j : Nat} {a : Addr} (Iv : List α → L2.St → Hp → Prop) (am : Am S H0 L H) (h : EvA ta σ H [.ref a]) (hq : SqL K H a (ns.map f)) (h0 : ∀ H, Am S H0 L H → Iv [] σ H)
    (hP : ∀ pre σ' H', Iv pre σ' H' → SqL K H' a (ns.map f))
    (hs : ∀ pre n post σ' H' H'', ns = pre ++ n :: post → Iv pre σ' H' → Ex H' H'' → tu { D with nx := Iv (pre ++ [n]), ct := Iv (pre ++ [n]), bk := D.nx } ((σ'.set i (some (.int (pre.length : Nat)))).set j (some (f n))) H'')
    (hd : ∀ σ' H', Iv ns σ' H' → D.nx σ' H') : tFor (iEnum K ta) (gTup K 2 (gCons (gName i) (gCons (gName j) gNil))) tu D σ H := by
  refine h H (Ex.refl H) _ fun H2 e => ⟨a, _, rfl, ex_l e hq, ?_⟩
  refine ⟨fun i m σ' H' => i + m = ns.length ∧ Iv (ns.take i) σ' H', ⟨ns.length, by omega, h0 H2 (am.ex e)⟩, ?_⟩
  rintro i' m σ' H' ⟨im, hI⟩
  have hq' := hP _ _ _ hI
  by_cases hi : i' < ns.length
  · have g : (ns.map f)[i']? = some (f ns[i']) := by rw [List.getElem?_map, List.getElem?_eq_getElem hi]; rfl
    have hsp : ns = ns.take i' ++ ns[i'] :: ns.drop (i' + 1) := by
      rw [← List.drop_eq_getElem_cons hi, List.take_append_drop]
    have ht : ns.take (i' + 1) = ns.take i' ++ [ns[i']] := by rw [List.take_succ_eq_append_getElem hi]
    refine .inr ⟨⟨_, _, hq', g⟩, Iv (ns.take i' ++ [ns[i']]), fun σ2 H2 hN => ⟨m - 1, by omega, by omega, by rw [ht]; exact hN⟩, fun y H'' hy => ?_⟩
    obtain ⟨T, x, rfl, hT, rfl, hx⟩ := hy
    have e1 : f ns[i'] = x := Option.some.inj (g.symm.trans (hx _ hq'))
    subst e1
    have z := hs _ _ _ σ' H' _ hsp hI (Ex.new (o := .tup [.int (i' : Nat), f ns[i']]) hT)
    rw [show (ns.take i').length = i' by rw [List.length_take]; omega] at z
    exact ⟨T, [.int (i' : Nat), f ns[i']], rfl, st_of upd_same, rfl, _, _, rfl, _, _, rfl, rfl, z⟩
  · have ei : i' = ns.length := by omega
    subst ei
    rw [List.take_length] at hI
    exact .inl ⟨⟨_, hq', by rw [List.length_map]; exact Nat.le_refl _⟩, hd σ' H' hI⟩
theorem aq_forE {α : Type} {f : α → V} {ns : List α} {i j : Nat} {a : Addr} (Iv : List α → L2.St → Hp → Prop) (am : Am S H0 L H) (h : EvA ta σ H [.ref a]) (hq : SqL K H a (ns.map f)) (h0 : ∀ H, Am S H0 L H → Iv [] σ H)
    (hP : ∀ pre σ' H', Iv pre σ' H' → SqL K H' a (ns.map f))
    (hs : ∀ pre n post σ' H' H'', ns = pre ++ n :: post → Iv pre σ' H' → Ex H' H'' → tu { D with nx := Iv (pre ++ [n]), ct := Iv (pre ++ [n]), bk := tz D } ((σ'.set i (some (.int (pre.length : Nat)))).set j (some (f n))) H'')
    (hd : ∀ σ' H', Iv ns σ' H' → tz D σ' H') : tSeq (tFor (iEnum K ta) (gTup K 2 (gCons (gName i) (gCons (gName j) gNil))) tu) tz D σ H := a_forE (D := { D with nx := tz D }) Iv am h hq h0 hP hs hd
/-- .. of a new list, which stays at the ledger's head -/
theorem aq_forEN {α : Type} {f : α → V} {ns : List α} {i j : Nat} (Iv : Addr → List α → L2.St → Hp → Prop) (am : Am S H0 L H) (h : EvL te σ H (ns.map f)) (h0 : ∀ p H, Am S H0 ((p, .lst (ns.map f)) :: L) H → Iv p [] σ H)
    (hP : ∀ p pre σ' H', Iv p pre σ' H' → H' p = some (.lst (ns.map f)))
    (hs : ∀ p pre n post σ' H' H'', ns = pre ++ n :: post → Iv p pre σ' H' → Ex H' H'' → tu { D with nx := Iv p (pre ++ [n]), ct := Iv p (pre ++ [n]), bk := tz D } ((σ'.set i (some (.int (pre.length : Nat)))).set j (some (f n))) H'')
    (hd : ∀ p σ' H', Iv p ns σ' H' → tz D σ' H') : tSeq (tFor (iEnum K (tCons te tNil)) (gTup K 2 (gCons (gName i) (gCons (gName j) gNil))) tu) tz D σ H :=
  h H (Ex.refl H) _ fun p H2 hp e2 h2 => by
    have z := aq_forE (σ := σ) (D := D) (i := i) (j := j) (tu := tu) (tz := tz) (ta := tCons (tC (.ref p)) tNil) (f := f) (ns := ns) (Iv p) (am.add hp e2 h2) (ea_cons ev_c ea_nil) (sq_of h2 : SqL K H2 p _) (h0 p) (fun pre σ' H' hi => sq_of (hP _ _ _ _ hi)) (hs p) (hd p)
    exact z
theorem a_forEN {α : Type} {f : α → V} {ns : List α} {i j : Nat} (Iv : Addr → List α → L2.St → Hp → Prop) (am : Am S H0 L H) (h : EvL te σ H (ns.map f)) (h0 : ∀ p H, Am S H0 ((p, .lst (ns.map f)) :: L) H → Iv p [] σ H)
    (hP : ∀ p pre σ' H', Iv p pre σ' H' → H' p = some (.lst (ns.map f)))
    (hs : ∀ p pre n post σ' H' H'', ns = pre ++ n :: post → Iv p pre σ' H' → Ex H' H'' → tu { D with nx := Iv p (pre ++ [n]), ct := Iv p (pre ++ [n]), bk := D.nx } ((σ'.set i (some (.int (pre.length : Nat)))).set j (some (f n))) H'')
    (hd : ∀ p σ' H', Iv p ns σ' H' → D.nx σ' H') : tFor (iEnum K (tCons te tNil)) (gTup K 2 (gCons (gName i) (gCons (gName j) gNil))) tu D σ H :=
  h H (Ex.refl H) _ fun p H2 hp e2 h2 => by
    have z := a_forE (σ := σ) (D := D) (i := i) (j := j) (tu := tu) (ta := tCons (tC (.ref p)) tNil) (f := f) (ns := ns) (Iv p) (am.add hp e2 h2) (ea_cons ev_c ea_nil) (sq_of h2 : SqL K H2 p _) (h0 p) (fun pre σ' H' hi => sq_of (hP _ _ _ _ hi)) (hs p) (hd p)
    exact z
/-- downwards -/
theorem wk_rev {n : Int} (h : Ev te σ H (.int n)) (hn : 0 ≤ n ∧ n ≤ 1000000) : Wk (iRevR (tRg1 te)) σ H (fun _ => True) ((List.range n.toNat).map fun i => .int (n - 1 - (i : Nat))) := fun H1 e R q =>
  h H1 e _ fun H2 e2 => by
    refine ⟨n, rfl, by decide, by decide, by omega, by omega, q _ H2 e2 ?_⟩
    have z := sq_rangeC (lo := 0 + (((n - 0).toNat : Nat) : Int) - 1) (c := -1) (n := (n - 0).toNat)
    have e3 : ((List.range n.toNat).map fun i => V.int (n - 1 - (i : Nat))) = (List.range (n - 0).toNat).map fun i => V.int (0 + (((n - 0).toNat : Nat) : Int) - 1 + (i : Nat) * -1) := by
      rw [Int.sub_zero]
      refine List.map_congr_left fun i _ => ?_
      congr 1
      omega
    rw [e3]
    exact z
theorem wk_range3m {lo n : Int} (h : EvA ta σ H [.int lo, .int n, .int (-1)]) (hn : -1000000 ≤ lo ∧ lo ≤ 1000000 ∧ -1000000 ≤ n ∧ n ≤ 1000000) :
    Wk (iRng3 ta) σ H (fun _ => True) ((List.range (lo - n).toNat).map fun i => .int (lo - (i : Nat))) := fun H1 e R q =>
  h H1 e _ fun H2 e2 => by
    refine ⟨lo, n, -1, _, rfl, RgC.neg (by omega) (by omega) (by omega) (by omega), q _ H2 e2 ?_⟩
    have z := sq_rangeC (lo := lo) (c := -1) (n := (lo - n).toNat)
    have e3 : ((List.range (lo - n).toNat).map fun i => V.int (lo - (i : Nat))) = (List.range (lo - n).toNat).map fun i => V.int (lo + (i : Nat) * -1) := by
      refine List.map_congr_left fun i _ => ?_
      congr 1
      omega
    rw [e3]
    exact z
theorem rc_min {p : Addr} {ns : List Int} {m : Int} (h : SqL K H p (ns.map V.int)) (hm : m ∈ ns) (hl : ∀ y ∈ ns, m ≤ y) : RC (rMin K) [.ref p] H (.int m) := fun H1 e Q q =>
  ⟨p, ns, rfl, ex_l e h, List.length_pos_of_mem hm, fun m' h1 h2 => by
    have e3 : m' = m := Int.le_antisymm (h2 m hm) (hl m' h1)
    rw [e3]
    exact q H1 (Ex.refl H1)⟩
theorem rc_max {p : Addr} {ns : List Int} {m : Int} (h : SqL K H p (ns.map V.int)) (hm : m ∈ ns) (hl : ∀ y ∈ ns, y ≤ m) : RC (rMax K) [.ref p] H (.int m) := fun H1 e Q q =>
  ⟨p, ns, rfl, ex_l e h, List.length_pos_of_mem hm, fun m' h1 h2 => by
    have e3 : m' = m := Int.le_antisymm (hl m' h1) (h2 m hm)
    rw [e3]
    exact q H1 (Ex.refl H1)⟩
/-- [x] * n -/
theorem el_rep {x : V} {n : Int} {tb : TE} (h : EvL tl σ H [x]) (hb : Ev tb σ H (.int n)) (h0 : 0 ≤ n ∧ n ≤ 1000000) : EvL (tOp rRep tl tb) σ H (List.replicate n.toNat x) := fun H1 e Q q =>
  h H1 e _ fun p H2 hp e2 h2 => hb H2 (e.trans e2) _ fun H3 e3 => by
    refine ⟨p, n, [x], rfl, rfl, e3 _ _ h2, by omega, by omega, ?_, fun r hr => ?_⟩
    · show 1 * n.toNat ≤ sizeLine
      rw [Nat.one_mul]
      exact sz6 (by omega)
    · have e4 : (List.replicate n.toNat [x]).flatten = List.replicate n.toNat x := by
        induction n.toNat with
        | zero => rfl
        | succ k ih => rw [List.replicate_succ, List.flatten_cons, ih]; rfl
      rw [e4]
      exact q r _ (fresh_back (e2.trans e3) hr) ((e2.trans e3).trans (Ex.new hr)) upd_same
/-- sorted of ints -/
theorem elp_sortI {p : Addr} {ns : List Int} (h : Ev te σ H (.ref p)) (hs : SqL K H p (ns.map V.int)) : EvLP (tCB (rSortedI K) (tCons te tNil)) σ H fun xs => ∃ ns' : List Int, xs = ns'.map V.int ∧ ns'.Perm ns ∧ ns'.Pairwise (· ≤ ·) := fun H1 e Q q =>
  h H1 e _ fun H2 e2 => ⟨p, ns, rfl, ex_l (e.trans e2) hs, fun ns' r h1 h2 hr => q r _ _ ⟨ns', rfl, h1, h2⟩ (fresh_back e2 hr) (e2.trans (Ex.new hr)) upd_same⟩
end
end Mw
/-! own classes: making, methods, attributes; dicts; what a callee may change -/
namespace Mw
open PySem PySem.Spec PyProof.Rows L2 Evl

/-! ### calls of methods, making -/
structure Mcal (P : Program) (w : World) (K : PySem.W.Frag) (mg : Str → Option Value) (base : Heap) (CX : CXT) (k : Nat) (C : Addr) (m : Str) (ps : List Str) (sp : Sp) : Prop where
  ex : ∃ f fd, FnOk P w K mg base CX k f fd ps sp ∧ Meth K C m f ∧ Binds K fd ps []
structure Mkc (P : Program) (w : World) (K : PySem.W.Frag) (mg : Str → Option Value) (base : Heap) (CX : CXT) (k : Nat) (x : Str) (ps : List Str) (C : Addr) (sp : Sp) : Prop where
  ex : ∃ f fd, FnOk P w K mg base CX k f fd ps sp ∧ mg x = some (.ref C) ∧ Mk K C f ∧ Binds K fd ps []
section
variable {X : Cx} {CX : CXT} {k : Nat} {C : Addr} {x m : Str} {ps : List Str} {sp : Sp} {E : XK} {e o : Expr} {es : List Expr} {ta : TE} {t : TA} {p pos apos : Pos}
theorem pe_mcal {pl : Sem Bool} (c : Mcal X.prog X.w X.K X.mg X.base CX k C m ps sp) (cl : Cls X.K C) (hr : Room k X.A) (hx : Passes CX X E) (he : PE X o ta) (ha : PA X (e :: es) t)
    (hst : starEach (e :: es) X.env = (false, eval e X.env) :: starEach es X.env := by rfl) (hpl : (backTo pos (starEach es X.env)).any (·.1) = false := by rfl)
    (ht : eval (.Call (.Attribute o m apos) (e :: es) [] pos) X.env = (do
      let ov ← eval o X.env
      standAt apos.atName
      let (f, first) ← holding [ov] (getMethod ov m pl)
      callWith pos f first (backTo pos (starEach (e :: es) X.env)) (backToKw pos (keywordEach [] X.env))) := by rfl) :
    PE X (.Call (.Attribute o m apos) (e :: es) [] pos) (tMeth C m sp [] E ta t) := by
  obtain ⟨f, fd, F, hm, hb⟩ := c.ex
  exact pe_meth he cl hm F hr hb .nil hx ha hst hpl ht
theorem pe_mcal0 {pl : Sem Bool} (c : Mcal X.prog X.w X.K X.mg X.base CX k C m ps sp) (cl : Cls X.K C) (hr : Room k X.A) (hx : Passes CX X E) (he : PE X o ta)
    (ht : eval (.Call (.Attribute o m apos) [] [] pos) X.env = (do
      let ov ← eval o X.env
      standAt apos.atName
      let (f, first) ← holding [ov] (getMethod ov m pl)
      callWith pos f first (backTo pos (starEach [] X.env)) (backToKw pos (keywordEach [] X.env))) := by rfl) :
    PE X (.Call (.Attribute o m apos) [] [] pos) (tMeth C m sp [] E ta tNil) := by
  obtain ⟨f, fd, F, hm, hb⟩ := c.ex
  exact pe_meth0 he cl hm F hr hb .nil hx ht
theorem pe_mk (c : Mkc X.prog X.w X.K X.mg X.base CX k x ps C sp) (hr : Room (k + 1) X.A) (hg : Gl X x) (hx : Passes CX X E) (ha : PA X (e :: es) t)
    (hdb : (x == ("__debug__" : Str)) = false := by decide) (he : starEach (e :: es) X.env = (false, eval e X.env) :: starEach es X.env := by rfl) (hpl : (backTo pos (starEach es X.env)).any (·.1) = false := by rfl) :
    PE X (.Call (.Name x p) (e :: es) [] pos) (tMake C sp [] E t) := by
  obtain ⟨f, fd, F, hm, M, hb⟩ := c.ex
  exact pe_make M F hr hg hm hb .nil hx ha hdb he hpl
end

/-! ### what a callee may change -/
/-- these objects stand -/
def Has (H : Hp) (L : List (Addr × HO)) : Prop := (∀ p ∈ L, H p.1 = some p.2) ∧ (L.map (·.1)).Nodup
section
variable {K : PySem.W.Frag} {S : List Addr} {H0 H H' : Hp} {L La Lb : List (Addr × HO)} {σ : L2.St} {ta te tv tl : TE} {t : TA} {D : Ends} {tz : TS} {C dx g : Addr} {fs : List (Str × V)} {m f : Str} {sp : Sp} {E : XK} {vs : List V} {v : V} {o : HO} {Q : VK}
theorem Has.ex (h : Has H L) (e : Ex H H') : Has H' L := ⟨fun p hp => e _ _ (h.1 p hp), h.2⟩
theorem Has.at (i : Nat) {p : Addr} (h : Has H L) (hi : L[i]? = some (p, o)) : H p = some o := h.1 _ (List.mem_of_getElem? hi)
theorem Has.am (h : Has H L) : Am (L.map (·.1)) H L H := ⟨fun a o h _ => h, h.1, fun p hp => .inr (List.mem_map.mpr ⟨p, hp, rfl⟩), h.2⟩
theorem Am.has (am : Am S H0 (La ++ L) H) : Has H La := ⟨fun p hp => am.own p (List.mem_append_left _ hp), by
  have z := am.nd
  rw [List.map_append] at z
  exact (List.nodup_append.mp z).1⟩
theorem Am.hasAll (am : Am S H0 L H) : Has H L := ⟨am.own, am.nd⟩
theorem Am.call (am : Am S H0 (La ++ L) H) (am2 : Am (La.map (·.1)) H Lb H') : Am S H0 (Lb ++ L) H' := by
  have nd := am.nd
  rw [List.map_append, List.nodup_append] at nd
  obtain ⟨n1, n2, n3⟩ := nd
  have notin : ∀ q ∈ L, q.1 ∉ La.map (·.1) := fun q hq hm => n3 _ hm _ (List.mem_map.mpr ⟨q, hq, rfl⟩) rfl
  refine ⟨fun a u ha hn => ?_, fun p hp => ?_, fun p hp => ?_, ?_⟩
  · refine am2.old a u (am.old a u ha hn) fun hm => ?_
    obtain ⟨q, hq, e⟩ := List.mem_map.mp hm
    rcases am.new q (List.mem_append_left _ hq) with z | z
    · rw [e, ha] at z; cases z
    · rw [e] at z; exact hn z
  · rcases List.mem_append.mp hp with hp | hp
    · exact am2.own p hp
    · exact am2.old _ _ (am.own p (List.mem_append_right _ hp)) (notin p hp)
  · rcases List.mem_append.mp hp with hp | hp
    · rcases am2.new p hp with z | z
      · by_cases hs : p.1 ∈ S
        · exact .inr hs
        · refine .inl ?_
          cases w : H0 p.1 with
          | none => rfl
          | some u => rw [am.old _ _ w hs] at z; cases z
      · obtain ⟨q, hq, e⟩ := List.mem_map.mp z
        have z2 := am.new q (List.mem_append_left _ hq)
        rw [e] at z2
        exact z2
    · exact am.new p (List.mem_append_right _ hp)
  · rw [List.map_append, List.nodup_append]
    refine ⟨am2.nd, n2, fun x hx y hy e => ?_⟩
    subst e
    obtain ⟨p, hp, e1⟩ := List.mem_map.mp hx
    obtain ⟨q, hq, e2⟩ := List.mem_map.mp hy
    rcases am2.new p hp with z | z
    · have z2 := am.own q (List.mem_append_right _ hq)
      rw [e2, ← e1, z] at z2
      cases z2
    · exact notin q hq (by rw [e2, ← e1]; exact z)
/-- a callee that only looks -/
theorem Am.call0 (am : Am S H0 L H) (am2 : Am [] H Lb H') : Am S H0 (Lb ++ L) H' := Am.call (La := []) am am2

/-! ### attributes, methods -/
theorem e_fld (h : Ev ta σ H (.ref g)) (hg : H g = some (.ins C dx fs)) (c : Cls K C) (n : NoAttr K C f) (hl : fs.lookup f = some v) : Ev (tFld K ta f) σ H v := fun H1 e Q q =>
  h H1 e _ fun H2 e2 => ⟨g, C, dx, fs, v, rfl, (e.trans e2) _ _ hg, c, n, hl, q H2 e2⟩
theorem t_meth (h : Ev ta σ H (.ref g)) (hg : H g = some (.ins C dx fs)) (hl : fs.lookup m = none) (ht : EvA t σ H vs) (k : ∀ H1, Ex H H1 → sp (.ref g :: vs) H1 Q E) : tMeth C m sp [] E ta t σ H Q :=
  h H (Ex.refl H) _ fun H2 e2 => ⟨g, dx, fs, rfl, e2 _ _ hg, hl, ht H2 e2 _ fun H3 e3 => by rw [List.append_nil]; exact k H3 (e2.trans e3)⟩
theorem e_methV {R : List V → Hp → V → Prop} (h : Ev ta σ H (.ref g)) (hg : H g = some (.ins C dx fs)) (hl : fs.lookup m = none) (ht : EvA t σ H vs) (hR : ∀ H1, Ex H H1 → R (.ref g :: vs) H1 v) : Ev (tMeth C m (spV R) [] E ta t) σ H v := fun H1 e Q q =>
  t_meth (h.mono e) (e _ _ hg) hl (ht.mono e) fun H2 e2 => ⟨v, hR H2 (e.trans e2), fun H3 e3 => q H3 (e2.trans e3)⟩
theorem e_methVX {R : List V → Hp → V → Prop} {B : List V → Hp → Addr → Prop} (h : Ev ta σ H (.ref g)) (hg : H g = some (.ins C dx fs)) (hl : fs.lookup m = none) (ht : EvA t σ H vs) (hR : ∀ H1, Ex H H1 → R (.ref g :: vs) H1 v) : Ev (tMeth C m (spVX R B) [] E ta t) σ H v := fun H1 e Q q =>
  t_meth (h.mono e) (e _ _ hg) hl (ht.mono e) fun H2 e2 => .inl ⟨v, hR H2 (e.trans e2), fun H3 e3 => q H3 (e2.trans e3)⟩
theorem e_methL {R : List V → Hp → List V → Prop} {xs : List V} (h : Ev ta σ H (.ref g)) (hg : H g = some (.ins C dx fs)) (hl : fs.lookup m = none) (ht : EvA t σ H vs) (hR : ∀ H1, Ex H H1 → R (.ref g :: vs) H1 xs) : EvL (tMeth C m (spL R) [] E ta t) σ H xs := fun H1 e Q q =>
  t_meth (h.mono e) (e _ _ hg) hl (ht.mono e) fun H2 e2 => ⟨xs, hR H2 (e.trans e2), fun p H3 a b c => q p H3 (fresh_back e2 a) (e2.trans b) c⟩
theorem aq_methD (am : Am S H0 L H) (h : Ev ta σ H (.ref g)) (hg : H g = some (.ins C dx fs)) (hl : fs.lookup m = none) (ht : EvA t σ H vs) (k : ∀ H1, Am S H0 L H1 → sp (.ref g :: vs) H1 (fun _ H2 => tz D σ H2) E) :
    tSeq (tDrop (tMeth C m sp [] E ta t)) tz D σ H := t_meth (Q := fun _ H2 => tz D σ H2) h hg hl ht fun H1 e => k H1 (am.ex e)
theorem a_methD (am : Am S H0 L H) (h : Ev ta σ H (.ref g)) (hg : H g = some (.ins C dx fs)) (hl : fs.lookup m = none) (ht : EvA t σ H vs) (k : ∀ H1, Am S H0 L H1 → sp (.ref g :: vs) H1 (fun _ H2 => D.nx σ H2) E) :
    tDrop (tMeth C m sp [] E ta t) D σ H := t_meth (Q := fun _ H2 => D.nx σ H2) h hg hl ht fun H1 e => k H1 (am.ex e)
theorem aq_methA {i : Nat} (am : Am S H0 L H) (h : Ev ta σ H (.ref g)) (hg : H g = some (.ins C dx fs)) (hl : fs.lookup m = none) (ht : EvA t σ H vs) (k : ∀ H1, Am S H0 L H1 → sp (.ref g :: vs) H1 (fun v H2 => tz D (σ.set i (some v)) H2) E) :
    tSeq (tAsg (tMeth C m sp [] E ta t) (gName i)) tz D σ H := t_meth (Q := fun v H2 => tz D (σ.set i (some v)) H2) h hg hl ht fun H1 e => k H1 (am.ex e)
theorem aq_make {i : Nat} (am : Am S H0 L H) (ht : EvA t σ H vs) (k : ∀ g dx H1, Am S H0 ((g, .ins C dx []) :: (dx, .own g) :: L) H1 → sp (.ref g :: vs) H1 (fun v H2 => v = .non ∧ tz D (σ.set i (some (.ref g))) H2) E) :
    tSeq (tAsg (tMake C sp [] E t) (gName i)) tz D σ H := ht H (Ex.refl H) _ fun H1 e => fun x dx hx hdx ne => by
  rw [List.append_nil]
  refine k x dx _ (((am.ex e).new1 hdx).new1 ?_)
  rw [upd_ne (Ne.symm ne)]
  exact hx
theorem aq_callA {i : Nat} (am : Am S H0 L H) (ht : EvA t σ H vs) (k : ∀ H1, Am S H0 L H1 → sp vs H1 (fun v H2 => tz D (σ.set i (some v)) H2) E) : tSeq (tAsg (tCall sp [] E t) (gName i)) tz D σ H :=
  ht H (Ex.refl H) _ fun H1 e => by rw [List.append_nil]; exact k H1 (am.ex e)
theorem aq_callD (am : Am S H0 L H) (ht : EvA t σ H vs) (k : ∀ H1, Am S H0 L H1 → sp vs H1 (fun _ H2 => tz D σ H2) E) : tSeq (tDrop (tCall sp [] E t)) tz D σ H :=
  ht H (Ex.refl H) _ fun H1 e => by rw [List.append_nil]; exact k H1 (am.ex e)
/-- a comprehension over enumerate -/
theorem el_lcE {α : Type} {f : α → V} {ns : List α} {i j : Nat} {wl : List Nat} {a : Addr} (w : Nat → V) (h : EvA t σ H [.ref a]) (hq : SqL K H a (ns.map f)) (hz : ns.length ≤ 100000)
    (hv : ∀ x y, wipe (((wipe σ wl).set i (some x)).set j (some y)) wl = wipe σ wl)
    (he : ∀ (k : Nat) (n : α), ns[k]? = some n → Ev te (((wipe σ wl).set i (some (.int k))).set j (some (f n))) H (w k)) :
    EvL (tLc (iEnum K t) (gTup K 2 (gCons (gName i) (gCons (gName j) gNil))) tYes te wl) σ H ((List.range ns.length).map w) := fun H1 e Q q => by
  refine h H1 e _ fun H2 e2 => ⟨a, _, rfl, ex_l (e.trans e2) hq, fun Dl hD => ?_⟩
  refine ⟨fun i' m H' => i' + m = ns.length ∧ Ex H2 H' ∧ H' Dl = some (.lst ((List.range i').map w)), ⟨ns.length, by omega, Ex.new hD, upd_same⟩, ?_⟩
  rintro i' m H' ⟨im, e3, hl⟩
  have hq' : SqL K H' a (ns.map f) := ex_l ((e.trans e2).trans e3) hq
  by_cases hi : i' < ns.length
  · have g0 : ns[i']? = some ns[i'] := List.getElem?_eq_getElem hi
    have g : (ns.map f)[i']? = some (f ns[i']) := by rw [List.getElem?_map, g0]; rfl
    refine .inr ⟨⟨_, _, hq', g⟩, fun H'' => Ex H2 H'' ∧ H'' Dl = some (.lst ((List.range (i' + 1)).map w)), fun H'' hN => ⟨m - 1, by omega, by omega, hN.1, hN.2⟩, fun y H'' hy => ?_⟩
    obtain ⟨T, x, rfl, hT, rfl, hx⟩ := hy
    have e1 : f ns[i'] = x := Option.some.inj (g.symm.trans (hx _ hq'))
    subst e1
    have e4 : Ex H' (upd H' T (.tup [.int (i' : Nat), f ns[i']])) := Ex.new hT
    refine ⟨T, [.int (i' : Nat), f ns[i']], rfl, st_of upd_same, rfl, _, _, rfl, _, _, rfl, rfl, hv _ _, ?_⟩
    show te _ _ _
    refine he i' _ g0 _ (((e.trans e2).trans e3).trans e4) _ fun H6 e7 => ?_
    refine ⟨_, e7 _ _ (e4 _ _ hl), ?_, Ex.mut ((e3.trans e4).trans e7) hD, ?_⟩
    · rw [List.length_map, List.length_range]
      exact szL6 (by omega)
    · rw [upd_same, List.range_succ, List.map_append]; rfl
  · have ei : i' = ns.length := by omega
    subst ei
    exact .inl ⟨⟨_, hq', by rw [List.length_map]; exact Nat.le_refl _⟩, q Dl H' (fresh_back e2 hD) (e2.trans e3) hl⟩
/-- a < b < c and the like -/
theorem e_chain {r r' : R2} {tb tc : TE} {x y z : V} {b c : Bool} (h1 : Ev ta σ H x) (h2 : Ev tb σ H y) (hr : RV r x y H (.bl b)) (h3 : b = true → Ev tc σ H z) (hr2 : b = true → RV r' y z H (.bl c)) : Ev (tChain r r' ta tb tc) σ H (.bl (b && c)) := fun H1 e Q q =>
  h1 H1 e _ fun H2 e2 => h2 H2 (e.trans e2) _ fun H3 e3 => hr H3 ((e.trans e2).trans e3) _ fun H4 e4 => ⟨b, rfl, by
    have e14 := ((e.trans e2).trans e3).trans e4
    cases b with
    | false => exact q H4 ((e2.trans e3).trans e4)
    | true =>
      rw [if_pos rfl]
      exact h3 rfl H4 e14 _ fun H5 e5 => hr2 rfl H5 (e14.trans e5) _ fun H6 e6 => q H6 ((((e2.trans e3).trans e4).trans e5).trans e6)⟩
/-- a new object -/
def EvN (te : TE) (σ : L2.St) (H : Hp) (o : HO) : Prop := ∀ H1, Ex H H1 → ∀ Q : VK, (∀ p H2, H1 p = none → Ex H1 H2 → H2 p = some o → Q (.ref p) H2) → te σ H1 Q
theorem en_dnew : EvN tDNewK σ H (.dK []) := fun H1 e Q q p hp => q p _ hp (Ex.new hp) upd_same
theorem aq_asgN {i : Nat} (am : Am S H0 L H) (h : EvN te σ H o) (k : ∀ p H, Am S H0 ((p, o) :: L) H → tz D (σ.set i (some (.ref p))) H) : tSeq (tAsg te (gName i)) tz D σ H :=
  h H (Ex.refl H) _ fun p H1 hp e h1 => k p H1 (am.add hp e h1)
theorem a_fldN (i : Nat) (am : Am S H0 L H) (hi : L[i]? = some (g, .ins C dx fs)) (hv : EvN tv σ H o) (ho : ∀ H1, Ex H H1 → Ev ta σ H1 (.ref g)) (c : Cls K C) (n : NoAttr K C f) (hz : fs.length < 1000)
    (k : ∀ p H, Am S H0 ((p, o) :: L.set i (g, .ins C dx (putF f (.ref p) fs))) H → D.nx σ H) : sFld K ta tv f D σ H :=
  hv H (Ex.refl H) _ fun p H1 hp e h1 => ho H1 e H1 (Ex.refl H1) _ fun H2 e2 => by
    have am2 := (am.add hp e h1).ex e2
    exact ⟨g, C, dx, fs, rfl, am2.at (i + 1) hi, c, n, hz, k p _ (am2.set (i + 1) hi)⟩
theorem aq_fldN (i : Nat) (am : Am S H0 L H) (hi : L[i]? = some (g, .ins C dx fs)) (hv : EvN tv σ H o) (ho : ∀ H1, Ex H H1 → Ev ta σ H1 (.ref g)) (c : Cls K C) (n : NoAttr K C f) (hz : fs.length < 1000)
    (k : ∀ p H, Am S H0 ((p, o) :: L.set i (g, .ins C dx (putF f (.ref p) fs))) H → tz D σ H) : tSeq (sFld K ta tv f) tz D σ H := a_fldN (D := { D with nx := tz D }) i am hi hv ho c n hz k
theorem aq_par {i j : Nat} {x y : V} (am : Am S H0 L H) (h : EvA t σ H [x, y]) (k : ∀ H, Am S H0 L H → tz D ((σ.set i (some x)).set j (some y)) H) : tSeq (tPar i j t) tz D σ H :=
  h H (Ex.refl H) _ fun H1 e => ⟨x, y, rfl, k H1 (am.ex e)⟩
/-- list(range(n)) -/
theorem el_lrg {n : Nat} (h : Ev te σ H (.int n)) (hn : n ≤ 1000000) : EvL (tLstRg (tRg1 te)) σ H ((List.range n).map fun i => .int (i : Nat)) := fun H1 e Q q =>
  h H1 e _ fun H2 e2 => ⟨n, rfl, RgOk.of_le (by omega) (by omega) (by omega) (by omega), fun r hr => by
    have e3 : rgV 0 (n : Int) = (List.range n).map fun i => V.int (i : Nat) := by
      unfold rgV
      rw [Int.sub_zero, Int.toNat_natCast]
      refine List.map_congr_left fun i _ => ?_
      rw [Int.zero_add]
    rw [e3]
    exact q r _ (fresh_back e2 hr) (e2.trans (Ex.new hr)) upd_same⟩

/-! ### dicts -/
theorem e_dget {a : Addr} {kvs : List (Key × V)} {k : Key} (hd : Ev ta σ H (.ref a)) (hk : Ev te σ H (kV k)) (h : H a = some (.dK kvs)) (hv : valV kvs k = some v) : Ev (tDGet ta te) σ H v := fun H1 e Q q =>
  hd H1 e _ fun H2 e2 => hk H2 (e.trans e2) _ fun H3 e3 => ⟨a, v, rfl, by rw [← hv]; exact DGet.k (((e.trans e2).trans e3) _ _ h), q H3 (e2.trans e3)⟩
theorem e_din {a : Addr} {kvs : List (Key × V)} {k : Key} (hk : Ev te σ H (kV k)) (hd : Ev ta σ H (.ref a)) (h : H a = some (.dK kvs)) : Ev (tDIn te ta) σ H (.bl (valV kvs k).isSome) := fun H1 e Q q =>
  hk H1 e _ fun H2 e2 => hd H2 (e.trans e2) _ fun H3 e3 => ⟨a, _, rfl, DGet.k (((e.trans e2).trans e3) _ _ h), q H3 (e2.trans e3)⟩
theorem e_dnin {a : Addr} {kvs : List (Key × V)} {k : Key} (hk : Ev te σ H (kV k)) (hd : Ev ta σ H (.ref a)) (h : H a = some (.dK kvs)) : Ev (tDNotIn te ta) σ H (.bl (!(valV kvs k).isSome)) := fun H1 e Q q =>
  hk H1 e _ fun H2 e2 => hd H2 (e.trans e2) _ fun H3 e3 => ⟨a, _, rfl, DGet.k (((e.trans e2).trans e3) _ _ h), q H3 (e2.trans e3)⟩
theorem e_dget2 {tx : TE} {a : Addr} {kvs : List (Key × V)} {k : Key} {z : V} (hd : Ev ta σ H (.ref a)) (hk : Ev te σ H (kV k)) (hz : Ev tx σ H z) (h : H a = some (.dK kvs)) : Ev (tDGet2 ta te tx) σ H ((valV kvs k).getD z) := fun H1 e Q q =>
  hd H1 e _ fun H2 e2 => ⟨a, rfl, .inl ⟨kvs, .inl ((e.trans e2) _ _ h)⟩, hk H2 (e.trans e2) _ fun H3 e3 => hz H3 ((e.trans e2).trans e3) _ fun H4 e4 => ⟨_, DGet.k ((((e.trans e2).trans e3).trans e4) _ _ h), q H4 ((e2.trans e3).trans e4)⟩⟩
theorem a_dput (i : Nat) {a : Addr} {kvs : List (Key × V)} {k : Key} (am : Am S H0 L H) (hi : L[i]? = some (a, .dK kvs)) (hd : Ev ta σ H (.ref a)) (hk : Ev te σ H (kV k)) (hv : Ev tv σ H v) (hz : kvs.length < 100000)
    (kk : ∀ H, Am S H0 (L.set i (a, .dK (putK kvs k v))) H → D.nx σ H) : sDPut ta te tv D σ H :=
  hv H (Ex.refl H) _ fun H1 e1 => hd H1 e1 _ fun H2 e2 => hk H2 (e1.trans e2) _ fun H3 e3 => by
    have am3 := am.ex ((e1.trans e2).trans e3)
    exact ⟨a, _, rfl, DPut.k (am3.at i hi) (szL6 (by omega)), kk _ (am3.set i hi)⟩
theorem aq_dput (i : Nat) {a : Addr} {kvs : List (Key × V)} {k : Key} (am : Am S H0 L H) (hi : L[i]? = some (a, .dK kvs)) (hd : Ev ta σ H (.ref a)) (hk : Ev te σ H (kV k)) (hv : Ev tv σ H v) (hz : kvs.length < 100000)
    (kk : ∀ H, Am S H0 (L.set i (a, .dK (putK kvs k v))) H → tz D σ H) : tSeq (sDPut ta te tv) tz D σ H := a_dput (D := { D with nx := tz D }) i am hi hd hk hv hz kk
theorem aq_dpop (i : Nat) {a : Addr} {kvs : List (Key × V)} {k : Key} (am : Am S H0 L H) (hi : L[i]? = some (a, .dK kvs)) (hd : Ev ta σ H (.ref a)) (hk : Ev te σ H (kV k)) (hv : valV kvs k = some v)
    (kk : ∀ H, Am S H0 (L.set i (a, .dK (dropK kvs k))) H → tz D σ H) : tSeq (tDrop (tDPop1 ta te)) tz D σ H :=
  hd H (Ex.refl H) _ fun H1 e1 => by
    have am1 := am.ex e1
    exact ⟨a, rfl, .inl ⟨kvs, .inl (am1.at i hi)⟩, hk H1 e1 _ fun H2 e2 => by
      have am2 := am1.ex e2
      exact ⟨kvs, k, v, am2.at i hi, rfl, hv, kk _ (am2.set i hi)⟩⟩
end
end Mw
/-! values that are told by what they meet (EvQ), tuples, != of many kinds -/
namespace Mw
open PySem PySem.Spec PyProof.Rows L2 Evl
abbrev rTupS (K : PySem.W.Frag) : List V → Hp → VK → Prop := fun xs H Q => ∃ p ys, xs = [.ref p] ∧ ((SqL K H p ys ∧ ∀ l, H l = none → Q (.ref l) (upd H l (.tup ys))) ∨ (SqT K H p ys ∧ Q (.ref p) H))
/-- != of data, or of two dicts that are equal -/
def rNeX (K : PySem.W.Frag) : R2 := fun x y H Q => rNeD K x y H Q ∨ rNeDA x y H Q
theorem op_neX {X : Cx} (hu : X.A.units + 64 < cLine) : OpR X (compareOp .NotEq) (rNeX X.K) := by
  intro pins s σ H x y v u Q I rx ry h
  rcases h with h | h
  · exact op_neD hu pins s σ H x y v u Q I rx ry h
  · exact op_ne_dictA (by omega) pins s σ H x y v u Q I rx ry h
section
variable {K : PySem.W.Frag} {S : List Addr} {H0 H H1 : Hp} {L : List (Addr × HO)} {σ : L2.St} {ta : TA} {te tl ti tb : TE} {t : TT} {D : Ends} {tz : TS} {P : V → Hp → Prop}
theorem aq_asgE {i : Nat} (am : Am S H0 L H) (h : EvQ te σ H P) (k : ∀ v H, P v H → Am S H0 L H → tz D (σ.set i (some v)) H) : tSeq (tAsg te (gName i)) tz D σ H := h H (Ex.refl H) _ fun v H1 e p => k v H1 p (am.ex e)
theorem a_retE (am : Am S H0 L H) (h : EvQ te σ H P) (k : ∀ v H, P v H → Am S H0 L H → D.rt v H) : tRet te D σ H := h H (Ex.refl H) _ fun v H1 e p => k v H1 p (am.ex e)
theorem eq_if {b : Bool} (h : EvT t σ H b) (h1 : b = true → EvQ te σ H P) (h2 : b = false → EvQ tl σ H P) : EvQ (tIf t te tl) σ H P := fun H1 e Q q => h H1 e _ fun H2 e2 => by
  cases b with
  | true =>
    rw [if_pos rfl]
    exact h1 rfl H2 (e.trans e2) Q fun v H3 e3 => q v H3 (e2.trans e3)
  | false =>
    rw [if_neg Bool.false_ne_true]
    exact h2 rfl H2 (e.trans e2) Q fun v H3 e3 => q v H3 (e2.trans e3)
/-- an item of a display of many kinds -/
theorem eq_ixL {n j : Nat} (hm : ∀ v H H', Ex H H' → P v H → P v H') (h : EvQA ta σ H n P) (hi : Ev ti σ H (.int (j : Nat))) (hj : j < n) (hn : n ≤ 1000) : EvQ (tOp (rIxL K) (tLst ta) ti) σ H P := fun H1 e Q q =>
  h H1 e _ fun vs H2 e2 hl hv => ⟨sz6 (by omega), fun p hp => hi _ ((e.trans e2).trans (Ex.new hp)) _ fun H3 e3 => by
    have hh : H3 p = some (.lst vs) := e3 _ _ upd_same
    have hjl : j < vs.length := by omega
    exact ⟨p, vs, j, _, rfl, rfl, sq_of hh, atI_nat (List.getElem?_eq_getElem hjl), q _ H3 ((e2.trans (Ex.new hp)).trans e3) (hm _ _ _ ((Ex.new hp).trans e3) (hv _ (List.getElem_mem hjl)))⟩⟩
/-- [xs], xs new -/
theorem eq_nest {xs : List V} (h : EvL te σ H xs) (hp : ∀ p q H1, Ex H H1 → H1 p = some (.lst [.ref q]) → H1 q = some (.lst xs) → P (.ref p) H1) : EvQ (tLst (tCons te tNil)) σ H P := fun H1 e Q q =>
  h H1 e _ fun r H2 hr e2 h2 => ⟨sz6 (by show 1 ≤ _; decide), fun p hpn => q _ _ (e2.trans (Ex.new hpn)) (hp p r _ ((e.trans e2).trans (Ex.new hpn)) upd_same (Ex.new hpn _ _ h2))⟩
theorem eq_N {o : HO} (h : EvN te σ H o) (hp : ∀ p H1, Ex H H1 → H1 p = some o → P (.ref p) H1) : EvQ te σ H P := fun H1 e Q q => h H1 e Q fun p H2 _ e2 h2 => q _ H2 e2 (hp p H2 (e.trans e2) h2)
theorem en_disp1 {k : Int} {v : V} : EvN (tDisp [((tC (.int k)), (tC v))]) σ H (.dK [(.inl k, v)]) := fun H1 e Q q => fun p hp => ⟨upd_same, [(.inl k, v)], rfl, (by show 1 ≤ 15; decide), q p _ hp (Ex.mut (Ex.new hp) hp) upd_same⟩
theorem en_tup {p : Addr} {xs : List V} (h : Ev te σ H (.ref p)) (hs : SqL K H p xs) : EvN (tCB (rTupS K) (tCons te tNil)) σ H (.tup xs) := fun H1 e Q q =>
  h H1 e _ fun H2 e2 => ⟨p, xs, rfl, .inl ⟨ex_l (e.trans e2) hs, fun l hl => q l _ (fresh_back e2 hl) (e2.trans (Ex.new hl)) upd_same⟩⟩
theorem r_notB {a b : Bool} : RV rNotB (.bl a) (.bl b) H (.bl (!decide (a = b))) := fun H1 _ _ q => ⟨a, b, rfl, rfl, q H1 (Ex.refl H1)⟩
theorem r_isB {a b : Bool} : RV rIsB (.bl a) (.bl b) H (.bl (decide (a = b))) := fun H1 _ _ q => ⟨a, b, rfl, rfl, q H1 (Ex.refl H1)⟩
/-- xs + ys, the second one there -/
theorem el_catW {xs ys : List V} {p : Addr} (ha : EvL te σ H xs) (hb : Ev tb σ H (.ref p)) (h : H p = some (.lst ys)) (hz : xs.length + ys.length ≤ 1000000) : EvL (tOp rCat te tb) σ H (xs ++ ys) := fun H1 e Q q =>
  ha H1 e _ fun r H2 hr e2 h2 => hb H2 (e.trans e2) _ fun H3 e3 => ⟨r, p, xs, ys, rfl, rfl, e3 r _ h2, ((e.trans e2).trans e3) p _ h, sz6 hz, fun l hl => q l _ (fresh_back (e2.trans e3) hl) ((e2.trans e3).trans (Ex.new hl)) upd_same⟩
end
end Mw
/-! max and min with default= -/
namespace Mw
open PySem PySem.Spec PyProof.Rows L2 Evl
theorem foldl_min_spec : ∀ (ns : List Int) (n : Int), ns.foldl min n ∈ n :: ns ∧ ∀ y ∈ n :: ns, ns.foldl min n ≤ y
  | [], n => ⟨List.mem_cons_self .., fun y hy => by rw [List.mem_singleton.mp hy]; exact Int.le_refl _⟩
  | k :: r, n => by
    obtain ⟨h1, h2⟩ := foldl_min_spec r (min n k)
    rw [List.foldl_cons]
    refine ⟨?_, fun y hy => ?_⟩
    · rcases List.mem_cons.mp h1 with h | h
      · rw [h]
        rcases Int.le_total n k with c | c
        · rw [Int.min_eq_left c]; exact List.mem_cons_self ..
        · rw [Int.min_eq_right c]; exact List.mem_cons_of_mem _ (List.mem_cons_self ..)
      · exact List.mem_cons_of_mem _ (List.mem_cons_of_mem _ h)
    · have h0 := h2 _ (List.mem_cons_self ..)
      rcases List.mem_cons.mp hy with rfl | hy
      · omega
      · rcases List.mem_cons.mp hy with rfl | hy
        · omega
        · exact h2 y (List.mem_cons_of_mem _ hy)
theorem foldl_max_spec : ∀ (ns : List Int) (n : Int), ns.foldl max n ∈ n :: ns ∧ ∀ y ∈ n :: ns, y ≤ ns.foldl max n
  | [], n => ⟨List.mem_cons_self .., fun y hy => by rw [List.mem_singleton.mp hy]; exact Int.le_refl _⟩
  | k :: r, n => by
    obtain ⟨h1, h2⟩ := foldl_max_spec r (max n k)
    rw [List.foldl_cons]
    refine ⟨?_, fun y hy => ?_⟩
    · rcases List.mem_cons.mp h1 with h | h
      · rw [h]
        rcases Int.le_total n k with c | c
        · rw [Int.max_eq_right c]; exact List.mem_cons_of_mem _ (List.mem_cons_self ..)
        · rw [Int.max_eq_left c]; exact List.mem_cons_self ..
      · exact List.mem_cons_of_mem _ (List.mem_cons_of_mem _ h)
    · have h0 := h2 _ (List.mem_cons_self ..)
      rcases List.mem_cons.mp hy with rfl | hy
      · omega
      · rcases List.mem_cons.mp hy with rfl | hy
        · omega
        · exact h2 y (List.mem_cons_of_mem _ hy)
/-- max(xs, default=z), min(xs, default=z) of ints -/
def rMaxDI (K : PySem.W.Frag) : List V → List V → Hp → VK → Prop := fun xs zs H Q => ∃ (p : Addr) (ns : List Int) (z : V), xs = [.ref p] ∧ zs = [z] ∧ SqL K H p (ns.map V.int) ∧ (ns = [] → Q z H) ∧ ∀ m, m ∈ ns → (∀ y ∈ ns, y ≤ m) → Q (.int m) H
def rMinDI (K : PySem.W.Frag) : List V → List V → Hp → VK → Prop := fun xs zs H Q => ∃ (p : Addr) (ns : List Int) (z : V), xs = [.ref p] ∧ zs = [z] ∧ SqL K H p (ns.map V.int) ∧ (ns = [] → Q z H) ∧ ∀ m, m ∈ ns → (∀ y ∈ ns, m ≤ y) → Q (.int m) H
theorem alike_ints (ns : List Int) : PySem.W.AlikeAll (ns.map PyData.int) := ⟨fun x hx y hy => by
  obtain ⟨a, _, rfl⟩ := List.mem_map.mp hx
  obtain ⟨b, _, rfl⟩ := List.mem_map.mp hy
  rfl, fun x hx => by
  obtain ⟨a, _, rfl⟩ := List.mem_map.mp hx
  exact fun z => by cases z⟩
theorem cr_maxDI {X : Cx} (hc : X.calm = true) (hu : X.A.units + 64 < cLine) : CallRK X (.builtin "max") [Str.ofString "default"] (rMaxDI X.K) := by
  intro pins s σ H xs zs us ws Q I rx rz h
  obtain ⟨p, ns, z, rfl, rfl, hs, h0, h1⟩ := h
  obtain ⟨u, rfl, ru⟩ := vals1 rz
  obtain ⟨its, rv, hl, _⟩ := I.list hs
  rw [Vals.ref1 rx]
  obtain ⟨as, hr⟩ := Dp.readsAll I _ _ _ (dpAll_ints ns) rv
  refine PySem.W.max_list_default (I.ok.hd hc) hl.isList (by simpa using hr) (alike_ints ns) (by rw [depth_ints]; omega) (fun hn h' tk hk => ?_) fun y ys i v h' tk bs hxs hv hrd hk => ?_
  · exact ⟨z, H, I.kept hk, ru, h0 (List.map_eq_nil_iff.mp hn)⟩
  · cases ns with
    | nil => cases hxs
    | cons n r =>
      rw [List.map_cons] at hxs
      obtain ⟨rfl, rfl⟩ := List.cons.inj hxs
      rw [PySem.W.maxD_ints] at hrd
      cases hrd with
      | int j t =>
        obtain ⟨m1, m2⟩ := foldl_max_spec r n
        exact ⟨.int _, H, I.kept hk, ⟨t, rfl⟩, h1 _ m1 m2⟩
theorem cr_minDI {X : Cx} (hc : X.calm = true) (hu : X.A.units + 64 < cLine) : CallRK X (.builtin "min") [Str.ofString "default"] (rMinDI X.K) := by
  intro pins s σ H xs zs us ws Q I rx rz h
  obtain ⟨p, ns, z, rfl, rfl, hs, h0, h1⟩ := h
  obtain ⟨u, rfl, ru⟩ := vals1 rz
  obtain ⟨its, rv, hl, _⟩ := I.list hs
  rw [Vals.ref1 rx]
  obtain ⟨as, hr⟩ := Dp.readsAll I _ _ _ (dpAll_ints ns) rv
  refine PySem.W.min_list_default (I.ok.hd hc) hl.isList (by simpa using hr) (alike_ints ns) (by rw [depth_ints]; omega) (fun hn h' tk hk => ?_) fun y ys i v h' tk bs hxs hv hrd hk => ?_
  · exact ⟨z, H, I.kept hk, ru, h0 (List.map_eq_nil_iff.mp hn)⟩
  · cases ns with
    | nil => cases hxs
    | cons n r =>
      rw [List.map_cons] at hxs
      obtain ⟨rfl, rfl⟩ := List.cons.inj hxs
      rw [PySem.W.minD_ints] at hrd
      cases hrd with
      | int j t =>
        obtain ⟨m1, m2⟩ := foldl_min_spec r n
        exact ⟨.int _, H, I.kept hk, ⟨t, rfl⟩, h1 _ m1 m2⟩
/-- min(xs, default=z) of texts -/
def rMinDS (K : PySem.W.Frag) : List V → List V → Hp → VK → Prop := fun xs zs H Q => ∃ (p : Addr) (ls : List Tx) (z : V), xs = [.ref p] ∧ zs = [z] ∧ SqL K H p (ls.map tS) ∧ (ls = [] → Q z H) ∧ ∀ w, w ∈ ls → (∀ y ∈ ls, ¬ y < w) → Q (tS w) H
theorem alike_texts (ls : List Tx) : PySem.W.AlikeAll (ls.map fun l => PyData.str (T l)) := ⟨fun x hx y hy => by
  obtain ⟨a, _, rfl⟩ := List.mem_map.mp hx
  obtain ⟨b, _, rfl⟩ := List.mem_map.mp hy
  rfl, fun x hx => by
  obtain ⟨a, _, rfl⟩ := List.mem_map.mp hx
  exact fun z => by cases z⟩
theorem minD_texts : ∀ (ls : List Tx) (l : Tx), ∃ w, PySem.W.minD (.str (T l)) (ls.map fun l => PyData.str (T l)) = .str (T w) ∧ w ∈ l :: ls ∧ ∀ y ∈ l :: ls, ¬ y < w
  | [], l => ⟨l, rfl, List.mem_cons_self .., fun y hy => by rw [List.mem_singleton.mp hy]; exact List.lt_irrefl _⟩
  | k :: r, l => by
    by_cases c : k < l
    · obtain ⟨w, h1, h2, h3⟩ := minD_texts r k
      refine ⟨w, ?_, List.mem_cons_of_mem _ h2, fun y hy => ?_⟩
      · rw [← h1]
        unfold PySem.W.minD
        rw [List.map_cons, List.foldl_cons]
        rw [show PySem.W.dataLt (.str (T k)) (.str (T l)) = true by rw [PySem.W.dataLt_str, T_cps, T_cps]; exact decide_eq_true c, if_pos rfl]
      · rcases List.mem_cons.mp hy with rfl | hy
        · exact fun z => h3 k (List.mem_cons_self ..) (List.lt_trans c z)
        · exact h3 y hy
    · obtain ⟨w, h1, h2, h3⟩ := minD_texts r l
      refine ⟨w, ?_, ?_, fun y hy => ?_⟩
      · rw [← h1]
        unfold PySem.W.minD
        rw [List.map_cons, List.foldl_cons]
        rw [show PySem.W.dataLt (.str (T k)) (.str (T l)) = false by rw [PySem.W.dataLt_str, T_cps, T_cps]; exact decide_eq_false c, if_neg Bool.false_ne_true]
      · rcases List.mem_cons.mp h2 with h | h
        · rw [h]; exact List.mem_cons_self ..
        · exact List.mem_cons_of_mem _ (List.mem_cons_of_mem _ h)
      · rcases List.mem_cons.mp hy with rfl | hy
        · exact h3 y (List.mem_cons_self ..)
        · rcases List.mem_cons.mp hy with rfl | hy
          · have hw := h3 l (List.mem_cons_self ..)
            intro z
            have c' := List.not_lt.mp c
            have hw' := List.not_lt.mp hw
            exact absurd z (List.not_lt.mpr (List.le_trans hw' c'))
          · exact h3 y (List.mem_cons_of_mem _ hy)
theorem cr_minDS {X : Cx} (hc : X.calm = true) (hu : X.A.units + 64 < cLine) : CallRK X (.builtin "min") [Str.ofString "default"] (rMinDS X.K) := by
  intro pins s σ H xs zs us ws Q I rx rz h
  obtain ⟨p, ls, z, rfl, rfl, hs, h0, h1⟩ := h
  obtain ⟨u, rfl, ru⟩ := vals1 rz
  obtain ⟨its, rv, hl, _⟩ := I.list hs
  rw [Vals.ref1 rx]
  obtain ⟨as, hr⟩ := Dp.readsAll I _ _ _ (dpAll_texts ls) rv
  refine PySem.W.min_list_default (I.ok.hd hc) hl.isList (by simpa using hr) (alike_texts ls) (by rw [depth_texts]; omega) (fun hn h' tk hk => ?_) fun y ys i v h' tk bs hxs hv hrd hk => ?_
  · exact ⟨z, H, I.kept hk, ru, h0 (List.map_eq_nil_iff.mp hn)⟩
  · cases ls with
    | nil => cases hxs
    | cons l r =>
      rw [List.map_cons] at hxs
      obtain ⟨rfl, rfl⟩ := List.cons.inj hxs
      obtain ⟨w, e, m1, m2⟩ := minD_texts r l
      rw [e] at hrd
      cases hrd with
      | str j t => exact ⟨tS w, H, I.kept hk, ⟨t, rfl⟩, h1 _ m1 m2⟩
section
variable {K : PySem.W.Frag} {σ : L2.St} {H : Hp} {te tz : TE} {z : V}
theorem e_maxDI {p : Addr} {ns : List Int} {v : V} (h : Ev te σ H (.ref p)) (hs : SqL K H p (ns.map V.int)) (hz : Ev tz σ H z) (h0 : ns = [] → z = v) (h1 : ∀ m, m ∈ ns → (∀ y ∈ ns, y ≤ m) → V.int m = v) : Ev (tCKw (rMaxDI K) (tCons te tNil) (tCons tz tNil)) σ H v := fun H1 e Q q =>
  h H1 e _ fun H2 e2 => hz H2 (e.trans e2) _ fun H3 e3 => ⟨p, ns, z, rfl, rfl, ex_l ((e.trans e2).trans e3) hs, fun c => by rw [h0 c]; exact q H3 (e2.trans e3), fun m m1 m2 => by rw [h1 m m1 m2]; exact q H3 (e2.trans e3)⟩
theorem e_minDIN {ns : List Int} {v : V} (h : EvL te σ H (ns.map V.int)) (hz : Ev tz σ H z) (h0 : ns = [] → z = v) (h1 : ∀ m, m ∈ ns → (∀ y ∈ ns, m ≤ y) → V.int m = v) : Ev (tCKw (rMinDI K) (tCons te tNil) (tCons tz tNil)) σ H v := fun H1 e Q q =>
  h H1 e _ fun p H2 _ e2 h2 => hz H2 (e.trans e2) _ fun H3 e3 => ⟨p, ns, z, rfl, rfl, sq_of (e3 _ _ h2), fun c => by rw [h0 c]; exact q H3 (e2.trans e3), fun m m1 m2 => by rw [h1 m m1 m2]; exact q H3 (e2.trans e3)⟩
theorem e_minDS {p : Addr} {ls : List Tx} {v : V} (h : Ev te σ H (.ref p)) (hs : SqL K H p (ls.map tS)) (hz : Ev tz σ H z) (h0 : ls = [] → z = v) (h1 : ∀ w, w ∈ ls → (∀ y ∈ ls, ¬ y < w) → tS w = v) : Ev (tCKw (rMinDS K) (tCons te tNil) (tCons tz tNil)) σ H v := fun H1 e Q q =>
  h H1 e _ fun H2 e2 => hz H2 (e.trans e2) _ fun H3 e3 => ⟨p, ls, z, rfl, rfl, ex_l ((e.trans e2).trans e3) hs, fun c => by rw [h0 c]; exact q H3 (e2.trans e3), fun m m1 m2 => by rw [h1 m m1 m2]; exact q H3 (e2.trans e3)⟩
end
end Mw
/-! len(set(text)) -/
namespace Mw
open PySem PySem.Spec PyProof.Rows L2 Evl
/-- the unlike signs, by their first places -/
def stepM (σ : List Nat) (c : Nat) : List Nat := if σ.any (· == c) then σ else σ ++ [c]
def metN (cs : List Nat) : List Nat := cs.foldl stepM []
def sg (c : Nat) : Str := ⟨#[c]⟩
theorem sg_inj {a b : Nat} (h : sg a = sg b) : a = b := by
  have q2 : [a] = [b] := congrArg (fun y : Str => y.cps.toList) h
  exact (List.cons.inj q2).1
def inM (σ : List Nat) (k : Str) : Bool := σ.any fun c => decide (sg c = k)
theorem inM_sg (σ : List Nat) (c : Nat) : inM σ (sg c) = σ.any (· == c) := by
  unfold inM
  rw [Bool.eq_iff_iff, List.any_eq_true, List.any_eq_true]
  exact ⟨fun ⟨x, hx, h⟩ => ⟨x, hx, by rw [sg_inj (of_decide_eq_true h)]; exact beq_self_eq_true _⟩, fun ⟨x, hx, h⟩ => ⟨x, hx, by rw [eq_of_beq h]; exact decide_eq_true rfl⟩⟩
theorem stepM_any (σ : List Nat) (c : Nat) (k : Str) : inM (stepM σ c) k = (inM σ k || decide (k = sg c)) := by
  unfold stepM
  by_cases h : σ.any (· == c) = true
  · rw [if_pos h]
    by_cases e : k = sg c
    · subst e
      rw [inM_sg, h]; rfl
    · rw [decide_eq_false e, Bool.or_false]
  · rw [if_neg h]
    unfold inM
    rw [List.any_append]
    congr 1
    show (decide (sg c = k) || false) = decide (k = sg c)
    rw [Bool.or_false]
    exact decide_eq_decide.mpr eq_comm
theorem stepM_length (σ : List Nat) (c : Nat) : (stepM σ c).length = if inM σ (sg c) then σ.length else σ.length + 1 := by
  rw [inM_sg]
  unfold stepM
  split <;> simp
theorem metN_take (cs : List Nat) {i : Nat} (h : i < cs.length) : metN (cs.take (i + 1)) = stepM (metN (cs.take i)) cs[i] := by
  unfold metN
  rw [List.take_succ_eq_append_getElem h, List.foldl_append]; rfl
theorem metN_le (cs : List Nat) : (metN cs).length ≤ cs.length := by
  have : ∀ (cs σ : List Nat), (cs.foldl stepM σ).length ≤ σ.length + cs.length := by
    intro cs
    induction cs with
    | nil => intro σ; exact Nat.le_refl _
    | cons c r ih =>
      intro σ
      have h1 := ih (stepM σ c)
      have h2 := stepM_length σ c
      rw [List.foldl_cons, List.length_cons]
      split at h2 <;> omega
  have h := this cs []
  unfold metN
  simpa using h
section
variable {prog : Program} {w : World} {A : Around} {R : Result → Shared → Prop} {I : Addr} {fp wr : List Addr} {G : Array GenState → Array GenState → Prop} {n : Nat} {P : Nat → Value → Prop} {St : Nat → Shared → Prop}
theorem loopTx (W : WalksS prog w A.in1 I fp wr G n P St) (S : Addr) (hSf : S ∉ fp) (cs : List Nat) (hsz : cs.length = n) (hb : n + 1 < scanBound)
    (hval : ∀ i v, P i v → ∃ t, v = .str (sg (cs.getD i 0)) t) :
    ∀ (k i : Nat) (s : Shared), n - i = k → i ≤ n → St i s →
      s.heap.SetOf (PySem.strKind prog w) S (inM (metN (cs.take i))) (metN (cs.take i)).length →
      (∀ s', Moved (S :: wr) G s s' → s'.heap.SetOf (PySem.strKind prog w) S (inM (metN (cs.take n))) (metN (cs.take n)).length → R (.ok (.ret .none)) s') →
      codeAny (model prog w) A (.builtin "set.update.loop" ⟨[.ref S, .ref I], []⟩) R s := by
  have hSw : S ∉ wr := fun h => hSf (W.sub _ h)
  have hsub : ∀ b ∈ wr, b ∈ S :: wr := fun b hb => List.mem_cons_of_mem _ hb
  intro k
  induction k with
  | zero =>
    intro i s hk hi hst hS hR
    have hin : i = n := by omega
    subst hin
    refine codeAny_builtin PyProof.Rows.F.entry_set_update_loop ?_
    rw [Around.under_plainId PyProof.Rows.F.plain_set_update_loop _]
    show wpAny _ A.in1 (pyNext (.ref I) >>= _) _ _ s
    refine wpAny_bind (W.done s _ _ hst fun s' hm => ?_)
    show wpAny _ A.in1 (ret Value.none) _ _ s'
    exact wpAny_pure (hR s' (hm.mono hsub) (by
      obtain ⟨o, es, ep, t, ho, rest⟩ := hS
      exact ⟨o, es, ep, t, hm.heap S _ hSw ho, rest⟩))
  | succ k ih =>
    intro i s hk hi hst hS hR
    have hlt : i < n := by omega
    refine codeAny_builtin PyProof.Rows.F.entry_set_update_loop ?_
    rw [Around.under_plainId PyProof.Rows.F.plain_set_update_loop _]
    show wpAny _ A.in1 (pyNext (.ref I) >>= _) _ _ s
    refine wpAny_bind (W.item i s _ _ hlt hst fun v s' hP hst' hm => ?_)
    obtain ⟨t, rfl⟩ := hval i v hP
    have hS' : s'.heap.SetOf (PySem.strKind prog w) S (inM (metN (cs.take i))) (metN (cs.take i)).length := by
      obtain ⟨o, es, ep, tb, ho, rest⟩ := hS
      exact ⟨o, es, ep, tb, hm.heap S _ hSw ho, rest⟩
    show wpAny _ A.in1 (holding [Value.str (sg (cs.getD i 0)) t] (setAdd S (.str (sg (cs.getD i 0)) t)) >>= _) _ _ s'
    refine wpAny_bind (wpAny_holding ?_)
    unfold setAdd
    refine wpAny_holding ?_
    refine wpAny_bind ((PySem.strKind prog w).pyHash (k := sg (cs.getD i 0)) (strKind_is _ _ _ _) ?_)
    have hroom : (metN (cs.take i)).length + 1 < scanBound := by
      have h1 := metN_le (cs.take i)
      rw [List.length_take] at h1
      omega
    refine wpAny_setAddHashed_of (knd := PySem.strKind prog w) (s := { s' with toks := s'.toks + 1 }) (strKind_is _ _ _ _) rfl hS' hroom fun h' hsb hS2 => ?_
    have hget : cs.getD i 0 = cs[i]'(by omega) := by
      rw [List.getD_eq_getElem?_getD, List.getElem?_eq_getElem (by omega)]; rfl
    have hSi : h'.SetOf (PySem.strKind prog w) S (inM (metN (cs.take (i + 1)))) (metN (cs.take (i + 1))).length := by
      rw [metN_take cs (by omega), ← hget]
      exact SetOf_congr hS2 (fun k' => (stepM_any _ _ k').symm) (stepM_length _ _).symm
    refine wpAny_pure ⟨plainId_quiet PyProof.Rows.F.plain_set_update_loop _, ih (i + 1) _ (by omega) hlt (W.frame _ s' _ _ hst' (Nat.le_succ _) fun b hb o e => ?_) hSi fun s'' hm'' hS'' => ?_⟩
    · rw [hsb.2 b (fun h : b = S => hSf (by rw [← h]; exact hb))]; exact e
    · refine hR s'' (Moved.trans W.gtrans ((hm.mono hsub).then_heap (Nat.le_succ _) fun b o hb e => ?_) hm'') hS''
      rw [hsb.2 b (fun h : b = S => hb (by rw [h]; exact List.mem_cons_self))]; exact e
end
section
variable {prog : Program} {w : World} {A : Around} {E : Value → Shared → Prop} {s : Shared}
set_option maxHeartbeats 6400000 in
theorem call_set_text {x : Str} {t : Tok} {Q : Value → Shared → Prop} (hh : A.handled = none) (hb : x.cps.size + 1 < scanBound)
    (h : ∀ (h' : Heap) (tk : Nat), h'.SetOf (PySem.strKind prog w) s.heap.objs.size (inM (metN x.cps.toList)) (metN x.cps.toList).length →
      (∀ b o, b < s.heap.objs.size → s.heap.get? b = some o → h'.get? b = some o) → Q (.ref s.heap.objs.size) { s with heap := h', toks := tk }) :
    wpAny (model prog w) A (call (.type "set") [.str x t]) Q E s := by
  obtain ⟨c, tl, hmro⟩ := PySem.F.called_set.mro
  have hmade := PySem.F.called_set.made
  have hsub := PySem.F.called_set.sub
  refine wpAny_call (codeAny_of_tree ?_)
  show wpAny _ _ (callAny (.type "set") _) _ _ _
  refine wpAny_pure ⟨Code.quiet_builtin _ (by decide +kernel), codeAny_builtin PySem.F.entry_type_call ?_⟩
  rw [Around.under_plain (weight_type_call_type "set" [.str x t] []) rfl]
  have h1 := PySem.F.called_set.notType
  have h2 := PySem.F.called_set.canCreate
  have hct := PySem.F.typeCall_set_1 (.str x t)
  repeat (any_goals (first | assumption | wp_step))
  refine codeAny_mono (code_set_new_1 (.str x t) (E := E) (Q₁ := fun obj s₁ => ∃ led : Bool, obj = .ref s.heap.objs.size ∧ s₁ = { s with heap := s.heap.push { cls := .type "set", dict := none, data := .set #[] 0 (.fresh 0 0 led) } }) fun led => ⟨led, rfl, rfl⟩) fun r s₁ hr => ?_
  cases r with
  | error e => exact hr
  | ok fl =>
    cases fl with
    | ret obj =>
      obtain ⟨led, rfl, rfl⟩ := hr
      have hS : (s.heap.push { cls := .type "set", dict := none, data := .set #[] 0 (.fresh 0 0 led) }).get? s.heap.objs.size = some { cls := .type "set", dict := none, data := .set #[] 0 (.fresh 0 0 led) } := Heap.get?_push_size _ rfl
      have hT : Shared.TypeIs { s with heap := s.heap.push { cls := .type "set", dict := none, data := .set #[] 0 (.fresh 0 0 led) } } (.ref s.heap.objs.size) "set" := ⟨_, hS, rfl⟩
      have hli := PySem.F.called_set.init.lookup
      have hbi := PySem.F.called_set.init.bind (.ref s.heap.objs.size)
      repeat (any_goals (first | assumption | wp_step))
      refine codeAny_mono (codeAny_call_builtin (R := wants (fun r s₂ => r = .none ∧ ∃ h' tk, s₂ = { s with heap := h', toks := tk } ∧
          h'.SetOf (PySem.strKind prog w) s.heap.objs.size (inM (metN x.cps.toList)) (metN x.cps.toList).length ∧
          (∀ b o, b < s.heap.objs.size → s.heap.get? b = some o → h'.get? b = some o)) E) PySem.F.called_set.init.plain PySem.F.entry_set_init (check_set_init_1 hT ?_)) fun r₂ s₂ hr₂ => ?_
      · have hsls := PySem.F.sub_str_set
        have hslf := PySem.F.sub_str_frozenset
        unfold Builtin.«set.__init__» noKeywords Builtin.Frozenset.updateFrom
        generalize hPI : pyIter = PI
        wp_walk
        subst hPI
        refine wpAny_pyIter_str fun o St hW hSt => ?_
        refine wpAny_bind (wpAny_runValue ?_)
        have hh3 : A.in1.in1.in1.handled = none := by simp [hh]
        have hsz0 : (s.heap.push { cls := .type "set", dict := none, data := .set #[] 0 (.fresh 0 0 led) }).objs.size = s.heap.objs.size + 1 := Heap.size_push _ _
        have hSf : s.heap.objs.size ∉ [(s.heap.push { cls := .type "set", dict := none, data := .set #[] 0 (.fresh 0 0 led) }).objs.size] := by
          rw [hsz0]; simp only [List.mem_singleton]
          exact Nat.ne_of_lt (Nat.lt_succ_self _)
        have hlen : x.cps.toList.length = x.cps.size := Array.length_toList
        have hval : ∀ (i : Nat) (v : Value), SignAt x i v → ∃ t, v = .str (sg (x.cps.toList.getD i 0)) t := fun i v hv => by
          obtain ⟨c, u, hc, rfl⟩ := hv
          refine ⟨u, ?_⟩
          rw [List.getD_eq_getElem?_getD, Array.getElem?_toList, hc]; rfl
        refine loopTx ((hW _ hh3).toS) s.heap.objs.size hSf x.cps.toList hlen hb hval (x.cps.size - 0) 0 _ (by omega) (Nat.zero_le _) hSt ?hS0 ?hR
        case hS0 =>
          have hget : ((s.heap.push { cls := .type "set", dict := none, data := .set #[] 0 (.fresh 0 0 led) }).push o).get? s.heap.objs.size
              = some { cls := .type "set", dict := none, data := .set #[] 0 (.fresh 0 0 led) } := Heap.get?_push_of_some _ hS
          exact PyProof.Rows.SetOf_congr ((PyProof.Rows.setObjOf_fresh (knd := PySem.strKind prog w) led).setOf hget (by unfold scanBound; omega)) (fun _ => rfl) rfl
        case hR =>
          intro s' hm hS'
          rw [← hlen, List.take_length] at hS'
          obtain ⟨h', g', d', tk', os'⟩ := s'
          have eg : g' = s.gens := hm.gens
          have ed : d' = s.drawn := hm.drawn
          have eo : os' = s.os := hm.os
          subst eg; subst ed; subst eo
          show wpAny _ _ _ _ _ _
          refine wpAny_pure ?_
          show wpAny _ _ (ret Value.none) _ _ _
          refine wpAny_pure ⟨rfl, h', tk', rfl, hS', fun b ob hb e => ?_⟩
          have hb1 : b ≠ s.heap.objs.size := Nat.ne_of_lt hb
          have hb2 : b ≠ (s.heap.push { cls := .type "set", dict := none, data := .set #[] 0 (.fresh 0 0 led) }).objs.size := by
            rw [hsz0]; exact Nat.ne_of_lt (Nat.lt_succ_of_lt hb)
          exact hm.heap b ob (by simp only [List.mem_cons, List.mem_singleton, List.not_mem_nil, or_false, not_or]; exact ⟨hb1, hb2⟩) (Heap.get?_push_of_some _ (Heap.get?_push_of_some _ e))
      · cases r₂ with
        | error e => exact hr₂
        | ok fl₂ =>
          cases fl₂ with
          | ret r =>
            obtain ⟨rfl, h', tk, rfl, hS', hk'⟩ := hr₂
            repeat (any_goals (first | assumption | wp_step))
            exact h _ _ hS' hk'
          | _ => exact hr₂.elim
    | _ => exact hr.elim
end
end Mw
/-! len(set(text)): the rule -/
namespace Mw
open PySem PySem.Spec PyProof.Rows L2 Evl
def tLenSetT (ta : TE) : TE := fun σ H Q => ta σ H fun x H1 => ∃ l : Tx, x = tS l ∧ l.length ≤ 1000 ∧ Q (.int ((metN l).length : Nat)) H1
theorem pe_lenSetT {X : Cx} {a : Expr} {ta : TE} {p p2 q pos : Pos} (hg : Gl X "len") (hm : X.mg "len" = none) (hg2 : Gl X "set") (hm2 : X.mg "set" = none) (ha : PE X a ta) (hc : X.calm = true := by rfl)
    (na : starEach [a] X.env = (false, eval a X.env) :: starEach [] X.env := by rfl) : PE X (.Call (.Name "len" p) [.Call (.Name "set" p2) [a] [] q] [] pos) (tLenSetT ta) := by
  refine ⟨fun pins s σ H Q I h => ?_⟩
  refine Call_ (ld_blt I hg hm boot_len ?_)
  refine PyProof.Rows.callWith_builtin1 (PyProof.Rows.args_cons ?_ rfl) rfl rfl
  refine Call_ (ld_blt I hg2 hm2 boot_set ?_)
  refine PyProof.Rows.callWith_type1 (PyProof.Rows.args_cons (thn (ha.run pins s σ H _ I h) fun v s1 ⟨x, H1, I1, r1, q1⟩ => PyProof.Rows.args_nil ?_) na) na rfl
  obtain ⟨l, rfl, hl, q1⟩ := q1
  obtain ⟨t, rfl⟩ := (show ∃ t, v = Value.str (T l) t from r1)
  have hsz : (T l).cps.size = l.length := by simp [T]
  refine call_set_text (I1.ok.hd hc) (by rw [hsz]; unfold scanBound; omega) fun h' tk hS hk => ?_
  refine PyProof.Rows.args_nil ?_
  rw [T_cps] at hS
  have hle := metN_le l
  obtain ⟨o, es, ep, tb, ho, hex, hd, _, _, _, hf, hn⟩ := hS
  have I2 : Inv X pins σ H1 { s1 with heap := h', toks := tk } := I1.kept fun b o e => hk b o (Heap.lt_size e) e
  exact call_len_set ho hex hd hf (by rw [hn] <;> omega) ⟨.int ((metN l).length : Nat), H1, I2.tok _, ⟨_, by rw [hn]⟩, q1⟩
theorem e_lenSetT {σ : L2.St} {H : Hp} {te : TE} {l : Tx} (h : Ev te σ H (tS l)) (hl : l.length ≤ 1000) : Ev (tLenSetT te) σ H (.int ((metN l).length : Nat)) := fun H1 e Q q =>
  h H1 e _ fun H2 e2 => ⟨l, rfl, hl, q H2 e2⟩
end Mw
/-! loops over new lists, calls within a try, keys of dicts, sorted pairs, lists that shrink -/
namespace Mw
open PySem PySem.Spec PyProof.Rows L2 Evl

section
variable {K : PySem.W.Frag} {S : List Addr} {H0 H H1 : Hp} {L : List (Addr × HO)} {σ : L2.St} {ta : TA} {te tl tb to ti tx : TE} {t : TT} {D : Ends} {tu tz : TS} {v x y z : V} {vs : List V}
/-- over a new list, which stays at the ledger's head -/
theorem a_forN2 {α : Type} {f : α → V} {ns : List α} {j : Nat} (Iv : Addr → List α → L2.St → Hp → Prop) (am : Am S H0 L H) (h : EvL te σ H (ns.map f)) (h0 : ∀ p H, Am S H0 ((p, .lst (ns.map f)) :: L) H → Iv p [] σ H)
    (hP : ∀ p pre σ' H', Iv p pre σ' H' → H' p = some (.lst (ns.map f)))
    (hs : ∀ p pre n post σ' H', ns = pre ++ n :: post → Iv p pre σ' H' → tu { D with nx := Iv p (pre ++ [n]), ct := Iv p (pre ++ [n]), bk := D.nx } (σ'.set j (some (f n))) H')
    (hd : ∀ p σ' H', Iv p ns σ' H' → D.nx σ' H') : tFor (iList K te) (gName j) tu D σ H :=
  h H (Ex.refl H) _ fun p H2 hp e2 h2 => by
    have z := a_for (σ := σ) (H := H2) (D := D) (j := j) (tu := tu) (wi := iList K (tC (.ref p))) (f := f) (ns := ns) (Iv p) (am.add hp e2 h2) (wk_list (K := K) ev_c (sq_of h2)) (h0 p) (fun pre σ' H' hi => sq_of (hP _ _ _ _ hi)) (hs p) (hd p)
    exact z
theorem aq_forN2 {α : Type} {f : α → V} {ns : List α} {j : Nat} (Iv : Addr → List α → L2.St → Hp → Prop) (am : Am S H0 L H) (h : EvL te σ H (ns.map f)) (h0 : ∀ p H, Am S H0 ((p, .lst (ns.map f)) :: L) H → Iv p [] σ H)
    (hP : ∀ p pre σ' H', Iv p pre σ' H' → H' p = some (.lst (ns.map f)))
    (hs : ∀ p pre n post σ' H', ns = pre ++ n :: post → Iv p pre σ' H' → tu { D with nx := Iv p (pre ++ [n]), ct := Iv p (pre ++ [n]), bk := tz D } (σ'.set j (some (f n))) H')
    (hd : ∀ p σ' H', Iv p ns σ' H' → tz D σ' H') : tSeq (tFor (iList K te) (gName j) tu) tz D σ H := a_forN2 (D := { D with nx := tz D }) Iv am h h0 hP hs hd
/-- a call within a try -/
theorem e_callSVX {R : List V → Hp → V → Prop} {B : List V → Hp → Addr → Prop} {E : L2.St → XK} (h : EvA ta σ H vs) (hR : ∀ H1, Ex H H1 → R vs H1 z) : Ev (tCallS (spVX R B) E ta) σ H z := fun H1 e Q q =>
  h H1 e _ fun H2 e2 => .inl ⟨z, hR H2 (e.trans e2), fun H3 e3 => q H3 (e2.trans e3)⟩
theorem aq_tryA {C ME : Addr} {sp : Sp} {i j l : Nat} (am : Am S H0 L H) (h : EvA ta σ H vs) (hs : SpX sp vs H C) (xm : PySem.W.exmOne K (.ref C) (.ref ME) = some true)
    (k : ∀ a H, Am S H0 ((a, ExK C a) :: L) H → tz D ((σ.set j (some (.ref a))).set i none) H) : tSeq (tTryK K ME i j fun W => tAsg (tCallS sp (WE W) ta) (gName l)) tz D σ H :=
  h H (Ex.refl H) _ fun H1 e1 => hs H1 e1 _ _ fun H2 e2 => ⟨C, rfl, rfl, xm, fun a ha => k a _ ((am.ex (e1.trans e2)).new1 ha)⟩

/-! ### the keys of a dict -/
theorem wk_frz {d : Addr} {o : Obj} {kvs : List (Key × V)} (h : H d = some (.frz o (.dK kvs))) {te : TE} (he : Ev te σ H (.ref d)) : Wk (iKeys te) σ H (fun H => H d = some (.frz o (.dK kvs))) (kvs.map fun e => kV e.1) := fun H1 e R q =>
  he H1 e _ fun H2 e2 => ⟨d, o, rfl, .inl ⟨kvs, (e.trans e2) _ _ h, q _ H2 e2 fun H' h' => ⟨fun i x hx => by
    rw [List.getElem?_map] at hx
    cases hi : kvs[i]? with
    | none => rw [hi] at hx; cases hx
    | some p =>
      rw [hi] at hx
      refine ⟨⟨h', (List.getElem?_eq_some_iff.mp hi).1⟩, fun y H'' hy => ⟨hy.1, ?_⟩⟩
      obtain ⟨k, w, e1, e2⟩ := hy.2
      rw [hi] at e1
      cases e1
      exact e2.trans (Option.some.inj hx), h', by rw [List.length_map]; exact Nat.le_refl _⟩⟩⟩
/-- the expression looks at a dict that is locked meanwhile -/
theorem el_lock {d : Addr} {kvs : List (Key × V)} {xs : List V} (h : H d = some (.dK kvs)) (he : ∀ H1, Ex H H1 → ∀ o, EvL te σ (upd H1 d (.frz o (.dK kvs))) xs) : EvL (tLockE te) σ H xs := fun H1 e Q q => by
  have hd := e _ _ h
  refine ⟨d, .dK kvs, hd, trivial, fun od => he H1 e od _ (Ex.refl _) _ fun p H2 hp e2 h2 => ⟨e2 _ _ upd_same, ?_⟩⟩
  have hne : p ≠ d := fun z => by rw [z, upd_same] at hp; cases hp
  rw [upd_ne hne] at hp
  refine q p _ hp (fun a o ha => ?_) (by rw [upd_ne hne]; exact h2)
  by_cases c : a = d
  · subst c; rw [hd] at ha; cases ha; exact upd_same
  · rw [upd_ne c]
    exact e2 a o (by rw [upd_ne c]; exact ha)
end

/-! ### for x in a new dict -/
def iKeysN (td : TE) : TI := fun σ H R => td σ H fun x H1 => ∃ d kvs, x = .ref d ∧ H1 d = some (.dK kvs) ∧ ∀ o, R (Itk d o kvs) (upd H1 d (.frz o (.dK kvs)))
theorem pi_keysN {X : Cx} {tg e : Expr} {td : TE} (he : PE X e td) : PI X tg e (iKeysN td) := by
  refine ⟨fun pins s σ H R I h => ?_⟩
  refine thn (he.run pins s σ H _ I h) fun u s1 ⟨x, H1, I1, rx, d, kvs, ex, hd0, q⟩ => ?_
  subst ex
  obtain rfl : u = Value.ref d := rx
  obtain ⟨o, I2⟩ := I1.lock hd0 trivial
  have hd : upd H1 d (.frz o (.dK kvs)) d = some (.frz o (.dK kvs)) := upd_same
  obtain ⟨hs, hgd, hx, es, ep, vs, hdt, hsz, kv, hm⟩ := I2.frzK hd
  refine iter_keys hs hgd hx hdt (pi_one (tk := s1.toks) I2 _ (turn_keys _ hdt) ⟨_, Heap.get?_push_size _ rfl, rfl, ?_⟩ (q o))
  rw [hsz] <;> rfl
section
variable {K : PySem.W.Frag} {S : List Addr} {H0 H H1 : Hp} {L : List (Addr × HO)} {σ : L2.St} {te tl td : TE} {t : TT} {D : Ends} {tu tz : TS}
/-- a comprehension over the keys of a new dict -/
theorem el_lcK {α : Type} {f : α → V} {ns : List α} {kvs : List (Key × V)} {j : Nat} {vs : List Nat} (b : α → Bool) (v : α → V) (h : EvN td σ H (.dK kvs)) (hk : (kvs.map fun e => kV e.1) = ns.map f) (hz : ns.length ≤ 100000)
    (hv : ∀ x, wipe ((wipe σ vs).set j (some x)) vs = wipe σ vs)
    (ht : ∀ n ∈ ns, EvT t ((wipe σ vs).set j (some (f n))) H (b n)) (he : ∀ n ∈ ns, b n = true → Ev te ((wipe σ vs).set j (some (f n))) H (v n)) :
    EvL (tLc (iKeysN td) (gName j) t te vs) σ H ((ns.filter b).map v) := fun H1 e Q q =>
  h H1 e _ fun d H2 hd e2 h2 => ⟨d, kvs, rfl, h2, fun o => by
    have e3 : Ex H1 (upd H2 d (.frz o (.dK kvs))) := e2.mut hd
    have z := el_lc (σ := σ) (H := upd H2 d (.frz o (.dK kvs))) (wi := iKeys (tC (.ref d))) (f := f) (ns := ns) (j := j) (vs := vs) (t := t) (te := te) b v
      (by rw [← hk]; exact wk_frz upd_same ev_c) (fun _ _ ex s => ex _ _ s) upd_same hz hv (fun n hn => (ht n hn).mono (e.trans e3)) (fun n hn hb => (he n hn hb).mono (e.trans e3))
    have z2 := z _ (Ex.refl _) Q fun p H3 hp e4 h3 => q p H3 (fresh_back e3 hp) (e3.trans e4) h3
    obtain ⟨d', o', e5, z3⟩ := z2
    cases e5
    rcases z3 with ⟨kvs', hk', z3⟩ | ⟨kvs', hk', _⟩
    · rw [upd_same] at hk'
      cases hk'
      exact z3
    · rw [upd_same] at hk'; cases hk'⟩
end
end Mw
namespace Mw
open PySem PySem.Spec PyProof.Rows L2 Evl
/-! # mathematics: arms -/
/-- how far a text reads alike from a places ahead of .. and on from b -/
def ext (l : Tx) : Nat → Nat → Nat
  | 0, _ => 0
  | a + 1, b => if b < l.length ∧ l.getD a 0 = l.getD b 0 then ext l a (b + 1) + 1 else 0
def armN (l : Tx) (m : Nat) : Nat := ext l ((m + 1) / 2) (m / 2 + 1)
/-- the step-th pair about a middle is there and alike -/
def okA (l : Tx) (m s : Nat) : Prop := s < (m + 1) / 2 ∧ m / 2 + 1 + s < l.length ∧ l.getD ((m + 1) / 2 - 1 - s) 0 = l.getD (m / 2 + 1 + s) 0
theorem ext_lt (l : Tx) : ∀ (a b s : Nat), s < ext l a b → s < a ∧ b + s < l.length ∧ l.getD (a - 1 - s) 0 = l.getD (b + s) 0
  | 0, b, s, h => by simp [ext] at h
  | a + 1, b, s, h => by
    rw [ext] at h
    by_cases c : b < l.length ∧ l.getD a 0 = l.getD b 0
    · rw [if_pos c] at h
      cases s with
      | zero => exact ⟨Nat.succ_pos _, c.1, c.2⟩
      | succ s =>
        obtain ⟨h1, h2, h3⟩ := ext_lt l a (b + 1) s (by omega)
        refine ⟨by omega, by omega, ?_⟩
        rw [show a + 1 - 1 - (s + 1) = a - 1 - s by omega, show b + (s + 1) = b + 1 + s by omega]
        exact h3
    · rw [if_neg c] at h; omega
theorem ext_not (l : Tx) : ∀ (a b : Nat), ¬ (ext l a b < a ∧ b + ext l a b < l.length ∧ l.getD (a - 1 - ext l a b) 0 = l.getD (b + ext l a b) 0)
  | 0, b => fun h => by simp [ext] at h
  | a + 1, b => by
    rw [ext]
    by_cases c : b < l.length ∧ l.getD a 0 = l.getD b 0
    · rw [if_pos c]
      intro h
      refine ext_not l a (b + 1) ⟨by omega, by omega, ?_⟩
      rw [show a - 1 - ext l a (b + 1) = a + 1 - 1 - (ext l a (b + 1) + 1) by omega, show b + 1 + ext l a (b + 1) = b + (ext l a (b + 1) + 1) by omega]
      exact h.2.2
    · rw [if_neg c]
      intro h
      exact c ⟨by omega, by simpa using h.2.2⟩
theorem arm_lt {l : Tx} {m s : Nat} (h : s < armN l m) : okA l m s := ext_lt l _ _ s h
theorem arm_not (l : Tx) (m : Nat) : ¬ okA l m (armN l m) := ext_not l _ _
theorem arm_eq {l : Tx} {m n : Nat} (h : ∀ s, s < n → okA l m s) (hn : ¬ okA l m n) : armN l m = n := by
  rcases Nat.lt_trichotomy (armN l m) n with c | c | c
  · exact absurd (h _ c) (arm_not l m)
  · exact c
  · exact absurd (arm_lt c) hn
theorem arm_le (l : Tx) (m : Nat) : armN l m ≤ (m + 1) / 2 := by
  rcases Nat.eq_zero_or_pos (armN l m) with c | c
  · omega
  · have := (arm_lt (l := l) (m := m) (s := armN l m - 1) (by omega)).1
    omega
theorem arm_in {l : Tx} {m : Nat} (hm : m / 2 < l.length) : m / 2 + armN l m < l.length := by
  rcases Nat.eq_zero_or_pos (armN l m) with c | c
  · omega
  · have := (arm_lt (l := l) (m := m) (s := armN l m - 1) (by omega)).2.1
    omega
/-- what lies within a reach is alike, place by place -/
theorem arm_pal {l : Tx} {a p q : Nat} (hpq : p + q = a) (hp : p ≤ a / 2 + armN l a) (hq : q ≤ a / 2 + armN l a) : l.getD p 0 = l.getD q 0 := by
  have key : ∀ p q, p + q = a → p < q → q ≤ a / 2 + armN l a → l.getD p 0 = l.getD q 0 := fun p q e lt le => by
    obtain ⟨h1, h2, h3⟩ := arm_lt (l := l) (m := a) (s := q - (a / 2 + 1)) (by omega)
    rw [show (a + 1) / 2 - 1 - (q - (a / 2 + 1)) = p by omega, show a / 2 + 1 + (q - (a / 2 + 1)) = q by omega] at h3
    exact h3
  rcases Nat.lt_trichotomy p q with c | c | c
  · exact key p q hpq c hq
  · rw [c]
  · exact (key q p (by omega) c hp).symm
/-- what lies within a longer reach is told by its mirror -/
theorem arm_mirror {l : Tx} {a m o : Nat} (ham : a ≤ m) (ho : m + o = 2 * a) (hlen : a / 2 + armN l a < l.length) (h : (m + 1) / 2 + armN l o < a / 2 + armN l a) : armN l m = armN l o := by
  have hle := arm_le l a
  refine arm_eq (fun s hs => ?_) fun hok => arm_not l o ?_
  · obtain ⟨h1, h2, h3⟩ := arm_lt hs
    refine ⟨?_, ?_, ?_⟩
    · omega
    · omega
    · have e1 := arm_pal (l := l) (a := a) (p := (m + 1) / 2 - 1 - s) (q := a - ((m + 1) / 2 - 1 - s)) (by omega) (by omega) (by omega)
      have e2 := arm_pal (l := l) (a := a) (p := m / 2 + 1 + s) (q := a - (m / 2 + 1 + s)) (by omega) (by omega) (by omega)
      rw [e1, e2]
      rw [show (o + 1) / 2 - 1 - s = a - (m / 2 + 1 + s) by omega, show o / 2 + 1 + s = a - ((m + 1) / 2 - 1 - s) by omega] at h3
      exact h3.symm
  · obtain ⟨h1, h2, h3⟩ := hok
    refine ⟨?_, ?_, ?_⟩
    · omega
    · omega
    · have e1 := arm_pal (l := l) (a := a) (p := (m + 1) / 2 - 1 - armN l o) (q := a - ((m + 1) / 2 - 1 - armN l o)) (by omega) (by omega) (by omega)
      have e2 := arm_pal (l := l) (a := a) (p := m / 2 + 1 + armN l o) (q := a - (m / 2 + 1 + armN l o)) (by omega) (by omega) (by omega)
      rw [show (o + 1) / 2 - 1 - armN l o = a - (m / 2 + 1 + armN l o) by omega, show o / 2 + 1 + armN l o = a - ((m + 1) / 2 - 1 - armN l o) by omega]
      rw [← e1, ← e2]
      exact h3.symm
end Mw
namespace Mw
open PySem PySem.Spec PyProof.Rows L2 Evl
/-! # mathematics: mirror words at a word's end -/
def pal (l : Tx) : Bool := decide (l = l.reverse)
/-- all mirror words at the end, the longest first -/
def endsT : Tx → List Tx
  | [] => []
  | c :: r => if pal (c :: r) then (c :: r) :: endsT r else endsT r
def tailF (l : Tx) : Tx := (endsT l.tail).headD []
theorem endsT_head : ∀ r : Tx, endsT ((endsT r).headD []) = endsT r
  | [] => rfl
  | c :: r => by
    rw [endsT]
    by_cases h : pal (c :: r) = true
    · rw [if_pos h, List.headD_cons, endsT, if_pos h]
    · rw [if_neg h]
      exact endsT_head r
theorem endsT_tail (l : Tx) : endsT (tailF l) = endsT l.tail := endsT_head l.tail
theorem endsT_pal {l : Tx} (h : pal l = true) (h0 : l ≠ []) : endsT l = l :: endsT l.tail := by
  cases l with
  | nil => exact absurd rfl h0
  | cons c r => rw [endsT, if_pos h]; rfl
theorem mem_endsT : ∀ {l w : Tx}, w ∈ endsT l → pal w = true ∧ w ≠ [] ∧ ∃ k, w = l.drop k
  | [], w, h => by cases h
  | c :: r, w, h => by
    rw [endsT] at h
    by_cases hp : pal (c :: r) = true
    · rw [if_pos hp] at h
      rcases List.mem_cons.mp h with rfl | h
      · exact ⟨hp, by simp, 0, rfl⟩
      · obtain ⟨a, b, k, e⟩ := mem_endsT h
        exact ⟨a, b, k + 1, e⟩
    · rw [if_neg hp] at h
      obtain ⟨a, b, k, e⟩ := mem_endsT h
      exact ⟨a, b, k + 1, e⟩
theorem tailF_pal (l : Tx) : tailF l = [] ∨ pal (tailF l) = true := by
  unfold tailF
  cases h : endsT l.tail with
  | nil => exact .inl rfl
  | cons w r => exact .inr (mem_endsT (l := l.tail) (w := w) (by rw [h]; exact List.mem_cons_self ..)).1
theorem len_endsT : ∀ l : Tx, (endsT l).length ≤ l.length
  | [] => Nat.le_refl _
  | c :: r => by
    have := len_endsT r
    rw [endsT]
    split
    · rw [List.length_cons, List.length_cons]; omega
    · rw [List.length_cons]; omega
theorem tailF_lt {l : Tx} (h : l ≠ []) : (tailF l).length < l.length := by
  cases l with
  | nil => exact absurd rfl h
  | cons c r =>
    unfold tailF
    show ((endsT r).headD []).length < r.length + 1
    cases e : endsT r with
    | nil => exact Nat.succ_pos _
    | cons w s =>
      obtain ⟨_, _, k, hk⟩ := mem_endsT (l := r) (w := w) (by rw [e]; exact List.mem_cons_self ..)
      rw [List.headD_cons, hk, List.length_drop]
      omega
/-- place by place -/
theorem endsT_range : ∀ l : Tx, ((List.range l.length).filter fun i => pal (l.drop i)).map (fun i => l.drop i) = endsT l
  | [] => rfl
  | c :: r => by
    rw [endsT, List.length_cons, List.range_succ_eq_map, ← endsT_range r]
    have e : ((List.range r.length).map Nat.succ).filter (fun i => pal ((c :: r).drop i)) = ((List.range r.length).filter fun i => pal (r.drop i)).map Nat.succ := by
      rw [List.filter_map]; rfl
    by_cases h : pal (c :: r) = true
    · rw [if_pos h, List.filter_cons_of_pos (by exact h), e, List.map_cons, List.map_map]; rfl
    · rw [if_neg h, List.filter_cons_of_neg (by exact h), e, List.map_map]; rfl
theorem endsT_skip {l : Tx} {i : Nat} (h : pal (l.drop i) = false) (hi : i < l.length) : endsT (l.drop i) = endsT (l.drop (i + 1)) := by
  rw [List.drop_eq_getElem_cons hi] at h ⊢
  rw [endsT, h, if_neg Bool.false_ne_true]
theorem endsT_hit {l : Tx} {i : Nat} (h : pal (l.drop i) = true) (hi : i < l.length) : (endsT (l.drop i)).headD [] = l.drop i := by
  rw [List.drop_eq_getElem_cons hi] at h ⊢
  rw [endsT, if_pos h, List.headD_cons]
end Mw
namespace Mw
open PySem PySem.Spec PyProof.Rows L2 Evl

/-! # mathematics: a text parted into as few mirror words as can be -/
def sub (l : Tx) (p e : Nat) : Tx := (l.drop p).take (e - p)
theorem sub_len {l : Tx} {p e : Nat} (h : e ≤ l.length) : (sub l p e).length = e - p := by
  unfold sub
  rw [List.length_take, List.length_drop]; omega
theorem getD_sub {l : Tx} {p e i : Nat} (hi : i < e - p) : (sub l p e).getD i 0 = l.getD (p + i) 0 := by
  unfold sub
  rw [List.getD_eq_getElem?_getD, List.getD_eq_getElem?_getD, List.getElem?_take_of_lt hi, List.getElem?_drop]
theorem ext_getD {a b : Tx} (hl : a.length = b.length) (h : ∀ i, i < a.length → a.getD i 0 = b.getD i 0) : a = b := by
  refine List.ext_getElem hl fun i h1 h2 => ?_
  have := h i h1
  rwa [List.getD_eq_getElem?_getD, List.getD_eq_getElem?_getD, List.getElem?_eq_getElem h1, List.getElem?_eq_getElem h2] at this
theorem pal_iff {l : Tx} : pal l = true ↔ ∀ i, i < l.length → l.getD i 0 = l.getD (l.length - 1 - i) 0 := by
  have key : ∀ i, i < l.length → l.reverse.getD i 0 = l.getD (l.length - 1 - i) 0 := fun i hi => by
    rw [List.getD_eq_getElem?_getD, List.getD_eq_getElem?_getD, List.getElem?_reverse hi]
  unfold pal
  rw [decide_eq_true_eq]
  constructor
  · intro h i hi
    rw [← key i hi, ← h]
  · intro h
    exact ext_getD (by rw [List.length_reverse]) fun i hi => by rw [key i hi]; exact h i hi
theorem pal_sub {l : Tx} {p e : Nat} (he : e ≤ l.length) : pal (sub l p e) = true ↔ ∀ i, p ≤ i → i < e → l.getD i 0 = l.getD (p + e - 1 - i) 0 := by
  rw [pal_iff, sub_len he]
  constructor
  · intro h i h1 h2
    have z := h (i - p) (by omega)
    rw [getD_sub (by omega), getD_sub (by omega)] at z
    rw [show p + (i - p) = i by omega, show p + (e - p - 1 - (i - p)) = p + e - 1 - i by omega] at z
    exact z
  · intro h i hi
    rw [getD_sub hi, getD_sub (by omega)]
    have z := h (p + i) (by omega) (by omega)
    rw [show p + e - 1 - (p + i) = p + (e - p - 1 - i) by omega] at z
    exact z
/-- a mirror word within a text is told by the arm of its middle -/
theorem reach_arm {l : Tx} {p e : Nat} (hp : p < e) (he : e ≤ l.length) : pal (sub l p e) = true ↔ e - 1 ≤ (p + e - 1) / 2 + armN l (p + e - 1) := by
  rw [pal_sub he]
  constructor
  · intro h
    rcases Nat.lt_or_ge ((p + e - 1) / 2 + armN l (p + e - 1)) (e - 1) with c | c
    · refine absurd ?_ (arm_not l (p + e - 1))
      refine ⟨by omega, by omega, ?_⟩
      have z := h ((p + e - 1) / 2 + 1 + armN l (p + e - 1)) (by omega) (by omega)
      rw [z]
      congr 1
      omega
    · exact c
  · intro h i h1 h2
    exact arm_pal (a := p + e - 1) (by omega) (by omega) (by omega)
theorem reach_ms {l : Tx} {p : Nat} {e : Nat} : (p < e ∧ e ≤ l.length ∧ pal (sub l p e) = true) ↔ ∃ m s : Nat, m < 2 * l.length - 1 ∧ s ≤ armN l m ∧ s ≤ (m + 1) / 2 ∧ (m + 1) / 2 - s = p ∧ e = m / 2 + s + 1 ∧ p < m / 2 + s + 1 := by
  constructor
  · rintro ⟨h1, h2, h3⟩
    have z := (reach_arm h1 h2).mp h3
    exact ⟨p + e - 1, e - 1 - (p + e - 1) / 2, by omega, by omega, by omega, by omega, by omega, by omega⟩
  · rintro ⟨m, s, h1, h2, h3, h4, h5, h6⟩
    have hin := arm_in (l := l) (m := m) (by omega)
    have hem : p + e - 1 = m := by omega
    refine ⟨by omega, by omega, (reach_arm (by omega) (by omega)).mpr ?_⟩
    rw [hem]
    omega
theorem pal_one {l : Tx} {p : Nat} (h : p < l.length) : pal (sub l p (p + 1)) = true :=
  (pal_sub h).mpr fun i h1 h2 => by rw [show p + (p + 1) - 1 - i = i by omega]
/-- the law's choice -/
def stepF (l : Tx) (p : Nat) (best : List (List Tx)) (found : Option (List Tx)) (e : Nat) : Option (List Tx) :=
  if pal (sub l p e) && (found.isNone || decide (1 + (best.getD (l.length - e) []).length < (found.getD []).length)) then some (sub l p e :: best.getD (l.length - e) []) else found
def rowN (l : Tx) (p : Nat) (best : List (List Tx)) (k : Nat) : Option (List Tx) := ((List.range k).map fun i => l.length - i).foldl (stepF l p best) none
theorem rowN_succ (l : Tx) (p : Nat) (best : List (List Tx)) (k : Nat) : rowN l p best (k + 1) = stepF l p best (rowN l p best k) (l.length - k) := by
  unfold rowN
  rw [List.range_succ, List.map_append, List.foldl_append]; rfl
def bests (l : Tx) : Nat → List (List Tx)
  | 0 => [[]]
  | k + 1 => bests l k ++ [(rowN l (l.length - (k + 1)) (bests l k) (k + 1)).getD []]
theorem len_bests (l : Tx) : ∀ k, (bests l k).length = k + 1
  | 0 => rfl
  | k + 1 => by rw [bests, List.length_append, len_bests l k]; rfl
def bst (l : Tx) (i : Nat) : List Tx := (bests l i).getD i []
theorem bests_at (l : Tx) {i k : Nat} (h : i ≤ k) : (bests l k).getD i [] = bst l i := by
  induction k with
  | zero => rw [show i = 0 by omega]; rfl
  | succ k ih =>
    by_cases c : i ≤ k
    · rw [← ih c, bests, List.getD_eq_getElem?_getD, List.getD_eq_getElem?_getD, List.getElem?_append_left (by rw [len_bests]; omega)]
    · rw [show i = k + 1 by omega]; rfl
theorem bst_succ (l : Tx) (k : Nat) : bst l (k + 1) = (rowN l (l.length - (k + 1)) (bests l k) (k + 1)).getD [] := by
  unfold bst
  rw [bests, List.getD_eq_getElem?_getD, List.getElem?_append_right (by rw [len_bests]; omega), len_bests, Nat.sub_self]
  rfl
/-- what is chosen out of the ends that are looked at -/
theorem row_spec (l : Tx) (p : Nat) (best : List (List Tx)) (k : Nat) : (rowN l p best k = none ∧ ∀ i, i < k → pal (sub l p (l.length - i)) = false) ∨
    ∃ i, i < k ∧ pal (sub l p (l.length - i)) = true ∧ rowN l p best k = some (sub l p (l.length - i) :: best.getD (l.length - (l.length - i)) []) ∧
      ∀ i', i' < k → pal (sub l p (l.length - i')) = true → (best.getD (l.length - (l.length - i)) []).length ≤ (best.getD (l.length - (l.length - i')) []).length ∧ (i' < i → (best.getD (l.length - (l.length - i)) []).length < (best.getD (l.length - (l.length - i')) []).length) := by
  induction k with
  | zero => exact .inl ⟨rfl, fun i h => by omega⟩
  | succ k ih =>
    rw [rowN_succ]
    unfold stepF
    by_cases hp : pal (sub l p (l.length - k)) = true
    · rcases ih with ⟨h1, h2⟩ | ⟨i, h1, h2, h3, h4⟩
      · rw [hp, h1]
        refine .inr ⟨k, by omega, hp, rfl, fun i' hi' hp' => ?_⟩
        rcases Nat.lt_or_ge i' k with c | c
        · rw [h2 i' c] at hp'; cases hp'
        · rw [show i' = k by omega]
          exact ⟨Nat.le_refl _, fun z => by omega⟩
      · rw [hp, h3, Bool.true_and]
        show _ ∨ _
        by_cases c : 1 + (best.getD (l.length - (l.length - k)) []).length < (sub l p (l.length - i) :: best.getD (l.length - (l.length - i)) []).length
        · rw [if_pos (by show (false || decide _) = true; rw [Bool.false_or]; exact decide_eq_true c)]
          rw [List.length_cons] at c
          refine .inr ⟨k, by omega, hp, rfl, fun i' hi' hp' => ?_⟩
          rcases Nat.lt_or_ge i' k with c2 | c2
          · have := (h4 i' c2 hp').1
            exact ⟨by omega, fun _ => by omega⟩
          · rw [show i' = k by omega]
            exact ⟨Nat.le_refl _, fun z => by omega⟩
        · rw [if_neg (by show ¬ (false || decide _) = true; rw [Bool.false_or, decide_eq_true_eq]; exact c)]
          rw [List.length_cons] at c
          refine .inr ⟨i, by omega, h2, rfl, fun i' hi' hp' => ?_⟩
          rcases Nat.lt_or_ge i' k with c2 | c2
          · exact h4 i' c2 hp'
          · rw [show i' = k by omega]
            exact ⟨by omega, fun z => by omega⟩
    · have hp : pal (sub l p (l.length - k)) = false := by simpa using hp
      rw [hp, if_neg (by simp)]
      rcases ih with ⟨h1, h2⟩ | ⟨i, h1, h2, h3, h4⟩
      · refine .inl ⟨h1, fun i hi => ?_⟩
        rcases Nat.lt_or_ge i k with c | c
        · exact h2 i c
        · rw [show i = k by omega]; exact hp
      · refine .inr ⟨i, by omega, h2, h3, fun i' hi' hp' => ?_⟩
        rcases Nat.lt_or_ge i' k with c | c
        · exact h4 i' c hp'
        · rw [show i' = k by omega, hp] at hp'; cases hp'
theorem bst_spec {l : Tx} {p : Nat} (hp : p < l.length) : ∃ e, p < e ∧ e ≤ l.length ∧ pal (sub l p e) = true ∧ bst l (l.length - p) = sub l p e :: bst l (l.length - e) ∧
    ∀ e', p < e' → e' ≤ l.length → pal (sub l p e') = true → (bst l (l.length - e)).length ≤ (bst l (l.length - e')).length ∧ (e < e' → (bst l (l.length - e)).length < (bst l (l.length - e')).length) := by
  obtain ⟨k, hk⟩ : ∃ k, l.length - p = k + 1 := ⟨l.length - p - 1, by omega⟩
  have hkp : l.length - (k + 1) = p := by omega
  rcases row_spec l p (bests l k) (k + 1) with ⟨_, h2⟩ | ⟨i, h1, h2, h3, h4⟩
  · have z := h2 k (by omega)
    rw [show l.length - k = p + 1 by omega, pal_one hp] at z
    cases z
  · refine ⟨l.length - i, by omega, by omega, h2, ?_, fun e' a1 a2 a3 => ?_⟩
    · rw [hk, bst_succ, hkp, h3, Option.getD_some, bests_at l (by omega)]
    · have z := h4 (l.length - e') (by omega) (by rw [show l.length - (l.length - e') = e' by omega]; exact a3)
      rw [bests_at l (by omega), bests_at l (by omega), show l.length - (l.length - (l.length - e')) = l.length - e' by omega] at z
      exact ⟨z.1, fun c => z.2 (by omega)⟩
theorem bst_zero (l : Tx) : bst l 0 = [] := rfl
theorem bst_flat (l : Tx) : ∀ k p, l.length - p = k → p ≤ l.length → (bst l (l.length - p)).flatten = l.drop p := by
  intro k
  induction k using Nat.strongRecOn with
  | _ k ih =>
    intro p hk hp
    rcases Nat.lt_or_ge p l.length with c | c
    · obtain ⟨e, h1, h2, h3, h4, _⟩ := bst_spec c
      rw [h4, List.flatten_cons, ih (l.length - e) (by omega) e rfl h2]
      unfold sub
      have e1 : l.drop e = (l.drop p).drop (e - p) := by rw [List.drop_drop, show p + (e - p) = e by omega]
      rw [e1, List.take_append_drop]
    · rw [show l.length - p = 0 by omega, bst_zero, List.drop_of_length_le c]; rfl
theorem bst_len (l : Tx) : ∀ k p, l.length - p = k → (bst l (l.length - p)).length ≤ l.length - p := by
  intro k
  induction k using Nat.strongRecOn with
  | _ k ih =>
    intro p hk
    rcases Nat.lt_or_ge p l.length with c | c
    · obtain ⟨e, h1, h2, h3, h4, _⟩ := bst_spec c
      have := ih (l.length - e) (by omega) e rfl
      rw [h4, List.length_cons]
      omega
    · rw [show l.length - p = 0 by omega, bst_zero]; exact Nat.le_refl _
theorem bst_all (l : Tx) : (bst l l.length).flatten = l := by
  have := bst_flat l l.length 0 (by omega) (by omega)
  rwa [Nat.sub_zero] at this
theorem mem_bst (l : Tx) : ∀ k p, l.length - p = k → ∀ w ∈ bst l (l.length - p), ∃ a e, a < e ∧ e ≤ l.length ∧ pal (sub l a e) = true ∧ w = sub l a e := by
  intro k
  induction k using Nat.strongRecOn with
  | _ k ih =>
    intro p hk w hw
    rcases Nat.lt_or_ge p l.length with c | c
    · obtain ⟨e, h1, h2, h3, h4, _⟩ := bst_spec c
      rw [h4] at hw
      rcases List.mem_cons.mp hw with rfl | hw
      · exact ⟨p, e, h1, h2, h3, rfl⟩
      · exact ih (l.length - e) (by omega) e rfl w hw
    · rw [show l.length - p = 0 by omega, bst_zero] at hw; cases hw
/-- where the first word of the told parting ends -/
def goesN (l : Tx) (p : Nat) : Nat := p + ((bst l (l.length - p)).headD []).length
theorem goes_eq {l : Tx} {p e : Nat} {r : List Tx} (h : bst l (l.length - p) = sub l p e :: r) (hp : p < e) (he : e ≤ l.length) : goesN l p = e := by
  unfold goesN
  rw [h, List.headD_cons, sub_len he]; omega
theorem set_range {α : Type} (f : Nat → α) (n j : Nat) (v : α) : ((List.range n).map f).set j v = (List.range n).map fun i => if i = j then v else f i := by
  apply List.ext_getElem?
  intro i
  rw [List.getElem?_set]
  by_cases e : j = i
  · subst e
    rw [if_pos rfl]
    by_cases c : j < n
    · rw [if_pos (by simpa using c), List.getElem?_map, List.getElem?_range c]; simp
    · rw [if_neg (by simpa using c), List.getElem?_eq_none (by simp; omega)]
  · rw [if_neg e, List.getElem?_map, List.getElem?_map]
    by_cases c : i < n
    · rw [List.getElem?_range c]
      simp [Ne.symm e]
    · rw [List.getElem?_eq_none (by simp; omega)]; rfl
theorem at_range {α : Type} (f : Nat → α) {n j : Nat} (h : j < n) : ((List.range n).map f)[j]? = some (f j) := by
  rw [List.getElem?_map, List.getElem?_range h]; rfl
theorem row_some (l : Tx) (best : List (List Tx)) {k : Nat} (h : k + 1 ≤ l.length) : ∃ ws, rowN l (l.length - (k + 1)) best (k + 1) = some ws := by
  rcases row_spec l (l.length - (k + 1)) best (k + 1) with ⟨_, h2⟩ | ⟨i, _, _, h3, _⟩
  · have z := h2 k (by omega)
    rw [show l.length - k = l.length - (k + 1) + 1 by omega, pal_one (by omega)] at z
    cases z
  · exact ⟨_, h3⟩
/-! lists of ints, by place -/
def entF (R : Nat → Addr) (X : Nat → List Int) (n : Nat) : List (Addr × List V) := (List.range n).map fun i => (R i, (X i).map V.int)
theorem entF_at {R : Nat → Addr} {X : Nat → List Int} {n i : Nat} (h : i < n) : (entF R X n)[i]? = some (R i, (X i).map V.int) := at_range _ h
theorem entF_set {R : Nat → Addr} {X : Nat → List Int} {n i : Nat} {ys : List Int} : (entF R X n).set i (R i, ys.map V.int) = entF R (fun j => if j = i then ys else X j) n := by
  unfold entF
  rw [set_range]
  refine List.map_congr_left fun j _ => ?_
  by_cases e : j = i
  · subst e; simp only [if_true]
  · simp only [if_neg e]

end Mw
namespace Mw
open PySem PySem.Spec PyProof.Rows L2 Evl
/-! # mathematics: the least text with told arms -/
def tieR (r : Nat → Nat) (p : Nat × Nat) : Nat → Nat := fun x => if r x = max (r p.1) (r p.2) then min (r p.1) (r p.2) else r x
def rootL (E : List (Nat × Nat)) : Nat → Nat := E.foldl tieR id
/-- r tells the first place of each group that the ties make -/
structure Fine (E : List (Nat × Nat)) (r : Nat → Nat) : Prop where
  le : ∀ x, r x ≤ x
  idem : ∀ x, r (r x) = r x
  edge : ∀ p ∈ E, r p.1 = r p.2
  sound : ∀ g : Nat → Nat, (∀ p ∈ E, g p.1 = g p.2) → ∀ x, g (r x) = g x
theorem fine_step {E : List (Nat × Nat)} {r : Nat → Nat} (h : Fine E r) (p : Nat × Nat) : Fine (E ++ [p]) (tieR r p) := by
  have h1 := h.idem p.1
  have h2 := h.idem p.2
  have hmin : r (min (r p.1) (r p.2)) = min (r p.1) (r p.2) := by
    rcases Nat.le_total (r p.1) (r p.2) with c | c
    · rw [Nat.min_eq_left c, h1]
    · rw [Nat.min_eq_right c, h2]
  refine ⟨fun x => ?_, fun x => ?_, fun q hq => ?_, fun g hg x => ?_⟩
  · have := h.le x
    unfold tieR
    split
    · omega
    · exact this
  · unfold tieR
    by_cases c : r x = max (r p.1) (r p.2)
    · rw [if_pos c, hmin]
      split <;> rfl
    · rw [if_neg c, h.idem, if_neg c]
  · rcases List.mem_append.mp hq with hq | hq
    · unfold tieR
      rw [h.edge q hq]
    · rw [List.mem_singleton.mp hq]
      unfold tieR
      split <;> split <;> omega
  · have hE := h.sound g fun q hq => hg q (List.mem_append_left _ hq)
    have hp := hg p (List.mem_append_right _ (List.mem_singleton.mpr rfl))
    unfold tieR
    by_cases c : r x = max (r p.1) (r p.2)
    · rw [if_pos c]
      have e1 := hE p.1
      have e2 := hE p.2
      have e3 := hE x
      rcases Nat.le_total (r p.1) (r p.2) with d | d
      · rw [Nat.min_eq_left d, e1, hp, ← e2, ← e3, c, Nat.max_eq_right d]
      · rw [Nat.min_eq_right d, e2, ← hp, ← e1, ← e3, c, Nat.max_eq_left d]
    · rw [if_neg c]
      exact hE x
theorem fine_fold : ∀ (E E0 : List (Nat × Nat)) (r : Nat → Nat), Fine E0 r → Fine (E0 ++ E) (E.foldl tieR r)
  | [], E0, r, h => by rw [List.append_nil]; exact h
  | p :: E, E0, r, h => by
    have z := fine_fold E (E0 ++ [p]) (tieR r p) (fine_step h p)
    rw [List.append_assoc] at z
    exact z
theorem fine_root (E : List (Nat × Nat)) : Fine E (rootL E) := fine_fold E [] id ⟨fun _ => Nat.le_refl _, fun _ => rfl, fun _ h => (by cases h), fun _ _ _ => rfl⟩
theorem fine_eq {E : List (Nat × Nat)} {r s : Nat → Nat} (h1 : Fine E r) (h2 : Fine E s) (x : Nat) : r x = s x := by
  have a := h1.sound s h2.edge x
  have b := h2.sound r h1.edge x
  have c := h1.le (s x)
  have d := h2.le (r x)
  omega

/-! ## the law's marks, gone over till nothing changes -/
def relax (F : Nat → Nat) (p : Nat × Nat) : Nat → Nat := fun x => if x = p.1 ∨ x = p.2 then min (F p.1) (F p.2) else F x
def turnF (E : List (Nat × Nat)) (F : Nat → Nat) : Nat → Nat := E.foldl relax F
def MInv (r F : Nat → Nat) : Prop := ∀ x, r (F x) = r x ∧ F x ≤ x
theorem minv_ge {E : List (Nat × Nat)} {r F : Nat → Nat} (h : Fine E r) (i : MInv r F) (x : Nat) : r x ≤ F x := by
  have := h.le (F x)
  rw [(i x).1] at this
  exact this
theorem minv_relax {E : List (Nat × Nat)} {r F : Nat → Nat} {p : Nat × Nat} (h : Fine E r) (hp : p ∈ E) (i : MInv r F) : MInv r (relax F p) := by
  intro x
  have e := h.edge p hp
  obtain ⟨a1, a2⟩ := i p.1
  obtain ⟨b1, b2⟩ := i p.2
  unfold relax
  by_cases c : x = p.1 ∨ x = p.2
  · rw [if_pos c]
    rcases c with c | c <;> subst c
    · refine ⟨?_, by omega⟩
      rcases Nat.le_total (F p.1) (F p.2) with d | d
      · rw [Nat.min_eq_left d, a1]
      · rw [Nat.min_eq_right d, b1, e]
    · refine ⟨?_, by omega⟩
      rcases Nat.le_total (F p.1) (F p.2) with d | d
      · rw [Nat.min_eq_left d, a1, e]
      · rw [Nat.min_eq_right d, b1]
  · rw [if_neg c]
    exact i x
theorem settled_relax {E : List (Nat × Nat)} {r F : Nat → Nat} {p : Nat × Nat} (h : Fine E r) (hp : p ∈ E) (i : MInv r F) {x : Nat} (hx : F x = r x) : relax F p x = r x := by
  have e := h.edge p hp
  have g1 := minv_ge h i p.1
  have g2 := minv_ge h i p.2
  unfold relax
  by_cases c : x = p.1 ∨ x = p.2
  · rw [if_pos c]
    rcases c with c | c <;> subst c <;> omega
  · rw [if_neg c]
    exact hx
theorem settled_edge {E : List (Nat × Nat)} {r F : Nat → Nat} {p : Nat × Nat} (h : Fine E r) (hp : p ∈ E) (i : MInv r F) (hs : F p.1 = r p.1 ∨ F p.2 = r p.2) : relax F p p.1 = r p.1 ∧ relax F p p.2 = r p.2 := by
  have e := h.edge p hp
  have g1 := minv_ge h i p.1
  have g2 := minv_ge h i p.2
  unfold relax
  rw [if_pos (.inl rfl), if_pos (.inr rfl)]
  omega
theorem turn_props {E0 : List (Nat × Nat)} {r : Nat → Nat} (h : Fine E0 r) : ∀ (E : List (Nat × Nat)) (F : Nat → Nat), (∀ p ∈ E, p ∈ E0) → MInv r F → MInv r (turnF E F) ∧ (∀ x, F x = r x → turnF E F x = r x) ∧ ∀ p ∈ E, F p.1 = r p.1 ∨ F p.2 = r p.2 → turnF E F p.1 = r p.1 ∧ turnF E F p.2 = r p.2
  | [], F, _, i => ⟨i, fun _ h => h, fun _ h => (by cases h)⟩
  | q :: E, F, hm, i => by
    have hq := hm q (List.mem_cons_self ..)
    have i2 := minv_relax h hq i
    obtain ⟨a, b, c⟩ := turn_props h E (relax F q) (fun p hp => hm p (List.mem_cons_of_mem _ hp)) i2
    refine ⟨a, fun x hx => b x (settled_relax h hq i hx), fun p hp hs => ?_⟩
    rcases List.mem_cons.mp hp with rfl | hp
    · obtain ⟨s1, s2⟩ := settled_edge h hq i hs
      exact ⟨b _ s1, b _ s2⟩
    · refine c p hp ?_
      rcases hs with hs | hs
      · exact .inl (settled_relax h hq i hs)
      · exact .inr (settled_relax h hq i hs)
theorem filter_lt {α : Type} {p q : α → Bool} : ∀ {l : List α}, (∀ x ∈ l, q x = true → p x = true) → (∃ x ∈ l, p x = true ∧ q x = false) → (l.filter q).length < (l.filter p).length
  | [], _, h => by obtain ⟨x, hx, _⟩ := h; cases hx
  | y :: l, hs, h => by
    have hle : (l.filter q).length ≤ (l.filter p).length := by
      have : ∀ {l : List α}, (∀ x ∈ l, q x = true → p x = true) → (l.filter q).length ≤ (l.filter p).length := by
        intro l
        induction l with
        | nil => intro _; exact Nat.le_refl _
        | cons z l ih =>
          intro hs
          have := ih fun x hx => hs x (List.mem_cons_of_mem _ hx)
          have h0 := hs z (List.mem_cons_self ..)
          rw [List.filter_cons, List.filter_cons]
          by_cases c : q z = true
          · rw [if_pos c, if_pos (h0 c), List.length_cons, List.length_cons]; omega
          · rw [if_neg c]
            split
            · rw [List.length_cons]; omega
            · exact this
      exact this fun x hx => hs x (List.mem_cons_of_mem _ hx)
    have h0 := hs y (List.mem_cons_self ..)
    obtain ⟨x, hx, h1, h2⟩ := h
    rw [List.filter_cons, List.filter_cons]
    rcases List.mem_cons.mp hx with rfl | hx
    · rw [if_neg (by rw [h2]; exact Bool.false_ne_true), if_pos h1, List.length_cons]; omega
    · have ih := filter_lt (fun x hx => hs x (List.mem_cons_of_mem _ hx)) ⟨x, hx, h1, h2⟩
      by_cases c : q y = true
      · rw [if_pos c, if_pos (h0 c), List.length_cons, List.length_cons]; omega
      · rw [if_neg c]
        split
        · rw [List.length_cons]; omega
        · exact ih
def unsF (r F : Nat → Nat) (n : Nat) : Nat := ((List.range n).filter fun x => !decide (F x = r x)).length
theorem turn_less {E : List (Nat × Nat)} {r F : Nat → Nat} {n : Nat} (h : Fine E r) (i : MInv r F) (hu : 0 < unsF r F n) (hE : ∀ p ∈ E, p.1 < n ∧ p.2 < n) : unsF r (turnF E F) n < unsF r F n := by
  obtain ⟨a, b, c⟩ := turn_props h E F (fun _ h => h) i
  obtain ⟨x, hx⟩ := List.exists_mem_of_length_pos hu
  obtain ⟨hxn, hxs⟩ := List.mem_filter.mp hx
  have hxs : ¬ F x = r x := by simpa using hxs
  have hcross : ∃ p ∈ E, (F p.1 = r p.1 ∧ ¬ F p.2 = r p.2) ∨ (F p.2 = r p.2 ∧ ¬ F p.1 = r p.1) := by
    apply Classical.byContradiction
    intro hn
    have hc : ∀ p ∈ E, (F p.1 = r p.1 ↔ F p.2 = r p.2) := fun p hp =>
      ⟨fun k => Classical.byContradiction fun k2 => hn ⟨p, hp, .inl ⟨k, k2⟩⟩, fun k => Classical.byContradiction fun k2 => hn ⟨p, hp, .inr ⟨k, k2⟩⟩⟩
    have hs := h.sound (fun y => if F y = r y then 1 else 0) (fun p hp => by
      have := hc p hp
      by_cases k : F p.1 = r p.1
      · simp only [if_pos k, if_pos (this.mp k)]
      · simp only [if_neg k, if_neg (fun k2 => k (this.mpr k2))]) x
    have e : F (r x) = r (r x) := by
      have := (i (r x)).2
      have := minv_ge h i (r x)
      have := h.idem x
      omega
    simp only [if_pos e, if_neg hxs] at hs
    cases hs
  obtain ⟨p, hp, hp2⟩ := hcross
  refine filter_lt (fun y _ hy => ?_) ?_
  · have hy : ¬ turnF E F y = r y := by simpa using hy
    simpa using fun k => hy (b y k)
  · rcases hp2 with ⟨k1, k2⟩ | ⟨k1, k2⟩
    · exact ⟨p.2, List.mem_range.mpr (hE p hp).2, by simpa using k2, by simpa using (c p hp (.inl k1)).2⟩
    · exact ⟨p.1, List.mem_range.mpr (hE p hp).1, by simpa using k2, by simpa using (c p hp (.inr k1)).1⟩
def turnsF (E : List (Nat × Nat)) : Nat → (Nat → Nat)
  | 0 => id
  | t + 1 => turnF E (turnsF E t)
theorem turns_inv {E : List (Nat × Nat)} {r : Nat → Nat} {n : Nat} (h : Fine E r) (hE : ∀ p ∈ E, p.1 < n ∧ p.2 < n) : ∀ t, MInv r (turnsF E t) ∧ unsF r (turnsF E t) n ≤ n - t
  | 0 => ⟨fun x => ⟨rfl, Nat.le_refl _⟩, by
    unfold unsF
    have := List.length_filter_le (fun x => !decide (turnsF E 0 x = r x)) (List.range n)
    rw [List.length_range] at this
    omega⟩
  | t + 1 => by
    obtain ⟨i, hu⟩ := turns_inv h hE t
    have hp := turn_props h E (turnsF E t) (fun _ h => h) i
    refine ⟨hp.1, ?_⟩
    show unsF r (turnF E (turnsF E t)) n ≤ _
    rcases Nat.eq_zero_or_pos (unsF r (turnsF E t) n) with c | c
    · have : unsF r (turnF E (turnsF E t)) n = 0 := by
        unfold unsF at c ⊢
        rw [List.length_eq_zero_iff, List.filter_eq_nil_iff] at c ⊢
        intro x hx k
        refine c x hx ?_
        have k : ¬ turnF E (turnsF E t) x = r x := by simpa using k
        simpa using fun k2 => k (hp.2.1 x k2)
      omega
    · have := turn_less h i c hE
      omega
theorem turns_root {E : List (Nat × Nat)} {r : Nat → Nat} {n x : Nat} (h : Fine E r) (hE : ∀ p ∈ E, p.1 < n ∧ p.2 < n) (hx : x < n) : turnsF E n x = r x := by
  have hu := (turns_inv h hE n).2
  have c : unsF r (turnsF E n) n = 0 := by omega
  unfold unsF at c
  rw [List.length_eq_zero_iff, List.filter_eq_nil_iff] at c
  have := c x (List.mem_range.mpr hx)
  simpa using this

/-! ## letters -/
theorem nodup_le {α : Type} [DecidableEq α] : ∀ {l m : List α}, l.Nodup → (∀ x ∈ l, x ∈ m) → l.length ≤ m.length
  | [], _, _, _ => Nat.zero_le _
  | x :: l, m, hn, hs => by
    have hx := hs x (List.mem_cons_self ..)
    obtain ⟨n1, n2⟩ := List.nodup_cons.mp hn
    have := nodup_le (l := l) (m := m.erase x) n2 fun y hy => (List.mem_erase_of_ne (fun e : y = x => n1 (by rw [← e]; exact hy))).mpr (hs y (List.mem_cons_of_mem _ hy))
    rw [List.length_erase_of_mem hx] at this
    have := List.length_pos_of_mem hx
    rw [List.length_cons]
    omega
theorem letters_nd : letters.Nodup := by decide
theorem letters_up : letters.Pairwise (· < ·) := by decide
def freeL (u : Nat → Bool) : Nat := (letters.filter fun c => !u c).headD 0
theorem free_spec {u : Nat → Bool} (h : ∃ c ∈ letters, u c = false) : freeL u ∈ letters ∧ u (freeL u) = false ∧ ∀ c ∈ letters, u c = false → freeL u ≤ c := by
  obtain ⟨c0, hc0, hu0⟩ := h
  have hp : (letters.filter fun c => !u c).Pairwise (· < ·) := letters_up.sublist List.filter_sublist
  have hm0 : c0 ∈ letters.filter fun c => !u c := List.mem_filter.mpr ⟨hc0, by rw [hu0]; rfl⟩
  unfold freeL
  cases hf : letters.filter fun c => !u c with
  | nil => rw [hf] at hm0; cases hm0
  | cons d r =>
    rw [hf] at hp
    rw [List.headD_cons]
    have hd : d ∈ letters.filter fun c => !u c := by rw [hf]; exact List.mem_cons_self ..
    obtain ⟨h1, h2⟩ := List.mem_filter.mp hd
    refine ⟨h1, by simpa using h2, fun c hc hu => ?_⟩
    have hc2 : c ∈ letters.filter fun c => !u c := List.mem_filter.mpr ⟨hc, by rw [hu]; rfl⟩
    rw [hf] at hc2
    rcases List.mem_cons.mp hc2 with rfl | hc2
    · exact Nat.le_refl _
    · exact Nat.le_of_lt ((List.pairwise_cons.mp hp).1 c hc2)
theorem free_26 {p : Nat} (hp : p < 26) (X : Nat → Bool) (f : Nat → Nat) : ∃ c ∈ letters, ((List.range p).any fun q => X q && decide (f q = c)) = false := by
  apply Classical.byContradiction
  intro hn
  have hs : ∀ c ∈ letters, c ∈ (List.range p).map f := fun c hc => by
    have h1 : ((List.range p).any fun q => X q && decide (f q = c)) = true := by
      cases h : (List.range p).any fun q => X q && decide (f q = c) with
      | true => rfl
      | false => exact absurd ⟨c, hc, h⟩ hn
    obtain ⟨q, hq, hx⟩ := List.any_eq_true.mp h1
    rw [Bool.and_eq_true, decide_eq_true_eq] at hx
    exact List.mem_map.mpr ⟨q, hq, hx.2⟩
  have := nodup_le letters_nd hs
  rw [List.length_map, List.length_range] at this
  have h26 : letters.length = 26 := rfl
  omega

/-! ## the greedy text -/
def tiesM (m k : Nat) : List (Nat × Nat) := (List.range k).map fun s => ((m + 1) / 2 - 1 - s, m / 2 + 1 + s)
def tiesN (a : Nat → Nat) (M : Nat) : List (Nat × Nat) := (List.range M).flatMap fun m => tiesM m (a m)
def Lf (a : Nat → Nat) (m : Nat) : Nat := (m + 1) / 2 - 1 - a m
def Rt (a : Nat → Nat) (m : Nat) : Nat := m / 2 + 1 + a m
/-- an end that parts two places -/
def vE (n : Nat) (a : Nat → Nat) (m : Nat) : Bool := decide (a m < (m + 1) / 2) && decide (m / 2 + 1 + a m < n)
def OkA (n : Nat) (a : Nat → Nat) : Prop := ∀ m, m < 2 * n - 1 → a m ≤ (m + 1) / 2 ∧ m / 2 + a m < n
def foeM (n : Nat) (a r : Nat → Nat) (p q m : Nat) : Bool := vE n a m && ((decide (r (Lf a m) = p) && decide (r (Rt a m) = q)) || (decide (r (Rt a m) = p) && decide (r (Lf a m) = q)))
def foeB (n : Nat) (a r : Nat → Nat) (p q : Nat) : Bool := (List.range (2 * n - 1)).any fun m => foeM n a r p q m
def usedB (n : Nat) (a r : Nat → Nat) (t : Tx) (p c : Nat) : Bool := (List.range p).any fun q => foeB n a r p q && decide (t.getD q 0 = c)
def nextL (n : Nat) (a r : Nat → Nat) (t : Tx) (p : Nat) : Nat := if r p < p then t.getD (r p) 0 else freeL (usedB n a r t p)
def gT (n : Nat) (a r : Nat → Nat) : Nat → Tx
  | 0 => []
  | p + 1 => gT n a r p ++ [nextL n a r (gT n a r p) p]
theorem len_gT (n : Nat) (a r : Nat → Nat) : ∀ p, (gT n a r p).length = p
  | 0 => rfl
  | p + 1 => by rw [gT, List.length_append, len_gT n a r p]; rfl
def wF (n : Nat) (a r : Nat → Nat) (i : Nat) : Nat := nextL n a r (gT n a r i) i
theorem gT_at (n : Nat) (a r : Nat → Nat) {i p : Nat} (h : i < p) : (gT n a r p).getD i 0 = wF n a r i := by
  induction p with
  | zero => omega
  | succ p ih =>
    rw [gT, List.getD_eq_getElem?_getD]
    rcases Nat.lt_or_ge i p with c | c
    · rw [List.getElem?_append_left (by rw [len_gT]; exact c), ← List.getD_eq_getElem?_getD, ih c]
    · rw [List.getElem?_append_right (by rw [len_gT]; exact c), len_gT, show i = p by omega, Nat.sub_self]; rfl
theorem used_wF (n : Nat) (a r : Nat → Nat) (p c : Nat) : usedB n a r (gT n a r p) p c = (List.range p).any fun q => foeB n a r p q && decide (wF n a r q = c) := by
  unfold usedB
  rw [Bool.eq_iff_iff, List.any_eq_true, List.any_eq_true]
  constructor
  · rintro ⟨q, hq, h⟩
    exact ⟨q, hq, by rw [gT_at n a r (List.mem_range.mp hq)] at h; exact h⟩
  · rintro ⟨q, hq, h⟩
    exact ⟨q, hq, by rw [gT_at n a r (List.mem_range.mp hq)]; exact h⟩
theorem wF_root {n : Nat} {a r : Nat → Nat} {i : Nat} (h : r i < i) : wF n a r i = wF n a r (r i) := by
  unfold wF
  rw [nextL, if_pos h, gT_at n a r h]
  rfl
theorem wF_new {n : Nat} {a r : Nat → Nat} {i : Nat} (h : r i = i) : wF n a r i = freeL fun c => (List.range i).any fun q => foeB n a r i q && decide (wF n a r q = c) := by
  unfold wF
  rw [nextL, if_neg (by omega)]
  congr 1
  funext c
  exact used_wF n a r i c
theorem wF_r {E : List (Nat × Nat)} {n : Nat} {a r : Nat → Nat} (h : Fine E r) (i : Nat) : wF n a r (r i) = wF n a r i := by
  rcases Nat.lt_or_ge (r i) i with c | c
  · exact (wF_root c).symm
  · have := h.le i
    rw [show r i = i by omega]
/-- a letter is left at each new place -/
def Free (n : Nat) (a r : Nat → Nat) : Prop := ∀ p, p < n → r p = p → ∃ c ∈ letters, ((List.range p).any fun q => foeB n a r p q && decide (wF n a r q = c)) = false
theorem free_small {n : Nat} {a r : Nat → Nat} (h : n ≤ 26) : Free n a r := fun p hp _ => free_26 (by omega) _ _
theorem mem_ties {a : Nat → Nat} {M : Nat} {p : Nat × Nat} : p ∈ tiesN a M ↔ ∃ m s, m < M ∧ s < a m ∧ p = ((m + 1) / 2 - 1 - s, m / 2 + 1 + s) := by
  unfold tiesN tiesM
  rw [List.mem_flatMap]
  constructor
  · rintro ⟨m, hm, hp⟩
    obtain ⟨s, hs, e⟩ := List.mem_map.mp hp
    exact ⟨m, s, List.mem_range.mp hm, List.mem_range.mp hs, e.symm⟩
  · rintro ⟨m, s, hm, hs, e⟩
    exact ⟨m, List.mem_range.mpr hm, List.mem_map.mpr ⟨s, List.mem_range.mpr hs, e.symm⟩⟩
theorem ties_in {n : Nat} {a : Nat → Nat} (ok : OkA n a) : ∀ p ∈ tiesN a (2 * n - 1), p.1 < n ∧ p.2 < n := fun p hp => by
  obtain ⟨m, s, hm, hs, rfl⟩ := mem_ties.mp hp
  have := ok m hm
  exact ⟨by show (m + 1) / 2 - 1 - s < n; omega, by show m / 2 + 1 + s < n; omega⟩
def NoCl (n : Nat) (a r : Nat → Nat) : Prop := ∀ m, m < 2 * n - 1 → vE n a m = true → r (Lf a m) ≠ r (Rt a m)
/-- it has just these arms -/
theorem gT_arms {n : Nat} {a r : Nat → Nat} (h : Fine (tiesN a (2 * n - 1)) r) (ok : OkA n a) (nc : NoCl n a r) (hf : Free n a r) {m : Nat} (hm : m < 2 * n - 1) : armN (gT n a r n) m = a m := by
  obtain ⟨o1, o2⟩ := ok m hm
  refine arm_eq (fun s hs => ?_) fun hk => ?_
  · refine ⟨by omega, by rw [len_gT]; omega, ?_⟩
    rw [gT_at n a r (by omega), gT_at n a r (by omega), ← wF_r h, ← wF_r h (m / 2 + 1 + s)]
    have := h.edge ((m + 1) / 2 - 1 - s, m / 2 + 1 + s) (mem_ties.mpr ⟨m, s, hm, hs, rfl⟩)
    rw [show r ((m + 1) / 2 - 1 - s) = r (m / 2 + 1 + s) from this]
  · obtain ⟨k1, k2, k3⟩ := hk
    rw [len_gT] at k2
    have hv : vE n a m = true := by unfold vE; rw [decide_eq_true k1, decide_eq_true k2]; rfl
    have hne := nc m hm hv
    have hL : Lf a m < n := by unfold Lf; omega
    have hR : Rt a m < n := by unfold Rt; omega
    have e3 : wF n a r (r (Lf a m)) = wF n a r (r (Rt a m)) := by
      rw [wF_r h, wF_r h, ← gT_at n a r hL, ← gT_at n a r hR]
      exact k3
    have key : ∀ p q, p < q → q < n → r q = q → r p = p → foeB n a r q p = true → wF n a r p ≠ wF n a r q := fun p q hpq hq hrq _ hfo he => by
      have sp := (free_spec (hf q hq hrq)).2.1
      rw [← wF_new hrq, List.any_eq_false] at sp
      refine sp p (List.mem_range.mpr hpq) ?_
      rw [hfo, he, decide_eq_true rfl]; rfl
    have hfoe1 : foeB n a r (r (Lf a m)) (r (Rt a m)) = true := List.any_eq_true.mpr ⟨m, List.mem_range.mpr hm, by unfold foeM; simp [hv]⟩
    have hfoe2 : foeB n a r (r (Rt a m)) (r (Lf a m)) = true := List.any_eq_true.mpr ⟨m, List.mem_range.mpr hm, by unfold foeM; simp [hv]⟩
    have l1 := h.le (Lf a m)
    have l2 := h.le (Rt a m)
    rcases Nat.lt_or_gt_of_ne hne with c | c
    · exact key _ _ c (by omega) (h.idem _) (h.idem _) hfoe2 e3
    · exact key _ _ c (by omega) (h.idem _) (h.idem _) hfoe1 e3.symm
/-- what a text with these arms says of the groups -/
theorem text_root {l : Tx} {a r : Nat → Nat} (h : Fine (tiesN a (2 * l.length - 1)) r) (ha : ∀ m, m < 2 * l.length - 1 → armN l m = a m) (x : Nat) : l.getD (r x) 0 = l.getD x 0 :=
  h.sound (fun y => l.getD y 0) (fun p hp => by
    obtain ⟨m, s, hm, hs, rfl⟩ := mem_ties.mp hp
    rw [← ha m hm] at hs
    exact (arm_lt hs).2.2) x
theorem text_ends {l : Tx} {a : Nat → Nat} (ha : ∀ m, m < 2 * l.length - 1 → armN l m = a m) {m : Nat} (hm : m < 2 * l.length - 1) (hv : vE l.length a m = true) : l.getD (Lf a m) 0 ≠ l.getD (Rt a m) 0 := fun e => by
  unfold vE at hv
  rw [Bool.and_eq_true, decide_eq_true_eq, decide_eq_true_eq] at hv
  refine arm_not l m ?_
  rw [ha m hm]
  exact ⟨hv.1, hv.2, e⟩
theorem text_nocl {l : Tx} {a r : Nat → Nat} (h : Fine (tiesN a (2 * l.length - 1)) r) (ha : ∀ m, m < 2 * l.length - 1 → armN l m = a m) : NoCl l.length a r := fun m hm hv e => by
  refine text_ends ha hm hv ?_
  rw [← text_root h ha, ← text_root h ha (Rt a m), e]
theorem text_ok {l : Tx} {a : Nat → Nat} (ha : ∀ m, m < 2 * l.length - 1 → armN l m = a m) : OkA l.length a := fun m hm => by
  rw [← ha m hm]
  exact ⟨arm_le l m, arm_in (by omega)⟩
theorem lex_le : ∀ {w l : Tx}, w.length = l.length → (∀ i, i < l.length → (∀ j, j < i → w.getD j 0 = l.getD j 0) → w.getD i 0 ≤ l.getD i 0) → ¬ l < w
  | [], [], _, _ => by decide
  | [], _ :: _, h, _ => by cases h
  | _ :: _, [], h, _ => by cases h
  | x :: w, y :: l, hl, h => by
    rw [List.cons_lt_cons_iff]
    have h0 : x ≤ y := h 0 (Nat.succ_pos _) fun j hj => absurd hj (Nat.not_lt_zero _)
    rintro (c | ⟨c, d⟩)
    · omega
    · subst c
      refine lex_le (w := w) (l := l) (by simpa using hl) (fun i hi hj => ?_) d
      refine h (i + 1) (Nat.succ_lt_succ hi) fun j hj2 => ?_
      cases j with
      | zero => rfl
      | succ j => exact hj j (by omega)
/-- .. and is no greater than any text that has them -/
theorem gT_least {l : Tx} {a r : Nat → Nat} (h : Fine (tiesN a (2 * l.length - 1)) r) (ha : ∀ m, m < 2 * l.length - 1 → armN l m = a m) (hl : ∀ c ∈ l, c ∈ letters) : ¬ l < gT l.length a r l.length := by
  refine lex_le (len_gT _ _ _ _) fun i hi hj => ?_
  rw [gT_at _ a r hi]
  have hj2 : ∀ j, j < i → wF l.length a r j = l.getD j 0 := fun j k => by
    rw [← hj j k, gT_at _ a r (by omega)]
  rcases Nat.lt_or_ge (r i) i with c | c
  · rw [wF_root c, hj2 _ c, text_root h ha]
    exact Nat.le_refl _
  · have hr : r i = i := by
      have := h.le i
      omega
    have hmem : l.getD i 0 ∈ letters := by
      rw [List.getD_eq_getElem?_getD, List.getElem?_eq_getElem hi]
      exact hl _ (List.getElem_mem hi)
    have hun : ((List.range i).any fun q => foeB l.length a r i q && decide (wF l.length a r q = l.getD i 0)) = false := by
      rw [List.any_eq_false]
      intro q hq k
      rw [Bool.and_eq_true, decide_eq_true_eq] at k
      obtain ⟨k1, k2⟩ := k
      obtain ⟨m, hm, k3⟩ := List.any_eq_true.mp k1
      have hm := List.mem_range.mp hm
      unfold foeM at k3
      simp only [Bool.and_eq_true, Bool.or_eq_true, decide_eq_true_eq] at k3
      obtain ⟨hv, k3⟩ := k3
      have hne := text_ends ha hm hv
      rw [hj2 q (List.mem_range.mp hq)] at k2
      rcases k3 with ⟨e1, e2⟩ | ⟨e1, e2⟩
      · refine hne ?_
        rw [← text_root h ha (Lf a m), ← text_root h ha (Rt a m), e1, e2, k2]
      · refine hne ?_
        rw [← text_root h ha (Lf a m), ← text_root h ha (Rt a m), e1, e2, k2]
    rw [wF_new hr]
    exact (free_spec ⟨_, hmem, hun⟩).2.2 _ hmem hun
theorem gT_lets {E : List (Nat × Nat)} {n : Nat} {a r : Nat → Nat} (h : Fine E r) (hf : Free n a r) : ∀ c ∈ gT n a r n, c ∈ letters := fun c hc => by
  obtain ⟨i, hi, e⟩ := List.getElem_of_mem hc
  rw [len_gT] at hi
  have e2 : wF n a r i = c := by
    rw [← gT_at n a r hi, List.getD_eq_getElem?_getD, List.getElem?_eq_getElem (by rw [len_gT]; exact hi), e]; rfl
  rw [← e2, ← wF_r h]
  have := h.le i
  rw [wF_new (h.idem i)]
  exact (free_spec (hf (r i) (by omega) (h.idem i))).1
/-! ## arms of nought -/
theorem root_none (n x : Nat) : rootL (tiesN (fun _ => 0) n) x = x := by
  have e : tiesN (fun _ => 0) n = [] := by
    unfold tiesN tiesM
    rw [List.flatMap_eq_nil_iff]
    intro m _
    rfl
  rw [e]; rfl
theorem ok_none (n : Nat) : OkA n fun _ => 0 := fun m hm => ⟨Nat.zero_le _, by show m / 2 + 0 < n; omega⟩
theorem foe_none {n : Nat} {r : Nat → Nat} (hr : ∀ x, r x = x) {p q : Nat} (hp : p < n) (hq : q < p) : foeB n (fun _ => 0) r p q = true ↔ (q + 1 = p ∨ q + 2 = p) := by
  unfold foeB
  rw [List.any_eq_true]
  constructor
  · rintro ⟨m, hm, h⟩
    unfold foeM vE Lf Rt at h
    simp only [hr, Bool.and_eq_true, Bool.or_eq_true, decide_eq_true_eq] at h
    omega
  · intro h
    rcases h with h | h
    · refine ⟨2 * p - 1, List.mem_range.mpr (by omega), ?_⟩
      unfold foeM vE Lf Rt
      simp only [hr, Bool.and_eq_true, Bool.or_eq_true, decide_eq_true_eq]
      omega
    · refine ⟨2 * (p - 1), List.mem_range.mpr (by omega), ?_⟩
      unfold foeM vE Lf Rt
      simp only [hr, Bool.and_eq_true, Bool.or_eq_true, decide_eq_true_eq]
      omega
theorem abc_let {k : Nat} (h : k < 3) : 97 + k ∈ letters := by
  match k, h with
  | 0, _ => decide
  | 1, _ => decide
  | 2, _ => decide
theorem let_ge {c : Nat} (h : c ∈ letters) : 97 ≤ c := by
  have : ∀ c ∈ letters, 97 ≤ c := by decide
  exact this c h
theorem used_none {n : Nat} {r : Nat → Nat} (hr : ∀ x, r x = x) {p : Nat} (hp : p < n) (ih : ∀ q, q < p → wF n (fun _ => 0) r q = 97 + q % 3) (c : Nat) :
    ((List.range p).any fun q => foeB n (fun _ => 0) r p q && decide (wF n (fun _ => 0) r q = c)) = true ↔ ∃ q, q < p ∧ (q + 1 = p ∨ q + 2 = p) ∧ 97 + q % 3 = c := by
  rw [List.any_eq_true]
  constructor
  · rintro ⟨q, hq, h⟩
    have hq := List.mem_range.mp hq
    rw [Bool.and_eq_true, decide_eq_true_eq, ih q hq] at h
    exact ⟨q, hq, (foe_none hr hp hq).mp h.1, h.2⟩
  · rintro ⟨q, hq, h1, h2⟩
    refine ⟨q, List.mem_range.mpr hq, ?_⟩
    rw [Bool.and_eq_true, decide_eq_true_eq, ih q hq]
    exact ⟨(foe_none hr hp hq).mpr h1, h2⟩
theorem unused_none {n : Nat} {r : Nat → Nat} (hr : ∀ x, r x = x) {p : Nat} (hp : p < n) (ih : ∀ q, q < p → wF n (fun _ => 0) r q = 97 + q % 3) :
    ((List.range p).any fun q => foeB n (fun _ => 0) r p q && decide (wF n (fun _ => 0) r q = 97 + p % 3)) = false := by
  rw [← Bool.not_eq_true, used_none hr hp ih]
  rintro ⟨q, hq, h1, h2⟩
  omega
theorem wF_none {n : Nat} {r : Nat → Nat} (hr : ∀ x, r x = x) : ∀ p, p < n → wF n (fun _ => 0) r p = 97 + p % 3 := by
  intro p
  induction p using Nat.strongRecOn with
  | _ p ih =>
    intro hp
    have ih2 : ∀ q, q < p → wF n (fun _ => 0) r q = 97 + q % 3 := fun q hq => ih q hq (by omega)
    have un := unused_none hr hp ih2
    obtain ⟨s1, s2, s3⟩ := free_spec (u := fun c => (List.range p).any fun q => foeB n (fun _ => 0) r p q && decide (wF n (fun _ => 0) r q = c)) ⟨97 + p % 3, abc_let (by omega), un⟩
    rw [wF_new (hr p)]
    have le := s3 _ (abc_let (by omega)) un
    have ge := let_ge s1
    rw [← Bool.not_eq_true, used_none hr hp ih2] at s2
    generalize freeL (fun c => (List.range p).any fun q => foeB n (fun _ => 0) r p q && decide (wF n (fun _ => 0) r q = c)) = f at *
    rcases Nat.lt_or_ge f (97 + p % 3) with c | c
    · exfalso
      apply s2
      by_cases d : f = 97 + (p - 1) % 3 ∧ 1 ≤ p
      · exact ⟨p - 1, by omega, by omega, by omega⟩
      · exact ⟨p - 2, by omega, by omega, by omega⟩
    · omega
theorem free_none {n : Nat} {r : Nat → Nat} (hr : ∀ x, r x = x) : Free n (fun _ => 0) r := fun p hp _ =>
  ⟨97 + p % 3, abc_let (by omega), unused_none hr hp fun q hq => wF_none hr q (by omega)⟩
theorem nocl_none {n : Nat} {r : Nat → Nat} (hr : ∀ x, r x = x) : NoCl n (fun _ => 0) r := fun m hm hv => by
  unfold vE at hv
  rw [Bool.and_eq_true, decide_eq_true_eq, decide_eq_true_eq] at hv
  rw [hr, hr]
  unfold Lf Rt
  omega
theorem gT_none {n : Nat} {r : Nat → Nat} (hr : ∀ x, r x = x) : gT n (fun _ => 0) r n = (List.range n).map fun i => 97 + i % 3 := by
  refine ext_getD (by rw [len_gT, List.length_map, List.length_range]) fun i hi => ?_
  rw [len_gT] at hi
  rw [gT_at _ _ _ hi, wF_none hr i hi, List.getD_eq_getElem?_getD, at_range _ hi]; rfl
end Mw
namespace Mw
open PySem PySem.Spec PyProof.Rows L2 Evl
local macro_rules | `(tactic| walk_at "sd") => `(tactic| (first
  | assumption
  | omega
  | decide
  | (simp only [List.length_append, List.length_cons, List.length_nil, List.length_reverse, List.length_take, List.length_drop, List.length_map, List.length_range] at *; omega)
  | skip))
local macro_rules | `(tactic| walk_at "ev") => `(tactic| (first
  | ((with_reducible apply ev_var); rfl)
  | (with_reducible exact ev_c)
  | ((with_reducible apply ev_op) <;> walk_at "ev")
  | ((with_reducible apply e_negI) <;> walk_at "ev")
  | ((with_reducible apply et_test) <;> walk_at "ev")
  | ((with_reducible apply et_B) <;> walk_at "ev")
  | ((with_reducible apply et_and); (focus walk_at "ev"); intro hq; (try simp only [Bool.and_eq_true, Bool.or_eq_true, decide_eq_true_eq, Bool.not_eq_true', decide_eq_false_iff_not, Bool.and_eq_false_iff, Bool.or_eq_false_iff, Bool.not_eq_false'] at hq); walk_at "ev")
  | ((with_reducible apply et_or); (focus walk_at "ev"); intro hq; (try simp only [Bool.and_eq_true, Bool.or_eq_true, decide_eq_true_eq, Bool.not_eq_true', decide_eq_false_iff_not, Bool.and_eq_false_iff, Bool.or_eq_false_iff, Bool.not_eq_false'] at hq); walk_at "ev")
  | ((with_reducible apply ev_andV); (focus walk_at "ev"); intro hq; (try simp only [Bool.and_eq_true, Bool.or_eq_true, decide_eq_true_eq, Bool.not_eq_true', decide_eq_false_iff_not, Bool.and_eq_false_iff, Bool.or_eq_false_iff, Bool.not_eq_false'] at hq); walk_at "ev")
  | ((with_reducible apply ev_orV); (focus walk_at "ev"); intro hq; (try simp only [Bool.and_eq_true, Bool.or_eq_true, decide_eq_true_eq, Bool.not_eq_true', decide_eq_false_iff_not, Bool.and_eq_false_iff, Bool.or_eq_false_iff, Bool.not_eq_false'] at hq); walk_at "ev")
  | ((with_reducible apply e_if); (focus walk_at "ev"); (focus (intro hq; (try simp only [Bool.and_eq_true, Bool.or_eq_true, decide_eq_true_eq, Bool.not_eq_true', decide_eq_false_iff_not, Bool.and_eq_false_iff, Bool.or_eq_false_iff, Bool.not_eq_false'] at hq); walk_at "ev")); (intro hq; (try simp only [Bool.and_eq_true, Bool.or_eq_true, decide_eq_true_eq, Bool.not_eq_true', decide_eq_false_iff_not, Bool.and_eq_false_iff, Bool.or_eq_false_iff, Bool.not_eq_false'] at hq); walk_at "ev"))
  | ((with_reducible apply et_not) <;> walk_at "ev")
  | ((with_reducible apply ev_notV) <;> walk_at "ev")
  | (with_reducible exact et_yes)
  | (with_reducible exact ea_nil)
  | ((with_reducible apply ea_cons) <;> walk_at "ev")
  | (with_reducible exact eo_none)
  | ((with_reducible apply eo_some) <;> walk_at "ev")
  | ((with_reducible apply e_slBut) <;> walk_at "ev")
  | ((with_reducible apply e_slIn) <;> walk_at "ev")
  | ((with_reducible apply e_slTo) <;> walk_at "ev")
  | ((with_reducible apply e_slFrom) <;> walk_at "ev")
  | ((with_reducible apply e_slMid) <;> walk_at "ev")
  | ((with_reducible apply e_rev) <;> walk_at "ev")
  | (with_reducible exact rv_I0)
  | (with_reducible exact r_eqI) | (with_reducible exact r_neI) | (with_reducible exact r_eqS) | (with_reducible exact r_neS)
  | (with_reducible exact r_inC) | (with_reducible exact r_ninC) | (with_reducible exact r_isN) | (with_reducible exact r_notN)
  | (with_reducible exact r_ltT) | (with_reducible exact r_gtT)
  | (with_reducible exact rc_max2) | (with_reducible exact rc_min2)
  | ((with_reducible apply r_divI) <;> walk_at "sd") | ((with_reducible apply r_modI) <;> walk_at "sd") | ((with_reducible apply r_mulI) <;> walk_at "sd")
  | ((with_reducible apply r_ixS) <;> walk_at "sd")
  | ((with_reducible apply r_addT) <;> walk_at "sd")
  | ((with_reducible apply r_mulT) <;> walk_at "sd")
  | ((with_reducible apply rc_lenT) <;> walk_at "sd")
  | ((with_reducible apply rc_lenL) <;> walk_at "sd")
  | ((with_reducible apply ev_cb) <;> walk_at "ev")
  | walk_at "evc"
  | walk_at "sd"))

/-! ## is_text, need_text -/
def isTx (l : Tx) : Bool := decide (l.length ≤ 200) && l.all fun c => decide (c ∈ letters)
/-- what a def that asks for a text is handed: a text, or no text at all -/
def Thing (K : PySem.W.Frag) (H : Hp) (v : V) (o : Option Tx) : Prop := (∃ l, v = tS l ∧ l.length ≤ 1000 ∧ o = some l) ∨ (Odd K H v ∧ o = none)
theorem Thing.ex {K : PySem.W.Frag} {H H1 : Hp} {v : V} {o : Option Tx} (e : Ex H H1) (h : Thing K H v o) : Thing K H1 v o := by
  rcases h with h | ⟨h, r⟩
  · exact .inl h
  · exact .inr ⟨h.ex e, r⟩
def oTx (o : Option Tx) : Bool := match o with
  | some l => isTx l
  | none => false
def sp_is_text (A : Ad) : Sp := spV fun vs H v => ∃ x o, vs = [x] ∧ Thing A.K H x o ∧ v = .bl (oTx o)
def t_is_text (A : Ad) : TS :=
  (tRet (tAndV (tCB (rIsi A.K) (tCons (tVar 0) (tCons (tC (.ty "str")) tNil))) (tAndV (tOp rLeI (tCB rLenT (tCons (tVar 0) tNil)) (tC (.int 200))) (tCB (rAll A.K) (tCons (tLc (iStr (tVar 0)) (gName 1) tYes (tOp rInC (tVar 1) (tC (tS letters))) [1]) tNil)))))

theorem len_is_text (A : Ad) : ∀ vs H Q E, sp_is_text A vs H Q E → vs.length = 1 := fun vs H Q E h => by
  obtain ⟨v, ⟨x, o, rfl, _⟩, _⟩ := h
  rfl
theorem pu_is_text (A : Ad) (vs : List V) (H : Hp) (Q : VK) (E : XK) (h : sp_is_text A vs H Q E) : t_is_text A { nx := fun _ H' => Q .non H', rt := Q } (start ["thing", "sign"] vs) H := by
  obtain ⟨v, ⟨x, o, rfl, ho, rfl⟩, k⟩ := h
  show t_is_text A _ [some x, none] H
  unfold t_is_text
  have am := Am.start H
  rcases ho with ⟨l, rfl, hl, rfl⟩ | ⟨ho, rfl⟩
  · refine a_ret (v := .bl (oTx (some l))) am ?_ fun H1 am => k H1 am.toEx
    refine ev_is (ev_andV (a := true) (b := decide ((l.length : Int) ≤ 200) && (l.map fun c => decide (c ∈ letters)).all id) (ev_cb (ea_cons (ev_var rfl) (ea_cons ev_c ea_nil)) (rc_isi (t := .type "str") (fun _ _ => .base (.str _)) (.ty "str") (kit_ty (by decide +kernel)))) fun _ =>
      ev_andV (by walk_at "ev") fun _ => e_cbN (xs := (l.map fun c => decide (c ∈ letters)).map V.bl) ?_ fun p H1 e h1 => rc_all (sq_of h1)) ?_
    · rw [List.map_map]
      exact el_lcY (v := V.bl ∘ fun c => decide (c ∈ letters)) (wk_text (ev_var rfl)) (fun _ _ => pm_true) trivial (by omega) (fun _ => rfl) fun n _ => ev_op (ev_var rfl) ev_c r_inC
    · show V.bl (true && (decide ((l.length : Int) ≤ 200) && (l.map fun c => decide (c ∈ letters)).all id)) = V.bl (isTx l)
      congr 1
      rw [Bool.true_and, List.all_map]
      unfold isTx
      congr 1
      exact decide_eq_decide.mpr (by omega)
  · obtain ⟨n, ty, hn⟩ := ho
    refine a_ret (v := .bl false) am ?_ fun H1 am => k H1 am.toEx
    exact ev_andV (a := false) (b := false) (ev_cb (ea_cons (ev_var rfl) (ea_cons ev_c ea_nil)) (rc_isi (t := .type n) (fun _ e => tyX_ex e ty) (.ty "str") (odd_str hn))) fun z => Bool.noConfusion z
theorem c_is_text_ {A : Ad} {σ : L2.St} {H : Hp} {te : TE} {x : V} {o : Option Tx} (h : Ev te σ H x) (hx : Thing A.K H x o) : Ev (tCall (sp_is_text A) [] E0 (tCons te tNil)) σ H (.bl (oTx o)) :=
  e_callV (ea_cons h ea_nil) fun _ e => ⟨x, o, rfl, hx.ex e, rfl⟩

def sp_need_text (A : Ad) : Sp := spVX (fun vs H v => ∃ x o, vs = [x] ∧ Thing A.K H x o ∧ oTx o = true ∧ v = .non) fun vs H C => ∃ x o, vs = [x] ∧ Thing A.K H x o ∧ oTx o = false ∧ C = A.cBT
def t_need_text (A : Ad) (E : XK) : TS :=
  (tIfS (tNot (tB (tCall (sp_is_text A) [] E0 (tCons (tVar 0) tNil)))) (tRz E A.cBT) tNext)

theorem len_need_text (A : Ad) : ∀ vs H Q E, sp_need_text A vs H Q E → vs.length = 1 := fun vs H Q E h => by
  rcases h with ⟨v, ⟨x, o, rfl, _⟩, _⟩ | ⟨C, ⟨x, o, rfl, _⟩, _⟩ <;> rfl
theorem pu_need_text (A : Ad) (vs : List V) (H : Hp) (Q : VK) (E : XK) (h : sp_need_text A vs H Q E) : t_need_text A E { nx := fun _ H' => Q .non H', rt := Q } (start ["thing"] vs) H := by
  rcases h with ⟨v, ⟨x, o, rfl, ho, hb, rfl⟩, k⟩ | ⟨C, ⟨x, o, rfl, ho, hb, rfl⟩, k⟩
  · show t_need_text A E _ [some x] H
    unfold t_need_text
    refine a_if (Am.start H) (et_not (et_B (c_is_text_ (ev_var rfl) ho))) (fun z => ?_) fun _ H1 am => k H1 am.toEx
    rw [hb] at z; cases z
  · show t_need_text A E _ [some x] H
    unfold t_need_text
    refine a_if (Am.start H) (et_not (et_B (c_is_text_ (ev_var rfl) ho))) (fun _ H1 am => k H1 am.toEx) fun z => ?_
    rw [hb] at z; cases z
/-! ### a statement that only asks -/
section
variable {A : Ad} {S : List Addr} {H0 H : Hp} {L : List (Addr × HO)} {σ : L2.St} {te : TE} {D : Ends} {tz : TS} {x : V} {o : Option Tx} {E : XK}
theorem aq_need_text (am : Am S H0 L H) (h : Ev te σ H x) (hx : Thing A.K H x o) (hb : oTx o = true) (k : ∀ H, Am S H0 L H → tz D σ H) : tSeq (tDrop (tCall (sp_need_text A) [] E (tCons te tNil))) tz D σ H :=
  aq_drop am (v := .non) (e_callVX (ea_cons h ea_nil) fun _ e => ⟨x, o, rfl, hx.ex e, hb, rfl⟩) k
theorem xq_need_text (am : Am S H0 L H) (h : Ev te σ H x) (hx : Thing A.K H x o) (hb : oTx o = false) (k : ∀ H, Am S H0 L H → E (.ref A.cBT) none H) : tSeq (tDrop (tCall (sp_need_text A) [] E (tCons te tNil))) tz D σ H :=
  h H (Ex.refl H) _ fun H1 e1 => .inr ⟨A.cBT, ⟨x, o, rfl, hx.ex e1, hb, rfl⟩, fun H2 e2 => k H2 (am.ex (e1.trans e2))⟩
end

/-! ## arm_at -/
def t_arm_at (A : Ad) : TS :=
  (tSeq (tAsg (tOp rDivI (tOp rSubI (tVar 1) (tC (.int 1))) (tC (.int 2))) (gName 2))
  (tSeq (tAsg (tOp rAddI (tOp rDivI (tVar 1) (tC (.int 2))) (tC (.int 1))) (gName 3))
  (tSeq (tAsg (tC (.int 0)) (gName 4))
  (tSeq (tWhile (tAnd (tTest (tOp rGeI (tVar 2) (tC (.int 0)))) (tAnd (tTest (tOp rLtI (tVar 3) (tCB rLenT (tCons (tVar 0) tNil)))) (tTest (tOp rEq (tOp rIxS (tVar 0) (tVar 2)) (tOp rIxS (tVar 0) (tVar 3))))))
  (tSeq (tAsg (tOp rAddI (tVar 4) (tC (.int 1))) (gName 4))
  (tSeq (tAsg (tOp rSubI (tVar 2) (tC (.int 1))) (gName 2))
  (tAsg (tOp rAddI (tVar 3) (tC (.int 1))) (gName 3)))))
  (tRet (tVar 4))))))

theorem rd_arm_at (A : Ad) {l : Tx} {m : Nat} {H : Hp} {D : Ends} (hl : l.length ≤ 1000) (k_ : ∀ H', Ex H H' → D.rt (.int (armN l m)) H') :
    t_arm_at A D [some (tS l), some (.int m), none, none, none] H := by
  unfold t_arm_at
  have am := Am.start H
  refine aq_asg am (by walk_at "ev") fun H1 am => ?_
  refine aq_asg am (by walk_at "ev") fun H2 am => ?_
  refine aq_asg am (by walk_at "ev") fun H3 am => ?_
  dsimp only [List.set]
  refine aq_while (fun k σ' H' => ∃ b c : Nat, σ' = [some (tS l), some (.int m), some (.int ((k : Int) - 1)), some (.int b), some (.int c)] ∧ Am [] H [] H' ∧ k ≤ b ∧ c + ext l k b = armN l m) ((m + 1) / 2)
    ⟨m / 2 + 1, 0, ?_, am, by omega, by unfold armN; omega⟩ fun k σ' H' hw => ?_
  · rw [show ((m : Int) - 1) / 2 = (((m + 1) / 2 : Nat) : Int) - 1 by omega]
    rfl
  · obtain ⟨b, c, rfl, am, hkb, hx⟩ := hw
    refine ⟨_, by walk_at "ev", fun h H1 e N hN => ?_, fun h H1 e => ?_⟩
    · have am := am.ex e
      simp only [Bool.and_eq_true, decide_eq_true_eq, List.cons.injEq, and_true] at h
      obtain ⟨h1, h2, h3⟩ := h
      obtain ⟨k, rfl⟩ : ∃ k', k = k' + 1 := ⟨k - 1, by omega⟩
      have hh : b < l.length ∧ l.getD k 0 = l.getD b 0 := ⟨by omega, by
        have e1 : ((k + 1 : Nat) : Int) - 1 = (k : Int) := by omega
        rw [e1] at h3
        simpa [at0] using h3⟩
      refine aq_asg am (by walk_at "ev") fun H1 am => ?_
      refine aq_asg am (by walk_at "ev") fun H1 am => ?_
      refine a_asg am (by walk_at "ev") fun H1 am => ?_
      dsimp only [List.set]
      refine hN k _ _ (Nat.lt_succ_self k) ⟨b + 1, c + 1, ?_, am, by omega, ?_⟩
      · rw [show ((k + 1 : Nat) : Int) - 1 - 1 = (k : Int) - 1 by omega]
        rfl
      · rw [ext, if_pos hh] at hx
        omega
    · have am := am.ex e
      refine a_ret am (by walk_at "ev") fun H1 am => ?_
      have e0 : ext l k b = 0 := by
        cases k with
        | zero => rfl
        | succ k =>
          rw [ext, if_neg]
          intro hh
          have e1 : ((k + 1 : Nat) : Int) - 1 = (k : Int) := by omega
          rw [e1] at h
          simp only [Bool.and_eq_false_iff, decide_eq_false_iff_not, List.cons.injEq, and_true] at h
          have h5 := hh.2
          rcases h with h | h | h
          · omega
          · omega
          · exact h (by simpa [at0] using h5)
      rw [e0, Nat.add_zero] at hx
      rw [hx]
      exact k_ _ am.toEx

def sp_arm_at (A : Ad) : Sp := spV fun vs H v => ∃ (l : Tx) (m : Nat), vs = [tS l, .int m] ∧ l.length ≤ 1000 ∧ v = .int (armN l m)
theorem len_arm_at (A : Ad) : ∀ vs H Q E, sp_arm_at A vs H Q E → vs.length = 2 := fun vs H Q E h => by
  obtain ⟨v, ⟨l, m, rfl, _⟩, _⟩ := h
  rfl
theorem pu_arm_at (A : Ad) (vs : List V) (H : Hp) (Q : VK) (E : XK) (h : sp_arm_at A vs H Q E) : t_arm_at A { nx := fun _ H' => Q .non H', rt := Q } (start ["text", "middle", "left", "right", "found"] vs) H := by
  obtain ⟨v, ⟨l, m, rfl, hl, rfl⟩, k⟩ := h
  exact rd_arm_at A hl k

theorem c_arm_at_ {A : Ad} {σ : L2.St} {H : Hp} {te tm : TE} {l : Tx} {m : Nat} (h : Ev te σ H (tS l)) (hm : Ev tm σ H (.int m)) (hl : l.length ≤ 1000) : Ev (tCall (sp_arm_at A) [] E0 (tCons te (tCons tm tNil))) σ H (.int (armN l m)) :=
  e_callV (ea_cons h (ea_cons hm ea_nil)) fun _ e => ⟨l, m, rfl, hl, rfl⟩

/-! ## arms_of, arms -/
def armsN (l : Tx) : List Nat := (List.range (2 * l.length - 1)).map (armN l)
def vN (n : Nat) : V := .int n
theorem range_split {N : Nat} {pre post : List Nat} {n : Nat} (h : List.range N = pre ++ n :: post) : pre = List.range n ∧ n < N := by
  have hl : (List.range N)[pre.length]? = some n := by rw [h]; simp
  have hp : pre.length < N := by
    have := (List.getElem?_eq_some_iff.mp hl).1
    simpa using this
  rw [List.getElem?_range hp] at hl
  have e : pre.length = n := Option.some.inj hl
  refine ⟨?_, by omega⟩
  have t : (List.range N).take pre.length = pre := by rw [h]; simp
  rw [List.take_range, Nat.min_eq_left (by omega), e] at t
  exact t.symm
theorem range_at {n i : Nat} (h : i < n) : (List.range n)[((i : Nat) : Int).toNat]? = some i := by
  rw [Int.toNat_natCast]
  exact List.getElem?_range h
def sp_arms_of (A : Ad) : Sp := spL fun vs H xs => ∃ l : Tx, vs = [tS l] ∧ l.length ≤ 1000 ∧ xs = (armsN l).map vN
def t_arms_of (A : Ad) : TS :=
  (tSeq (tAsg (tLst tNil) (gName 1))
  (tSeq (tAsg (tC (.int 0)) (gName 2))
  (tSeq (tAsg (tC (.int 0)) (gName 3))
  (tSeq (tFor (iRng1 (tCons (tOp rSubI (tOp rMulI (tC (.int 2)) (tCB rLenT (tCons (tVar 0) tNil))) (tC (.int 1))) tNil)) (gName 4)
  (tSeq (tAsg (tOp rSubI (tOp rMulI (tC (.int 2)) (tVar 2)) (tVar 4)) (gName 5))
  (tSeq (tIfS (tAnd (tTest (tOp rLtI (tVar 4) (tOp rMulI (tC (.int 2)) (tVar 3)))) (tAnd (tTest (tOp rGeI (tVar 5) (tC (.int 0)))) (tTest (tOp rLtI (tOp rAddI (tOp rDivI (tOp rAddI (tVar 4) (tC (.int 1))) (tC (.int 2))) (tOp (rIxL A.K) (tVar 1) (tVar 5))) (tVar 3))))) (tDrop (tBM A.K "list" rAppend (tVar 1) (tCons (tOp (rIxL A.K) (tVar 1) (tVar 5)) tNil))) (tDrop (tBM A.K "list" rAppend (tVar 1) (tCons (tCall (sp_arm_at A) [] E0 (tCons (tVar 0) (tCons (tVar 4) tNil))) tNil))))
  (tIfS (tTest (tOp rGtI (tOp rAddI (tOp rDivI (tVar 4) (tC (.int 2))) (tOp (rIxL A.K) (tVar 1) (tVar 4))) (tVar 3))) (tSeq (tAsg (tVar 4) (gName 2))
  (tAsg (tOp rAddI (tOp rDivI (tVar 4) (tC (.int 2))) (tOp (rIxL A.K) (tVar 1) (tVar 4))) (gName 3))) tNext))))
  (tRet (tVar 1))))))

theorem len_arms_of (A : Ad) : ∀ vs H Q E, sp_arms_of A vs H Q E → vs.length = 1 := fun vs H Q E h => by
  obtain ⟨v, ⟨l, rfl, _⟩, _⟩ := h
  rfl
theorem pu_arms_of (A : Ad) (vs : List V) (H : Hp) (Q : VK) (E : XK) (h : sp_arms_of A vs H Q E) : t_arms_of A { nx := fun _ H' => Q .non H', rt := Q } (start ["text", "found", "about", "end", "middle", "other"] vs) H := by
  obtain ⟨v, ⟨l, rfl, hl, rfl⟩, k⟩ := h
  show t_arms_of A _ [some (tS l), none, none, none, none, none] H
  unfold t_arms_of
  have am := Am.start H
  refine aq_asgL am (el_lst ea_nil (by decide)) fun p H1 am => ?_
  refine aq_asg am (by walk_at "ev") fun H1 am => ?_
  refine aq_asg am (by walk_at "ev") fun H1 am => ?_
  dsimp only [List.set]
  refine aq_for (ns := List.range (2 * (l.length : Int) - 1).toNat) (f := fun i => .int (i : Nat)) (fun pre σ' H' => ∃ (a : Nat) (v4 v5 : Option V), σ' = [some (tS l), some (.ref p), some (.int a), some (.int (a / 2 + armN l a : Nat)), v4, v5] ∧
    Am [] H [(p, .lst ((pre.map (armN l)).map vN))] H' ∧ (a < pre.length ∨ (a = 0 ∧ pre = []))) am (wk_range1 (by walk_at "ev") (by omega)) (fun H1 am => ⟨0, none, none, ?_, am, .inr ⟨rfl, rfl⟩⟩) (fun _ _ _ _ => trivial) ?_ ?_
  · rw [show (0 / 2 + armN l 0 : Nat) = 0 from rfl]
    rfl
  · rintro pre n post σ' H' hs ⟨a, v4, v5, rfl, am, ha⟩
    obtain ⟨rfl, hn⟩ := range_split hs
    rw [List.length_range] at ha
    have hn' : n < 2 * l.length - 1 := by omega
    have han : a ≤ n := by
      rcases ha with c | ⟨c, _⟩
      · omega
      · omega
    have hin : a / 2 + armN l a < l.length := arm_in (by omega)
    dsimp only [List.set]
    refine aq_asg am (by walk_at "ev") fun H1 am => ?_
    dsimp only [List.set]
    have at_ : ∀ {H1 : Hp}, Am [] H [(p, .lst (((List.range n).map (armN l)).map vN))] H1 → ∀ o : Nat, o < n → ∀ {te : TE} {σ : L2.St}, Ev te σ H1 (.int (o : Nat)) → σ[1]? = some (some (.ref p)) → Ev (tOp (rIxL A.K) (tVar 1) te) σ H1 (.int (armN l o)) := fun {H1} am o ho {te σ} h1 h2 =>
      ev_op (ev_var h2) h1 (rv_ixL (K := A.K) (sq_of (am.at 0 rfl)) (by
        rw [List.map_map]
        exact atI_map (f := vN ∘ armN l) (by omega) (range_at ho)))
    -- the tail of a turn: found[middle] is there
    have last : ∀ {H1 : Hp} {v5 : Option V}, Am [] H [(p, .lst (((List.range (n + 1)).map (armN l)).map vN))] H1 →
        (tIfS (tTest (tOp rGtI (tOp rAddI (tOp rDivI (tVar 4) (tC (.int 2))) (tOp (rIxL A.K) (tVar 1) (tVar 4))) (tVar 3))) (tSeq (tAsg (tVar 4) (gName 2)) (tAsg (tOp rAddI (tOp rDivI (tVar 4) (tC (.int 2))) (tOp (rIxL A.K) (tVar 1) (tVar 4))) (gName 3))) tNext)
        { nx := fun σ' H' => ∃ (a : Nat) (v4 v5 : Option V), σ' = [some (tS l), some (.ref p), some (.int a), some (.int (a / 2 + armN l a : Nat)), v4, v5] ∧ Am [] H [(p, .lst (((List.range n ++ [n]).map (armN l)).map vN))] H' ∧ (a < (List.range n ++ [n]).length ∨ (a = 0 ∧ List.range n ++ [n] = [])),
          rt := Q, bk := fun σ' H' => tRet (tVar 1) { nx := fun _ H' => Q .non H', rt := Q } σ' H', ct := fun σ' H' => ∃ (a : Nat) (v4 v5 : Option V), σ' = [some (tS l), some (.ref p), some (.int a), some (.int (a / 2 + armN l a : Nat)), v4, v5] ∧ Am [] H [(p, .lst (((List.range n ++ [n]).map (armN l)).map vN))] H' ∧ (a < (List.range n ++ [n]).length ∨ (a = 0 ∧ List.range n ++ [n] = [])) }
        [some (tS l), some (.ref p), some (.int a), some (.int (a / 2 + armN l a : Nat)), some (.int n), v5] H1 := fun {H1 v5} am => by
      have it : ∀ {H1 : Hp} {σ : L2.St}, Am [] H [(p, .lst (((List.range (n + 1)).map (armN l)).map vN))] H1 → σ[1]? = some (some (.ref p)) → σ[4]? = some (some (.int n)) → Ev (tOp rAddI (tOp rDivI (tVar 4) (tC (.int 2))) (tOp (rIxL A.K) (tVar 1) (tVar 4))) σ H1 (.int (((n : Nat) : Int) / 2 + (armN l n : Nat))) := fun {H1 σ} am h1 h4 =>
        ev_op (ev_op (ev_var h4) ev_c (r_divI ⟨by decide, by decide⟩)) (ev_op (ev_var h1) (ev_var h4) (rv_ixL (K := A.K) (sq_of (am.at 0 rfl)) (by
          rw [List.map_map]
          exact atI_map (f := vN ∘ armN l) (by omega) (range_at (Nat.lt_succ_self n))))) rv_I0
      rw [← List.range_succ]
      refine a_if am (et_test (ev_op (it am rfl rfl) (ev_var rfl) rv_I0)) (fun c H1 am => ?_) fun c H1 am => ?_
      · refine aq_asg am (by walk_at "ev") fun H1 am => ?_
        refine a_asg am (it am rfl rfl) fun H1 am => ?_
        dsimp only [List.set]
        refine ⟨n, some (.int n), v5, ?_, am, .inl (by simp)⟩
        rw [show (((n / 2 + armN l n : Nat)) : Int) = ((n : Nat) : Int) / 2 + (armN l n : Nat) by omega]
      · refine ⟨a, some (.int n), v5, rfl, am, .inl ?_⟩
        simp only [List.length_range]
        omega
    refine aq_if am (b := decide ((n : Int) < 2 * ((a / 2 + armN l a : Nat) : Int)) && (decide ((0 : Int) ≤ 2 * (a : Int) - n) && decide (((n : Int) + 1) / 2 + (armN l (2 * a - n) : Nat) < ((a / 2 + armN l a : Nat) : Int)))) ?_ (fun c H1 am => ?_) fun c H1 am => ?_
    · refine et_and (by walk_at "ev") fun c1 => et_and (by walk_at "ev") fun c2 => ?_
      have c1 := of_decide_eq_true c1
      have c2 := of_decide_eq_true c2
      have ho : 2 * a - n < n := by
        rcases ha with c | ⟨rfl, _⟩
        · omega
        · have : armN l 0 = 0 := rfl
          omega
      refine et_test (ev_op (ev_op (by walk_at "ev") (at_ am (2 * a - n) ho (ev_is (ev_var rfl) ?_) rfl) rv_I0) (by walk_at "ev") rv_I0)
      rw [show ((2 * a - n : Nat) : Int) = 2 * (a : Int) - n by omega]
    · simp only [Bool.and_eq_true, decide_eq_true_eq] at c
      obtain ⟨c1, c2, c3⟩ := c
      have ho : 2 * a - n < n := by
        rcases ha with c | ⟨rfl, _⟩
        · omega
        · have : armN l 0 = 0 := rfl
          omega
      have em : armN l n = armN l (2 * a - n) := arm_mirror han (by omega) hin (by omega)
      refine a_app 0 am rfl (ev_var rfl) (at_ am (2 * a - n) ho (ev_is (ev_var rfl) ?_) rfl) (by simp; omega) fun H1 am => last ?_
      · rw [show ((2 * a - n : Nat) : Int) = 2 * (a : Int) - n by omega]
      · rw [List.range_succ, List.map_append, List.map_append]
        rw [← em] at am
        exact am
    · refine a_app 0 am rfl (ev_var rfl) (c_arm_at_ (ev_var rfl) (ev_var rfl) hl) (by simp; omega) fun H1 am => last ?_
      rw [List.range_succ, List.map_append, List.map_append]
      exact am
  · rintro σ' H' ⟨a, v4, v5, rfl, am, ha⟩
    refine a_ret am (ev_var rfl) fun H1 am => k p H1 (am.free 0 rfl) am.toEx ?_
    have e : (2 * (l.length : Int) - 1).toNat = 2 * l.length - 1 := by omega
    rw [e] at am
    exact am.at 0 rfl
theorem c_arms_of_ {A : Ad} {σ : L2.St} {H : Hp} {te : TE} {l : Tx} (h : Ev te σ H (tS l)) (hl : l.length ≤ 1000) : EvL (tCall (sp_arms_of A) [] E0 (tCons te tNil)) σ H ((armsN l).map vN) :=
  e_callL (ea_cons h ea_nil) fun _ e => ⟨l, rfl, hl, rfl⟩

def sp_arms (A : Ad) : Sp := spLX (fun vs H xs => ∃ x l, vs = [x] ∧ Thing A.K H x (some l) ∧ isTx l = true ∧ xs = (armsN l).map vN) fun vs H C => ∃ x o, vs = [x] ∧ Thing A.K H x o ∧ oTx o = false ∧ C = A.cBT
def t_arms (A : Ad) (E : XK) : TS :=
  (tSeq (tDrop (tCall (sp_need_text A) [] E (tCons (tVar 0) tNil)))
  (tRet (tCall (sp_arms_of A) [] E0 (tCons (tVar 0) tNil))))

theorem len_arms (A : Ad) : ∀ vs H Q E, sp_arms A vs H Q E → vs.length = 1 := fun vs H Q E h => by
  rcases h with ⟨v, ⟨x, o, rfl, _⟩, _⟩ | ⟨C, ⟨x, o, rfl, _⟩, _⟩ <;> rfl
theorem thing_tx {K : PySem.W.Frag} {H : Hp} {x : V} {l : Tx} (h : Thing K H x (some l)) : x = tS l ∧ l.length ≤ 1000 := by
  rcases h with ⟨l', rfl, h, e⟩ | ⟨_, e⟩
  · cases e
    exact ⟨rfl, h⟩
  · cases e
theorem pu_arms (A : Ad) (vs : List V) (H : Hp) (Q : VK) (E : XK) (h : sp_arms A vs H Q E) : t_arms A E { nx := fun _ H' => Q .non H', rt := Q } (start ["text"] vs) H := by
  rcases h with ⟨xs, ⟨x, l, rfl, hx, hb, rfl⟩, k⟩ | ⟨C, ⟨x, o, rfl, hx, hb, rfl⟩, k⟩
  · show t_arms A E _ [some x] H
    unfold t_arms
    obtain ⟨rfl, hl⟩ := thing_tx hx
    refine aq_need_text (Am.start H) (ev_var rfl) hx hb fun H1 am => ?_
    exact a_retL am (c_arms_of_ (ev_var rfl) hl) fun p H2 am => k p H2 (am.free 0 rfl) am.toEx (am.at 0 rfl)
  · show t_arms A E _ [some x] H
    unfold t_arms
    exact xq_need_text (Am.start H) (ev_var rfl) hx hb fun H1 am => k H1 am.toEx
theorem c_arms_ {A : Ad} {σ : L2.St} {H : Hp} {te : TE} {l : Tx} {E : XK} (h : Ev te σ H (tS l)) (hb : isTx l = true) (hl : l.length ≤ 1000) : EvL (tCall (sp_arms A) [] E (tCons te tNil)) σ H ((armsN l).map vN) :=
  e_callLX (ea_cons h ea_nil) fun _ e => ⟨tS l, l, rfl, .inl ⟨l, rfl, hl, rfl⟩, hb, rfl⟩

end Mw
namespace Mw
open PySem PySem.Spec PyProof.Rows L2 Evl
local macro_rules | `(tactic| walk_at "sd") => `(tactic| (first
  | assumption
  | omega
  | decide
  | (simp only [List.length_append, List.length_cons, List.length_nil, List.length_reverse, List.length_take, List.length_drop, List.length_map, List.length_range] at *; omega)
  | skip))
local macro_rules | `(tactic| walk_at "ev") => `(tactic| (first
  | ((with_reducible apply ev_var); rfl)
  | (with_reducible exact ev_c)
  | ((with_reducible apply ev_op) <;> walk_at "ev")
  | ((with_reducible apply e_negI) <;> walk_at "ev")
  | ((with_reducible apply et_test) <;> walk_at "ev")
  | ((with_reducible apply et_B) <;> walk_at "ev")
  | ((with_reducible apply et_and); (focus walk_at "ev"); intro hq; (try simp only [Bool.and_eq_true, Bool.or_eq_true, decide_eq_true_eq, Bool.not_eq_true', decide_eq_false_iff_not, Bool.and_eq_false_iff, Bool.or_eq_false_iff, Bool.not_eq_false'] at hq); walk_at "ev")
  | ((with_reducible apply et_or); (focus walk_at "ev"); intro hq; (try simp only [Bool.and_eq_true, Bool.or_eq_true, decide_eq_true_eq, Bool.not_eq_true', decide_eq_false_iff_not, Bool.and_eq_false_iff, Bool.or_eq_false_iff, Bool.not_eq_false'] at hq); walk_at "ev")
  | ((with_reducible apply ev_andV); (focus walk_at "ev"); intro hq; (try simp only [Bool.and_eq_true, Bool.or_eq_true, decide_eq_true_eq, Bool.not_eq_true', decide_eq_false_iff_not, Bool.and_eq_false_iff, Bool.or_eq_false_iff, Bool.not_eq_false'] at hq); walk_at "ev")
  | ((with_reducible apply ev_orV); (focus walk_at "ev"); intro hq; (try simp only [Bool.and_eq_true, Bool.or_eq_true, decide_eq_true_eq, Bool.not_eq_true', decide_eq_false_iff_not, Bool.and_eq_false_iff, Bool.or_eq_false_iff, Bool.not_eq_false'] at hq); walk_at "ev")
  | ((with_reducible apply e_if); (focus walk_at "ev"); (focus (intro hq; (try simp only [Bool.and_eq_true, Bool.or_eq_true, decide_eq_true_eq, Bool.not_eq_true', decide_eq_false_iff_not, Bool.and_eq_false_iff, Bool.or_eq_false_iff, Bool.not_eq_false'] at hq); walk_at "ev")); (intro hq; (try simp only [Bool.and_eq_true, Bool.or_eq_true, decide_eq_true_eq, Bool.not_eq_true', decide_eq_false_iff_not, Bool.and_eq_false_iff, Bool.or_eq_false_iff, Bool.not_eq_false'] at hq); walk_at "ev"))
  | ((with_reducible apply et_not) <;> walk_at "ev")
  | ((with_reducible apply ev_notV) <;> walk_at "ev")
  | (with_reducible exact et_yes)
  | (with_reducible exact ea_nil)
  | ((with_reducible apply ea_cons) <;> walk_at "ev")
  | (with_reducible exact eo_none)
  | ((with_reducible apply eo_some) <;> walk_at "ev")
  | ((with_reducible apply e_slBut) <;> walk_at "ev")
  | ((with_reducible apply e_slIn) <;> walk_at "ev")
  | ((with_reducible apply e_slTo) <;> walk_at "ev")
  | ((with_reducible apply e_slFrom) <;> walk_at "ev")
  | ((with_reducible apply e_slMid) <;> walk_at "ev")
  | ((with_reducible apply e_rev) <;> walk_at "ev")
  | (with_reducible exact rv_I0)
  | (with_reducible exact r_eqI) | (with_reducible exact r_neI) | (with_reducible exact r_eqS) | (with_reducible exact r_neS)
  | (with_reducible exact r_inC) | (with_reducible exact r_ninC) | (with_reducible exact r_isN) | (with_reducible exact r_notN)
  | (with_reducible exact r_ltT) | (with_reducible exact r_gtT)
  | (with_reducible exact rc_max2) | (with_reducible exact rc_min2)
  | ((with_reducible apply r_divI) <;> walk_at "sd") | ((with_reducible apply r_modI) <;> walk_at "sd") | ((with_reducible apply r_mulI) <;> walk_at "sd")
  | ((with_reducible apply r_ixS) <;> walk_at "sd")
  | ((with_reducible apply r_addT) <;> walk_at "sd")
  | ((with_reducible apply r_mulT) <;> walk_at "sd")
  | ((with_reducible apply rc_lenT) <;> walk_at "sd")
  | ((with_reducible apply rc_lenL) <;> walk_at "sd")
  | ((with_reducible apply ev_cb) <;> walk_at "ev")
  | walk_at "evc"
  | walk_at "sd"))

/-! ## is_whole, most_arm, is_arms -/
def kinds : List String := ["NoneType", "int", "bool", "list", "tuple", "dict", "str"]
def sp_is_whole (A : Ad) : Sp := spV fun vs H v => ∃ (x : V) (t : String), vs = [x] ∧ TyX A.K H x (.type t) ∧ t ∈ kinds ∧ v = .bl (decide (t = "int"))
def t_is_whole (A : Ad) : TS :=
  (tRet (tAndV (tCB (rIsi A.K) (tCons (tVar 0) (tCons (tC (.ty "int")) tNil))) (tNotV (tCB (rIsi A.K) (tCons (tVar 0) (tCons (tC (.ty "bool")) tNil))))))

theorem len_is_whole (A : Ad) : ∀ vs H Q E, sp_is_whole A vs H Q E → vs.length = 1 := fun vs H Q E h => by
  obtain ⟨v, ⟨x, t, rfl, _⟩, _⟩ := h
  rfl
theorem kit_int {K : PySem.W.Frag} {t : String} (h : t ∈ kinds) : PySem.W.kitOne K (.type t) (.type "int") = some (decide (t = "int") || decide (t = "bool")) := by
  simp only [kinds, List.mem_cons, List.not_mem_nil, or_false] at h
  rcases h with rfl | rfl | rfl | rfl | rfl | rfl | rfl <;> exact kit_ty (by decide +kernel)
theorem kit_bool {K : PySem.W.Frag} {t : String} (h : t ∈ kinds) : PySem.W.kitOne K (.type t) (.type "bool") = some (decide (t = "bool")) := by
  simp only [kinds, List.mem_cons, List.not_mem_nil, or_false] at h
  rcases h with rfl | rfl | rfl | rfl | rfl | rfl | rfl <;> exact kit_ty (by decide +kernel)
theorem kit_list {K : PySem.W.Frag} {t : String} (h : t ∈ kinds) : PySem.W.kitOne K (.type t) (.type "list") = some (decide (t = "list")) := by
  simp only [kinds, List.mem_cons, List.not_mem_nil, or_false] at h
  rcases h with rfl | rfl | rfl | rfl | rfl | rfl | rfl <;> exact kit_ty (by decide +kernel)
theorem pu_is_whole (A : Ad) (vs : List V) (H : Hp) (Q : VK) (E : XK) (h : sp_is_whole A vs H Q E) : t_is_whole A { nx := fun _ H' => Q .non H', rt := Q } (start ["thing"] vs) H := by
  obtain ⟨v, ⟨x, t, rfl, ty, ht, rfl⟩, k⟩ := h
  show t_is_whole A _ [some x] H
  unfold t_is_whole
  refine a_ret (v := .bl (decide (t = "int"))) (Am.start H) (ev_is (ev_andV (a := decide (t = "int") || decide (t = "bool")) (b := !decide (t = "bool")) (ev_cb (ea_cons (ev_var rfl) (ea_cons ev_c ea_nil)) (rc_isi (t := .type t) (fun _ e => tyX_ex e ty) (.ty "int") (kit_int ht))) fun _ =>
    ev_notV (ev_cb (ea_cons (ev_var rfl) (ea_cons ev_c ea_nil)) (rc_isi (t := .type t) (fun _ e => tyX_ex e ty) (.ty "bool") (kit_bool ht)))) ?_) fun H1 am => k H1 am.toEx
  congr 1
  by_cases c : t = "int"
  · subst c; rfl
  · by_cases d : t = "bool"
    · subst d; rfl
    · rw [decide_eq_false c, decide_eq_false d]; rfl
theorem c_is_whole_ {A : Ad} {σ : L2.St} {H : Hp} {te : TE} {x : V} {t : String} (h : Ev te σ H x) (ty : TyX A.K H x (.type t)) (ht : t ∈ kinds) : Ev (tCall (sp_is_whole A) [] E0 (tCons te tNil)) σ H (.bl (decide (t = "int"))) :=
  e_callV (ea_cons h ea_nil) fun _ e => ⟨x, t, rfl, tyX_ex e ty, ht, rfl⟩
def mostI (m n : Int) : Int := min ((m + 1) / 2) (n - 1 - m / 2)
def sp_most_arm (A : Ad) : Sp := spV fun vs H v => ∃ m n : Int, vs = [.int m, .int n] ∧ v = .int (mostI m n)
def t_most_arm (A : Ad) : TS :=
  (tRet (tCB rMin2I (tCons (tOp rDivI (tOp rAddI (tVar 0) (tC (.int 1))) (tC (.int 2))) (tCons (tOp rSubI (tOp rSubI (tVar 1) (tC (.int 1))) (tOp rDivI (tVar 0) (tC (.int 2)))) tNil))))

theorem len_most_arm (A : Ad) : ∀ vs H Q E, sp_most_arm A vs H Q E → vs.length = 2 := fun vs H Q E h => by
  obtain ⟨v, ⟨m, n, rfl, _⟩, _⟩ := h
  rfl
theorem pu_most_arm (A : Ad) (vs : List V) (H : Hp) (Q : VK) (E : XK) (h : sp_most_arm A vs H Q E) : t_most_arm A { nx := fun _ H' => Q .non H', rt := Q } (start ["middle", "many"] vs) H := by
  obtain ⟨v, ⟨m, n, rfl, rfl⟩, k⟩ := h
  show t_most_arm A _ [some (.int m), some (.int n)] H
  unfold t_most_arm
  exact a_ret (v := .int (min ((m + 1) / 2) (n - 1 - m / 2))) (Am.start H) (by walk_at "ev") fun H1 am => k H1 am.toEx
theorem c_most_arm_ {A : Ad} {σ : L2.St} {H : Hp} {tm tn : TE} {m n : Int} (h : Ev tm σ H (.int m)) (h2 : Ev tn σ H (.int n)) : Ev (tCall (sp_most_arm A) [] E0 (tCons tm (tCons tn tNil))) σ H (.int (mostI m n)) :=
  e_callV (ea_cons h (ea_cons h2 ea_nil)) fun _ e => ⟨m, n, rfl, rfl⟩
/-- what may stand in a list of arms -/
inductive Elt where
  | i (x : Int)
  | b (x : Bool)
  | s (x : Tx)
  | n
  | l (q : Addr) (xs : List Int)
def eV : Elt → V
  | .i x => .int x
  | .b x => .bl x
  | .s x => tS x
  | .n => .non
  | .l q _ => .ref q
def eD : Elt → PyData
  | .i x => .int x
  | .b x => .bool x
  | .s x => .str (T x)
  | .n => .none
  | .l _ xs => .list (xs.map PyData.int)
def eT : Elt → String
  | .i _ => "int"
  | .b _ => "bool"
  | .s _ => "str"
  | .n => "NoneType"
  | .l _ _ => "list"
def holdE (H : Hp) : Elt → Prop
  | .l q xs => H q = some (.lst (xs.map V.int))
  | _ => True
theorem holdE.ex {H H' : Hp} (e : Ex H H') {x : Elt} (h : holdE H x) : holdE H' x := by
  cases x with
  | l q xs => exact e _ _ h
  | i _ => trivial
  | b _ => trivial
  | s _ => trivial
  | n => trivial
def okE : Elt → Bool
  | .s x => okT x
  | _ => true
def goodE (m n : Int) : Elt → Bool
  | .i x => decide (0 ≤ x) && decide (x ≤ mostI m n)
  | _ => false
theorem eT_kind (e : Elt) : eT e ∈ kinds := by
  cases e
  · exact (by decide : "int" ∈ kinds)
  · exact (by decide : "bool" ∈ kinds)
  · exact (by decide : "str" ∈ kinds)
  · exact (by decide : "NoneType" ∈ kinds)
  · exact (by decide : "list" ∈ kinds)
def goodAt (es : List Elt) (m : Nat) : Bool := match es[m]? with
  | some e => goodE m (((es.length + 1) / 2 : Nat) : Int) e
  | none => true
def arB (es : List Elt) : Bool := decide (es.length ≤ 399) && (decide (es = []) || decide (es.length % 2 = 1)) && (List.range es.length).all (goodAt es)
theorem eT_ty {K : PySem.W.Frag} {H : Hp} (e : Elt) (h : holdE H e) : TyX K H (eV e) (.type (eT e)) := by
  cases e
  · exact .base (.int _)
  · exact .base (.bl _)
  · exact .base (.str _)
  · exact .base .non
  · exact .base (.lst h)
theorem dpAll_elts {K : PySem.W.Frag} {H : Hp} : ∀ es : List Elt, (∀ e ∈ es, holdE H e) → DpAll K H (es.map eV) (es.map eD)
  | [], _ => .nil
  | e :: r, h => .cons (by
      have h0 := h e (List.mem_cons_self ..)
      cases e
      · exact .int _
      · exact .bl _
      · exact .str _
      · exact .non
      · exact dp_ints (sq_of h0)) (dpAll_elts r fun x hx => h x (List.mem_cons_of_mem _ hx))
theorem layAll_elts : ∀ es : List Elt, (∀ e ∈ es, okE e = true) → PyData.canLayAll0 (es.map eD) = true
  | [], _ => rfl
  | e :: r, h => by
    rw [List.map_cons]
    unfold PyData.canLayAll0
    rw [layAll_elts r fun x hx => h x (List.mem_cons_of_mem _ hx)]
    have z := h e (List.mem_cons_self ..)
    cases e with
    | i x => rfl
    | b x => rfl
    | s x => rw [Bool.and_true]; exact z
    | n => rfl
    | l q xs => rw [Bool.and_true]; exact layAll_ints xs
theorem depth_elts : ∀ es : List Elt, PyData.depthAll (es.map eD) ≤ 1
  | [] => Nat.zero_le _
  | e :: r => by
    rw [List.map_cons]
    unfold PyData.depthAll
    have := depth_elts r
    have h2 : (eD e).depth ≤ 1 := by
      cases e with
      | i x => exact Nat.zero_le _
      | b x => exact Nat.zero_le _
      | s x => exact Nat.zero_le _
      | n => exact Nat.zero_le _
      | l q xs =>
        show PyData.depthAll (xs.map PyData.int) + 1 ≤ 1
        rw [depth_ints]
        exact Nat.le_refl _
    omega
theorem shaped_elts {es : List Elt} (h : ∀ e ∈ es, okE e = true) : SeqAt.shaped (.list (es.map eD)) = true := by
  unfold SeqAt.shaped
  rw [Bool.and_eq_true]
  refine ⟨layAll_elts es h, decide_eq_true ?_⟩
  have := depth_elts es
  show PyData.depthAll (es.map eD) + 1 ≤ 64
  omega
theorem eqv_elts_nil (es : List Elt) : PyData.eqv (.list (es.map eD)) (.list []) = decide (es = []) := by
  cases es with
  | nil => rfl
  | cons e r => rfl
/-- a thing, and whether it is a list of arms -/
def IsA (K : PySem.W.Frag) (H : Hp) (x : V) (b : Bool) : Prop := (∃ p es, x = .ref p ∧ SqL K H p (es.map eV) ∧ TyX K H x (.type "list") ∧ es.length ≤ 1000 ∧ (∀ e ∈ es, okE e = true) ∧ (∀ e ∈ es, holdE H e) ∧ b = arB es) ∨ ∃ t, TyX K H x (.type t) ∧ t ∈ kinds ∧ t ≠ "list" ∧ b = false
theorem IsA.ex {K : PySem.W.Frag} {H H' : Hp} {x : V} {b : Bool} (e : Ex H H') (h : IsA K H x b) : IsA K H' x b := by
  rcases h with ⟨p, es, a, b, c, d⟩ | ⟨t, a, b⟩
  · exact .inl ⟨p, es, a, ex_l e b, tyX_ex e c, d.1, d.2.1, fun x hx => (d.2.2.1 x hx).ex e, d.2.2.2⟩
  · exact .inr ⟨t, tyX_ex e a, b⟩
def sp_is_arms (A : Ad) : Sp := spV fun vs H v => ∃ x b, vs = [x] ∧ IsA A.K H x b ∧ v = .bl b
def t_is_arms (A : Ad) : TS :=
  (tSeq (tIfS (tOr (tNot (tB (tCB (rIsi A.K) (tCons (tVar 0) (tCons (tC (.ty "list")) tNil))))) (tOr (tTest (tOp rGtI (tCB (rLenS A.K) (tCons (tVar 0) tNil)) (tOp rSubI (tOp rMulI (tC (.int 2)) (tC (.int 200))) (tC (.int 1))))) (tAnd (tTest (tOp (rNeD A.K) (tVar 0) (tLst tNil))) (tTest (tOp rEq (tOp rModI (tCB (rLenS A.K) (tCons (tVar 0) tNil)) (tC (.int 2))) (tC (.int 0))))))) (tRet (tC (.bl false))) tNext)
  (tSeq (tAsg (tOp rDivI (tOp rAddI (tCB (rLenS A.K) (tCons (tVar 0) tNil)) (tC (.int 1))) (tC (.int 2))) (gName 1))
  (tRet (tCB (rAll A.K) (tCons (tLc (iEnum A.K (tCons (tVar 0) tNil)) (gTup A.K 2 (gCons (gName 2) (gCons (gName 3) gNil))) tYes (tAndV (tCall (sp_is_whole A) [] E0 (tCons (tVar 3) tNil)) (tChain rLeI rLeI (tC (.int 0)) (tVar 3) (tCall (sp_most_arm A) [] E0 (tCons (tVar 2) (tCons (tVar 1) tNil))))) [2, 3]) tNil)))))

theorem len_is_arms (A : Ad) : ∀ vs H Q E, sp_is_arms A vs H Q E → vs.length = 1 := fun vs H Q E h => by
  obtain ⟨v, ⟨x, b, rfl, _⟩, _⟩ := h
  rfl
theorem pu_is_arms (A : Ad) (vs : List V) (H : Hp) (Q : VK) (E : XK) (h : sp_is_arms A vs H Q E) : t_is_arms A { nx := fun _ H' => Q .non H', rt := Q } (start ["thing", "many", "middle", "arm"] vs) H := by
  obtain ⟨v, ⟨x, b, rfl, hx, rfl⟩, k⟩ := h
  show t_is_arms A _ [some x, none, none, none] H
  unfold t_is_arms
  have am := Am.start H
  rcases hx with ⟨p, es, rfl, hs, ty, hz, hok, hho, rfl⟩ | ⟨t, ty, ht, hne, rfl⟩
  · have hlen : ∀ {H1 : Hp} {σ : L2.St}, Ex H H1 → σ[0]? = some (some (.ref p)) → Ev (tCB (rLenS A.K) (tCons (tVar 0) tNil)) σ H1 (.int (es.length : Nat)) := fun {H1 σ} e s0 => ev_is (ev_cb (ea_cons (ev_var s0) ea_nil) (rc_lenL (K := A.K) (ex_l e hs))) (by rw [List.length_map])
    refine aq_when (b := false || (decide ((399 : Int) < (es.length : Nat)) || (!decide (es = []) && decide (((es.length : Nat) : Int) % 2 = 0)))) am ?_ (fun c H1 am => ?_) fun c H1 am => ?_
    · refine et_or (et_not (et_B (ev_cb (ea_cons (ev_var rfl) (ea_cons ev_c ea_nil)) (rc_isi (t := .type "list") (b := true) (fun _ e => tyX_ex e ty) (.ty "list") (kit_ty (by decide +kernel)))))) fun _ =>
        et_or (et_test (ev_op (hlen (Ex.refl H) rfl) (ev_is (v := .int (2 * 200 - 1)) (ev_op (ev_op ev_c ev_c (r_mulI (by decide))) ev_c rv_I0) rfl) rv_I0)) fun _ => et_and (et_test (ev_opL (ev_var rfl) (el_lst ea_nil (by decide)) fun q H1 h1 e1 => rv_neD (.lst (ex_l e1 hs) (dpAll_elts es fun x hx => (hho x hx).ex e1)) (.lst (sq_of h1) .nil) (shaped_elts hok) (by decide +kernel) (eqv_elts_nil es))) fun _ =>
        et_test (ev_op (ev_op (hlen (Ex.refl H) rfl) ev_c (r_modI (by decide))) ev_c r_eqI)
    · have e0 : arB es = false := by
        unfold arB
        simp only [Bool.false_or, Bool.or_eq_true, Bool.and_eq_true, decide_eq_true_eq, Bool.not_eq_true', decide_eq_false_iff_not] at c
        rcases c with c | ⟨c, d⟩
        · rw [decide_eq_false (by omega : ¬ es.length ≤ 399)]; rfl
        · rw [decide_eq_false c, decide_eq_false (by omega : ¬ es.length % 2 = 1)]
          simp
      rw [e0] at k
      exact a_ret am ev_c fun H2 am => k H2 am.toEx
    · have e0 : arB es = (List.range es.length).all (goodAt es) := by
        unfold arB
        simp only [Bool.false_or, Bool.or_eq_false_iff, Bool.and_eq_false_iff, decide_eq_false_iff_not, Bool.not_eq_false', decide_eq_true_eq] at c
        obtain ⟨c1, c2⟩ := c
        rw [decide_eq_true (by omega : es.length ≤ 399)]
        by_cases d : es = []
        · rw [decide_eq_true d]; rfl
        · rw [decide_eq_false d, decide_eq_true (by rcases c2 with c2 | c2; exact absurd c2 d; omega : es.length % 2 = 1)]; rfl
      rw [e0] at k
      refine aq_asg (v := .int (((es.length + 1) / 2 : Nat) : Int)) am (ev_is (ev_op (ev_op (hlen am.toEx rfl) ev_c rv_I0) ev_c (r_divI (by decide))) (by congr 1)) fun H2 am => ?_
      dsimp only [List.set]
      refine a_ret (v := .bl (((List.range es.length).map (goodAt es)).all id)) am (e_cbN (xs := ((List.range es.length).map (goodAt es)).map V.bl) ?_ fun q H3 e h3 => rc_all (sq_of h3)) fun H3 am => ?_
      · rw [List.map_map]
        refine el_lcE (f := eV) (ns := es) (V.bl ∘ goodAt es) (ea_cons (ev_var rfl) ea_nil) (ex_l am.toEx hs) (by omega) (fun _ _ => rfl) fun m e hm => ?_
        dsimp only [List.set, wipe]
        refine ev_is (ev_andV (a := decide (eT e = "int")) (b := goodE m (((es.length + 1) / 2 : Nat) : Int) e) (c_is_whole_ (ev_var rfl) (eT_ty e ((hho e (List.mem_of_getElem? hm)).ex am.toEx)) (eT_kind e)) fun hi => ?_) ?_
        · cases e with
          | i x => exact e_chain ev_c (ev_var rfl) rv_I0 (fun _ => c_most_arm_ (ev_var rfl) (ev_var rfl)) fun _ => rv_I0
          | b x => exact absurd hi (by show ¬ decide ("bool" = "int") = true; decide)
          | s x => exact absurd hi (by show ¬ decide ("str" = "int") = true; decide)
          | n => exact absurd hi (by show ¬ decide ("NoneType" = "int") = true; decide)
          | l q xs => exact absurd hi (by show ¬ decide ("list" = "int") = true; decide)
        · show V.bl _ = V.bl (goodAt es m)
          unfold goodAt
          rw [hm]
          cases e <;> rfl
      · rw [List.all_map] at *
        exact k H3 am.toEx
  · refine aq_when (b := true || false) am (et_or (et_is (et_not (et_B (ev_cb (ea_cons (ev_var rfl) (ea_cons ev_c ea_nil)) (rc_isi (t := .type t) (b := decide (t = "list")) (fun _ e => tyX_ex e ty) (.ty "list") (kit_list ht))))) (by rw [decide_eq_false hne]; rfl)) fun z => Bool.noConfusion z) (fun _ H1 am => a_ret am ev_c fun H2 am => k H2 am.toEx) fun c => Bool.noConfusion c
theorem c_is_arms_ {A : Ad} {σ : L2.St} {H : Hp} {te : TE} {x : V} {b : Bool} (h : Ev te σ H x) (hx : IsA A.K H x b) : Ev (tCall (sp_is_arms A) [] E0 (tCons te tNil)) σ H (.bl b) :=
  e_callV (ea_cons h ea_nil) fun _ e => ⟨x, b, rfl, hx.ex e, rfl⟩
/-! ## Groups -/
structure GC (A : Ad) : Prop where
  cls : Cls A.K A.cGroups
  nf : NoAttr A.K A.cGroups "first"
def insG (A : Ad) (dx f : Addr) : HO := .ins A.cGroups dx [(("first" : Str), V.ref f)]
def nats (F : Nat → Nat) (n : Nat) : List V := (List.range n).map fun x => V.int (F x : Nat)
def grpL (A : Ad) (g dx f : Addr) (F : Nat → Nat) (n : Nat) : List (Addr × HO) := [(f, .lst (nats F n)), (g, insG A dx f)]
def RepF (n : Nat) (F r : Nat → Nat) : Prop := ∀ x, x < n → F x ≤ x ∧ (F x = x → r x = x) ∧ r (F x) = r x ∧ F (r x) = r x
theorem rep_id (n : Nat) : RepF n id (rootL []) := fun x _ => ⟨Nat.le_refl _, fun _ => rfl, rfl, rfl⟩
def tieF (F r : Nat → Nat) (a b : Nat) : Nat → Nat := fun x => if x = max (r a) (r b) then min (r a) (r b) else F x
theorem rep_step {E : List (Nat × Nat)} {n : Nat} {F r : Nat → Nat} {a b : Nat} (h : Fine E r) (hr : RepF n F r) (ha : a < n) (hb : b < n) : RepF n (tieF F r a b) (tieR r (a, b)) := by
  have ia := h.idem a
  have ib := h.idem b
  have la := h.le a
  have lb := h.le b
  have rmin : r (min (r a) (r b)) = min (r a) (r b) := by
    rcases Nat.le_total (r a) (r b) with c | c
    · rw [Nat.min_eq_left c, ia]
    · rw [Nat.min_eq_right c, ib]
  have rmax : r (max (r a) (r b)) = max (r a) (r b) := by
    rcases Nat.le_total (r a) (r b) with c | c
    · rw [Nat.max_eq_right c, ib]
    · rw [Nat.max_eq_left c, ia]
  have Fmin : F (min (r a) (r b)) = min (r a) (r b) := by
    have := (hr (min (r a) (r b)) (by omega)).2.2.2
    rwa [rmin] at this
  intro x hx
  obtain ⟨h1, h2, h3, h4⟩ := hr x hx
  unfold tieF tieR
  dsimp only
  by_cases c : x = max (r a) (r b)
  · subst c
    simp only [if_true, rmax, rmin]
    refine ⟨by omega, fun z => z, ?_, ?_⟩
    · split <;> rfl
    · by_cases d : min (r a) (r b) = max (r a) (r b)
      · rw [if_pos d]
      · rw [if_neg d, Fmin]
  · simp only [if_neg c, h3]
    refine ⟨h1, fun z => ?_, trivial, ?_⟩
    · have z2 := h2 z
      rw [z2, if_neg c]
    · by_cases d : r x = max (r a) (r b)
      · rw [if_pos d]
        by_cases e : min (r a) (r b) = max (r a) (r b)
        · rw [if_pos e]
        · rw [if_neg e, Fmin]
      · rw [if_neg d, if_neg d, h4]
def sp_Groups_init (A : Ad) : Sp := fun vs H Q _ => ∃ g dx n, vs = [.ref g, .int (n : Nat)] ∧ Has H [(g, .ins A.cGroups dx [])] ∧ n ≤ 1000 ∧ ∀ f H', Am [g] H (grpL A g dx f id n) H' → Q .non H'
def t_Groups_init (A : Ad) : TS :=
  (sFld A.K (tVar 0) (tLstRg (tRg1 (tVar 1))) "first")

theorem len_Groups_init (A : Ad) : ∀ vs H Q E, sp_Groups_init A vs H Q E → vs.length = 2 := fun vs H Q E h => by
  obtain ⟨g, dx, n, rfl, _⟩ := h
  rfl
theorem pu_Groups_init (A : Ad) (gc : GC A) (vs : List V) (H : Hp) (Q : VK) (E : XK) (h : sp_Groups_init A vs H Q E) : t_Groups_init A { nx := fun _ H' => Q .non H', rt := Q } (start ["self", "many"] vs) H := by
  obtain ⟨g, dx, n, rfl, hh, hn, k⟩ := h
  show t_Groups_init A _ [some (.ref g), some (.int (n : Nat))] H
  unfold t_Groups_init
  exact a_fldN 0 hh.am rfl (el_lrg (ev_var rfl) (by omega)) (fun H1 e => ev_var rfl) gc.cls gc.nf (by decide) fun f H1 am => k f H1 am
def sp_Groups_root (A : Ad) : Sp := spV fun vs H v => ∃ (g dx f : Addr) (F r : Nat → Nat) (n x : Nat), vs = [.ref g, .int x] ∧ Has H (grpL A g dx f F n) ∧ RepF n F r ∧ x < n ∧ v = .int (r x : Nat)
def t_Groups_root (A : Ad) : TS :=
  (tSeq (tWhile (tTest (tOp rNe (tOp (rIxL A.K) (tFld A.K (tVar 0) "first") (tVar 1)) (tVar 1)))
  (tAsg (tOp (rIxL A.K) (tFld A.K (tVar 0) "first") (tVar 1)) (gName 1)))
  (tRet (tVar 1)))

theorem len_Groups_root (A : Ad) : ∀ vs H Q E, sp_Groups_root A vs H Q E → vs.length = 2 := fun vs H Q E h => by
  obtain ⟨v, ⟨g, dx, f, F, r, n, x, rfl, _⟩, _⟩ := h
  rfl
theorem e_first {A : Ad} {σ : L2.St} {H : Hp} {te : TE} {g dx f : Addr} {F : Nat → Nat} {n : Nat} (gc : GC A) (h : Ev te σ H (.ref g)) (hh : Has H (grpL A g dx f F n)) : Ev (tFld A.K te "first") σ H (.ref f) :=
  e_fld h (hh.at 1 rfl) gc.cls gc.nf rfl
theorem e_firstAt {A : Ad} {σ : L2.St} {H : Hp} {te ti : TE} {g dx f : Addr} {F : Nat → Nat} {n x : Nat} (gc : GC A) (h : Ev te σ H (.ref g)) (hh : Has H (grpL A g dx f F n)) (hi : Ev ti σ H (.int (x : Nat))) (hx : x < n) : Ev (tOp (rIxL A.K) (tFld A.K te "first") ti) σ H (.int (F x : Nat)) :=
  ev_op (e_first gc h hh) hi (rv_ixL (sq_of (hh.at 0 rfl)) (atI_nat (at_range (fun x => V.int (F x : Nat)) hx)))
theorem pu_Groups_root (A : Ad) (gc : GC A) (vs : List V) (H : Hp) (Q : VK) (E : XK) (h : sp_Groups_root A vs H Q E) : t_Groups_root A { nx := fun _ H' => Q .non H', rt := Q } (start ["self", "place"] vs) H := by
  obtain ⟨v, ⟨g, dx, f, F, r, n, x, rfl, hh, hr, hx, rfl⟩, k⟩ := h
  show t_Groups_root A _ [some (.ref g), some (.int (x : Nat))] H
  unfold t_Groups_root
  refine aq_while (fun m σ' H' => ∃ y : Nat, σ' = [some (.ref g), some (.int (y : Nat))] ∧ Am [] H [] H' ∧ m = y ∧ y < n ∧ r y = r x) x ⟨x, rfl, Am.start H, rfl, hx, rfl⟩ fun m σ' H' hw => ?_
  obtain ⟨y, rfl, am, rfl, hy, hry⟩ := hw
  obtain ⟨h1, h2, h3, h4⟩ := hr m hy
  refine ⟨_, et_test (ev_op (e_firstAt gc (ev_var rfl) (hh.ex am.toEx) (ev_var rfl) hy) (ev_var rfl) r_neI), fun c H1 e N hN => ?_, fun c H1 e => ?_⟩
  · have am := am.ex e
    rw [Bool.not_eq_true', decide_eq_false_iff_not] at c
    refine a_asg am (e_firstAt gc (ev_var rfl) (hh.ex am.toEx) (ev_var rfl) hy) fun H2 am => ?_
    exact hN (F m) _ _ (by omega) ⟨F m, rfl, am, rfl, by omega, by rw [h3, hry]⟩
  · have am := am.ex e
    rw [Bool.not_eq_false', decide_eq_true_eq] at c
    have e2 : r x = m := by rw [← hry]; exact h2 (by omega)
    rw [e2] at k
    exact a_ret am (ev_var rfl) fun H2 am => k H2 am.toEx
theorem c_root {A : Ad} {σ : L2.St} {H : Hp} {to te : TE} {g dx f : Addr} {F r : Nat → Nat} {n x : Nat} (ho : Ev to σ H (.ref g)) (hh : Has H (grpL A g dx f F n)) (hr : RepF n F r) (h : Ev te σ H (.int (x : Nat))) (hx : x < n) : Ev (tMeth A.cGroups "root" (sp_Groups_root A) [] E0 to (tCons te tNil)) σ H (.int (r x : Nat)) :=
  e_methV ho (hh.at 1 rfl) rfl (ea_cons h ea_nil) fun H1 e => ⟨g, dx, f, F, r, n, x, rfl, hh.ex e, hr, hx, rfl⟩
def sp_Groups_tie (A : Ad) : Sp := fun vs H Q _ => ∃ (g dx f : Addr) (F r : Nat → Nat) (n a b : Nat), vs = [.ref g, .int a, .int b] ∧ Has H (grpL A g dx f F n) ∧ RepF n F r ∧ (∀ x, r x ≤ x) ∧ a < n ∧ b < n ∧
  ∀ H', Am ((grpL A g dx f F n).map (·.1)) H (grpL A g dx f (tieF F r a b) n) H' → Q .non H'
def t_Groups_tie (A : Ad) : TS :=
  (tSeq (tPar 1 2 (tCons (tMeth A.cGroups "root" (sp_Groups_root A) [] E0 (tVar 0) (tCons (tVar 1) tNil)) (tCons (tMeth A.cGroups "root" (sp_Groups_root A) [] E0 (tVar 0) (tCons (tVar 2) tNil)) tNil)))
  (tAsg (tCB rMin2I (tCons (tVar 1) (tCons (tVar 2) tNil))) (gSub (tFld A.K (tVar 0) "first") (tCB rMax2I (tCons (tVar 1) (tCons (tVar 2) tNil))) rSetL)))

theorem len_Groups_tie (A : Ad) : ∀ vs H Q E, sp_Groups_tie A vs H Q E → vs.length = 3 := fun vs H Q E h => by
  obtain ⟨g, dx, f, F, r, n, a, b, rfl, _⟩ := h
  rfl
theorem pu_Groups_tie (A : Ad) (gc : GC A) (vs : List V) (H : Hp) (Q : VK) (E : XK) (h : sp_Groups_tie A vs H Q E) : t_Groups_tie A { nx := fun _ H' => Q .non H', rt := Q } (start ["self", "one", "other"] vs) H := by
  obtain ⟨g, dx, f, F, r, n, a, b, rfl, hh, hr, hle, ha, hb, k⟩ := h
  show t_Groups_tie A _ [some (.ref g), some (.int (a : Nat)), some (.int (b : Nat))] H
  unfold t_Groups_tie
  have la := hle a
  have lb := hle b
  refine aq_par hh.am (ea_cons (c_root (ev_var rfl) hh hr (ev_var rfl) ha) (ea_cons (c_root (ev_var rfl) hh hr (ev_var rfl) hb) ea_nil)) fun H1 am => ?_
  dsimp only [List.set]
  refine a_setL 0 (j := max (r a) (r b)) (v := .int ((min (r a) (r b) : Nat) : Int)) am rfl (ev_is (ev_cb (ea_cons (ev_var rfl) (ea_cons (ev_var rfl) ea_nil)) rc_min2) (by congr 1; omega)) (e_first gc (ev_var rfl) am.hasAll) (ev_is (ev_cb (ea_cons (ev_var rfl) (ea_cons (ev_var rfl) ea_nil)) rc_max2) (by congr 1; omega)) (by unfold nats; rw [List.length_map, List.length_range]; omega) fun H2 am => ?_
  refine k H2 ?_
  have e : (nats F n).set (max (r a) (r b)) (.int ((min (r a) (r b) : Nat) : Int)) = nats (tieF F r a b) n := by
    unfold nats
    rw [set_range]
    refine List.map_congr_left fun i _ => ?_
    unfold tieF
    split <;> rfl
  rw [e] at am
  exact am
/-! ## tied -/
def armL (n : Nat) (a : Nat → Nat) : List V := (List.range (2 * n - 1)).map fun m => vN (a m)
theorem ties_succ (a : Nat → Nat) (M : Nat) : tiesN a (M + 1) = tiesN a M ++ tiesM M (a M) := by
  unfold tiesN
  rw [List.range_succ, List.flatMap_append]
  simp
theorem tiesM_succ (m k : Nat) : tiesM m (k + 1) = tiesM m k ++ [((m + 1) / 2 - 1 - k, m / 2 + 1 + k)] := by
  unfold tiesM
  rw [List.range_succ, List.map_append]; rfl
theorem root_snoc (E : List (Nat × Nat)) (p : Nat × Nat) : rootL (E ++ [p]) = tieR (rootL E) p := by
  unfold rootL
  rw [List.foldl_append]; rfl
theorem range_atM {N : Nat} {pre post : List Nat} {n : Nat} (h : List.range N = pre ++ n :: post) : pre.length = n ∧ n < N := by
  obtain ⟨h1, h2⟩ := range_split h
  rw [h1, List.length_range]
  exact ⟨rfl, h2⟩
def sp_tied (A : Ad) : Sp := fun vs H Q _ => ∃ (p : Addr) (n : Nat) (a : Nat → Nat), vs = [.ref p, .int (n : Nat)] ∧ SqL A.K H p (armL n a) ∧ OkA n a ∧ n ≤ 200 ∧
  ∀ g dx f F H', Am [] H (grpL A g dx f F n) H' → RepF n F (rootL (tiesN a (2 * n - 1))) → Q (.ref g) H'
def t_tied (A : Ad) : TS :=
  (tSeq (tAsg (tMake A.cGroups (sp_Groups_init A) [] E0 (tCons (tVar 1) tNil)) (gName 2))
  (tSeq (tFor (iEnum A.K (tCons (tVar 0) tNil)) (gTup A.K 2 (gCons (gName 3) (gCons (gName 4) gNil)))
  (tFor (iRng1 (tCons (tVar 4) tNil)) (gName 5)
  (tDrop (tMeth A.cGroups "tie" (sp_Groups_tie A) [] E0 (tVar 2) (tCons (tOp rSubI (tOp rDivI (tOp rSubI (tVar 3) (tC (.int 1))) (tC (.int 2))) (tVar 5)) (tCons (tOp rAddI (tOp rAddI (tOp rDivI (tVar 3) (tC (.int 2))) (tC (.int 1))) (tVar 5)) tNil))))))
  (tRet (tVar 2))))

theorem len_tied (A : Ad) : ∀ vs H Q E, sp_tied A vs H Q E → vs.length = 2 := fun vs H Q E h => by
  obtain ⟨p, n, a, rfl, _⟩ := h
  rfl
theorem pu_tied (A : Ad) (vs : List V) (H : Hp) (Q : VK) (E : XK) (h : sp_tied A vs H Q E) : t_tied A { nx := fun _ H' => Q .non H', rt := Q } (start ["arms", "many", "groups", "middle", "arm", "step"] vs) H := by
  obtain ⟨p, n, a, rfl, hS, ok, hn, k⟩ := h
  show t_tied A _ [some (.ref p), some (.int (n : Nat)), none, none, none, none] H
  unfold t_tied
  refine aq_make (Am.start H) (ea_cons (ev_var rfl) ea_nil) fun g dx H1 am => ?_
  dsimp only [List.set]
  refine ⟨g, dx, n, rfl, Am.has (La := [(g, .ins A.cGroups dx [])]) (L := [(dx, .own g)]) am, by omega, fun f H2 am2 => ⟨rfl, ?_⟩⟩
  have am := Am.call (La := [(g, .ins A.cGroups dx [])]) (L := [(dx, .own g)]) am am2
  have am : Am [] H (grpL A g dx f id n) H2 := am.sub (List.sublist_append_left _ _)
  refine aq_forE (K := A.K) (f := fun m => vN (a m)) (ns := List.range (2 * n - 1)) (a := p) (fun pre σ' H' => ∃ (F : Nat → Nat) (v3 v4 v5 : Option V), σ' = [some (.ref p), some (.int (n : Nat)), some (.ref g), v3, v4, v5] ∧ Am [] H (grpL A g dx f F n) H' ∧ RepF n F (rootL (tiesN a pre.length))) am
    (ea_cons (ev_var rfl) ea_nil) (ex_l am.toEx hS) (fun H3 am => ⟨id, _, _, _, rfl, am, rep_id n⟩) ?_ ?_ ?_
  · rintro pre σ' H' ⟨F, v3, v4, v5, rfl, am, _⟩
    exact ex_l am.toEx hS
  · rintro pre M post σ' H3 H4 hs ⟨F, v3, v4, v5, rfl, am, hr⟩ e34
    have am := am.ex e34
    obtain ⟨hM, hMn⟩ := range_atM hs
    dsimp only [List.set]
    rw [hM] at hr ⊢
    rw [show (pre ++ [M]).length = M + 1 by rw [List.length_append, hM]; rfl]
    obtain ⟨o1, o2⟩ := ok M hMn
    refine a_for (ns := List.range ((a M : Nat) : Int).toNat) (f := fun i => .int (i : Nat)) (fun pre2 σ' H' => ∃ (F : Nat → Nat) (v5 : Option V), σ' = [some (.ref p), some (.int (n : Nat)), some (.ref g), some (.int (M : Nat)), some (vN (a M)), v5] ∧ Am [] H (grpL A g dx f F n) H' ∧ RepF n F (rootL (tiesN a M ++ tiesM M pre2.length))) am
      (wk_range1 (ea_cons (ev_var rfl) ea_nil) (by omega)) (fun H5 am => ⟨F, _, rfl, am, by rw [show tiesM M ([] : List Nat).length = [] from rfl, List.append_nil]; exact hr⟩) (fun _ _ _ _ => trivial) ?_ ?_
    · rintro pre2 s post2 σ' H5 hs2 ⟨F, v5, rfl, am, hr⟩
      obtain ⟨hs1, hsn⟩ := range_atM hs2
      rw [Int.toNat_natCast] at hsn
      dsimp only [List.set]
      rw [hs1] at hr
      rw [show (pre2 ++ [s]).length = s + 1 by rw [List.length_append, hs1]; rfl]
      refine a_methD am (ev_var rfl) (am.at 1 rfl) rfl (ea_cons (ev_is (ev_op (ev_op (ev_op (ev_var rfl) ev_c rv_I0) ev_c (r_divI (by decide))) (ev_var rfl) rv_I0) (w := .int (((M + 1) / 2 - 1 - s : Nat) : Int)) (by congr 1; omega))
        (ea_cons (ev_is (ev_op (ev_op (ev_op (ev_var rfl) ev_c (r_divI (by decide))) ev_c rv_I0) (ev_var rfl) rv_I0) (w := .int ((M / 2 + 1 + s : Nat) : Int)) (by congr 1)) ea_nil)) fun H6 am => ?_
      have fine := fine_root (tiesN a M ++ tiesM M s)
      refine ⟨g, dx, f, F, _, n, _, _, rfl, am.hasAll, hr, fine.le, by omega, by omega, fun H7 am7 => ?_⟩
      have am := Am.call (La := grpL A g dx f F n) (L := []) (by rw [List.append_nil]; exact am) am7
      rw [List.append_nil] at am
      refine ⟨_, _, rfl, am, ?_⟩
      rw [tiesM_succ, ← List.append_assoc, root_snoc]
      exact rep_step fine hr (by omega) (by omega)
    · rintro σ' H5 ⟨F, v5, rfl, am, hr⟩
      rw [List.length_range, Int.toNat_natCast, ← ties_succ] at hr
      exact ⟨F, _, _, _, rfl, am, hr⟩
  · rintro σ' H3 ⟨F, v3, v4, v5, rfl, am, hr⟩
    rw [List.length_range] at hr
    exact a_ret am (ev_var rfl) fun H4 am => k g dx f F H4 am hr
/-! ## foes_of -/
def FInv (n : Nat) (a r : Nat → Nat) (M : Nat) (X : Nat → List Int) : Prop := ∀ i, i < n → (X i).length ≤ 2 * M ∧ ∀ e : Int, e ∈ X i ↔ ∃ q : Nat, e = q ∧ q < n ∧ ∃ m, m < M ∧ foeM n a r i q m = true
theorem led_at {R : Nat → Addr} {X : Nat → List Int} {n i : Nat} {pf : Addr} {L : List (Addr × HO)} (h : i < n) : ((pf, HO.lst (refE (entF R X n))) :: (ledE (entF R X n) ++ L))[1 + i]? = some (R i, .lst ((X i).map V.int)) := by
  rw [Nat.add_comm 1]
  show (ledE (entF R X n) ++ L)[i]? = _
  rw [List.getElem?_append_left (by unfold ledE entF; simp; omega)]
  unfold ledE
  rw [List.getElem?_map, entF_at h]; rfl
theorem ref_at {R : Nat → Addr} {X : Nat → List Int} {n i : Nat} (h : i < n) : (refE (entF R X n))[i]? = some (.ref (R i)) := by
  unfold refE
  rw [List.getElem?_map, entF_at h]; rfl
theorem led_app {R : Nat → Addr} {X : Nat → List Int} {n i : Nat} {pf : Addr} {L : List (Addr × HO)} {v : Int} (h : i < n) : ((pf, HO.lst (refE (entF R X n))) :: (ledE (entF R X n) ++ L)).set (1 + i) (R i, .lst ((X i).map V.int ++ [V.int v])) =
    (pf, HO.lst (refE (entF R (fun j => if j = i then X i ++ [v] else X j) n))) :: (ledE (entF R (fun j => if j = i then X i ++ [v] else X j) n) ++ L) := by
  rw [← entF_set, refE_set (entF_at h), ledE_set, Nat.add_comm 1, List.map_append]
  show _ :: (ledE (entF R X n) ++ L).set i _ = _
  rw [List.set_append_left _ _ (by unfold ledE entF; simp; omega)]
  rfl
theorem finv_no {n : Nat} {a r : Nat → Nat} {M : Nat} {X : Nat → List Int} (h : FInv n a r M X) (hv : vE n a M = false) : FInv n a r (M + 1) X := fun i hi => by
  obtain ⟨h1, h2⟩ := h i hi
  refine ⟨by omega, fun e => ?_⟩
  rw [h2]
  constructor
  · rintro ⟨q, a1, a2, m, a3, a4⟩
    exact ⟨q, a1, a2, m, by omega, a4⟩
  · rintro ⟨q, a1, a2, m, a3, a4⟩
    rcases Nat.lt_or_ge m M with d | d
    · exact ⟨q, a1, a2, m, d, a4⟩
    · rw [show m = M by omega] at a4
      unfold foeM at a4
      rw [hv] at a4
      cases a4
theorem finv_yes {n : Nat} {a r : Nat → Nat} {M : Nat} {X : Nat → List Int} (h : FInv n a r M X) (hv : vE n a M = true) (hne : r (Lf a M) ≠ r (Rt a M)) (hL : r (Lf a M) < n) (hR : r (Rt a M) < n) :
    FInv n a r (M + 1) (fun j => if j = r (Rt a M) then (fun j => if j = r (Lf a M) then X (r (Lf a M)) ++ [((r (Rt a M) : Nat) : Int)] else X j) (r (Rt a M)) ++ [((r (Lf a M) : Nat) : Int)] else (fun j => if j = r (Lf a M) then X (r (Lf a M)) ++ [((r (Rt a M) : Nat) : Int)] else X j) j) := fun i hi => by
  obtain ⟨h1, h2⟩ := h i hi
  have hM : ∀ q, foeM n a r i q M = true ↔ (r (Lf a M) = i ∧ r (Rt a M) = q) ∨ (r (Rt a M) = i ∧ r (Lf a M) = q) := fun q => by
    unfold foeM
    rw [hv]
    simp
  have key : ∀ e : Int, (∃ q : Nat, e = q ∧ q < n ∧ ∃ m, m < M + 1 ∧ foeM n a r i q m = true) ↔ e ∈ X i ∨ (r (Lf a M) = i ∧ e = ((r (Rt a M) : Nat) : Int)) ∨ (r (Rt a M) = i ∧ e = ((r (Lf a M) : Nat) : Int)) := fun e => by
    rw [h2]
    constructor
    · rintro ⟨q, a1, a2, m, a3, a4⟩
      rcases Nat.lt_or_ge m M with d | d
      · exact .inl ⟨q, a1, a2, m, d, a4⟩
      · rw [show m = M by omega] at a4
        rcases (hM q).mp a4 with ⟨b1, b2⟩ | ⟨b1, b2⟩
        · exact .inr (.inl ⟨b1, by rw [a1, b2]⟩)
        · exact .inr (.inr ⟨b1, by rw [a1, b2]⟩)
    · rintro (⟨q, a1, a2, m, a3, a4⟩ | ⟨b1, b2⟩ | ⟨b1, b2⟩)
      · exact ⟨q, a1, a2, m, by omega, a4⟩
      · exact ⟨_, b2, hR, M, by omega, (hM _).mpr (.inl ⟨b1, rfl⟩)⟩
      · exact ⟨_, b2, hL, M, by omega, (hM _).mpr (.inr ⟨b1, rfl⟩)⟩
  dsimp only
  by_cases c : i = r (Rt a M)
  · subst c
    rw [if_pos rfl, if_neg (Ne.symm hne)]
    refine ⟨by rw [List.length_append, List.length_singleton]; omega, fun e => ?_⟩
    rw [key, List.mem_append, List.mem_singleton]
    constructor
    · rintro (h | h)
      · exact .inl h
      · exact .inr (.inr ⟨rfl, h⟩)
    · rintro (h | ⟨h, _⟩ | ⟨_, h⟩)
      · exact .inl h
      · exact absurd h hne
      · exact .inr h
  · rw [if_neg c]
    by_cases d : i = r (Lf a M)
    · subst d
      rw [if_pos rfl]
      refine ⟨by rw [List.length_append, List.length_singleton]; omega, fun e => ?_⟩
      rw [key, List.mem_append, List.mem_singleton]
      constructor
      · rintro (h | h)
        · exact .inl h
        · exact .inr (.inl ⟨rfl, h⟩)
      · rintro (h | ⟨_, h⟩ | ⟨h, _⟩)
        · exact .inl h
        · exact .inr h
        · exact absurd h.symm hne
    · rw [if_neg d]
      refine ⟨by omega, fun e => ?_⟩
      rw [key]
      constructor
      · intro h
        exact .inl h
      · rintro (h | ⟨h, _⟩ | ⟨h, _⟩)
        · exact h
        · exact absurd h.symm d
        · exact absurd h.symm c
def FoeAt (n : Nat) (a r : Nat → Nat) (i : Nat) (xs : List V) : Prop := ∃ ns : List Int, xs = ns.map V.int ∧ ns.length ≤ 100000 ∧ ∀ e : Int, e ∈ ns ↔ ∃ q : Nat, e = q ∧ q < n ∧ foeB n a r i q = true
def sp_foes_of (A : Ad) : Sp := fun vs H Q E => ∃ (p : Addr) (n : Nat) (a : Nat → Nat) (g dx f : Addr) (F r : Nat → Nat), vs = [.ref p, .int (n : Nat), .ref g] ∧ SqL A.K H p (armL n a) ∧ OkA n a ∧ n ≤ 200 ∧ Has H (grpL A g dx f F n) ∧ RepF n F r ∧ (∀ x, r x ≤ x) ∧
  (NoCl n a r → ∀ q ents H', Am [] H ((q, .lst (refE ents)) :: ledE ents) H' → ents.length = n → (∀ i e, ents[i]? = some e → FoeAt n a r i e.2) → Q (.ref q) H') ∧ (¬ NoCl n a r → ∀ H', Ex H H' → E (.ref A.cNT) none H')
def t_foes_of (A : Ad) (E : XK) : TS :=
  (tSeq (tAsg (tLc (iRng1 (tCons (tVar 1) tNil)) (gName 4) tYes (tLst tNil) [4]) (gName 3))
  (tSeq (tFor (iEnum A.K (tCons (tVar 0) tNil)) (gTup A.K 2 (gCons (gName 5) (gCons (gName 6) gNil)))
  (tSeq (tAsg (tOp rSubI (tOp rDivI (tOp rSubI (tVar 5) (tC (.int 1))) (tC (.int 2))) (tVar 6)) (gName 7))
  (tSeq (tAsg (tOp rAddI (tOp rAddI (tOp rDivI (tVar 5) (tC (.int 2))) (tC (.int 1))) (tVar 6)) (gName 8))
  (tIfS (tAnd (tTest (tOp rGeI (tVar 7) (tC (.int 0)))) (tTest (tOp rLtI (tVar 8) (tVar 1)))) (tSeq (tPar 9 10 (tCons (tMeth A.cGroups "root" (sp_Groups_root A) [] E0 (tVar 2) (tCons (tVar 7) tNil)) (tCons (tMeth A.cGroups "root" (sp_Groups_root A) [] E0 (tVar 2) (tCons (tVar 8) tNil)) tNil)))
  (tSeq (tIfS (tTest (tOp rEq (tVar 9) (tVar 10))) (tRz E A.cNT) tNext)
  (tSeq (tDrop (tBM A.K "list" rAppend (tOp (rIxL A.K) (tVar 3) (tVar 9)) (tCons (tVar 10) tNil)))
  (tDrop (tBM A.K "list" rAppend (tOp (rIxL A.K) (tVar 3) (tVar 10)) (tCons (tVar 9) tNil)))))) tNext))))
  (tRet (tVar 3))))

theorem len_foes_of (A : Ad) : ∀ vs H Q E, sp_foes_of A vs H Q E → vs.length = 3 := fun vs H Q E h => by
  obtain ⟨p, n, a, g, dx, f, F, r, rfl, _⟩ := h
  rfl
theorem pu_foes_of (A : Ad) (vs : List V) (H : Hp) (Q : VK) (E : XK) (h : sp_foes_of A vs H Q E) : t_foes_of A E { nx := fun _ H' => Q .non H', rt := Q } (start ["arms", "many", "groups", "foes", "place", "middle", "arm", "left", "right", "one", "other"] vs) H := by
  obtain ⟨p, n, a, g, dx, f, F, r, rfl, hS, ok, hn, hh, hr, hle, kQ, kE⟩ := h
  show t_foes_of A E _ [some (.ref p), some (.int (n : Nat)), some (.ref g), none, none, none, none, none, none, none, none] H
  unfold t_foes_of
  have hw : Wk (iRng1 (tCons (tVar 1) tNil)) [some (.ref p), some (.int (n : Nat)), some (.ref g), none, none, none, none, none, none, none, none] H (fun _ => True) ((List.range n).map fun i => .int (i : Nat)) := by
    have z := wk_range1 (ta := tCons (tVar 1) tNil) (n := ((n : Nat) : Int)) (σ := [some (.ref p), some (.int (n : Nat)), some (.ref g), none, none, none, none, none, none, none, none]) (H := H) (ea_cons (ev_var rfl) ea_nil) (by omega)
    rwa [Int.toNat_natCast] at z
  refine aq_asgLL (fun _ xs => xs = []) (Am.start H) hw (fun _ _ => pm_true) trivial (by rw [List.length_range]; omega) (fun _ => rfl) (fun n _ => Mw.EvL.toP (el_lst ea_nil (by decide)) rfl) fun pf ents H1 pr am => ?_
  dsimp only [List.set]
  have hlen : ents.length = n := by rw [← Paired.length pr, List.length_range]
  obtain ⟨R, hR⟩ : ∃ R : Nat → Addr, ents = entF R (fun _ => []) n := by
    refine ⟨fun i => (ents.getD i (pf, [])).1, ?_⟩
    apply List.ext_getElem?
    intro i
    by_cases c : i < n
    · rw [entF_at c]
      obtain ⟨y, hy, hy2⟩ := paired_at pr (List.getElem?_range c)
      rw [List.getD_eq_getElem?_getD, hy]
      show some y = some (y.1, [])
      rw [← hy2]
    · rw [List.getElem?_eq_none (by omega), List.getElem?_eq_none (by unfold entF; simp; omega)]
  subst hR
  clear pr hlen
  refine aq_forE (K := A.K) (f := fun m => vN (a m)) (ns := List.range (2 * n - 1)) (a := p) (fun pre σ' H' => ∃ (X : Nat → List Int) (v4 v5 v6 v7 v8 v9 v10 : Option V), σ' = [some (.ref p), some (.int (n : Nat)), some (.ref g), some (.ref pf), v4, v5, v6, v7, v8, v9, v10] ∧
    Am [] H ((pf, .lst (refE (entF R X n))) :: (ledE (entF R X n) ++ [])) H' ∧ FInv n a r pre.length X ∧ ∀ m, m < pre.length → vE n a m = true → r (Lf a m) ≠ r (Rt a m)) am
    (ea_cons (ev_var rfl) ea_nil) (ex_l am.toEx hS) (fun H3 am => ⟨fun _ => [], _, _, _, _, _, _, _, rfl, am, fun i hi => ⟨Nat.zero_le _, fun e => ⟨fun h => (by cases h), fun ⟨q, _, _, m, hm, _⟩ => absurd hm (Nat.not_lt_zero _)⟩⟩, fun m hm => absurd hm (Nat.not_lt_zero _)⟩) ?_ ?_ ?_
  · rintro pre σ' H' ⟨X, v4, v5, v6, v7, v8, v9, v10, rfl, am, _⟩
    exact ex_l am.toEx hS
  · rintro pre M post σ' H3 H4 hs ⟨X, v4, v5, v6, v7, v8, v9, v10, rfl, am, hX, hnc⟩ e34
    have am := am.ex e34
    obtain ⟨hM, hMn⟩ := range_atM hs
    dsimp only [List.set]
    rw [hM] at hX hnc ⊢
    rw [show (pre ++ [M]).length = M + 1 by rw [List.length_append, hM]; rfl]
    obtain ⟨o1, o2⟩ := ok M hMn
    refine aq_asg am (ev_op (ev_op (ev_op (ev_var rfl) ev_c rv_I0) ev_c (r_divI (by decide))) (ev_var rfl) rv_I0) fun H5 am => ?_
    dsimp only [List.set]
    refine aq_asg am (ev_op (ev_op (ev_op (ev_var rfl) ev_c (r_divI (by decide))) ev_c rv_I0) (ev_var rfl) rv_I0) fun H6 am => ?_
    dsimp only [List.set]
    have hve : (decide ((0 : Int) ≤ (((M : Nat) : Int) - 1) / 2 - ((a M : Nat) : Int)) && decide (((M : Nat) : Int) / 2 + 1 + ((a M : Nat) : Int) < ((n : Nat) : Int))) = vE n a M := by
      unfold vE
      congr 1
      · exact decide_eq_decide.mpr (by omega)
      · exact decide_eq_decide.mpr (by omega)
    refine a_when (b := vE n a M) am (et_is (et_and (et_test (ev_op (ev_var rfl) ev_c rv_I0)) fun _ => et_test (ev_op (ev_var rfl) (ev_var rfl) rv_I0)) hve) (fun hv H7 am => ?_) fun hv H7 am => ?_
    · have hv2 := hv
      unfold vE at hv2
      rw [Bool.and_eq_true, decide_eq_true_eq, decide_eq_true_eq] at hv2
      have lL := hle (Lf a M)
      have lR := hle (Rt a M)
      have hLn : Lf a M < n := by unfold Lf; omega
      have hRn : Rt a M < n := by unfold Rt; omega
      have hh7 : Has H7 (grpL A g dx f F n) := hh.ex am.toEx
      refine aq_par am (ea_cons (c_root (x := Lf a M) (ev_var rfl) hh7 hr (ev_is (ev_var rfl) (by congr 1; unfold Lf; omega)) hLn) (ea_cons (c_root (x := Rt a M) (ev_var rfl) hh7 hr (ev_is (ev_var rfl) (by congr 1)) hRn) ea_nil)) fun H8 am => ?_
      dsimp only [List.set]
      refine aq_when am (et_test (ev_op (ev_var rfl) (ev_var rfl) r_eqI)) (fun c H9 am => ?_) fun c H9 am => ?_
      · have c : r (Lf a M) = r (Rt a M) := by
          have := of_decide_eq_true c
          omega
        exact kE (fun hN => hN M hMn hv c) H9 am.toEx
      · have c : r (Lf a M) ≠ r (Rt a M) := fun e => by
          have := of_decide_eq_false c
          exact this (by rw [e])
        have hbig : 2 * M ≤ 1000 := by omega
        refine aq_app (1 + r (Lf a M)) (v := .int (r (Rt a M) : Nat)) am (led_at (by omega)) (ev_op (ev_var rfl) (ev_var rfl) (rv_ixL (K := A.K) (sq_of (am.at 0 rfl)) (atI_nat (ref_at (by omega))))) (ev_var rfl) (by rw [List.length_map]; have := (hX (r (Lf a M)) (by omega)).1; omega) fun H10 am => ?_
        rw [led_app (by omega)] at am
        refine a_app (1 + r (Rt a M)) (v := .int (r (Lf a M) : Nat)) am (led_at (by omega)) (ev_op (ev_var rfl) (ev_var rfl) (rv_ixL (K := A.K) (sq_of (am.at 0 rfl)) (atI_nat (ref_at (by omega))))) (ev_var rfl) ?_ fun H11 am => ?_
        · rw [List.length_map]
          have := (hX (r (Rt a M)) (by omega)).1
          show (if r (Rt a M) = r (Lf a M) then _ else X (r (Rt a M))).length < 100000
          rw [if_neg (Ne.symm c)]
          omega
        · rw [led_app (by omega)] at am
          refine ⟨_, _, _, _, _, _, _, _, rfl, am, finv_yes hX hv c (by omega) (by omega), fun m hm hvm => ?_⟩
          rcases Nat.lt_or_ge m M with d | d
          · exact hnc m d hvm
          · rw [show m = M by omega]; exact c
    · refine ⟨_, _, _, _, _, _, _, _, rfl, am, finv_no hX hv, fun m hm hvm => ?_⟩
      rcases Nat.lt_or_ge m M with d | d
      · exact hnc m d hvm
      · rw [show m = M by omega, hv] at hvm; cases hvm
  · rintro σ' H3 ⟨X, v4, v5, v6, v7, v8, v9, v10, rfl, am, hX, hnc⟩
    rw [List.length_range] at hX hnc
    rw [List.append_nil] at am
    refine a_ret am (ev_var rfl) fun H4 am => kQ hnc pf _ H4 am (by unfold entF; simp) fun i e he => ?_
    have hin : i < n := by
      have := (List.getElem?_eq_some_iff.mp he).1
      unfold entF at this
      simpa using this
    rw [entF_at hin] at he
    obtain ⟨z1, z2⟩ := hX i hin
    rw [← Option.some.inj he]
    refine ⟨X i, rfl, by omega, fun e' => ?_⟩
    rw [z2]
    constructor
    · rintro ⟨q, hq, hqn, m, hm, hf⟩
      exact ⟨q, hq, hqn, List.any_eq_true.mpr ⟨m, List.mem_range.mpr hm, hf⟩⟩
    · rintro ⟨q, hq, hqn, hf⟩
      obtain ⟨m, hm, hf⟩ := List.any_eq_true.mp hf
      exact ⟨q, hq, hqn, m, List.mem_range.mp hm, hf⟩
/-! ## least_text -/
theorem eqV_text (a b : Tx) : eqV (tS a) (tS b) = decide (a = b) := by
  show (T a == T b) = decide (a = b)
  rw [Bool.eq_iff_iff, beq_iff_eq, decide_eq_true_eq]
  exact T_eq a b
theorem inV_letters (c : Nat) (us : List Nat) : inV (tS [c]) (us.map fun d => tS [d]) = decide (c ∈ us) := by
  unfold inV
  rw [Bool.eq_iff_iff, List.any_eq_true, decide_eq_true_eq]
  constructor
  · rintro ⟨y, hy, e⟩
    obtain ⟨d, hd, rfl⟩ := List.mem_map.mp hy
    rw [eqV_text, decide_eq_true_eq] at e
    rw [← (List.cons.inj e).1]
    exact hd
  · intro h
    exact ⟨tS [c], List.mem_map.mpr ⟨c, h, rfl⟩, by rw [eqV_text, decide_eq_true rfl]⟩
theorem flat_letters (us : List Nat) : (us.map fun d => tS [d]).all flatV = true := by
  rw [List.all_eq_true]
  intro y hy
  obtain ⟨d, hd, rfl⟩ := List.mem_map.mp hy
  rfl
theorem e_free {K : PySem.W.Frag} {i j : Nat} {σ : L2.St} {H : Hp} {p : Addr} {us : List Nat} {u : Nat → Bool} (hw : ∀ x, wipe ((wipe σ [i]).set i (some x)) [i] = wipe σ [i]) (h1 : ∀ x, ((wipe σ [i]).set i (some x))[i]? = some (some x))
    (h2 : ∀ x, ((wipe σ [i]).set i (some x))[j]? = some (some (.ref p))) (hp : H p = some (.lst (us.map fun c => tS [c]))) (hu : ∀ c, u c = decide (c ∈ us)) (hf : ∃ c ∈ letters, u c = false) :
    Ev (tOp (rIxL K) (tLc (iStr (tC (tS letters))) (gName i) (tTest (tOp (rIn K true) (tVar i) (tVar j))) (tVar i) [i]) (tC (.int 0))) σ H (tS [freeL u]) := by
  refine e_ixN (xs := (letters.filter fun c => !u c).map fun c => tS [c]) (i := 0) ?_ ev_c (atI_map (f := fun c : Nat => tS [c]) (n := freeL u) (by decide) ?_)
  · refine el_lc (f := fun c => tS [c]) (ns := letters) (fun c => !u c) (fun c => tS [c]) (wk_text ev_c) (fun _ _ => pm_true) trivial (by decide) hw (fun c _ => ?_) fun c _ _ => ev_var (h1 _)
    refine et_test (ev_op (ev_var (h1 _)) (ev_var (h2 _)) ?_)
    have z := rv_niL (K := K) (x := tS [c]) (sq_of hp) rfl (flat_letters us)
    rw [inV_letters, ← hu] at z
    exact z
  · have hm := free_spec hf
    have hmem : freeL u ∈ letters.filter fun c => !u c := List.mem_filter.mpr ⟨hm.1, by rw [hm.2.1]; rfl⟩
    unfold freeL at hmem ⊢
    cases hl : letters.filter fun c => !u c with
    | nil => rw [hl] at hmem; cases hmem
    | cons d r => rfl
theorem isA_arm {K : PySem.W.Frag} {H : Hp} {p : Addr} {n : Nat} {a : Nat → Nat} (hs : SqL K H p (armL n a)) (ty : TyX K H (.ref p) (.type "list")) (ok : OkA n a) (hn : n ≤ 200) : IsA K H (.ref p) true := by
  refine .inl ⟨p, (List.range (2 * n - 1)).map fun m => Elt.i (a m : Nat), rfl, ?_, ty, by simp; omega, fun e he => ?_, fun e he => ?_, ?_⟩
  · rw [List.map_map]; exact hs
  · obtain ⟨m, _, rfl⟩ := List.mem_map.mp he
    rfl
  · obtain ⟨m, _, rfl⟩ := List.mem_map.mp he
    trivial
  · unfold arB
    rw [List.length_map, List.length_range, decide_eq_true (by omega : 2 * n - 1 ≤ 399)]
    have e1 : (decide ((List.range (2 * n - 1)).map (fun m => Elt.i (a m : Nat)) = []) || decide ((2 * n - 1) % 2 = 1)) = true := by
      rcases Nat.eq_zero_or_pos n with c | c
      · subst c; rfl
      · rw [decide_eq_true (by omega : (2 * n - 1) % 2 = 1), Bool.or_true]
    rw [e1]
    refine Eq.symm ?_
    rw [Bool.true_and, Bool.true_and, List.all_eq_true]
    intro m hm
    have hm := List.mem_range.mp hm
    unfold goodAt
    rw [at_range _ hm]
    obtain ⟨o1, o2⟩ := ok m hm
    show goodE _ _ (Elt.i (a m : Nat)) = true
    unfold goodE
    rw [Bool.and_eq_true, decide_eq_true_eq, decide_eq_true_eq]
    unfold mostI
    rw [List.length_map, List.length_range]
    omega
abbrev rA (n : Nat) (a : Nat → Nat) : Nat → Nat := rootL (tiesN a (2 * n - 1))
def sp_least_text (A : Ad) : Sp := spVX (fun vs H v => ∃ (p : Addr) (n : Nat) (a : Nat → Nat), vs = [.ref p] ∧ SqL A.K H p (armL n a) ∧ TyX A.K H (.ref p) (.type "list") ∧ n ≤ 200 ∧ OkA n a ∧ NoCl n a (rA n a) ∧ Free n a (rA n a) ∧ v = tS (gT n a (rA n a) n))
  fun vs H C => (∃ (p : Addr) (n : Nat) (a : Nat → Nat), vs = [.ref p] ∧ SqL A.K H p (armL n a) ∧ TyX A.K H (.ref p) (.type "list") ∧ n ≤ 200 ∧ OkA n a ∧ ¬ NoCl n a (rA n a) ∧ C = A.cNT) ∨ ∃ x, vs = [x] ∧ IsA A.K H x false ∧ C = A.cBA
def t_least_text (A : Ad) (E : XK) : TS :=
  (tSeq (tIfS (tNot (tB (tCall (sp_is_arms A) [] E0 (tCons (tVar 0) tNil)))) (tRz E A.cBA) tNext)
  (tSeq (tAsg (tOp rDivI (tOp rAddI (tCB (rLenS A.K) (tCons (tVar 0) tNil)) (tC (.int 1))) (tC (.int 2))) (gName 1))
  (tSeq (tAsg (tCall (sp_tied A) [] E0 (tCons (tVar 0) (tCons (tVar 1) tNil))) (gName 2))
  (tSeq (tAsg (tCall (sp_foes_of A) [] E (tCons (tVar 0) (tCons (tVar 1) (tCons (tVar 2) tNil)))) (gName 3))
  (tSeq (tAsg tDNewK (gName 4))
  (tSeq (tFor (iRng1 (tCons (tVar 1) tNil)) (gName 5)
  (tIfS (tTest (tOp rEq (tMeth A.cGroups "root" (sp_Groups_root A) [] E0 (tVar 2) (tCons (tVar 5) tNil)) (tVar 5))) (tSeq (tAsg (tLc (iList A.K (tOp (rIxL A.K) (tVar 3) (tVar 5))) (gName 7) (tB (tDIn (tVar 7) (tVar 4))) (tDGet (tVar 4) (tVar 7)) [7]) (gName 6))
  (sDPut (tVar 4) (tVar 5) (tOp (rIxL A.K) (tLc (iStr (tC (tS letters))) (gName 8) (tTest (tOp (rIn A.K true) (tVar 8) (tVar 6))) (tVar 8) [8]) (tC (.int 0))))) tNext))
  (tRet (tJoin A.K (tC (tS [])) (tLc (iRng1 (tCons (tVar 1) tNil)) (gName 5) tYes (tDGet (tVar 4) (tMeth A.cGroups "root" (sp_Groups_root A) [] E0 (tVar 2) (tCons (tVar 5) tNil))) [5])))))))))

theorem len_least_text (A : Ad) : ∀ vs H Q E, sp_least_text A vs H Q E → vs.length = 1 := fun vs H Q E h => by
  rcases h with ⟨v, ⟨p, n, a, rfl, _⟩, _⟩ | ⟨C, (⟨p, n, a, rfl, _⟩ | ⟨x, rfl, _⟩), _⟩ <;> rfl
theorem rd_least_text (A : Ad) {H : Hp} {Q : VK} {E : XK} {p : Addr} {n : Nat} {a : Nat → Nat} (hS : SqL A.K H p (armL n a)) (ty : TyX A.K H (.ref p) (.type "list")) (hn : n ≤ 200) (ok : OkA n a) (hfr : NoCl n a (rA n a) → Free n a (rA n a))
    (kQ : NoCl n a (rA n a) → ∀ H', Ex H H' → Q (tS (gT n a (rA n a) n)) H') (kE : ¬ NoCl n a (rA n a) → ∀ H', Ex H H' → E (.ref A.cNT) none H') :
    t_least_text A E { nx := fun _ H' => Q .non H', rt := Q } [some (.ref p), none, none, none, none, none, none, none, none] H := by
  unfold t_least_text
  have fine := fine_root (tiesN a (2 * n - 1))
  have hlen : (armL n a).length = 2 * n - 1 := by unfold armL; simp
  refine aq_when (b := false) (Am.start H) (et_is (et_not (et_B (c_is_arms_ (ev_var rfl) (isA_arm hS ty ok hn)))) rfl) (fun c => Bool.noConfusion c) fun _ H1 am => ?_
  refine aq_asg (v := .int (n : Nat)) am (ev_is (ev_op (ev_op (ev_cb (ea_cons (ev_var rfl) ea_nil) (rc_lenL (K := A.K) (ex_l am.toEx hS))) ev_c rv_I0) ev_c (r_divI (by decide))) (by congr 1; rw [hlen]; omega)) fun H2 am => ?_
  dsimp only [List.set]
  refine aq_callA am (ea_cons (ev_var rfl) (ea_cons (ev_var rfl) ea_nil)) fun H3 am => ?_
  refine ⟨p, n, a, rfl, ex_l am.toEx hS, ok, hn, fun g dx f F H4 am4 hr => ?_⟩
  have am := Am.call0 am am4
  rw [List.append_nil] at am
  dsimp only [List.set]
  refine aq_callA am (ea_cons (ev_var rfl) (ea_cons (ev_var rfl) (ea_cons (ev_var rfl) ea_nil))) fun H5 am => ?_
  refine ⟨p, n, a, g, dx, f, F, rA n a, rfl, ex_l am.toEx hS, ok, hn, am.hasAll, hr, fine.le, fun hN pq ents H6 am6 hel hfo => ?_, fun hN H6 e => kE hN H6 (am.toEx.trans e)⟩
  have am := Am.call0 am am6
  have hfree := hfr hN
  dsimp only [List.set]
  refine aq_asgN am en_dnew fun pd H7 am => ?_
  dsimp only [List.set]
  have hgrp : ∀ {H' : Hp} {o : HO}, Am [] H ((pd, o) :: (((pq, .lst (refE ents)) :: ledE ents) ++ grpL A g dx f F n)) H' → Has H' (grpL A g dx f F n) := fun {H' o} am => (am.drop1.sub (List.sublist_append_right _ _)).hasAll
  have hroot : ∀ {H' : Hp} {o : HO} {σ : L2.St} {x : Nat}, Am [] H ((pd, o) :: (((pq, .lst (refE ents)) :: ledE ents) ++ grpL A g dx f F n)) H' → x < n → σ[2]? = some (some (.ref g)) → σ[5]? = some (some (.int (x : Nat))) →
      Ev (tMeth A.cGroups "root" (sp_Groups_root A) [] E0 (tVar 2) (tCons (tVar 5) tNil)) σ H' (.int (rA n a x : Nat)) := fun {H' o σ x} am hx s2 s5 => c_root (ev_var s2) (hgrp am) hr (ev_var s5) hx
  refine aq_for (ns := List.range ((n : Nat) : Int).toNat) (f := fun i => .int (i : Nat)) (fun pre σ' H' => ∃ (kvs : List (Key × V)) (v5 v6 v7 v8 : Option V), σ' = [some (.ref p), some (.int (n : Nat)), some (.ref g), some (.ref pq), some (.ref pd), v5, v6, v7, v8] ∧
    Am [] H ((pd, .dK kvs) :: (((pq, .lst (refE ents)) :: ledE ents) ++ grpL A g dx f F n)) H' ∧ kvs.length ≤ pre.length ∧ ∀ j : Nat, valV kvs (.inl (j : Int)) = if j < pre.length ∧ rA n a j = j then some (tS [wF n a (rA n a) j]) else none) am
    (wk_range1 (ea_cons (ev_var rfl) ea_nil) (by omega)) (fun H8 am => ⟨[], _, _, _, _, rfl, am, Nat.le_refl _, fun j => by rw [if_neg (fun z => absurd z.1 (Nat.not_lt_zero _))]; rfl⟩) (fun _ _ _ _ => trivial) ?_ ?_
  · rintro pre P post σ' H8 hs ⟨kvs, v5, v6, v7, v8, rfl, am, hkl, hkv⟩
    obtain ⟨hP, hPn⟩ := range_atM hs
    rw [Int.toNat_natCast] at hPn
    rw [hP] at hkl hkv
    rw [show (pre ++ [P]).length = P + 1 by rw [List.length_append, hP]; rfl]
    dsimp only [List.set]
    refine a_when am (et_test (ev_op (hroot am hPn rfl rfl) (ev_var rfl) r_eqI)) (fun c H9 am => ?_) fun c H9 am => ?_
    · have c : rA n a P = P := by
        have := of_decide_eq_true c
        omega
      obtain ⟨en, hen⟩ : ∃ en, ents[P]? = some en := ⟨_, List.getElem?_eq_getElem (by omega)⟩
      obtain ⟨ns, hns, hnl, hnm⟩ := hfo P en hen
      have hpd9 := am.at 0 rfl
      have hpq9 := am.at 1 rfl
      have hen9 : SqL A.K H9 en.1 (ns.map V.int) := by
        have z := am.own (en.1, HO.lst en.2) (List.mem_cons_of_mem _ (List.mem_append_left _ (List.mem_cons_of_mem _ (List.mem_map.mpr ⟨en, List.mem_of_getElem? hen, rfl⟩))))
        rw [← hns]
        exact sq_of z
      have hrow : Ev (tOp (rIxL A.K) (tVar 3) (tVar 5)) [some (.ref p), some (.int (n : Nat)), some (.ref g), some (.ref pq), some (.ref pd), some (.int (P : Nat)), v6, none, v8] H9 (.ref en.1) :=
        ev_op (ev_var rfl) (ev_var rfl) (rv_ixL (K := A.K) (sq_of hpq9) (atI_nat (by unfold refE; rw [List.getElem?_map, hen]; rfl)))
      have hval : ∀ e ∈ ns, (decide (e.toNat < P) && decide (rA n a e.toNat = e.toNat)) = true → valV kvs (.inl e) = some (tS [wF n a (rA n a) e.toNat]) := fun e he hb => by
        obtain ⟨q, rfl, _⟩ := (hnm e).mp he
        rw [Int.toNat_natCast] at hb ⊢
        rw [Bool.and_eq_true, decide_eq_true_eq, decide_eq_true_eq] at hb
        rw [hkv, if_pos hb]
      have hvno : ∀ e ∈ ns, (valV kvs (.inl e)).isSome = (decide (e.toNat < P) && decide (rA n a e.toNat = e.toNat)) := fun e he => by
        obtain ⟨q, rfl, _⟩ := (hnm e).mp he
        rw [Int.toNat_natCast, hkv]
        by_cases d : q < P ∧ rA n a q = q
        · rw [if_pos d, decide_eq_true d.1, decide_eq_true d.2]; rfl
        · rw [if_neg d]
          refine Eq.symm ?_
          rw [show (none : Option V).isSome = false from rfl]
          cases h1 : decide (q < P) with
          | false => rfl
          | true =>
            cases h2 : decide (rA n a q = q) with
            | false => rfl
            | true => exact absurd ⟨of_decide_eq_true h1, of_decide_eq_true h2⟩ d
      let us := (ns.filter fun e => decide (e.toNat < P) && decide (rA n a e.toNat = e.toNat)).map fun e => wF n a (rA n a) e.toNat
      refine aq_asgL (xs := us.map fun c => tS [c]) am ?_ fun pu H10 am => ?_
      · show EvL _ _ _ (List.map _ (List.map _ _))
        rw [List.map_map]
        exact el_lc (f := V.int) (ns := ns) (fun e => decide (e.toNat < P) && decide (rA n a e.toNat = e.toNat)) _ (wk_list (K := A.K) hrow hen9) (fun _ _ e s => ex_l e s) hen9 hnl (fun _ => rfl)
          (fun e he => et_B (ev_is (e_din (k := .inl e) (ev_var rfl) (ev_var rfl) hpd9) (by rw [hvno e he]))) fun e he hb => e_dget (k := .inl e) (ev_var rfl) (ev_var rfl) hpd9 (hval e he hb)
      dsimp only [List.set]
      have hu : ∀ c', ((List.range P).any fun q => foeB n a (rA n a) P q && decide (wF n a (rA n a) q = c')) = decide (c' ∈ us) := fun c' => by
        rw [Bool.eq_iff_iff, List.any_eq_true, decide_eq_true_eq]
        constructor
        · rintro ⟨q, hq, hb⟩
          have hq := List.mem_range.mp hq
          rw [Bool.and_eq_true, decide_eq_true_eq] at hb
          refine List.mem_map.mpr ⟨(q : Int), List.mem_filter.mpr ⟨(hnm _).mpr ⟨q, rfl, by omega, hb.1⟩, ?_⟩, by rw [Int.toNat_natCast]; exact hb.2⟩
          rw [Int.toNat_natCast, decide_eq_true hq, Bool.true_and, decide_eq_true_eq]
          obtain ⟨m, _, hm⟩ := List.any_eq_true.mp hb.1
          unfold foeM at hm
          simp only [Bool.and_eq_true, Bool.or_eq_true, decide_eq_true_eq] at hm
          rcases hm.2 with ⟨_, z⟩ | ⟨_, z⟩ <;> rw [← z] <;> exact fine.idem _
        · intro h
          obtain ⟨e, he, rfl⟩ := List.mem_map.mp h
          obtain ⟨he1, he2⟩ := List.mem_filter.mp he
          obtain ⟨q, rfl, _, hq⟩ := (hnm e).mp he1
          rw [Int.toNat_natCast] at he2 ⊢
          rw [Bool.and_eq_true, decide_eq_true_eq] at he2
          exact ⟨q, List.mem_range.mpr he2.1, by rw [hq, decide_eq_true rfl]; rfl⟩
      have hw := wF_new (n := n) (a := a) c
      refine a_dput 1 (k := .inl ((P : Nat) : Int)) (v := tS [wF n a (rA n a) P]) am rfl (ev_var rfl) (ev_var rfl) (ev_is (e_free (K := A.K) (us := us) (fun _ => rfl) (fun _ => rfl) (fun _ => rfl) (am.at 0 rfl) hu (hfree P hPn c)) (by rw [hw])) (by omega) fun H11 am => ?_
      refine ⟨putK kvs (.inl ((P : Nat) : Int)) (tS [wF n a (rA n a) P]), _, _, _, _, rfl, am.drop1, ?_, fun j => ?_⟩
      · have := length_putK kvs (.inl ((P : Nat) : Int) : Key) (tS [wF n a (rA n a) P])
        omega
      · rw [valV_put, hkv]
        by_cases d : j = P
        · subst d
          rw [if_pos rfl, if_pos ⟨by omega, c⟩]
        · rw [if_neg (fun z => d (by have := Sum.inl.inj z; omega))]
          by_cases e : j < P ∧ rA n a j = j
          · rw [if_pos e, if_pos ⟨by omega, e.2⟩]
          · rw [if_neg e, if_neg fun z => e ⟨by omega, z.2⟩]
    · have c : rA n a P ≠ P := fun z => by
        have := of_decide_eq_false c
        exact this (by rw [z])
      refine ⟨kvs, _, _, _, _, rfl, am, by omega, fun j => ?_⟩
      rw [hkv]
      by_cases e : j < P ∧ rA n a j = j
      · rw [if_pos e, if_pos ⟨by omega, e.2⟩]
      · rw [if_neg e, if_neg fun z => e ⟨by
          have : j ≠ P := fun y => c (by rw [← y]; exact z.2)
          omega, z.2⟩]
  · rintro σ' H8 ⟨kvs, v5, v6, v7, v8, rfl, am, hkl, hkv⟩
    rw [List.length_range, Int.toNat_natCast] at hkv
    have hg : gT n a (rA n a) n = ((List.range n).map fun i => [wF n a (rA n a) i]).flatten := by
      have e : ((List.range n).map fun i => [wF n a (rA n a) i]).flatten = (List.range n).map (wF n a (rA n a)) := by
        induction List.range n with
        | nil => rfl
        | cons x r ih => rw [List.map_cons, List.flatten_cons, ih]; rfl
      rw [e]
      refine ext_getD (by rw [len_gT, List.length_map, List.length_range]) fun i hi => ?_
      rw [len_gT] at hi
      rw [gT_at n a (rA n a) hi, List.getD_eq_getElem?_getD, at_range _ hi]; rfl
    have hpd8 := am.at 0 rfl
    have hw : ∀ σ : L2.St, σ[1]? = some (some (.int (n : Nat))) → Wk (iRng1 (tCons (tVar 1) tNil)) σ H8 (fun _ => True) ((List.range n).map fun i => .int (i : Nat)) := fun σ s1 => by
      have z := wk_range1 (ta := tCons (tVar 1) tNil) (n := ((n : Nat) : Int)) (σ := σ) (H := H8) (ea_cons (ev_var s1) ea_nil) (by omega)
      rwa [Int.toNat_natCast] at z
    refine a_ret (v := tS (gT n a (rA n a) n)) am ?_ fun H9 am => kQ hN H9 am.toEx
    rw [hg]
    refine e_join (K := A.K) ev_c ?_ ?_
    · rw [List.map_map]
      exact el_lcY (f := fun i : Nat => V.int (i : Nat)) (ns := List.range n) _ (hw _ rfl) (fun _ _ => pm_true) trivial (by rw [List.length_range]; omega) (fun _ => rfl) fun i hi => by
        have hi := List.mem_range.mp hi
        have hri : rA n a i ≤ i := fine.le i
        refine ev_is (e_dget (k := .inl ((rA n a i : Nat) : Int)) (v := tS [wF n a (rA n a) (rA n a i)]) (ev_var rfl) (hroot am hi rfl rfl) hpd8 ?_) (by rw [wF_r fine]; rfl)
        rw [hkv, if_pos ⟨by omega, fine.idem i⟩]
    · rw [← hg, len_gT]
      omega
theorem pu_least_text (A : Ad) (vs : List V) (H : Hp) (Q : VK) (E : XK) (h : sp_least_text A vs H Q E) : t_least_text A E { nx := fun _ H' => Q .non H', rt := Q } (start ["arms", "many", "groups", "foes", "given", "place", "used", "foe", "letter"] vs) H := by
  rcases h with ⟨v, ⟨p, n, a, rfl, hS, ty, hn, ok, hN, hf, rfl⟩, k⟩ | ⟨C, (⟨p, n, a, rfl, hS, ty, hn, ok, hN, rfl⟩ | ⟨x, rfl, hx, rfl⟩), k⟩
  · exact rd_least_text A hS ty hn ok (fun _ => hf) (fun _ => k) fun z => absurd hN z
  · exact rd_least_text A hS ty hn ok (fun z => absurd z hN) (fun z => absurd z hN) fun _ => k
  · show t_least_text A E _ [some x, none, none, none, none, none, none, none, none] H
    unfold t_least_text
    exact aq_when (b := true) (Am.start H) (et_is (et_not (et_B (c_is_arms_ (ev_var rfl) hx))) rfl) (fun _ H1 am => k H1 am.toEx) fun c => Bool.noConfusion c
theorem c_least_text_ {A : Ad} {σ : L2.St} {H : Hp} {te : TE} {E : XK} {p : Addr} {n : Nat} {a : Nat → Nat} (h : Ev te σ H (.ref p)) (hS : SqL A.K H p (armL n a)) (ty : TyX A.K H (.ref p) (.type "list")) (hn : n ≤ 200) (ok : OkA n a) (hN : NoCl n a (rA n a)) (hf : Free n a (rA n a)) :
    Ev (tCall (sp_least_text A) [] E (tCons te tNil)) σ H (tS (gT n a (rA n a) n)) :=
  e_callVX (ea_cons h ea_nil) fun _ e => ⟨p, n, a, rfl, ex_l e hS, tyX_ex e ty, hn, ok, hN, hf, rfl⟩

end Mw
namespace Mw
open PySem PySem.Spec PyProof.Rows L2 Evl
local macro_rules | `(tactic| walk_at "sd") => `(tactic| (first
  | assumption
  | omega
  | decide
  | (simp only [List.length_append, List.length_cons, List.length_nil, List.length_reverse, List.length_take, List.length_drop, List.length_map, List.length_range] at *; omega)
  | skip))
local macro_rules | `(tactic| walk_at "ev") => `(tactic| (first
  | ((with_reducible apply ev_var); rfl)
  | (with_reducible exact ev_c)
  | ((with_reducible apply ev_op) <;> walk_at "ev")
  | ((with_reducible apply e_negI) <;> walk_at "ev")
  | ((with_reducible apply et_test) <;> walk_at "ev")
  | ((with_reducible apply et_B) <;> walk_at "ev")
  | ((with_reducible apply et_and); (focus walk_at "ev"); intro hq; (try simp only [Bool.and_eq_true, Bool.or_eq_true, decide_eq_true_eq, Bool.not_eq_true', decide_eq_false_iff_not, Bool.and_eq_false_iff, Bool.or_eq_false_iff, Bool.not_eq_false'] at hq); walk_at "ev")
  | ((with_reducible apply et_or); (focus walk_at "ev"); intro hq; (try simp only [Bool.and_eq_true, Bool.or_eq_true, decide_eq_true_eq, Bool.not_eq_true', decide_eq_false_iff_not, Bool.and_eq_false_iff, Bool.or_eq_false_iff, Bool.not_eq_false'] at hq); walk_at "ev")
  | ((with_reducible apply ev_andV); (focus walk_at "ev"); intro hq; (try simp only [Bool.and_eq_true, Bool.or_eq_true, decide_eq_true_eq, Bool.not_eq_true', decide_eq_false_iff_not, Bool.and_eq_false_iff, Bool.or_eq_false_iff, Bool.not_eq_false'] at hq); walk_at "ev")
  | ((with_reducible apply ev_orV); (focus walk_at "ev"); intro hq; (try simp only [Bool.and_eq_true, Bool.or_eq_true, decide_eq_true_eq, Bool.not_eq_true', decide_eq_false_iff_not, Bool.and_eq_false_iff, Bool.or_eq_false_iff, Bool.not_eq_false'] at hq); walk_at "ev")
  | ((with_reducible apply e_if); (focus walk_at "ev"); (focus (intro hq; (try simp only [Bool.and_eq_true, Bool.or_eq_true, decide_eq_true_eq, Bool.not_eq_true', decide_eq_false_iff_not, Bool.and_eq_false_iff, Bool.or_eq_false_iff, Bool.not_eq_false'] at hq); walk_at "ev")); (intro hq; (try simp only [Bool.and_eq_true, Bool.or_eq_true, decide_eq_true_eq, Bool.not_eq_true', decide_eq_false_iff_not, Bool.and_eq_false_iff, Bool.or_eq_false_iff, Bool.not_eq_false'] at hq); walk_at "ev"))
  | ((with_reducible apply et_not) <;> walk_at "ev")
  | ((with_reducible apply ev_notV) <;> walk_at "ev")
  | (with_reducible exact et_yes)
  | (with_reducible exact ea_nil)
  | ((with_reducible apply ea_cons) <;> walk_at "ev")
  | (with_reducible exact eo_none)
  | ((with_reducible apply eo_some) <;> walk_at "ev")
  | ((with_reducible apply e_slBut) <;> walk_at "ev")
  | ((with_reducible apply e_slIn) <;> walk_at "ev")
  | ((with_reducible apply e_slTo) <;> walk_at "ev")
  | ((with_reducible apply e_slFrom) <;> walk_at "ev")
  | ((with_reducible apply e_slMid) <;> walk_at "ev")
  | ((with_reducible apply e_rev) <;> walk_at "ev")
  | (with_reducible exact rv_I0)
  | (with_reducible exact r_eqI) | (with_reducible exact r_neI) | (with_reducible exact r_eqS) | (with_reducible exact r_neS)
  | (with_reducible exact r_inC) | (with_reducible exact r_ninC) | (with_reducible exact r_isN) | (with_reducible exact r_notN)
  | (with_reducible exact r_ltT) | (with_reducible exact r_gtT)
  | (with_reducible exact rc_max2) | (with_reducible exact rc_min2)
  | ((with_reducible apply r_divI) <;> walk_at "sd") | ((with_reducible apply r_modI) <;> walk_at "sd") | ((with_reducible apply r_mulI) <;> walk_at "sd")
  | ((with_reducible apply r_ixS) <;> walk_at "sd")
  | ((with_reducible apply r_addT) <;> walk_at "sd")
  | ((with_reducible apply r_mulT) <;> walk_at "sd")
  | ((with_reducible apply rc_lenT) <;> walk_at "sd")
  | ((with_reducible apply rc_lenL) <;> walk_at "sd")
  | ((with_reducible apply ev_cb) <;> walk_at "ev")
  | walk_at "evc"
  | walk_at "sd"))

/-! ## _law_draw, _law_text -/
/-- the script: a list that is read -/
def drawI (ns : List Int) (k : Nat) : Int := ns.getD k 0
def sp__law_draw (A : Ad) : Sp := spV fun vs H v => ∃ (a : Addr) (ns : List Int) (k : Nat), vs = [.ref a, .int k] ∧ SqL A.K H a (ns.map V.int) ∧ v = .int (drawI ns k)
def t__law_draw (A : Ad) : TS :=
  (tRet (tIf (tTest (tOp rGtI (tCB (rLenS A.K) (tCons (tVar 0) tNil)) (tVar 1))) (tOp (rIxL A.K) (tVar 0) (tVar 1)) (tC (.int 0))))

theorem len__law_draw (A : Ad) : ∀ vs H Q E, sp__law_draw A vs H Q E → vs.length = 2 := fun vs H Q E h => by
  obtain ⟨v, ⟨a, ns, k, rfl, _⟩, _⟩ := h
  rfl
theorem pu__law_draw (A : Ad) (vs : List V) (H : Hp) (Q : VK) (E : XK) (h : sp__law_draw A vs H Q E) : t__law_draw A { nx := fun _ H' => Q .non H', rt := Q } (start ["_law_script", "_law_k"] vs) H := by
  obtain ⟨v, ⟨a, ns, j, rfl, hS, rfl⟩, k⟩ := h
  show t__law_draw A _ [some (.ref a), some (.int j)] H
  unfold t__law_draw
  refine a_ret (v := .int (drawI ns j)) (Am.start H) ?_ fun H1 am => k H1 am.toEx
  refine ev_is (e_if (v := .int (drawI ns j)) (b := decide ((j : Int) < ((ns.map V.int).length : Nat))) (et_test (ev_op (ev_cb (ea_cons (ev_var rfl) ea_nil) (rc_lenL hS)) (ev_var rfl) rv_I0)) (fun c => ?_) fun c => ev_c) ?_
  · have c := of_decide_eq_true c
    rw [List.length_map] at c
    have hj : j < ns.length := by omega
    refine ev_op (ev_var rfl) (ev_var rfl) (rv_ixL hS (atI_map (n := drawI ns j) (by omega) ?_))
    unfold drawI
    simp [List.getD, List.getElem?_eq_getElem hj]
  · rw [List.length_map]
    by_cases c : (j : Int) < (ns.length : Nat)
    · rw [if_pos (decide_eq_true c)]
    · rw [if_neg (by simpa using c)]
      have hj : ns.length ≤ j := by omega
      unfold drawI
      simp [List.getD, List.getElem?_eq_none hj]
theorem c__law_draw_ {A : Ad} {σ : L2.St} {H : Hp} {te tk : TE} {a : Addr} {ns : List Int} {k : Nat} (h : Ev te σ H (.ref a)) (hk : Ev tk σ H (.int k)) (hS : SqL A.K H a (ns.map V.int)) : Ev (tCall (sp__law_draw A) [] E0 (tCons te (tCons tk tNil))) σ H (.int (drawI ns k)) :=
  e_callV (ea_cons h (ea_cons hk ea_nil)) fun _ e => ⟨a, ns, k, rfl, ex_l e hS, rfl⟩

/-- the law's text: letters alone, no more than so many -/
def Lets (l : Tx) : Prop := ∀ c ∈ l, c ∈ letters
theorem lets_tx {l : Tx} (h : Lets l) (hl : l.length ≤ 200) : isTx l = true := by
  unfold isTx
  rw [decide_eq_true hl, Bool.true_and, List.all_eq_true]
  exact fun c hc => decide_eq_true (h c hc)
theorem Lets.app {a b : Tx} (h : Lets a) (h2 : Lets b) : Lets (a ++ b) := fun c hc => (List.mem_append.mp hc).elim (h c) (h2 c)
theorem Lets.rev {a : Tx} (h : Lets a) : Lets a.reverse := fun c hc => h c (List.mem_reverse.mp hc)
theorem Lets.take {a : Tx} (h : Lets a) (n : Nat) : Lets (a.take n) := fun c hc => h c (List.mem_of_mem_take hc)
theorem Lets.drop {a : Tx} (h : Lets a) (n : Nat) : Lets (a.drop n) := fun c hc => h c (List.mem_of_mem_drop hc)
theorem Lets.rep {a : Tx} (h : Lets a) (n : Nat) : Lets (repT a n) := fun c hc => by
  unfold repT at hc
  obtain ⟨l, hl, hc⟩ := List.mem_flatten.mp hc
  rw [List.eq_of_mem_replicate hl] at hc
  exact h c hc
theorem len_rep (a : Tx) (n : Nat) : (repT a n).length = n * a.length := by
  unfold repT
  simp [List.length_flatten]
theorem at0_let (i : Int) (h0 : 0 ≤ i) (h1 : i < 26) : at0 letters i ∈ letters := by
  obtain ⟨n, rfl⟩ : ∃ n : Nat, i = n := ⟨i.toNat, by omega⟩
  unfold at0
  rw [Int.toNat_natCast]
  have hn : n < letters.length := by show n < 26; omega
  have e : letters.getD n 0 = letters[n] := by simp [List.getD, List.getElem?_eq_getElem hn]
  rw [e]
  exact List.getElem_mem hn
def sp__law_text (A : Ad) : Sp := fun vs H Q _ => ∃ (a : Addr) (ns : List Int) (fi mo : Nat), vs = [.ref a, .int fi, .int mo] ∧ SqL A.K H a (ns.map V.int) ∧ ns.length ≤ 63 ∧ fi ≤ 10 ∧ mo ≤ 63 ∧
  ∀ l H', Ex H H' → Lets l → l.length ≤ mo + 1 → Q (tS l) H'
def t__law_text (A : Ad) : TS :=
  (tSeq (tAsg (tOp rModI (tCall (sp__law_draw A) [] E0 (tCons (tVar 0) (tCons (tC (.int 0)) tNil))) (tC (.int 6))) (gName 3))
  (tSeq (tAsg (tOp (rIxL A.K) (tLst (tCons (tC (.int 1)) (tCons (tC (.int 2)) (tCons (tC (.int 2)) (tCons (tC (.int 3)) (tCons (tC (.int 26)) (tCons (tC (.int 2)) tNil))))))) (tOp rModI (tOp rDivI (tCall (sp__law_draw A) [] E0 (tCons (tVar 0) (tCons (tC (.int 0)) tNil))) (tC (.int 6))) (tC (.int 6)))) (gName 4))
  (tSeq (tAsg (tC (tS letters)) (gName 5))
  (tSeq (tAsg (tOp rModI (tOp rDivI (tCall (sp__law_draw A) [] E0 (tCons (tVar 0) (tCons (tC (.int 0)) tNil))) (tC (.int 36))) (tC (.int 26))) (gName 6))
  (tSeq (tAsg (tJoin A.K (tC (tS [])) (tLc (iList A.K (tSl (rSlL A.K) (tVar 0) (tPart (tVar 1)) (tPart (tOp rAddI (tVar 1) (tVar 2))))) (gName 8) tYes (tOp rIxS (tVar 5) (tOp rModI (tOp rAddI (tVar 6) (tOp rModI (tOp rDivI (tVar 8) (tC (.int 5))) (tVar 4))) (tC (.int 26)))) [8])) (gName 7))
  (tSeq (tAsg (tSl rSlS (tVar 7) tNoPart (tPart (tOp rDivI (tCB rLenT (tCons (tVar 7) tNil)) (tC (.int 2))))) (gName 9))
  (tSeq (tIfS (tTest (tOp rEq (tVar 3) (tC (.int 1)))) (tRet (tOp rAddT (tVar 9) (tVar 9))) tNext)
  (tSeq (tIfS (tTest (tOp rEq (tVar 3) (tC (.int 2)))) (tRet (tOp rAddT (tVar 9) (tRevT (tVar 9)))) tNext)
  (tSeq (tIfS (tTest (tOp rEq (tVar 3) (tC (.int 3)))) (tRet (tOp rAddT (tOp rAddT (tVar 9) (tSl rSlS (tVar 7) (tPart (tCB rLenT (tCons (tVar 9) tNil))) (tPart (tOp rAddI (tCB rLenT (tCons (tVar 9) tNil)) (tC (.int 1)))))) (tRevT (tVar 9)))) tNext)
  (tSeq (tIfS (tTest (tOp rEq (tVar 3) (tC (.int 4)))) (tRet (tSl rSlS (tOp rMulT (tSl rSlS (tVar 7) tNoPart (tPart (tOp rAddI (tC (.int 1)) (tOp rDivI (tCB rLenT (tCons (tVar 7) tNil)) (tC (.int 5)))))) (tC (.int 5))) tNoPart (tPart (tCB rLenT (tCons (tVar 7) tNil))))) tNext)
  (tRet (tVar 7))))))))))))

theorem len__law_text (A : Ad) : ∀ vs H Q E, sp__law_text A vs H Q E → vs.length = 3 := fun vs H Q E h => by
  obtain ⟨a, ns, fi, mo, rfl, _⟩ := h
  rfl
def manyF (d : Int) : Int := [1, 2, 2, 3, 26, 2].getD (d / 6 % 6).toNat 0
theorem manyF_pos (d : Int) : 1 ≤ manyF d ∧ manyF d ≤ 26 := by
  unfold manyF
  have h1 : (d / 6 % 6).toNat < 6 := by omega
  match (d / 6 % 6).toNat, h1 with
  | 0, _ => decide
  | 1, _ => decide
  | 2, _ => decide
  | 3, _ => decide
  | 4, _ => decide
  | 5, _ => decide
theorem pu__law_text (A : Ad) (vs : List V) (H : Hp) (Q : VK) (E : XK) (h : sp__law_text A vs H Q E) :
    t__law_text A { nx := fun _ H' => Q .non H', rt := Q } (start ["_law_script", "_law_first", "_law_most", "_law_way", "_law_many", "_law_letters", "_law_start", "_law_word", "_law_cell", "_law_half"] vs) H := by
  obtain ⟨a, ns, fi, mo, rfl, hS, hn, hfi, hmo, k⟩ := h
  show t__law_text A _ [some (.ref a), some (.int fi), some (.int mo), none, none, none, none, none, none, none] H
  unfold t__law_text
  have am := Am.start H
  refine aq_asg am (ev_op (c__law_draw_ (k := 0) (ev_var rfl) ev_c hS) ev_c (r_modI (by decide))) fun H1 am => ?_
  dsimp only [List.set]
  refine aq_asg (v := .int (manyF (drawI ns 0))) am (ev_opL1 (el_lst (vs := [.int 1, .int 2, .int 2, .int 3, .int 26, .int 2]) (by walk_at "ev") (by decide))
    (fun H2 e => ev_op (ev_op (c__law_draw_ (k := 0) (ev_var rfl) ev_c (ex_l (am.toEx.trans e) hS)) ev_c (r_divI (by decide))) ev_c (r_modI (by decide)))
    (fun p H2 h2 e => rv_ixL (K := A.K) (sq_of h2) (atI_map (f := V.int) (ns := [1, 2, 2, 3, 26, 2]) (by omega) ?_))) fun H2 am => ?_
  · unfold manyF
    have h1 : (drawI ns 0 / 6 % 6).toNat < 6 := by omega
    have h2 : (drawI ns 0 / 6 % 6).toNat < ([1, 2, 2, 3, 26, 2] : List Int).length := h1
    simp only [List.getD, List.getElem?_eq_getElem h2, Option.getD_some]
  dsimp only [List.set]
  refine aq_asg am (by walk_at "ev") fun H3 am => ?_
  dsimp only [List.set]
  refine aq_asg am (ev_op (ev_op (c__law_draw_ (k := 0) (ev_var rfl) ev_c (ex_l am.toEx hS)) ev_c (r_divI (by decide))) ev_c (r_modI (by decide))) fun H4 am => ?_
  dsimp only [List.set]
  have hm := manyF_pos (drawI ns 0)
  generalize hmv : manyF (drawI ns 0) = many at hm ⊢
  have hst0 : 0 ≤ drawI ns 0 / 36 % 26 := by omega
  generalize hsv : drawI ns 0 / 36 % 26 = st at hst0 ⊢
  let cells := ((ns.drop (HT.sIx ns.length 0 (some (fi : Int)))).take (HT.sIx ns.length ns.length (some ((fi : Int) + mo)) - HT.sIx ns.length 0 (some (fi : Int))))
  let fc : Int → Tx := fun c => [at0 letters ((st + c / 5 % many) % 26)]
  have hcl : cells.length ≤ mo := by
    show (List.take _ (List.drop _ ns)).length ≤ mo
    rw [sIx_pos _ _ _ (by omega), sIx_pos _ _ _ (by omega), List.length_take, List.length_drop]
    omega
  have hfl : ∀ cs : List Int, ((cs.map fc).flatten).length = cs.length := fun cs => by
    induction cs with
    | nil => rfl
    | cons c r ih => rw [List.map_cons, List.flatten_cons, List.length_append, ih, List.length_cons]; simp [fc]; omega
  have hfx : ∀ c : Int, 0 ≤ (st + c / 5 % many) % 26 ∧ (st + c / 5 % many) % 26 < 26 := fun c => ⟨by omega, by omega⟩
  refine aq_asg (v := tS (cells.map fc).flatten) am (e_join (K := A.K) (ls := cells.map fc) ev_c ?_ (by rw [hfl]; omega)) fun H5 am => ?_
  · have z := el_lcN (H := H4) (σ := [some (.ref a), some (.int fi), some (.int mo), some (.int (drawI ns 0 % 6)), some (.int many), some (tS letters), some (.int st), none, none, none]) (K := A.K) (f := V.int) (ns := cells) (j := 8) (vs := [8]) (t := tYes) (te := (tOp rIxS (tVar 5) (tOp rModI (tOp rAddI (tVar 6) (tOp rModI (tOp rDivI (tVar 8) (tC (.int 5))) (tVar 4))) (tC (.int 26)))))
      (fun _ => true) (fun c => tS (fc c)) (tl := (tSl (rSlL A.K) (tVar 0) (tPart (tVar 1)) (tPart (tOp rAddI (tVar 1) (tVar 2)))))
      (e_slL (ev_var rfl) (eo_some (ev_var rfl)) (eo_some (by walk_at "ev")) (ex_l am.toEx hS)) (by omega) (fun _ => rfl) (fun _ _ => et_yes) (fun c _ _ => by
        dsimp only [List.set, wipe]
        have hx := hfx c
        refine ev_op (ev_var rfl) (ev_op (ev_op (ev_var rfl) (ev_op (ev_op (ev_var rfl) ev_c (r_divI (by decide))) (ev_var rfl) (r_modI (by omega))) rv_I0) ev_c (r_modI (by decide))) (r_ixS hx.1 hx.2 (by decide)))
    rw [List.filter_eq_self.mpr (fun _ _ => rfl)] at z
    rw [List.map_map]
    exact z
  have hlw : ((cells.map fc).flatten).length ≤ mo := by rw [hfl]; exact hcl
  have hle : Lets (cells.map fc).flatten := fun c hc => by
    obtain ⟨x, hx, hc⟩ := List.mem_flatten.mp hc
    obtain ⟨y, hy, rfl⟩ := List.mem_map.mp hx
    have e : c = at0 letters ((st + y / 5 % many) % 26) := by simpa [fc] using hc
    rw [e]
    exact at0_let _ (hfx y).1 (hfx y).2
  generalize (cells.map fc).flatten = wd at hlw hle ⊢
  generalize drawI ns 0 % 6 = way
  dsimp only [List.set]
  refine aq_asg am (by walk_at "ev") fun H6 am => ?_
  dsimp only [List.set]
  have hh : (wd.take ((wd.length : Int) / 2).toNat).length * 2 ≤ wd.length := by rw [List.length_take]; omega
  have hhl := hle.take ((wd.length : Int) / 2).toNat
  generalize wd.take ((wd.length : Int) / 2).toNat = hf at hh hhl ⊢
  refine aq_when am (by walk_at "ev") (fun _ H7 am => a_ret am (by walk_at "ev") fun H8 am => k _ _ am.toEx (hhl.app hhl) (by rw [List.length_append]; omega)) fun _ H7 am => ?_
  refine aq_when am (by walk_at "ev") (fun _ H7 am => a_ret am (by walk_at "ev") fun H8 am => k _ _ am.toEx (hhl.app hhl.rev) (by rw [List.length_append, List.length_reverse]; omega)) fun _ H7 am => ?_
  refine aq_when am (by walk_at "ev") (fun _ H7 am => a_ret am (by walk_at "ev") fun H8 am => k _ _ am.toEx ((hhl.app ((hle.drop _).take _)).app hhl.rev) ?_) fun _ H7 am => ?_
  · rw [List.length_append, List.length_append, List.length_reverse, List.length_take, List.length_drop]
    omega
  have hwt : ∀ n : Nat, (wd.take n).length * (5 : Int).toNat ≤ 1000000 := fun n => by
    show (wd.take n).length * 5 ≤ 1000000
    rw [List.length_take]; omega
  refine aq_when am (by walk_at "ev") (fun _ H7 am => a_ret am (e_slTo (ev_op (e_slTo (i := 1 + (wd.length : Int) / 5) (ev_var rfl) (by walk_at "ev") (by omega) (by omega)) ev_c (r_mulT (n := 5) (by decide) (by decide) (hwt _)))
    (i := wd.length) (by walk_at "ev") (by omega) ?_) fun H8 am => k _ _ am.toEx (((hle.take _).rep _).take _) ?_) fun _ H7 am => ?_
  · rw [len_rep, Nat.mul_comm]
    exact hwt _
  · rw [List.length_take]
    omega
  exact a_ret am (by walk_at "ev") fun H8 am => k _ _ am.toEx hle (by omega)
theorem c__law_text_ {A : Ad} {σ : L2.St} {H : Hp} {te : TE} {a : Addr} {ns : List Int} {fi mo : Nat} (h : Ev te σ H (.ref a)) (hS : SqL A.K H a (ns.map V.int)) (hn : ns.length ≤ 63) (hf : fi ≤ 10) (hm : mo ≤ 63) :
    EvP (tCall (sp__law_text A) [] E0 (tCons te (tCons (tC (.int fi)) (tCons (tC (.int mo)) tNil)))) σ H (fun v => ∃ l, v = tS l ∧ Lets l ∧ l.length ≤ mo + 1) := fun H1 e Q q =>
  h H1 e _ fun H2 e2 => ⟨a, ns, fi, mo, rfl, ex_l (e.trans e2) hS, hn, hf, hm, fun l H3 e3 hl hz => q _ _ ⟨l, rfl, hl, hz⟩ (e2.trans e3)⟩

end Mw
namespace Mw
open PySem PySem.Spec PyProof.Rows L2 Evl
local macro_rules | `(tactic| walk_at "sd") => `(tactic| (first
  | assumption
  | omega
  | decide
  | (simp only [List.length_append, List.length_cons, List.length_nil, List.length_reverse, List.length_take, List.length_drop, List.length_map, List.length_range] at *; omega)
  | skip))
local macro_rules | `(tactic| walk_at "ev") => `(tactic| (first
  | ((with_reducible apply ev_var); rfl)
  | (with_reducible exact ev_c)
  | ((with_reducible apply ev_op) <;> walk_at "ev")
  | ((with_reducible apply e_negI) <;> walk_at "ev")
  | ((with_reducible apply et_test) <;> walk_at "ev")
  | ((with_reducible apply et_B) <;> walk_at "ev")
  | ((with_reducible apply et_and); (focus walk_at "ev"); intro hq; (try simp only [Bool.and_eq_true, Bool.or_eq_true, decide_eq_true_eq, Bool.not_eq_true', decide_eq_false_iff_not, Bool.and_eq_false_iff, Bool.or_eq_false_iff, Bool.not_eq_false'] at hq); walk_at "ev")
  | ((with_reducible apply et_or); (focus walk_at "ev"); intro hq; (try simp only [Bool.and_eq_true, Bool.or_eq_true, decide_eq_true_eq, Bool.not_eq_true', decide_eq_false_iff_not, Bool.and_eq_false_iff, Bool.or_eq_false_iff, Bool.not_eq_false'] at hq); walk_at "ev")
  | ((with_reducible apply ev_andV); (focus walk_at "ev"); intro hq; (try simp only [Bool.and_eq_true, Bool.or_eq_true, decide_eq_true_eq, Bool.not_eq_true', decide_eq_false_iff_not, Bool.and_eq_false_iff, Bool.or_eq_false_iff, Bool.not_eq_false'] at hq); walk_at "ev")
  | ((with_reducible apply ev_orV); (focus walk_at "ev"); intro hq; (try simp only [Bool.and_eq_true, Bool.or_eq_true, decide_eq_true_eq, Bool.not_eq_true', decide_eq_false_iff_not, Bool.and_eq_false_iff, Bool.or_eq_false_iff, Bool.not_eq_false'] at hq); walk_at "ev")
  | ((with_reducible apply e_if); (focus walk_at "ev"); (focus (intro hq; (try simp only [Bool.and_eq_true, Bool.or_eq_true, decide_eq_true_eq, Bool.not_eq_true', decide_eq_false_iff_not, Bool.and_eq_false_iff, Bool.or_eq_false_iff, Bool.not_eq_false'] at hq); walk_at "ev")); (intro hq; (try simp only [Bool.and_eq_true, Bool.or_eq_true, decide_eq_true_eq, Bool.not_eq_true', decide_eq_false_iff_not, Bool.and_eq_false_iff, Bool.or_eq_false_iff, Bool.not_eq_false'] at hq); walk_at "ev"))
  | ((with_reducible apply et_not) <;> walk_at "ev")
  | ((with_reducible apply ev_notV) <;> walk_at "ev")
  | (with_reducible exact et_yes)
  | (with_reducible exact ea_nil)
  | ((with_reducible apply ea_cons) <;> walk_at "ev")
  | (with_reducible exact eo_none)
  | ((with_reducible apply eo_some) <;> walk_at "ev")
  | ((with_reducible apply e_slBut) <;> walk_at "ev")
  | ((with_reducible apply e_slIn) <;> walk_at "ev")
  | ((with_reducible apply e_slTo) <;> walk_at "ev")
  | ((with_reducible apply e_slFrom) <;> walk_at "ev")
  | ((with_reducible apply e_slMid) <;> walk_at "ev")
  | ((with_reducible apply e_rev) <;> walk_at "ev")
  | (with_reducible exact rv_I0)
  | (with_reducible exact r_eqI) | (with_reducible exact r_neI) | (with_reducible exact r_eqS) | (with_reducible exact r_neS)
  | (with_reducible exact r_inC) | (with_reducible exact r_ninC) | (with_reducible exact r_isN) | (with_reducible exact r_notN)
  | (with_reducible exact r_ltT) | (with_reducible exact r_gtT)
  | (with_reducible exact rc_max2) | (with_reducible exact rc_min2)
  | ((with_reducible apply r_divI) <;> walk_at "sd") | ((with_reducible apply r_modI) <;> walk_at "sd") | ((with_reducible apply r_mulI) <;> walk_at "sd")
  | ((with_reducible apply r_ixS) <;> walk_at "sd")
  | ((with_reducible apply r_addT) <;> walk_at "sd")
  | ((with_reducible apply r_mulT) <;> walk_at "sd")
  | ((with_reducible apply rc_lenT) <;> walk_at "sd")
  | ((with_reducible apply rc_lenL) <;> walk_at "sd")
  | ((with_reducible apply ev_cb) <;> walk_at "ev")
  | walk_at "evc"
  | walk_at "sd"))

/-! ## the law's own reading of arms -/
def sp__law_arms (A : Ad) : Sp := spL fun vs H xs => ∃ l : Tx, vs = [tS l] ∧ l.length ≤ 1000 ∧ xs = armL l.length (armN l)
def t__law_arms (A : Ad) : TS :=
  (tSeq (tAsg (tLst tNil) (gName 1))
  (tSeq (tFor (iRng1 (tCons (tOp rSubI (tOp rMulI (tC (.int 2)) (tCB rLenT (tCons (tVar 0) tNil))) (tC (.int 1))) tNil)) (gName 2)
  (tSeq (tPar 3 4 (tCons (tOp rDivI (tOp rSubI (tVar 2) (tC (.int 1))) (tC (.int 2))) (tCons (tOp rAddI (tOp rDivI (tVar 2) (tC (.int 2))) (tC (.int 1))) tNil)))
  (tSeq (tAsg (tC (.int 0)) (gName 5))
  (tSeq (tWhile (tAnd (tTest (tOp rGeI (tOp rSubI (tVar 3) (tVar 5)) (tC (.int 0)))) (tAnd (tTest (tOp rLtI (tOp rAddI (tVar 4) (tVar 5)) (tCB rLenT (tCons (tVar 0) tNil)))) (tTest (tOp rEq (tOp rIxS (tVar 0) (tOp rSubI (tVar 3) (tVar 5))) (tOp rIxS (tVar 0) (tOp rAddI (tVar 4) (tVar 5)))))))
  (tAsg (tOp rAddI (tVar 5) (tC (.int 1))) (gName 5)))
  (tDrop (tBM A.K "list" rAppend (tVar 1) (tCons (tVar 5) tNil)))))))
  (tRet (tVar 1))))

theorem len__law_arms (A : Ad) : ∀ vs H Q E, sp__law_arms A vs H Q E → vs.length = 1 := fun vs H Q E h => by
  obtain ⟨xs, ⟨l, rfl, _⟩, _⟩ := h
  rfl
theorem pu__law_arms (A : Ad) (vs : List V) (H : Hp) (Q : VK) (E : XK) (h : sp__law_arms A vs H Q E) : t__law_arms A { nx := fun _ H' => Q .non H', rt := Q } (start ["_law_text_here", "_law_found", "_law_middle", "_law_left", "_law_right", "_law_arm"] vs) H := by
  obtain ⟨xs, ⟨l, rfl, hl, rfl⟩, k⟩ := h
  show t__law_arms A _ [some (tS l), none, none, none, none, none] H
  unfold t__law_arms
  refine aq_asgL (Am.start H) (el_lst ea_nil (by decide)) fun pf H1 am => ?_
  dsimp only [List.set]
  refine aq_for (ns := List.range (2 * (l.length : Int) - 1).toNat) (f := fun i => .int (i : Nat)) (fun pre σ' H' => ∃ v2 v3 v4 v5 : Option V, σ' = [some (tS l), some (.ref pf), v2, v3, v4, v5] ∧ Am [] H [(pf, .lst ((List.range pre.length).map fun m => vN (armN l m)))] H') am
    (wk_range1 (by walk_at "ev") (by omega)) (fun H2 am => ⟨_, _, _, _, rfl, am⟩) (fun _ _ _ _ => trivial) ?_ ?_
  · rintro pre m post σ' H2 hs ⟨v2, v3, v4, v5, rfl, am⟩
    obtain ⟨hm, hmn⟩ := range_atM hs
    rw [hm] at am
    rw [show (pre ++ [m]).length = m + 1 by rw [List.length_append, hm]; rfl]
    dsimp only [List.set]
    refine aq_par am (ea_cons (by walk_at "ev") (ea_cons (by walk_at "ev") ea_nil)) fun H3 am => ?_
    dsimp only [List.set]
    refine aq_asg am ev_c fun H4 am => ?_
    dsimp only [List.set]
    have ha := arm_le l m
    have hin := arm_in (l := l) (m := m) (by omega)
    refine aq_while (fun w σ' H' => ∃ c : Nat, σ' = [some (tS l), some (.ref pf), some (.int (m : Nat)), some (.int ((((m : Nat) : Int) - 1) / 2)), some (.int (((m : Nat) : Int) / 2 + 1)), some (.int (c : Nat))] ∧
      Am [] H [(pf, .lst ((List.range m).map fun m => vN (armN l m)))] H' ∧ w = armN l m - c ∧ c ≤ armN l m) (armN l m) ⟨0, rfl, am, rfl, Nat.zero_le _⟩ fun w σ' H' hw => ?_
    obtain ⟨c, rfl, am, rfl, hc⟩ := hw
    refine ⟨_, by walk_at "ev", fun d H5 e N hN => ?_, fun d H5 e => ?_⟩
    · have am := am.ex e
      simp only [Bool.and_eq_true, decide_eq_true_eq, List.cons.injEq, and_true, at0] at d
      obtain ⟨d1, d2, d3⟩ := d
      have hok : okA l m c := by
        refine ⟨by omega, by omega, ?_⟩
        rw [show ((((m : Nat) : Int) - 1) / 2 - ((c : Nat) : Int)).toNat = (m + 1) / 2 - 1 - c by omega, show (((m : Nat) : Int) / 2 + 1 + ((c : Nat) : Int)).toNat = m / 2 + 1 + c by omega] at d3
        exact d3
      have hlt : c < armN l m := by
        rcases Nat.lt_or_ge c (armN l m) with g | g
        · exact g
        · have e2 : c = armN l m := by omega
          rw [e2] at hok
          exact absurd hok (arm_not l m)
      exact a_asg am (v := .int ((c + 1 : Nat) : Int)) (ev_is (ev_op (ev_var rfl) ev_c rv_I0) rfl) fun H6 am => hN (armN l m - (c + 1)) _ _ (by omega) ⟨c + 1, rfl, am, rfl, hlt⟩
    · have am := am.ex e
      have hce : c = armN l m := by
        rcases Nat.lt_or_ge c (armN l m) with g | g
        · obtain ⟨h1, h2, h3⟩ := arm_lt g
          simp only [Bool.and_eq_false_iff, decide_eq_false_iff_not, List.cons.injEq, and_true, at0] at d
          rw [show ((((m : Nat) : Int) - 1) / 2 - ((c : Nat) : Int)).toNat = (m + 1) / 2 - 1 - c by omega, show (((m : Nat) : Int) / 2 + 1 + ((c : Nat) : Int)).toNat = m / 2 + 1 + c by omega] at d
          rcases d with d | d | d
          · omega
          · omega
          · exact absurd h3 d
        · omega
      subst hce
      refine a_app 0 am rfl (ev_var rfl) (ev_var rfl) (by rw [List.length_map, List.length_range]; omega) fun H6 am => ?_
      refine ⟨_, _, _, _, rfl, ?_⟩
      rw [List.range_succ, List.map_append]
      exact am
  · rintro σ' H2 ⟨v2, v3, v4, v5, rfl, am⟩
    rw [List.length_range, show (2 * (l.length : Int) - 1).toNat = 2 * l.length - 1 by omega] at am
    exact a_ret am (ev_var rfl) fun H3 am => k pf H3 (am.free 0 rfl) am.toEx (am.at 0 rfl)
theorem c__law_arms_ {A : Ad} {σ : L2.St} {H : Hp} {te : TE} {l : Tx} (h : Ev te σ H (tS l)) (hl : l.length ≤ 1000) : EvL (tCall (sp__law_arms A) [] E0 (tCons te tNil)) σ H (armL l.length (armN l)) :=
  e_callL (ea_cons h ea_nil) fun _ e => ⟨l, rfl, hl, rfl⟩

end Mw
namespace Mw
open PySem PySem.Spec PyProof.Rows L2 Evl
local macro_rules | `(tactic| walk_at "sd") => `(tactic| (first
  | assumption
  | omega
  | decide
  | (simp only [List.length_append, List.length_cons, List.length_nil, List.length_reverse, List.length_take, List.length_drop, List.length_map, List.length_range] at *; omega)
  | skip))
local macro_rules | `(tactic| walk_at "ev") => `(tactic| (first
  | ((with_reducible apply ev_var); rfl)
  | (with_reducible exact ev_c)
  | ((with_reducible apply ev_op) <;> walk_at "ev")
  | ((with_reducible apply e_negI) <;> walk_at "ev")
  | ((with_reducible apply et_test) <;> walk_at "ev")
  | ((with_reducible apply et_B) <;> walk_at "ev")
  | ((with_reducible apply et_and); (focus walk_at "ev"); intro hq; (try simp only [Bool.and_eq_true, Bool.or_eq_true, decide_eq_true_eq, Bool.not_eq_true', decide_eq_false_iff_not, Bool.and_eq_false_iff, Bool.or_eq_false_iff, Bool.not_eq_false'] at hq); walk_at "ev")
  | ((with_reducible apply et_or); (focus walk_at "ev"); intro hq; (try simp only [Bool.and_eq_true, Bool.or_eq_true, decide_eq_true_eq, Bool.not_eq_true', decide_eq_false_iff_not, Bool.and_eq_false_iff, Bool.or_eq_false_iff, Bool.not_eq_false'] at hq); walk_at "ev")
  | ((with_reducible apply ev_andV); (focus walk_at "ev"); intro hq; (try simp only [Bool.and_eq_true, Bool.or_eq_true, decide_eq_true_eq, Bool.not_eq_true', decide_eq_false_iff_not, Bool.and_eq_false_iff, Bool.or_eq_false_iff, Bool.not_eq_false'] at hq); walk_at "ev")
  | ((with_reducible apply ev_orV); (focus walk_at "ev"); intro hq; (try simp only [Bool.and_eq_true, Bool.or_eq_true, decide_eq_true_eq, Bool.not_eq_true', decide_eq_false_iff_not, Bool.and_eq_false_iff, Bool.or_eq_false_iff, Bool.not_eq_false'] at hq); walk_at "ev")
  | ((with_reducible apply e_if); (focus walk_at "ev"); (focus (intro hq; (try simp only [Bool.and_eq_true, Bool.or_eq_true, decide_eq_true_eq, Bool.not_eq_true', decide_eq_false_iff_not, Bool.and_eq_false_iff, Bool.or_eq_false_iff, Bool.not_eq_false'] at hq); walk_at "ev")); (intro hq; (try simp only [Bool.and_eq_true, Bool.or_eq_true, decide_eq_true_eq, Bool.not_eq_true', decide_eq_false_iff_not, Bool.and_eq_false_iff, Bool.or_eq_false_iff, Bool.not_eq_false'] at hq); walk_at "ev"))
  | ((with_reducible apply et_not) <;> walk_at "ev")
  | ((with_reducible apply ev_notV) <;> walk_at "ev")
  | (with_reducible exact et_yes)
  | (with_reducible exact ea_nil)
  | ((with_reducible apply ea_cons) <;> walk_at "ev")
  | (with_reducible exact eo_none)
  | ((with_reducible apply eo_some) <;> walk_at "ev")
  | ((with_reducible apply e_slBut) <;> walk_at "ev")
  | ((with_reducible apply e_slIn) <;> walk_at "ev")
  | ((with_reducible apply e_slTo) <;> walk_at "ev")
  | ((with_reducible apply e_slFrom) <;> walk_at "ev")
  | ((with_reducible apply e_slMid) <;> walk_at "ev")
  | ((with_reducible apply e_rev) <;> walk_at "ev")
  | (with_reducible exact rv_I0)
  | (with_reducible exact r_eqI) | (with_reducible exact r_neI) | (with_reducible exact r_eqS) | (with_reducible exact r_neS)
  | (with_reducible exact r_inC) | (with_reducible exact r_ninC) | (with_reducible exact r_isN) | (with_reducible exact r_notN)
  | (with_reducible exact r_ltT) | (with_reducible exact r_gtT)
  | (with_reducible exact rc_max2) | (with_reducible exact rc_min2)
  | ((with_reducible apply r_divI) <;> walk_at "sd") | ((with_reducible apply r_modI) <;> walk_at "sd") | ((with_reducible apply r_mulI) <;> walk_at "sd")
  | ((with_reducible apply r_ixS) <;> walk_at "sd")
  | ((with_reducible apply r_addT) <;> walk_at "sd")
  | ((with_reducible apply r_mulT) <;> walk_at "sd")
  | ((with_reducible apply rc_lenT) <;> walk_at "sd")
  | ((with_reducible apply rc_lenL) <;> walk_at "sd")
  | ((with_reducible apply ev_cb) <;> walk_at "ev")
  | walk_at "evc"
  | walk_at "sd"))

/-! ## law k04 -/
def six : Tx := [97, 98, 99, 100, 101, 102]
def extT (t : Tx) : List Tx := (six.take (1 + (metN t).length)).map fun c => t ++ [c]
/-- all texts, but for which letter stands for which -/
def allT : Nat → List Tx
  | 0 => [[]]
  | k + 1 => (allT k).flatMap extT
theorem allT_len {k : Nat} (h : k ≤ 6) : (allT k).length ≤ 1000 := by
  match k, h with
  | 0, _ => decide +kernel
  | 1, _ => decide +kernel
  | 2, _ => decide +kernel
  | 3, _ => decide +kernel
  | 4, _ => decide +kernel
  | 5, _ => decide +kernel
  | 6, _ => decide +kernel
theorem six_let : ∀ c ∈ six, c ∈ letters := by decide
theorem mem_allT : ∀ {k : Nat} {t : Tx}, t ∈ allT k → t.length = k ∧ Lets t
  | 0, t, h => by
    rw [List.mem_singleton.mp h]
    exact ⟨rfl, fun c hc => by cases hc⟩
  | k + 1, t, h => by
    obtain ⟨u, hu, ht⟩ := List.mem_flatMap.mp h
    obtain ⟨c, hc, rfl⟩ := List.mem_map.mp ht
    obtain ⟨h1, h2⟩ := mem_allT hu
    refine ⟨by rw [List.length_append, h1]; rfl, fun d hd => ?_⟩
    rcases List.mem_append.mp hd with hd | hd
    · exact h2 d hd
    · rw [List.mem_singleton.mp hd]
      exact six_let c (List.mem_of_mem_take hc)
theorem metN_snoc (t : Tx) (c : Nat) : metN (t ++ [c]) = stepM (metN t) c := by
  unfold metN
  rw [List.foldl_append]; rfl
theorem mem_metN (t : Tx) : ∀ c, c ∈ metN t ↔ c ∈ t := by
  have key : ∀ (cs σ : List Nat) (c : Nat), c ∈ cs.foldl stepM σ ↔ c ∈ σ ∨ c ∈ cs := by
    intro cs
    induction cs with
    | nil => intro σ c; exact ⟨.inl, fun h => h.elim id fun z => by cases z⟩
    | cons d r ih =>
      intro σ c
      rw [List.foldl_cons, ih, List.mem_cons]
      have e : c ∈ stepM σ d ↔ c ∈ σ ∨ c = d := by
        unfold stepM
        by_cases h : σ.any (· == d) = true
        · rw [if_pos h]
          obtain ⟨x, hx, e⟩ := List.any_eq_true.mp h
          rw [eq_of_beq e] at hx
          exact ⟨.inl, fun z => z.elim id fun z => by rw [z]; exact hx⟩
        · rw [if_neg h, List.mem_append, List.mem_singleton]
      rw [e, or_assoc]
  intro c
  have := key t [] c
  rw [show metN t = t.foldl stepM [] from rfl, this]
  exact ⟨fun h => h.elim (fun z => by cases z) id, .inr⟩
/-- the greedy text is among them -/
theorem gT_allT {E : List (Nat × Nat)} {n : Nat} {a r : Nat → Nat} (hn : n ≤ 6) (fine : Fine E r) (hf : Free n a r) : ∀ p, p ≤ n → gT n a r p ∈ allT p ∧ ∃ k, k ≤ p ∧ metN (gT n a r p) = (List.range k).map (97 + ·) := by
  intro p
  induction p with
  | zero => intro _; exact ⟨List.mem_singleton.mpr rfl, 0, Nat.le_refl _, rfl⟩
  | succ p ih =>
    intro hp
    obtain ⟨h1, k, hk, h2⟩ := ih (by omega)
    have hmem : ∀ c, c ∈ gT n a r p ↔ ∃ j, j < k ∧ c = 97 + j := fun c => by
      rw [← mem_metN, h2, List.mem_map]
      exact ⟨fun ⟨j, hj, e⟩ => ⟨j, List.mem_range.mp hj, e.symm⟩, fun ⟨j, hj, e⟩ => ⟨j, List.mem_range.mpr hj, e.symm⟩⟩
    have hwm : ∀ q, q < p → wF n a r q ∈ gT n a r p := fun q hq => by
      rw [← gT_at n a r hq, List.getD_eq_getElem?_getD, List.getElem?_eq_getElem (by rw [len_gT]; exact hq)]
      exact List.getElem_mem _
    have hc : ∃ j, j ≤ k ∧ wF n a r p = 97 + j := by
      rcases Nat.lt_or_ge (r p) p with c | c
      · rw [wF_root c]
        obtain ⟨j, hj, e⟩ := (hmem _).mp (hwm _ c)
        exact ⟨j, by omega, e⟩
      · have hr : r p = p := by
          have := fine.le p
          omega
        rw [wF_new hr]
        obtain ⟨s1, s2, s3⟩ := free_spec (hf p (by omega) hr)
        have hk26 : 97 + k ∈ letters := by
          have : ∀ j, j < 26 → 97 + j ∈ letters := by decide
          exact this k (by omega)
        have un : ((List.range p).any fun q => foeB n a r p q && decide (wF n a r q = 97 + k)) = false := by
          rw [List.any_eq_false]
          intro q hq z
          rw [Bool.and_eq_true, decide_eq_true_eq] at z
          have := hwm q (List.mem_range.mp hq)
          rw [z.2] at this
          obtain ⟨j, hj, e⟩ := (hmem _).mp this
          omega
        have le := s3 _ hk26 un
        have ge := let_ge s1
        refine ⟨(freeL fun c => (List.range p).any fun q => foeB n a r p q && decide (wF n a r q = c)) - 97, ?_, ?_⟩ <;> omega
    obtain ⟨j, hj, e⟩ := hc
    have hg : gT n a r (p + 1) = gT n a r p ++ [97 + j] := by rw [← e]; rfl
    have hlen : (metN (gT n a r p)).length = k := by rw [h2]; simp
    refine ⟨List.mem_flatMap.mpr ⟨_, h1, List.mem_map.mpr ⟨97 + j, ?_, hg.symm⟩⟩, ?_⟩
    · rw [hlen]
      have : ∀ k, k < 6 → ∀ j, j ≤ k → 97 + j ∈ six.take (1 + k) := by decide
      exact this k (by omega) j hj
    · rw [hg, metN_snoc, h2]
      rcases Nat.lt_or_ge j k with c | c
      · refine ⟨k, by omega, ?_⟩
        unfold stepM
        rw [if_pos]
        exact List.any_eq_true.mpr ⟨97 + j, List.mem_map.mpr ⟨j, List.mem_range.mpr c, rfl⟩, beq_self_eq_true _⟩
      · have hjk : j = k := by omega
        subst hjk
        refine ⟨j + 1, by omega, ?_⟩
        unfold stepM
        rw [if_neg, List.range_succ, List.map_append]
        · rfl
        · intro z
          obtain ⟨x, hx, ex⟩ := List.any_eq_true.mp z
          rw [eq_of_beq ex] at hx
          obtain ⟨i, hi, ei⟩ := List.mem_map.mp hx
          have := List.mem_range.mp hi
          have ei : 97 + i = 97 + j := ei
          omega
/-! ## _law_all -/
def sp__law_all (A : Ad) : Sp := spL fun vs H xs => ∃ k : Nat, vs = [.int k] ∧ k ≤ 6 ∧ xs = (allT k).map tS
def t__law_all (A : Ad) : TS :=
  (tSeq (tAsg (tLst (tCons (tC (tS [])) tNil)) (gName 1))
  (tSeq (tFor (iRng1 (tCons (tVar 0) tNil)) (gName 2)
  (tSeq (tAsg (tLst tNil) (gName 3))
  (tSeq (tFor (iList A.K (tVar 1)) (gName 4)
  (tFor (iStr (tSl rSlS (tC (tS [97, 98, 99, 100, 101, 102])) tNoPart (tPart (tOp rAddI (tC (.int 1)) (tLenSetT (tVar 4)))))) (gName 5)
  (tDrop (tBM A.K "list" rAppend (tVar 3) (tCons (tOp rAddT (tVar 4) (tVar 5)) tNil)))))
  (tAsg (tVar 3) (gName 1)))))
  (tRet (tVar 1))))

theorem len__law_all (A : Ad) : ∀ vs H Q E, sp__law_all A vs H Q E → vs.length = 1 := fun vs H Q E h => by
  obtain ⟨v, ⟨k, rfl, _⟩, _⟩ := h
  rfl
theorem six_take {i : Int} (h : 0 ≤ i) : ([97, 98, 99, 100, 101, 102] : Tx).take i.toNat = six.take i.toNat := rfl
theorem len_flatMap_pre {pre post : List Tx} {n : Tx} {all : List Tx} (h : all = pre ++ n :: post) : (pre.flatMap extT).length + (extT n).length ≤ (all.flatMap extT).length := by
  rw [h, List.flatMap_append, List.flatMap_cons, List.length_append, List.length_append]; omega
theorem pu__law_all (A : Ad) (vs : List V) (H : Hp) (Q : VK) (E : XK) (h : sp__law_all A vs H Q E) :
    t__law_all A { nx := fun _ H' => Q .non H', rt := Q } (start ["_law_many", "_law_found", "_law_place", "_law_longer", "_law_text", "_law_letter"] vs) H := by
  obtain ⟨v, ⟨k, rfl, hk, rfl⟩, kq⟩ := h
  show t__law_all A _ [some (.int k), none, none, none, none, none] H
  unfold t__law_all
  have am := Am.start H
  refine aq_asgL (xs := ([[]] : List Tx).map tS) am (el_lst (ea_cons ev_c ea_nil) (by decide)) fun p H1 am => ?_
  dsimp only [List.set]
  refine aq_for (ns := List.range (k : Int).toNat) (f := fun i => .int (i : Nat)) (fun pre σ' H' => ∃ (q : Addr) (v2 v3 v4 v5 : Option V), σ' = [some (.int k), some (.ref q), v2, v3, v4, v5] ∧ Am [] H [(q, .lst ((allT pre.length).map tS))] H') am
    (wk_range1 (by walk_at "ev") (by omega)) (fun H2 am => ⟨_, _, _, _, _, rfl, am⟩) (fun _ _ _ _ => trivial) ?_ ?_
  · rintro pre i post σ' H2 hs ⟨q, v2, v3, v4, v5, rfl, am⟩
    obtain ⟨hP, hPn⟩ := range_atM hs
    rw [Int.toNat_natCast] at hPn
    rw [show (pre ++ [i]).length = pre.length + 1 by rw [List.length_append]; rfl]
    have hle : (allT (pre.length + 1)).length ≤ 1000 := allT_len (by omega)
    generalize hj : pre.length = j at am hle hP
    dsimp only [List.set]
    refine aq_asgL (xs := ([] : List Tx).map tS) am (el_lst ea_nil (by decide)) fun r H3 am => ?_
    dsimp only [List.set]
    refine aq_for (ns := allT j) (f := tS) (P := fun H => SqL A.K H q ((allT j).map tS)) (fun pre σ' H' => ∃ (v4 v5 : Option V), σ' = [some (.int k), some (.ref q), some (.int (i : Nat)), some (.ref r), v4, v5] ∧ Am [] H [(r, .lst ((pre.flatMap extT).map tS)), (q, .lst ((allT j).map tS))] H') am
      (wk_list (K := A.K) (ev_var rfl) (sq_of (am.at 1 rfl))) (fun H4 am => ⟨_, _, rfl, am⟩) (fun _ _ _ h => by obtain ⟨_, _, _, am⟩ := h; exact sq_of (am.at 1 rfl)) ?_ ?_
    · rintro pre2 u post2 σ' H4 hs2 ⟨v4, v5, rfl, am⟩
      have hu := mem_allT (k := j) (t := u) (by rw [hs2]; simp)
      have hml := metN_le u
      have hfl := len_flatMap_pre hs2
      have hfl : (pre2.flatMap extT).length + (extT u).length ≤ 1000 := Nat.le_trans hfl hle
      dsimp only [List.set]
      refine a_for (ns := six.take (1 + (metN u).length)) (f := fun c => tS [c]) (fun pre σ' H' => ∃ (v5 : Option V), σ' = [some (.int k), some (.ref q), some (.int (i : Nat)), some (.ref r), some (tS u), v5] ∧ Am [] H [(r, .lst ((pre2.flatMap extT ++ pre.map fun c => u ++ [c]).map tS)), (q, .lst ((allT j).map tS))] H') am
        (wk_text (l := six.take (1 + (metN u).length)) ?_) (fun H5 am => ⟨_, rfl, by rw [List.map_nil, List.append_nil]; exact am⟩) (fun _ _ _ _ => trivial) ?_ ?_
      · have z := e_slTo (σ := [some (.int k), some (.ref q), some (.int (i : Nat)), some (.ref r), some (tS u), v5]) (H := H4) (te := tC (tS [97, 98, 99, 100, 101, 102])) (ti := tOp rAddI (tC (.int 1)) (tLenSetT (tVar 4))) (i := 1 + ((metN u).length : Nat)) ev_c (ev_op ev_c (e_lenSetT (ev_var rfl) (by omega)) rv_I0) (by omega) (by decide)
        rw [show (1 + (((metN u).length : Nat) : Int)).toNat = 1 + (metN u).length by omega] at z
        exact z
      · rintro pre3 c post3 σ' H5 hs3 ⟨v5, rfl, am⟩
        have hl3 : pre3.length < (extT u).length := by
          unfold extT
          rw [List.length_map, hs3, List.length_append, List.length_cons]; omega
        dsimp only [List.set]
        refine a_app 0 am rfl (ev_var rfl) (ev_op (ev_var rfl) (ev_var rfl) (r_addT (by rw [hu.1]; show j + 1 ≤ 1000000; omega))) (by rw [List.length_map, List.length_append, List.length_map]; omega) fun H6 am => ⟨_, rfl, ?_⟩
        rw [List.map_append (l₁ := pre3), ← List.append_assoc, List.map_append (l₁ := pre2.flatMap extT ++ _)]
        exact am
      · rintro σ' H5 ⟨v5, rfl, am⟩
        refine ⟨_, _, rfl, ?_⟩
        rw [List.flatMap_append, List.flatMap_singleton]
        exact am
    · rintro σ' H4 ⟨v4, v5, rfl, am⟩
      exact a_asg am (ev_var rfl) fun H5 am => ⟨_, _, _, _, _, rfl, am.sub (by simp [allT])⟩
  · rintro σ' H2 ⟨q, v2, v3, v4, v5, rfl, am⟩
    rw [List.length_range, Int.toNat_natCast] at am
    exact a_ret am (ev_var rfl) fun H3 am => kq _ _ (am.free 0 rfl) am.toEx (am.at 0 rfl)
theorem c__law_all_ {A : Ad} {σ : L2.St} {H : Hp} {te : TE} {k : Nat} (h : Ev te σ H (.int k)) (hk : k ≤ 6) : EvL (tCall (sp__law_all A) [] E0 (tCons te tNil)) σ H ((allT k).map tS) :=
  e_callL (ea_cons h ea_nil) fun _ e => ⟨k, rfl, hk, rfl⟩
/-! ## _law_most, _law_said -/
def sp__law_most (A : Ad) : Sp := spV fun vs H v => ∃ m n : Int, vs = [.int m, .int n] ∧ v = .int (mostI m n)
def t__law_most (A : Ad) : TS :=
  (tRet (tCB rMin2I (tCons (tOp rDivI (tOp rAddI (tVar 0) (tC (.int 1))) (tC (.int 2))) (tCons (tOp rSubI (tOp rSubI (tVar 1) (tC (.int 1))) (tOp rDivI (tVar 0) (tC (.int 2)))) tNil))))

theorem len__law_most (A : Ad) : ∀ vs H Q E, sp__law_most A vs H Q E → vs.length = 2 := fun vs H Q E h => by
  obtain ⟨v, ⟨m, n, rfl, _⟩, _⟩ := h
  rfl
theorem pu__law_most (A : Ad) (vs : List V) (H : Hp) (Q : VK) (E : XK) (h : sp__law_most A vs H Q E) : t__law_most A { nx := fun _ H' => Q .non H', rt := Q } (start ["_law_middle", "_law_many"] vs) H := by
  obtain ⟨v, ⟨m, n, rfl, rfl⟩, k⟩ := h
  show t__law_most A _ [some (.int m), some (.int n)] H
  unfold t__law_most
  exact a_ret (v := .int (mostI m n)) (Am.start H) (ev_cb (ea_cons (by walk_at "ev") (ea_cons (by walk_at "ev") ea_nil)) rc_min2) fun H1 am => k H1 am.toEx
theorem c__law_most_ {A : Ad} {σ : L2.St} {H : Hp} {tm tn : TE} {m n : Int} (h : Ev tm σ H (.int m)) (h2 : Ev tn σ H (.int n)) : Ev (tCall (sp__law_most A) [] E0 (tCons tm (tCons tn tNil))) σ H (.int (mostI m n)) :=
  e_callV (ea_cons h (ea_cons h2 ea_nil)) fun _ _ => ⟨m, n, rfl, rfl⟩
def noclB (n : Nat) (a r : Nat → Nat) : Bool := (List.range (2 * n - 1)).all fun m => !vE n a m || !decide (r (Lf a m) = r (Rt a m))
theorem noclB_iff {n : Nat} {a r : Nat → Nat} : noclB n a r = true ↔ NoCl n a r := by
  unfold noclB NoCl
  rw [List.all_eq_true]
  constructor
  · intro h m hm hv e
    have := h m (List.mem_range.mpr hm)
    rw [hv, decide_eq_true e] at this
    cases this
  · intro h m hm
    cases hv : vE n a m with
    | false => rfl
    | true => rw [decide_eq_false (h m (List.mem_range.mp hm) hv)]; rfl
def noneT : Tx := [110, 111, 110, 101]
/-- what is due: the least text, or that there is none -/
def dueT (n : Nat) (a : Nat → Nat) : Tx := if noclB n a (rA n a) = true then gT n a (rA n a) n else noneT
def sp__law_said (A : Ad) : Sp := spV fun vs H v => ∃ (p : Addr) (n : Nat) (a : Nat → Nat), vs = [.ref p] ∧ SqL A.K H p (armL n a) ∧ TyX A.K H (.ref p) (.type "list") ∧ n ≤ 6 ∧ OkA n a ∧ v = tS (dueT n a)
def t__law_said (A : Ad) : TS :=
  (tSeq (tAsg (tC .non) (gName 1))
  (tSeq (tAsg (tC (tS [])) (gName 2))
  (tSeq (tTryK A.K A.cME 3 1 (fun W => (tAsg (tCallS (sp_least_text A) (WE W) (tCons (tVar 0) tNil)) (gName 2))))
  (tSeq (tIfS (tTest (tOp rIsNn (tVar 1) (tC .non))) (tRet (tVar 2)) tNext)
  (tSeq (tIfS (tOr (tB (tCB (rIsXT A.K) (tCons (tVar 1) (tCons (tTup (tCons (tC (.ref A.cBA)) (tCons (tC (.ref A.cBL)) (tCons (tC (.ref A.cBT)) (tCons (tC (.ref A.cBW)) (tCons (tC (.ref A.cFu)) (tCons (tC (.ref A.cNP)) tNil))))))) tNil)))) (tNot (tB (tCB (rIsX A.K) (tCons (tVar 1) (tCons (tC (.ty "ValueError")) tNil)))))) (tRet (tC (tS [111, 116, 104, 101, 114]))) tNext)
  (tRet (tIf (tB (tCB (rIsX A.K) (tCons (tVar 1) (tCons (tC (.ref A.cNT)) tNil)))) (tC (tS [110, 111, 110, 101])) (tC (tS [111, 116, 104, 101, 114])))))))))

theorem len__law_said (A : Ad) : ∀ vs H Q E, sp__law_said A vs H Q E → vs.length = 1 := fun vs H Q E h => by
  obtain ⟨v, ⟨p, n, a, rfl, _⟩, _⟩ := h
  rfl
theorem pu__law_said (A : Ad) (xc : XC A A.cNT false false false false true false false) (vs : List V) (H : Hp) (Q : VK) (E : XK) (h : sp__law_said A vs H Q E) :
    t__law_said A { nx := fun _ H' => Q .non H', rt := Q } (start ["_law_reach", "_law_caught", "_law_found", "e"] vs) H := by
  obtain ⟨v, ⟨p, n, a, rfl, hS, ty, hn, ok, rfl⟩, k⟩ := h
  show t__law_said A _ [some (.ref p), none, none, none] H
  unfold t__law_said
  have am := Am.start H
  refine aq_asg am (by walk_at "ev") fun H1 am => ?_
  refine aq_asg am (by walk_at "ev") fun H2 am => ?_
  dsimp only [List.set]
  by_cases hN : NoCl n a (rA n a)
  · have hd : dueT n a = gT n a (rA n a) n := if_pos (noclB_iff.mpr hN)
    rw [hd] at k
    refine aq_asg (D := _) am (e_callSVX (z := tS (gT n a (rA n a) n)) (ea_cons (ev_var rfl) ea_nil) fun H3 e => ⟨p, n, a, rfl, ex_l (am.toEx.trans e) hS, tyX_ex (am.toEx.trans e) ty, by omega, ok, hN, free_small (by omega), rfl⟩) fun H3 am => ?_
    refine aq_when am (by walk_at "ev") (fun _ H4 am => a_ret am (ev_var rfl) fun H5 am => k _ am.toEx) fun c => ?_
    exact absurd c (by decide)
  · have hd : dueT n a = noneT := if_neg fun z => hN (noclB_iff.mp z)
    rw [hd] at k
    refine aq_tryA am (ea_cons (ev_var rfl) ea_nil) (spx_VX fun H3 e => .inl ⟨p, n, a, rfl, ex_l (am.toEx.trans e) hS, tyX_ex (am.toEx.trans e) ty, by omega, ok, hN, rfl⟩) xc.exm fun b H3 am => ?_
    dsimp only [List.set]
    refine aq_when (b := decide (V.ref b = .non)) am (by walk_at "ev") (fun c => ?_) fun _ H4 am => ?_
    · exact absurd (of_decide_eq_true c) (fun z => by cases z)
    have ha := am.at 0 rfl
    refine aq_when (b := false || !true) am (et_or (et_B (e_isXT (us := [.ref A.cBA, .ref A.cBL, .ref A.cBT, .ref A.cBW, .ref A.cFu, .ref A.cNP]) ha xc.ex (ev_var rfl) (by walk_at "ev") (by show 6 ≤ 1000; decide)
      (.cons (.own _) (.cons (.own _) (.cons (.own _) (.cons (.own _) (.cons (.own _) (.cons (.own _) .nil))))))
      (kitAny_cons xc.kBA (fun _ => kitAny_cons xc.kBL (fun _ => kitAny_cons xc.kBT (fun _ => kitAny_cons xc.kBW (fun _ => kitAny_cons xc.kFu (fun _ => kitAny_cons xc.kNP (fun _ => kitAny_nil) id) id) id) id) id) id))) fun _ =>
      et_not (et_B (ev_cb (by walk_at "ev") (rc_isX ha xc.ex (.ty _) xc.ve)))) (fun c => Bool.noConfusion c) fun _ H5 am => ?_
    have ha := am.at 0 rfl
    exact a_ret am (ev_if (b := true) (et_B (ev_cb (by walk_at "ev") (rc_isX ha xc.ex (.own _) xc.kNT))) (fun _ => ev_c) fun c => Bool.noConfusion c) fun H6 am => k _ am.toEx
theorem c__law_said_ {A : Ad} {σ : L2.St} {H : Hp} {te : TE} {p : Addr} {n : Nat} {a : Nat → Nat} (h : Ev te σ H (.ref p)) (hS : H p = some (.lst (armL n a))) (hn : n ≤ 6) (ok : OkA n a) : Ev (tCall (sp__law_said A) [] E0 (tCons te tNil)) σ H (tS (dueT n a)) :=
  e_callV (ea_cons h ea_nil) fun _ e => ⟨p, n, a, rfl, sq_of (e _ _ hS), .base (.lst (e _ _ hS)), hn, ok, rfl⟩
/-! ## law -/
def intsA (n : Nat) (a : Nat → Nat) : List Int := (List.range (2 * n - 1)).map fun m => ((a m : Nat) : Int)
theorem intsA_V (n : Nat) (a : Nat → Nat) : armL n a = (intsA n a).map V.int := by
  unfold armL intsA
  rw [List.map_map]; rfl
theorem intsA_len (n : Nat) (a : Nat → Nat) : (intsA n a).length = 2 * n - 1 := by unfold intsA; simp
theorem intsA_eq {n : Nat} {a b : Nat → Nat} : intsA n a = intsA n b ↔ ∀ m, m < 2 * n - 1 → a m = b m := by
  unfold intsA
  constructor
  · intro h m hm
    have := List.map_inj_left.mp h m (List.mem_range.mpr hm)
    omega
  · intro h
    exact List.map_congr_left fun m hm => by rw [h m (List.mem_range.mp hm)]
def fitsT (n : Nat) (a : Nat → Nat) : List Tx := (allT n).filter fun l => decide (intsA l.length (armN l) = intsA n a)
theorem mem_fits {n : Nat} {a : Nat → Nat} {l : Tx} : l ∈ fitsT n a ↔ l ∈ allT n ∧ ∀ m, m < 2 * n - 1 → armN l m = a m := by
  unfold fitsT
  rw [List.mem_filter, decide_eq_true_eq]
  constructor
  · rintro ⟨h1, h2⟩
    rw [(mem_allT h1).1] at h2
    exact ⟨h1, intsA_eq.mp h2⟩
  · rintro ⟨h1, h2⟩
    refine ⟨h1, ?_⟩
    rw [(mem_allT h1).1]
    exact intsA_eq.mpr h2
theorem fits_nocl {n : Nat} {a : Nat → Nat} {l : Tx} (h : l ∈ fitsT n a) : NoCl n a (rA n a) := by
  obtain ⟨h1, h2⟩ := mem_fits.mp h
  have e := (mem_allT h1).1
  subst e
  exact text_nocl (fine_root _) h2
theorem due_none {n : Nat} {a : Nat → Nat} (ok : OkA n a) (hn : n ≤ 6) (h : fitsT n a = []) : tS noneT = tS (dueT n a) := by
  unfold dueT
  by_cases hN : noclB n a (rA n a) = true
  · have hf : Free n a (rA n a) := free_small (by omega)
    have fine := fine_root (tiesN a (2 * n - 1))
    have : gT n a (rA n a) n ∈ fitsT n a := mem_fits.mpr ⟨(gT_allT hn fine hf n (Nat.le_refl _)).1, fun m hm => gT_arms fine ok (noclB_iff.mp hN) hf hm⟩
    rw [h] at this
    cases this
  · rw [if_neg hN]
theorem due_least {n : Nat} {a : Nat → Nat} (ok : OkA n a) (hn : n ≤ 6) {w : Tx} (h : w ∈ fitsT n a) (hm : ∀ y ∈ fitsT n a, ¬ y < w) : tS w = tS (dueT n a) := by
  have hN := fits_nocl h
  have hf : Free n a (rA n a) := free_small (by omega)
  have fine := fine_root (tiesN a (2 * n - 1))
  have hg : gT n a (rA n a) n ∈ fitsT n a := mem_fits.mpr ⟨(gT_allT hn fine hf n (Nat.le_refl _)).1, fun m hm => gT_arms fine ok hN hf hm⟩
  unfold dueT
  rw [if_pos (noclB_iff.mpr hN)]
  obtain ⟨h1, h2⟩ := mem_fits.mp h
  obtain ⟨e, hle⟩ := mem_allT h1
  have hl : ¬ w < gT n a (rA n a) n := by
    subst e
    exact gT_least fine h2 hle
  congr 2
  exact List.le_antisymm (List.not_lt.mp (hm _ hg)) (List.not_lt.mp hl)
def sp_law (A : Ad) : Sp := fun vs H Q _ => ∃ (a : Addr) (ns : List Int), vs = [.ref a] ∧ SqL A.K H a (ns.map V.int) ∧ ns.length ≤ 63 ∧ ∀ H', Q (.bl true) H'
def t_law (A : Ad) : TS :=
  (tSeq (tAsg (tOp rModI (tCall (sp__law_draw A) [] E0 (tCons (tVar 0) (tCons (tC (.int 0)) tNil))) (tC (.int 7))) (gName 1))
  (tSeq (tAsg (tJoin A.K (tC (tS [])) (tLc (iList A.K (tSl (rSlL A.K) (tOp rCat (tSl (rSlL A.K) (tVar 0) (tPart (tC (.int 1))) tNoPart) (tOp rRep (tLst (tCons (tC (.int 0)) tNil)) (tC (.int 6)))) tNoPart (tPart (tVar 1)))) (gName 3) tYes (tOp rIxS (tC (tS [97, 98, 99, 97, 98, 100])) (tOp rModI (tVar 3) (tC (.int 6)))) [3])) (gName 2))
  (tSeq (tAsg (tCall (sp__law_arms A) [] E0 (tCons (tVar 2) tNil)) (gName 4))
  (tSeq (tFor (iList A.K (tSl (rSlL A.K) (tVar 0) (tPart (tC (.int 7))) (tPart (tOp rAddI (tC (.int 7)) (tOp rMulI (tOp rModI (tOp rDivI (tCall (sp__law_draw A) [] E0 (tCons (tVar 0) (tCons (tC (.int 0)) tNil))) (tC (.int 7))) (tC (.int 4))) (tOp rModI (tOp rDivI (tCall (sp__law_draw A) [] E0 (tCons (tVar 0) (tCons (tC (.int 0)) tNil))) (tC (.int 28))) (tC (.int 2)))))))) (gName 3)
  (tIfS (tTest (tOp (rNeD A.K) (tVar 4) (tLst tNil))) (tSeq (tAsg (tOp rModI (tVar 3) (tCB (rLenS A.K) (tCons (tVar 4) tNil))) (gName 5))
  (tAsg (tOp rModI (tOp rDivI (tVar 3) (tCB (rLenS A.K) (tCons (tVar 4) tNil))) (tOp rAddI (tC (.int 1)) (tCall (sp__law_most A) [] E0 (tCons (tVar 5) (tCons (tVar 1) tNil))))) (gSub (tVar 4) (tVar 5) rSetL))) tNext))
  (tSeq (tAsg (tLc (iList A.K (tCall (sp__law_all A) [] E0 (tCons (tVar 1) tNil))) (gName 7) (tTest (tOp (rEqD A.K) (tCall (sp__law_arms A) [] E0 (tCons (tVar 7) tNil)) (tVar 4))) (tVar 7) [7]) (gName 6))
  (tSeq (tAsg (tCKw (rMinDS A.K) (tCons (tVar 6) tNil) (tCons (tC (tS [110, 111, 110, 101])) tNil)) (gName 8))
  (tSeq (tAsg (tCB (rListS A.K) (tCons (tVar 4) tNil)) (gName 9))
  (tRet (tAndV (tOp rEq (tCall (sp__law_said A) [] E0 (tCons (tVar 9) tNil)) (tVar 8)) (tAndV (tOp (rEqD A.K) (tVar 9) (tVar 4)) (tOp rEq (tCall (sp__law_said A) [] E0 (tCons (tVar 9) tNil)) (tVar 8))))))))))))

theorem len_law (A : Ad) : ∀ vs H Q E, sp_law A vs H Q E → vs.length = 1 := fun vs H Q E h => by
  obtain ⟨a, ns, rfl, _⟩ := h
  rfl
theorem pu_law (A : Ad) (vs : List V) (H : Hp) (Q : VK) (E : XK) (h : sp_law A vs H Q E) :
    t_law A { nx := fun _ H' => Q .non H', rt := Q } (start ["_law_script", "_law_many", "_law_text", "_law_cell", "_law_reach", "_law_middle", "_law_fits", "_law_one", "_law_due", "_law_handed"] vs) H := by
  obtain ⟨p, ns, rfl, hS, hns, k⟩ := h
  show t_law A _ [some (.ref p), none, none, none, none, none, none, none, none, none] H
  unfold t_law
  obtain ⟨n, hn, hn6⟩ : ∃ n : Nat, drawI ns 0 % 7 = (n : Nat) ∧ n ≤ 6 := ⟨(drawI ns 0 % 7).toNat, by omega, by omega⟩
  refine aq_asg (v := .int (n : Nat)) (Am.start H) (ev_is (ev_op (c__law_draw_ (k := 0) (ev_var rfl) ev_c hS) ev_c (r_modI (by decide))) (by rw [hn])) fun H1 am => ?_
  dsimp only [List.set]
  -- the text
  let cells := ((ns.drop 1 ++ List.replicate 6 (0 : Int)).take n)
  let fc : Int → Tx := fun c => [at0 [97, 98, 99, 97, 98, 100] (c % 6)]
  have hfl : ∀ cs : List Int, ((cs.map fc).flatten).length = cs.length := fun cs => by
    induction cs with
    | nil => rfl
    | cons c r ih => rw [List.map_cons, List.flatten_cons, List.length_append, ih, List.length_cons]; simp [fc]; omega
  have hcl : cells.length = n := by
    show (List.take _ _).length = n
    rw [List.length_take, List.length_append, List.length_replicate]; omega
  have hle : Lets (cells.map fc).flatten := fun c hc => by
    obtain ⟨x, hx, hc⟩ := List.mem_flatten.mp hc
    obtain ⟨y, hy, rfl⟩ := List.mem_map.mp hx
    have e : c = at0 [97, 98, 99, 97, 98, 100] (y % 6) := by simpa [fc] using hc
    rw [e]
    have key : ∀ i, i < 6 → List.getD [97, 98, 99, 97, 98, 100] i 0 ∈ letters := by decide
    exact key _ (by omega)
  have hlen : ((cells.map fc).flatten).length = n := by rw [hfl, hcl]
  refine aq_asg (v := tS (cells.map fc).flatten) am (e_join (K := A.K) (ls := cells.map fc) ev_c ?_ (by omega)) fun H2 am => ?_
  · have hcat : EvL (tOp rCat (tSl (rSlL A.K) (tVar 0) (tPart (tC (.int 1))) tNoPart) (tOp rRep (tLst (tCons (tC (.int 0)) tNil)) (tC (.int 6)))) [some (.ref p), some (.int (n : Nat)), none, none, none, none, none, none, none, none] H1 ((ns.drop 1 ++ List.replicate 6 (0 : Int)).map V.int) := by
      have z1 := e_slL (K := A.K) (σ := [some (.ref p), some (.int (n : Nat)), none, none, none, none, none, none, none, none]) (H := H1) (te := tVar 0) (a := p) (f := V.int) (ns := ns) (ev_var rfl) (eo_some (ev_c (v := .int 1))) eo_none (ex_l am.toEx hS)
      rw [cut_from ns (by decide)] at z1
      have z2 := el_rep (σ := [some (.ref p), some (.int (n : Nat)), none, none, none, none, none, none, none, none]) (H := H1) (x := .int 0) (n := 6) (tl := tLst (tCons (tC (.int 0)) tNil)) (tb := tC (.int 6)) (el_lst (ea_cons ev_c ea_nil) (by decide)) ev_c (by decide)
      have z := el_cat z1 z2 (by rw [List.length_map, List.length_drop, List.length_replicate]; show _ + 6 ≤ 1000000; omega)
      rw [List.map_append, List.map_replicate]
      exact z
    have hsl := el_slN (K := A.K) (tl := tNoPart) (th := tPart (tVar 1)) (lo := none) (hi := some ((n : Nat) : Int)) hcat eo_none (eo_some (ev_var rfl))
    rw [cut_map, cut_to _ (by omega), Int.toNat_natCast] at hsl
    have z := el_lcN (H := H1) (K := A.K) (f := V.int) (ns := cells) (j := 3) (vs := [3]) (t := tYes) (te := (tOp rIxS (tC (tS [97, 98, 99, 97, 98, 100])) (tOp rModI (tVar 3) (tC (.int 6)))))
      (fun _ => true) (fun c => tS (fc c)) hsl (by omega) (fun _ => rfl) (fun _ _ => et_yes) (fun c _ _ => by
        dsimp only [List.set, wipe]
        refine ev_op ev_c (ev_op (ev_var rfl) ev_c (r_modI (by decide))) (r_ixS (by omega) (by show _ < 6; omega) (by decide)))
    rw [List.filter_eq_self.mpr (fun _ _ => rfl)] at z
    rw [List.map_map]
    exact z
  generalize (cells.map fc).flatten = l at hle hlen ⊢
  dsimp only [List.set]
  refine aq_asgL (xs := armL n (armN l)) am (by have z := c__law_arms_ (A := A) (σ := [some (.ref p), some (.int (n : Nat)), some (tS l), none, none, none, none, none, none, none]) (H := H2) (te := tVar 2) (ev_var rfl) (by omega); rw [hlen] at z; exact z) fun pr H3 am => ?_
  dsimp only [List.set]
  have okl : OkA n (armN l) := by
    have z := text_ok (l := l) (a := armN l) (fun _ _ => rfl)
    rw [hlen] at z
    exact z
  -- the arms told otherwise
  have hsl := e_slL (K := A.K) (σ := [some (.ref p), some (.int (n : Nat)), some (tS l), none, some (.ref pr), none, none, none, none, none]) (H := H3) (te := tVar 0) (a := p) (f := V.int) (ns := ns) (tl := tPart (tC (.int 7)))
    (th := tPart (tOp rAddI (tC (.int 7)) (tOp rMulI (tOp rModI (tOp rDivI (tCall (sp__law_draw A) [] E0 (tCons (tVar 0) (tCons (tC (.int 0)) tNil))) (tC (.int 7))) (tC (.int 4))) (tOp rModI (tOp rDivI (tCall (sp__law_draw A) [] E0 (tCons (tVar 0) (tCons (tC (.int 0)) tNil))) (tC (.int 28))) (tC (.int 2))))))
    (lo := some 7) (hi := some (7 + drawI ns 0 / 7 % 4 * (drawI ns 0 / 28 % 2))) (ev_var rfl) (eo_some ev_c)
    (eo_some (ev_op ev_c (ev_op (ev_op (ev_op (c__law_draw_ (k := 0) (ev_var rfl) ev_c (ex_l am.toEx hS)) ev_c (r_divI (by decide))) ev_c (r_modI (by decide))) (ev_op (ev_op (c__law_draw_ (k := 0) (ev_var rfl) ev_c (ex_l am.toEx hS)) ev_c (r_divI (by decide))) ev_c (r_modI (by decide))) (r_mulI (.inl (by omega)))) rv_I0)) (ex_l am.toEx hS)
  refine aq_forN2 (K := A.K) (fun q pre σ' H' => ∃ (a : Nat → Nat) (v3 v5 : Option V), σ' = [some (.ref p), some (.int (n : Nat)), some (tS l), v3, some (.ref pr), v5, none, none, none, none] ∧ Am [] H [(q, .lst (((List.take (HT.sIx ns.length ns.length (some (7 + drawI ns 0 / 7 % 4 * (drawI ns 0 / 28 % 2))) - HT.sIx ns.length 0 (some 7)) (List.drop (HT.sIx ns.length 0 (some 7)) ns))).map V.int)), (pr, .lst (armL n a))] H' ∧ OkA n a) am hsl
    (fun q H4 am => ⟨_, _, _, rfl, am, okl⟩) (fun q pre σ' H' h => by obtain ⟨_, _, _, _, am, _⟩ := h; exact am.at 0 rfl) ?_ ?_
  · rintro q pre c post σ' H4 hs ⟨a, v3, v5, rfl, am, ok⟩
    dsimp only [List.set]
    have hI : ∀ {H' : Hp}, H' pr = some (.lst (armL n a)) → SqL A.K H' pr ((intsA n a).map V.int) := fun {H'} hq => by
      rw [intsA_V] at hq
      exact sq_of hq
    have hr := am.at 1 rfl
    refine a_when am (b := !decide (intsA n a = [])) (et_test (ev_opL (ev_var rfl) (el_lst (vs := []) ea_nil (by decide)) fun q2 H5 h5 e5 => rv_neI (K := A.K) (b := []) (hI (e5 _ _ hr)) (sq_of h5))) (fun c1 H5 am => ?_) fun c1 H5 am => ⟨a, _, _, rfl, am, ok⟩
    have hpos : 0 < 2 * n - 1 := by
      rcases Nat.eq_zero_or_pos (2 * n - 1) with z | z
      · have : intsA n a = [] := List.eq_nil_of_length_eq_zero (by rw [intsA_len]; exact z)
        rw [decide_eq_true this] at c1; cases c1
      · exact z
    have hlenA : (armL n a).length = 2 * n - 1 := by unfold armL; simp
    have elen : ∀ {H' : Hp} {σ : L2.St}, H' pr = some (.lst (armL n a)) → σ[4]? = some (some (.ref pr)) → Ev (tCB (rLenS A.K) (tCons (tVar 4) tNil)) σ H' (.int ((2 * n - 1 : Nat) : Int)) := fun {H' σ} hq s4 => by
      have z := ev_len (K := A.K) (ta := tVar 4) (σ := σ) (ev_var s4) (sq_of hq)
      rw [hlenA] at z
      exact z
    obtain ⟨M, hM, hM1⟩ : ∃ M : Nat, c % ((2 * n - 1 : Nat) : Int) = (M : Nat) ∧ M < 2 * n - 1 := ⟨(c % ((2 * n - 1 : Nat) : Int)).toNat, by
      have := Int.emod_nonneg c (b := ((2 * n - 1 : Nat) : Int)) (by omega)
      omega, by
      have := Int.emod_nonneg c (b := ((2 * n - 1 : Nat) : Int)) (by omega)
      have := Int.emod_lt_of_pos c (b := ((2 * n - 1 : Nat) : Int)) (by omega)
      omega⟩
    refine aq_asg (v := .int (M : Nat)) am (ev_is (ev_op (ev_var rfl) (elen (am.at 1 rfl) rfl) (r_modI (by omega))) (by rw [hM])) fun H6 am => ?_
    dsimp only [List.set]
    have hmo : 0 ≤ mostI M n := by unfold mostI; omega
    obtain ⟨x, hx, hx1⟩ : ∃ x : Nat, c / ((2 * n - 1 : Nat) : Int) % (1 + mostI M n) = (x : Nat) ∧ (x : Int) ≤ mostI M n := ⟨(c / ((2 * n - 1 : Nat) : Int) % (1 + mostI M n)).toNat, by
      have := Int.emod_nonneg (c / ((2 * n - 1 : Nat) : Int)) (b := 1 + mostI M n) (by omega)
      omega, by
      have := Int.emod_nonneg (c / ((2 * n - 1 : Nat) : Int)) (b := 1 + mostI M n) (by omega)
      have := Int.emod_lt_of_pos (c / ((2 * n - 1 : Nat) : Int)) (b := 1 + mostI M n) (by omega)
      omega⟩
    refine a_setL 1 (v := .int (x : Nat)) am rfl (ev_is (ev_op (ev_op (ev_var rfl) (elen (am.at 1 rfl) rfl) (r_divI ⟨by omega, by omega⟩)) (ev_op ev_c (c__law_most_ (m := M) (n := n) (ev_var rfl) (ev_var rfl)) rv_I0) (r_modI (by omega))) (by rw [hx])) (ev_var rfl) (ev_var rfl) (by rw [hlenA]; exact hM1) fun H7 am => ?_
    refine ⟨fun i => if i = M then x else a i, _, _, rfl, ?_, fun m hm => ?_⟩
    · have e : (armL n a).set M (.int (x : Nat)) = armL n fun i => if i = M then x else a i := by
        unfold armL
        rw [set_range]
        refine List.map_congr_left fun i _ => ?_
        by_cases h : i = M
        · rw [if_pos h]; show _ = vN (if i = M then x else a i); rw [if_pos h]; rfl
        · rw [if_neg h]; show _ = vN (if i = M then x else a i); rw [if_neg h]
      have am2 : Am [] H [(q, .lst (((List.take (HT.sIx ns.length ns.length (some (7 + drawI ns 0 / 7 % 4 * (drawI ns 0 / 28 % 2))) - HT.sIx ns.length 0 (some 7)) (List.drop (HT.sIx ns.length 0 (some 7)) ns))).map V.int)), (pr, .lst ((armL n a).set M (.int (x : Nat))))] H7 := am
      rw [e] at am2
      exact am2
    · by_cases h : m = M
      · subst h
        dsimp only
        rw [if_pos rfl]
        unfold mostI at hx1
        omega
      · dsimp only
        rw [if_neg h]; exact ok m hm
  · rintro q σ' H4 ⟨a, v3, v5, rfl, am, ok⟩
    have am := am.drop1
    have hr := am.at 0 rfl
    have hI : ∀ {H' : Hp} {q : Addr} {b : Nat → Nat}, H' q = some (.lst (armL n b)) → SqL A.K H' q ((intsA n b).map V.int) := fun {H' q b} hq => by
      rw [intsA_V] at hq
      exact sq_of hq
    refine aq_asgL (xs := (fitsT n a).map tS) am (el_lcN (K := A.K) (f := tS) (fun l => decide (intsA l.length (armN l) = intsA n a)) tS (c__law_all_ (ev_var rfl) hn6) (by have := allT_len hn6; omega) (fun _ => rfl) (fun u hu => ?_) fun u _ _ => ev_var rfl) fun pf H5 am => ?_
    · dsimp only [List.set, wipe]
      have hu1 := (mem_allT hu).1
      have z := c__law_arms_ (A := A) (σ := [some (.ref p), some (.int (n : Nat)), some (tS l), v3, some (.ref pr), v5, none, some (tS u), none, none]) (H := H4) (te := tVar 7) (ev_var rfl) (by omega)
      rw [hu1] at z ⊢
      exact et_test (ev_opL1 z (fun H6 e => ev_var rfl) fun q H6 h6 e => rv_eqI (K := A.K) (hI h6) (hI (e _ _ hr)))
    dsimp only [List.set]
    refine aq_asg (v := tS (dueT n a)) am (e_minDS (K := A.K) (ls := fitsT n a) (ev_var rfl) (sq_of (am.at 0 rfl)) ev_c (due_none ok hn6) fun w hw hm => due_least ok hn6 hw hm) fun H6 am => ?_
    dsimp only [List.set]
    refine aq_asgL (xs := armL n a) am (el_list (ev_var rfl) (sq_of (am.at 1 rfl))) fun ph H7 am => ?_
    dsimp only [List.set]
    refine a_ret (v := .bl (decide (dueT n a = dueT n a) && (decide (intsA n a = intsA n a) && decide (dueT n a = dueT n a)))) am ?_ fun H8 _ => ?_
    · exact ev_andV (ev_op (c__law_said_ (ev_var rfl) (am.at 0 rfl) hn6 ok) (ev_var rfl) r_eqS) fun _ => ev_andV (ev_op (ev_var rfl) (ev_var rfl) (rv_eqI (K := A.K) (hI (am.at 0 rfl)) (hI (am.at 2 rfl)))) fun _ => ev_op (c__law_said_ (ev_var rfl) (am.at 0 rfl) hn6 ok) (ev_var rfl) r_eqS
    · simp only [decide_true, Bool.and_self]
      exact k H8

end Mw
namespace Mw
open PySem PySem.Spec PyProof.Rows L2 Evl
def topS (i : Nat) : Stmt := PySem.Challenge.pw_mirrorwords_k04_whole_least_of_all_texts.main.body.getD i (.Pass ⟨0, 0, 0, 0⟩)
abbrev s_is_whole : Stmt := topS 12
theorem sc_is_whole : FnScope ["thing"] ["thing"] (defScope s_is_whole) := ⟨rfl, rfl, rfl, by decide +kernel, rfl, by decide +kernel, by decide +kernel⟩
abbrev s_most_arm : Stmt := topS 14
theorem sc_most_arm : FnScope ["middle", "many"] ["middle", "many"] (defScope s_most_arm) := ⟨rfl, rfl, rfl, by decide +kernel, rfl, by decide +kernel, by decide +kernel⟩
abbrev s_is_arms : Stmt := topS 15
theorem sc_is_arms : FnScope ["thing", "many", "middle", "arm"] ["thing"] (defScope s_is_arms) := ⟨rfl, rfl, rfl, by decide +kernel, rfl, by decide +kernel, by decide +kernel⟩
abbrev s_Groups_init : Stmt := inClass (topS 16) 0
theorem sc_Groups_init : FnScope ["self", "many"] ["self", "many"] (defScope s_Groups_init) := ⟨rfl, rfl, rfl, by decide +kernel, rfl, by decide +kernel, by decide +kernel⟩
abbrev s_Groups_root : Stmt := inClass (topS 16) 1
theorem sc_Groups_root : FnScope ["self", "place"] ["self", "place"] (defScope s_Groups_root) := ⟨rfl, rfl, rfl, by decide +kernel, rfl, by decide +kernel, by decide +kernel⟩
abbrev s_Groups_tie : Stmt := inClass (topS 16) 2
theorem sc_Groups_tie : FnScope ["self", "one", "other"] ["self", "one", "other"] (defScope s_Groups_tie) := ⟨rfl, rfl, rfl, by decide +kernel, rfl, by decide +kernel, by decide +kernel⟩
abbrev s_tied : Stmt := topS 17
theorem sc_tied : FnScope ["arms", "many", "groups", "middle", "arm", "step"] ["arms", "many"] (defScope s_tied) := ⟨rfl, rfl, rfl, by decide +kernel, rfl, by decide +kernel, by decide +kernel⟩
abbrev s_foes_of : Stmt := topS 18
theorem sc_foes_of : FnScope ["arms", "many", "groups", "foes", "place", "middle", "arm", "left", "right", "one", "other"] ["arms", "many", "groups"] (defScope s_foes_of) := ⟨rfl, rfl, rfl, by decide +kernel, rfl, by decide +kernel, by decide +kernel⟩
abbrev s_least_text : Stmt := topS 19
theorem sc_least_text : FnScope ["arms", "many", "groups", "foes", "given", "place", "used", "foe", "letter"] ["arms"] (defScope s_least_text) := ⟨rfl, rfl, rfl, by decide +kernel, rfl, by decide +kernel, by decide +kernel⟩
abbrev s__law_draw : Stmt := topS 21
theorem sc__law_draw : FnScope ["_law_script", "_law_k"] ["_law_script", "_law_k"] (defScope s__law_draw) := ⟨rfl, rfl, rfl, by decide +kernel, rfl, by decide +kernel, by decide +kernel⟩
abbrev s__law_arms : Stmt := topS 22
theorem sc__law_arms : FnScope ["_law_text", "_law_found", "_law_middle", "_law_left", "_law_right", "_law_arm"] ["_law_text"] (defScope s__law_arms) := ⟨rfl, rfl, rfl, by decide +kernel, rfl, by decide +kernel, by decide +kernel⟩
abbrev s__law_all : Stmt := topS 23
theorem sc__law_all : FnScope ["_law_many", "_law_found", "_law_place", "_law_longer", "_law_text", "_law_letter"] ["_law_many"] (defScope s__law_all) := ⟨rfl, rfl, rfl, by decide +kernel, rfl, by decide +kernel, by decide +kernel⟩
abbrev s__law_most : Stmt := topS 24
theorem sc__law_most : FnScope ["_law_middle", "_law_many"] ["_law_middle", "_law_many"] (defScope s__law_most) := ⟨rfl, rfl, rfl, by decide +kernel, rfl, by decide +kernel, by decide +kernel⟩
abbrev s__law_said : Stmt := topS 25
theorem sc__law_said : FnScope ["_law_reach", "_law_caught", "_law_found", "e"] ["_law_reach"] (defScope s__law_said) := ⟨rfl, rfl, rfl, by decide +kernel, rfl, by decide +kernel, by decide +kernel⟩
abbrev s_law : Stmt := topS 26
theorem sc_law : FnScope ["_law_script", "_law_many", "_law_text", "_law_cell", "_law_reach", "_law_middle", "_law_fits", "_law_one", "_law_due", "_law_handed"] ["_law_script"] (defScope s_law) := ⟨rfl, rfl, rfl, by decide +kernel, rfl, by decide +kernel, by decide +kernel⟩
/-- what the top has left -/
structure Wd (A : Ad) (mg : Str → Option Value) : Prop where
  n_ValueError : mg "ValueError" = none
  n_all : mg "all" = none
  n_bool : mg "bool" = none
  n_enumerate : mg "enumerate" = none
  n_int : mg "int" = none
  n_isinstance : mg "isinstance" = none
  n_len : mg "len" = none
  n_list : mg "list" = none
  n_max : mg "max" = none
  n_min : mg "min" = none
  n_range : mg "range" = none
  n_set : mg "set" = none
  g_LETTERS : ∃ t, mg "LETTERS" = some (.str (T letters) t)
  g_MOST : ∃ t, mg "MOST" = some (.int 200 t)
  g_MirrorError : mg "MirrorError" = some (.ref A.cME)
  g_BadText : mg "BadText" = some (.ref A.cBT)
  g_BadLetter : mg "BadLetter" = some (.ref A.cBL)
  g_BadWord : mg "BadWord" = some (.ref A.cBW)
  g_BadArms : mg "BadArms" = some (.ref A.cBA)
  g_NoText : mg "NoText" = some (.ref A.cNT)
  g_NoPlace : mg "NoPlace" = some (.ref A.cNP)
  g_Full : mg "Full" = some (.ref A.cFu)
  x_BadArms : XCls A.K mg "BadArms" A.cBA
  x_NoText : XCls A.K mg "NoText" A.cNT
  k_NoText : XC A A.cNT false false false false true false false
  cl_Groups : GC A
section
variable {P : Program} {w : World} {A : Ad} {mg : Str → Option Value} {base : Heap}
theorem ok_is_whole {f : Addr} {fd : FuncData} (F : Fun A.K "is_whole" "is_whole" s_is_whole f fd) (W : Wd A mg)  : FnOk P w A.K mg base CX0 1 f fd ["thing"] (sp_is_whole A) := by
  have sc := sc_is_whole
  refine F.ok sc_is_whole (len_is_whole A) (fun cdv Ar outer s H vs Q E hr h => ⟨t_is_whole A, ?_, pu_is_whole A  vs H Q E h⟩)
  exact (pss_one (ps_ret (pe_and (pe_callB call_isi (by rfl) W.n_isinstance (by decide +kernel) (pa_cons (pv 0) (pa_cons (pe_bltn (by rfl) W.n_int (by decide +kernel) rfl) pa_nil))) (pe_one (pe_not (pe_callB call_isi (by rfl) W.n_isinstance (by decide +kernel) (pa_cons (pv 0) (pa_cons (pe_bltn (by rfl) W.n_bool (by decide +kernel) rfl) pa_nil))))))))
theorem ok_most_arm {f : Addr} {fd : FuncData} (F : Fun A.K "most_arm" "most_arm" s_most_arm f fd) (W : Wd A mg)  : FnOk P w A.K mg base CX0 1 f fd ["middle", "many"] (sp_most_arm A) := by
  have sc := sc_most_arm
  refine F.ok sc_most_arm (len_most_arm A) (fun cdv Ar outer s H vs Q E hr h => ⟨t_most_arm A, ?_, pu_most_arm A  vs H Q E h⟩)
  exact (pss_one (ps_ret (pe_callB (call_min2 rfl) (by rfl) W.n_min (by decide +kernel) (pa_cons (pe_op op_fdiv (pe_op op_add (pv 0) pe_int) pe_int) (pa_cons (pe_op op_sub (pe_op op_sub (pv 1) pe_int) (pe_op op_fdiv (pv 0) pe_int)) pa_nil)))))
theorem ok_is_arms {f : Addr} {fd : FuncData} (F : Fun A.K "is_arms" "is_arms" s_is_arms f fd) (W : Wd A mg) (c_is_whole : Cal P w A.K mg base CX0 1 "is_whole" ["thing"] (sp_is_whole A)) (c_most_arm : Cal P w A.K mg base CX0 1 "most_arm" ["middle", "many"] (sp_most_arm A)) : FnOk P w A.K mg base CX0 2 f fd ["thing"] (sp_is_arms A) := by
  have sc := sc_is_arms
  refine F.ok sc_is_arms (len_is_arms A) (fun cdv Ar outer s H vs Q E hr h => ⟨t_is_arms A, ?_, pu_is_arms A  vs H Q E h⟩)
  exact (pss_cons (ps_if (PW.pt (pw_or (pt_not (pt_val (pe_callB call_isi (by rfl) W.n_isinstance (by decide +kernel) (pa_cons (pv 0) (pa_cons (pe_bltn (by rfl) W.n_list (by decide +kernel) rfl) pa_nil))))) (pw_or (pt_cmpR op_gt (pe_callB call_len_seq (by rfl) W.n_len (by decide +kernel) (pa_cons (pv 0) pa_nil)) (pe_op op_sub (pe_op op_mul pe_int (pe_globI (by rfl) W.g_MOST)) pe_int) (nomark _)) (pw_or1 (PW.pt (pw_and (pt_cmpR (op_neD hr.units) (pv 0) (pe_lst pa_nil) (nomark _)) (pw_and1 (pt_cmpR op_eq (pe_op op_mod (pe_callB call_len_seq (by rfl) W.n_len (by decide +kernel) (pa_cons (pv 0) pa_nil)) pe_int) pe_int (nomark _))))))))) (pss_one (ps_ret pe_bl)) pss_nil)
  (pss_cons (ps_set (i := 1) sc.nd rfl (by first | exact Or.inl rfl | exact Or.inr rfl) (pe_op op_fdiv (pe_op op_add (pe_callB call_len_seq (by rfl) W.n_len (by decide +kernel) (pa_cons (pv 0) pa_nil)) pe_int) pe_int))
  (pss_one (ps_ret (pe_callB (cr_all rfl) (by rfl) W.n_all (by decide +kernel) (pa_cons (pe_lc (own := [("middle", 2), ("arm", 3)]) (g := (gTup A.K 2 (gCons (gName 2) (gCons (gName 3) gNil)))) (tt := tYes) rfl sc.nd (pi_enum (by rfl) W.n_enumerate (pa_cons (pv 0) pa_nil)) (blkOk_by (N := ["thing", "many", "middle", "arm"]) (sc := defScope s_is_arms) (by decide +kernel)) (fun _ _ _ _ _ => (pg_tup rfl (pgs_cons (pg_name (i := 2) sc.nd rfl (by first | exact Or.inl rfl | exact Or.inr rfl)) (pgs_cons (pg_name (i := 3) sc.nd rfl (by first | exact Or.inl rfl | exact Or.inr rfl)) pgs_nil)))) (fun _ _ _ _ _ => pts_nil) (fun _ _ _ _ _ => (pe_and (pe_cal c_is_whole (hr.mono (by decide)) (by rfl) pass0 (pa_cons (pv 3) pa_nil)) (pe_one (pe_chain op_le op_le pe_int (pv 3) (pe_cal c_most_arm (hr.mono (by decide)) (by rfl) pass0 (pa_cons (pv 2) (pa_cons (pv 1) pa_nil)))))))) pa_nil))))))
theorem ok_Groups_init {f : Addr} {fd : FuncData} (F : Fun A.K "__init__" "Groups.__init__" s_Groups_init f fd) (W : Wd A mg)  : FnOk P w A.K mg base CX0 1 f fd ["self", "many"] (sp_Groups_init A) := by
  have sc := sc_Groups_init
  refine F.ok sc_Groups_init (len_Groups_init A) (fun cdv Ar outer s H vs Q E hr h => ⟨t_Groups_init A, ?_, pu_Groups_init A W.cl_Groups vs H Q E h⟩)
  exact (pss_one (ps_fld (pv 0) (pe_listRg rfl (by rfl) W.n_list (prg_1 (by rfl) W.n_range (pv 1))) rfl))
theorem ok_Groups_root {f : Addr} {fd : FuncData} (F : Fun A.K "root" "Groups.root" s_Groups_root f fd) (W : Wd A mg)  : FnOk P w A.K mg base CX0 1 f fd ["self", "place"] (sp_Groups_root A) := by
  have sc := sc_Groups_root
  refine F.ok sc_Groups_root (len_Groups_root A) (fun cdv Ar outer s H vs Q E hr h => ⟨t_Groups_root A, ?_, pu_Groups_root A W.cl_Groups vs H Q E h⟩)
  exact (pss_cons (ps_while (PassesOwn.never) (pt_cmpR op_ne (pe_ix ix_list (pe_fld (pv 0) rfl) (pv 1) (fun _ _ => rfl)) (pv 1) (nomark _)) (pss_one (ps_set (i := 1) sc.nd rfl (by first | exact Or.inl rfl | exact Or.inr rfl) (pe_ix ix_list (pe_fld (pv 0) rfl) (pv 1) (fun _ _ => rfl)))))
  (pss_one (ps_ret (pv 1))))
theorem ok_Groups_tie {f : Addr} {fd : FuncData} (F : Fun A.K "tie" "Groups.tie" s_Groups_tie f fd) (W : Wd A mg) (c_Groups_root : Mcal P w A.K mg base CX0 1 A.cGroups "root" ["self", "place"] (sp_Groups_root A)) : FnOk P w A.K mg base CX0 2 f fd ["self", "one", "other"] (sp_Groups_tie A) := by
  have sc := sc_Groups_tie
  refine F.ok sc_Groups_tie (len_Groups_tie A) (fun cdv Ar outer s H vs Q E hr h => ⟨t_Groups_tie A, ?_, pu_Groups_tie A W.cl_Groups vs H Q E h⟩)
  exact (pss_cons (ps_par rfl sc.nd rfl rfl (by decide) rfl rfl (pa_cons (pe_mcal c_Groups_root W.cl_Groups.cls (hr.mono (by decide)) pass0 (pv 0) (pa_cons (pv 1) pa_nil)) (pa_cons (pe_mcal c_Groups_root W.cl_Groups.cls (hr.mono (by decide)) pass0 (pv 0) (pa_cons (pv 2) pa_nil)) pa_nil)) (by rfl))
  (pss_one (ps_asg (pe_callB (call_min2 rfl) (by rfl) W.n_min (by decide +kernel) (pa_cons (pv 1) (pa_cons (pv 2) pa_nil))) (pg_sub (pe_fld (pv 0) rfl) (pe_callB (call_max2 rfl) (by rfl) W.n_max (by decide +kernel) (pa_cons (pv 1) (pa_cons (pv 2) pa_nil))) set_list))))
theorem ok_tied {f : Addr} {fd : FuncData} (F : Fun A.K "tied" "tied" s_tied f fd) (W : Wd A mg) (c_Groups_init : Mkc P w A.K mg base CX0 1 "Groups" ["self", "many"] A.cGroups (sp_Groups_init A)) (c_Groups_tie : Mcal P w A.K mg base CX0 2 A.cGroups "tie" ["self", "one", "other"] (sp_Groups_tie A)) : FnOk P w A.K mg base CX0 3 f fd ["arms", "many"] (sp_tied A) := by
  have sc := sc_tied
  refine F.ok sc_tied (len_tied A) (fun cdv Ar outer s H vs Q E hr h => ⟨t_tied A, ?_, pu_tied A  vs H Q E h⟩)
  exact (pss_cons (ps_set (i := 2) sc.nd rfl (by first | exact Or.inl rfl | exact Or.inr rfl) (pe_mk c_Groups_init (hr.mono (by decide)) (by rfl) pass0 (pa_cons (pv 1) pa_nil)))
  (pss_cons (ps_for (PassesOwn.never) rfl (pi_enum (by rfl) W.n_enumerate (pa_cons (pv 0) pa_nil)) (pg_tup rfl (pgs_cons (pg_name (i := 3) sc.nd rfl (by first | exact Or.inl rfl | exact Or.inr rfl)) (pgs_cons (pg_name (i := 4) sc.nd rfl (by first | exact Or.inl rfl | exact Or.inr rfl)) pgs_nil))) (pss_one (ps_for (PassesOwn.never) rfl (pi_range1 (by rfl) W.n_range (pa_cons (pv 4) pa_nil)) (pg_name (i := 5) sc.nd rfl (by first | exact Or.inl rfl | exact Or.inr rfl)) (pss_one (ps_expr (pe_mcal c_Groups_tie W.cl_Groups.cls (hr.mono (by decide)) pass0 (pv 2) (pa_cons (pe_op op_sub (pe_op op_fdiv (pe_op op_sub (pv 3) pe_int) pe_int) (pv 5)) (pa_cons (pe_op op_add (pe_op op_add (pe_op op_fdiv (pv 3) pe_int) pe_int) (pv 5)) pa_nil))))))))
  (pss_one (ps_ret (pv 2)))))
theorem ok_foes_of {f : Addr} {fd : FuncData} (F : Fun A.K "foes_of" "foes_of" s_foes_of f fd) (W : Wd A mg) (c_Groups_root : Mcal P w A.K mg base CX0 1 A.cGroups "root" ["self", "place"] (sp_Groups_root A)) : FnOk P w A.K mg base (L2.CX P w) 2 f fd ["arms", "many", "groups"] (sp_foes_of A) := by
  have sc := sc_foes_of
  refine F.okX sc_foes_of (len_foes_of A) (fun cdv Ar outer s H vs Q E hr h => ⟨t_foes_of A E, ?_, pu_foes_of A  vs H Q E h⟩)
  exact (pss_cons (ps_setLc (i := 3) (own := [("place", 4)]) (g := (gName 4)) (tt := tYes) rfl sc.nd rfl rfl (sw_true rfl rfl rfl (by decide +kernel)) (pi_range1 (by rfl) W.n_range (pa_cons (pv 1) pa_nil)) (blkOk_by (N := ["arms", "many", "groups", "foes", "place", "middle", "arm", "left", "right", "one", "other"]) (sc := defScope s_foes_of) (by decide +kernel)) (fun _ _ _ _ _ => (pg_name (i := 4) sc.nd rfl (by first | exact Or.inl rfl | exact Or.inr rfl))) (fun _ _ _ _ _ => pts_nil) (fun _ _ _ _ _ => (pe_lst pa_nil)))
  (pss_cons (ps_for (passes_of rfl) rfl (pi_enum (by rfl) W.n_enumerate (pa_cons (pv 0) pa_nil)) (pg_tup rfl (pgs_cons (pg_name (i := 5) sc.nd rfl (by first | exact Or.inl rfl | exact Or.inr rfl)) (pgs_cons (pg_name (i := 6) sc.nd rfl (by first | exact Or.inl rfl | exact Or.inr rfl)) pgs_nil))) (pss_cons (ps_set (i := 7) sc.nd rfl (by first | exact Or.inl rfl | exact Or.inr rfl) (pe_op op_sub (pe_op op_fdiv (pe_op op_sub (pv 5) pe_int) pe_int) (pv 6)))
  (pss_cons (ps_set (i := 8) sc.nd rfl (by first | exact Or.inl rfl | exact Or.inr rfl) (pe_op op_add (pe_op op_add (pe_op op_fdiv (pv 5) pe_int) pe_int) (pv 6)))
  (pss_one (ps_if (PW.pt (pw_and (pt_cmpR op_ge (pv 7) pe_int (nomark _)) (pw_and1 (pt_cmpR op_lt (pv 8) (pv 1) (nomark _))))) (pss_cons (ps_par rfl sc.nd rfl rfl (by decide) rfl rfl (pa_cons (pe_mcal c_Groups_root W.cl_Groups.cls (hr.mono (by decide)) pass0 (pv 2) (pa_cons (pv 7) pa_nil)) (pa_cons (pe_mcal c_Groups_root W.cl_Groups.cls (hr.mono (by decide)) pass0 (pv 2) (pa_cons (pv 8) pa_nil)) pa_nil)) (by rfl))
  (pss_cons (ps_if (pt_cmpR op_eq (pv 9) (pv 10) (nomark _)) (pss_one (ps_rz rfl W.x_NoText (by rfl) (takes_of rfl rfl rfl rfl))) pss_nil)
  (pss_cons (ps_expr (pe_bm PySem.F.plainAttrs_list PySem.F.slot_list_append PySem.F.type_list_append mt_append (pe_ix ix_list (pv 3) (pv 9) (fun _ _ => rfl)) (pa_cons (pv 10) pa_nil)))
  (pss_one (ps_expr (pe_bm PySem.F.plainAttrs_list PySem.F.slot_list_append PySem.F.type_list_append mt_append (pe_ix ix_list (pv 3) (pv 10) (fun _ _ => rfl)) (pa_cons (pv 9) pa_nil))))))) pss_nil)))))
  (pss_one (ps_ret (pv 3)))))
theorem ok_least_text {f : Addr} {fd : FuncData} (F : Fun A.K "least_text" "least_text" s_least_text f fd) (W : Wd A mg) (c_is_arms : Cal P w A.K mg base CX0 2 "is_arms" ["thing"] (sp_is_arms A)) (c_Groups_root : Mcal P w A.K mg base CX0 1 A.cGroups "root" ["self", "place"] (sp_Groups_root A)) (c_tied : Cal P w A.K mg base CX0 3 "tied" ["arms", "many"] (sp_tied A)) (c_foes_of : Cal P w A.K mg base (L2.CX P w) 2 "foes_of" ["arms", "many", "groups"] (sp_foes_of A)) : FnOk P w A.K mg base (L2.CX P w) 4 f fd ["arms"] (sp_least_text A) := by
  have sc := sc_least_text
  refine F.okX sc_least_text (len_least_text A) (fun cdv Ar outer s H vs Q E hr h => ⟨t_least_text A E, ?_, pu_least_text A  vs H Q E h⟩)
  exact (pss_cons (ps_if (pt_not (pt_val (pe_cal c_is_arms (hr.mono (by decide)) (by rfl) pass0 (pa_cons (pv 0) pa_nil)))) (pss_one (ps_rz rfl W.x_BadArms (by rfl) (takes_of rfl rfl rfl rfl))) pss_nil)
  (pss_cons (ps_set (i := 1) sc.nd rfl (by first | exact Or.inl rfl | exact Or.inr rfl) (pe_op op_fdiv (pe_op op_add (pe_callB call_len_seq (by rfl) W.n_len (by decide +kernel) (pa_cons (pv 0) pa_nil)) pe_int) pe_int))
  (pss_cons (ps_set (i := 2) sc.nd rfl (by first | exact Or.inl rfl | exact Or.inr rfl) (pe_cal c_tied (hr.mono (by decide)) (by rfl) pass0 (pa_cons (pv 0) (pa_cons (pv 1) pa_nil))))
  (pss_cons (ps_set (i := 3) sc.nd rfl (by first | exact Or.inl rfl | exact Or.inr rfl) (pe_cal c_foes_of (hr.mono (by decide)) (by rfl) (passX (takes_of rfl rfl rfl rfl)) (pa_cons (pv 0) (pa_cons (pv 1) (pa_cons (pv 2) pa_nil)))))
  (pss_cons (ps_set (i := 4) sc.nd rfl (by first | exact Or.inl rfl | exact Or.inr rfl) pe_dnewK)
  (pss_cons (ps_for (passes_of rfl) rfl (pi_range1 (by rfl) W.n_range (pa_cons (pv 1) pa_nil)) (pg_name (i := 5) sc.nd rfl (by first | exact Or.inl rfl | exact Or.inr rfl)) (pss_one (ps_if (pt_cmpR op_eq (pe_mcal c_Groups_root W.cl_Groups.cls (hr.mono (by decide)) pass0 (pv 2) (pa_cons (pv 5) pa_nil)) (pv 5) (nomark _)) (pss_cons (ps_set (i := 6) sc.nd rfl (by first | exact Or.inl rfl | exact Or.inr rfl) (pe_lc (own := [("foe", 7)]) (g := (gName 7)) (tt := (tB (tDIn (tVar 7) (tVar 4)))) rfl sc.nd (pi_list (pe_ix ix_list (pv 3) (pv 5) (fun _ _ => rfl))) (blkOk_by (N := ["arms", "many", "groups", "foes", "given", "place", "used", "foe", "letter"]) (sc := defScope s_least_text) (by decide +kernel)) (fun _ _ _ _ _ => (pg_name (i := 7) sc.nd rfl (by first | exact Or.inl rfl | exact Or.inr rfl))) (fun _ _ _ _ _ => (pts_one (pt_cmp (pc_din (hu_of hr) (pv 7) (pv 4)) (by rfl)))) (fun _ _ _ _ _ => (pe_dget (hu_of hr) (pv 4) (pv 7) (fun _ _ => rfl)))))
  (pss_one (ps_dput (hu_of hr) (pv 4) (pv 5) (pe_ix ix_list (pe_lc (own := [("letter", 8)]) (g := (gName 8)) (tt := (tTest (tOp (rIn A.K true) (tVar 8) (tVar 6)))) rfl sc.nd (pi_str (pe_globT (by rfl) W.g_LETTERS)) (blkOk_by (N := ["arms", "many", "groups", "foes", "given", "place", "used", "foe", "letter"]) (sc := defScope s_least_text) (by decide +kernel)) (fun _ _ _ _ _ => (pg_name (i := 8) sc.nd rfl (by first | exact Or.inl rfl | exact Or.inr rfl))) (fun _ _ _ _ _ => (pts_one (pt_cmpR op_notIn_seq (pv 8) (pv 6) (by rfl)))) (fun _ _ _ _ _ => (pv 8))) pe_int (fun _ _ => rfl)) rfl))) pss_nil)))
  (pss_one (ps_ret (pe_join (pe_strT (l := []) (by decide +kernel)) (pe_lc (own := [("place", 5)]) (g := (gName 5)) (tt := tYes) rfl sc.nd (pi_range1 (by rfl) W.n_range (pa_cons (pv 1) pa_nil)) (blkOk_by (N := ["arms", "many", "groups", "foes", "given", "place", "used", "foe", "letter"]) (sc := defScope s_least_text) (by decide +kernel)) (fun _ _ _ _ _ => (pg_name (i := 5) sc.nd rfl (by first | exact Or.inl rfl | exact Or.inr rfl))) (fun _ _ _ _ _ => pts_nil) (fun _ _ _ _ _ => (pe_dget (hu_of hr) (pv 4) (pe_mcal c_Groups_root W.cl_Groups.cls (hr.mono (by decide)) pass0 (pv 2) (pa_cons (pv 5) pa_nil)) (fun _ _ => rfl)))))))))))))
theorem ok__law_draw {f : Addr} {fd : FuncData} (F : Fun A.K "_law_draw" "_law_draw" s__law_draw f fd) (W : Wd A mg)  : FnOk P w A.K mg base CX0 1 f fd ["_law_script", "_law_k"] (sp__law_draw A) := by
  have sc := sc__law_draw
  refine F.ok sc__law_draw (len__law_draw A) (fun cdv Ar outer s H vs Q E hr h => ⟨t__law_draw A, ?_, pu__law_draw A  vs H Q E h⟩)
  exact (pss_one (ps_ret (pe_ifExp (pt_cmpR op_gt (pe_callB call_len_seq (by rfl) W.n_len (by decide +kernel) (pa_cons (pv 0) pa_nil)) (pv 1) (nomark _)) (pe_ix ix_list (pv 0) (pv 1) (fun _ _ => rfl)) pe_int)))
theorem ok__law_arms {f : Addr} {fd : FuncData} (F : Fun A.K "_law_arms" "_law_arms" s__law_arms f fd) (W : Wd A mg)  : FnOk P w A.K mg base CX0 1 f fd ["_law_text"] (sp__law_arms A) := by
  have sc := sc__law_arms
  refine F.ok sc__law_arms (len__law_arms A) (fun cdv Ar outer s H vs Q E hr h => ⟨t__law_arms A, ?_, pu__law_arms A  vs H Q E h⟩)
  exact (pss_cons (ps_set (i := 1) sc.nd rfl (by first | exact Or.inl rfl | exact Or.inr rfl) (pe_lst pa_nil))
  (pss_cons (ps_for (PassesOwn.never) rfl (pi_range1 (by rfl) W.n_range (pa_cons (pe_op op_sub (pe_op op_mul pe_int (pe_callB call_len_str (by rfl) W.n_len (by decide +kernel) (pa_cons (pv 0) pa_nil))) pe_int) pa_nil)) (pg_name (i := 2) sc.nd rfl (by first | exact Or.inl rfl | exact Or.inr rfl)) (pss_cons (ps_par rfl sc.nd rfl rfl (by decide) rfl rfl (pa_cons (pe_op op_fdiv (pe_op op_sub (pv 2) pe_int) pe_int) (pa_cons (pe_op op_add (pe_op op_fdiv (pv 2) pe_int) pe_int) pa_nil)) (by rfl))
  (pss_cons (ps_set (i := 5) sc.nd rfl (by first | exact Or.inl rfl | exact Or.inr rfl) pe_int)
  (pss_cons (ps_while (PassesOwn.never) (PW.pt (pw_and (pt_cmpR op_ge (pe_op op_sub (pv 3) (pv 5)) pe_int (nomark _)) (pw_and (pt_cmpR op_lt (pe_op op_add (pv 4) (pv 5)) (pe_callB call_len_str (by rfl) W.n_len (by decide +kernel) (pa_cons (pv 0) pa_nil)) (nomark _)) (pw_and1 (pt_cmpR op_eq (pe_ix ix_str (pv 0) (pe_op op_sub (pv 3) (pv 5)) (fun _ _ => rfl)) (pe_ix ix_str (pv 0) (pe_op op_add (pv 4) (pv 5)) (fun _ _ => rfl)) (nomark _)))))) (pss_one (ps_set (i := 5) sc.nd rfl (by first | exact Or.inl rfl | exact Or.inr rfl) (pe_op op_add (pv 5) pe_int))))
  (pss_one (ps_expr (pe_bm PySem.F.plainAttrs_list PySem.F.slot_list_append PySem.F.type_list_append mt_append (pv 1) (pa_cons (pv 5) pa_nil))))))))
  (pss_one (ps_ret (pv 1)))))
theorem ok__law_all {f : Addr} {fd : FuncData} (F : Fun A.K "_law_all" "_law_all" s__law_all f fd) (W : Wd A mg)  : FnOk P w A.K mg base CX0 1 f fd ["_law_many"] (sp__law_all A) := by
  have sc := sc__law_all
  refine F.ok sc__law_all (len__law_all A) (fun cdv Ar outer s H vs Q E hr h => ⟨t__law_all A, ?_, pu__law_all A  vs H Q E h⟩)
  exact (pss_cons (ps_set (i := 1) sc.nd rfl (by first | exact Or.inl rfl | exact Or.inr rfl) (pe_lst (pa_cons (pe_strT (l := []) (by decide +kernel)) pa_nil)))
  (pss_cons (ps_for (PassesOwn.never) rfl (pi_range1 (by rfl) W.n_range (pa_cons (pv 0) pa_nil)) (pg_name (i := 2) sc.nd rfl (by first | exact Or.inl rfl | exact Or.inr rfl)) (pss_cons (ps_set (i := 3) sc.nd rfl (by first | exact Or.inl rfl | exact Or.inr rfl) (pe_lst pa_nil))
  (pss_cons (ps_for (PassesOwn.never) rfl (pi_list (pv 1)) (pg_name (i := 4) sc.nd rfl (by first | exact Or.inl rfl | exact Or.inr rfl)) (pss_one (ps_for (PassesOwn.never) rfl (pi_str (pe_slice sl_str (pe_strT (l := [97, 98, 99, 100, 101, 102]) (by decide +kernel)) po_none (po_some (pe_op op_add pe_int (pe_lenSetT (by rfl) W.n_len (by rfl) W.n_set (pv 4)))))) (pg_name (i := 5) sc.nd rfl (by first | exact Or.inl rfl | exact Or.inr rfl)) (pss_one (ps_expr (pe_bm PySem.F.plainAttrs_list PySem.F.slot_list_append PySem.F.type_list_append mt_append (pv 3) (pa_cons (pe_op op_add_str (pv 4) (pv 5)) pa_nil)))))))
  (pss_one (ps_set (i := 1) sc.nd rfl (by first | exact Or.inl rfl | exact Or.inr rfl) (pv 3))))))
  (pss_one (ps_ret (pv 1)))))
theorem ok__law_most {f : Addr} {fd : FuncData} (F : Fun A.K "_law_most" "_law_most" s__law_most f fd) (W : Wd A mg)  : FnOk P w A.K mg base CX0 1 f fd ["_law_middle", "_law_many"] (sp__law_most A) := by
  have sc := sc__law_most
  refine F.ok sc__law_most (len__law_most A) (fun cdv Ar outer s H vs Q E hr h => ⟨t__law_most A, ?_, pu__law_most A  vs H Q E h⟩)
  exact (pss_one (ps_ret (pe_callB (call_min2 rfl) (by rfl) W.n_min (by decide +kernel) (pa_cons (pe_op op_fdiv (pe_op op_add (pv 0) pe_int) pe_int) (pa_cons (pe_op op_sub (pe_op op_sub (pv 1) pe_int) (pe_op op_fdiv (pv 0) pe_int)) pa_nil)))))
theorem ok__law_said {f : Addr} {fd : FuncData} (F : Fun A.K "_law_said" "_law_said" s__law_said f fd) (W : Wd A mg) (c_least_text : Cal P w A.K mg base (L2.CX P w) 4 "least_text" ["arms"] (sp_least_text A)) : FnOk P w A.K mg base CX0 5 f fd ["_law_reach"] (sp__law_said A) := by
  have sc := sc__law_said
  refine F.ok sc__law_said (len__law_said A) (fun cdv Ar outer s H vs Q E hr h => ⟨t__law_said A, ?_, pu__law_said A W.k_NoText vs H Q E h⟩)
  exact (pss_cons (ps_set (i := 1) sc.nd rfl (by first | exact Or.inl rfl | exact Or.inr rfl) pe_non)
  (pss_cons (ps_set (i := 2) sc.nd rfl (by first | exact Or.inl rfl | exact Or.inr rfl) (pe_strT (l := []) (by decide +kernel)))
  (pss_cons (ps_tryK (i := 3) (j := 1) (tb := fun W => (tAsg (tCallS (sp_least_text A) (WE W) (tCons (tVar 0) tNil)) (gName 2))) rfl rfl rfl sc.nd rfl rfl (by decide) rfl rfl (by rfl) W.g_MirrorError (fun W pn xe tk => (pss_one (ps_set (i := 2) sc.nd rfl (by first | exact Or.inl rfl | exact Or.inr rfl) (pe_calS c_least_text (hr.mono (by decide)) (by rfl) (fun σ => passAt tk σ) (pa_cons (pv 0) pa_nil))))))
  (pss_cons (ps_if (pt_cmpR op_isN (pv 1) pe_non (nomark _)) (pss_one (ps_ret (pv 2))) pss_nil)
  (pss_cons (ps_if (PW.pt (pw_or (pt_val (pe_callB call_isXT (by rfl) W.n_isinstance (by decide +kernel) (pa_cons (pv 1) (pa_cons (pe_tup (pa_cons (pe_glob (by rfl) W.g_BadArms rfl) (pa_cons (pe_glob (by rfl) W.g_BadLetter rfl) (pa_cons (pe_glob (by rfl) W.g_BadText rfl) (pa_cons (pe_glob (by rfl) W.g_BadWord rfl) (pa_cons (pe_glob (by rfl) W.g_Full rfl) (pa_cons (pe_glob (by rfl) W.g_NoPlace rfl) pa_nil))))))) pa_nil)))) (pw_or1 (pt_not (pt_val (pe_callB call_isX (by rfl) W.n_isinstance (by decide +kernel) (pa_cons (pv 1) (pa_cons (pe_bltn (by rfl) W.n_ValueError (by decide +kernel) rfl) pa_nil)))))))) (pss_one (ps_ret (pe_strT (l := [111, 116, 104, 101, 114]) (by decide +kernel)))) pss_nil)
  (pss_one (ps_ret (pe_ifExp (pt_val (pe_callB call_isX (by rfl) W.n_isinstance (by decide +kernel) (pa_cons (pv 1) (pa_cons (pe_glob (by rfl) W.g_NoText rfl) pa_nil)))) (pe_strT (l := [110, 111, 110, 101]) (by decide +kernel)) (pe_strT (l := [111, 116, 104, 101, 114]) (by decide +kernel))))))))))
theorem ok_law {f : Addr} {fd : FuncData} (F : Fun A.K "law" "law" s_law f fd) (W : Wd A mg) (c__law_draw : Cal P w A.K mg base CX0 1 "_law_draw" ["_law_script", "_law_k"] (sp__law_draw A)) (c__law_arms : Cal P w A.K mg base CX0 1 "_law_arms" ["_law_text"] (sp__law_arms A)) (c__law_all : Cal P w A.K mg base CX0 1 "_law_all" ["_law_many"] (sp__law_all A)) (c__law_most : Cal P w A.K mg base CX0 1 "_law_most" ["_law_middle", "_law_many"] (sp__law_most A)) (c__law_said : Cal P w A.K mg base CX0 5 "_law_said" ["_law_reach"] (sp__law_said A)) : FnOk P w A.K mg base CX0 6 f fd ["_law_script"] (sp_law A) := by
  have sc := sc_law
  refine F.ok sc_law (len_law A) (fun cdv Ar outer s H vs Q E hr h => ⟨t_law A, ?_, pu_law A  vs H Q E h⟩)
  exact (pss_cons (ps_set (i := 1) sc.nd rfl (by first | exact Or.inl rfl | exact Or.inr rfl) (pe_op op_mod (pe_cal c__law_draw (hr.mono (by decide)) (by rfl) pass0 (pa_cons (pv 0) (pa_cons pe_int pa_nil))) pe_int))
  (pss_cons (ps_set (i := 2) sc.nd rfl (by first | exact Or.inl rfl | exact Or.inr rfl) (pe_join (pe_strT (l := []) (by decide +kernel)) (pe_lc (own := [("_law_cell", 3)]) (g := (gName 3)) (tt := tYes) rfl sc.nd (pi_list (pe_slice sl_list (pe_op op_cat (pe_slice sl_list (pv 0) (po_some pe_int) po_none) (pe_op op_rep (pe_lst (pa_cons pe_int pa_nil)) pe_int)) po_none (po_some (pv 1)))) (blkOk_by (N := ["_law_script", "_law_many", "_law_text", "_law_cell", "_law_reach", "_law_middle", "_law_fits", "_law_one", "_law_due", "_law_handed"]) (sc := defScope s_law) (by decide +kernel)) (fun _ _ _ _ _ => (pg_name (i := 3) sc.nd rfl (by first | exact Or.inl rfl | exact Or.inr rfl))) (fun _ _ _ _ _ => pts_nil) (fun _ _ _ _ _ => (pe_ix ix_str (pe_strT (l := [97, 98, 99, 97, 98, 100]) (by decide +kernel)) (pe_op op_mod (pv 3) pe_int) (fun _ _ => rfl))))))
  (pss_cons (ps_set (i := 4) sc.nd rfl (by first | exact Or.inl rfl | exact Or.inr rfl) (pe_cal c__law_arms (hr.mono (by decide)) (by rfl) pass0 (pa_cons (pv 2) pa_nil)))
  (pss_cons (ps_for (PassesOwn.never) rfl (pi_list (pe_slice sl_list (pv 0) (po_some pe_int) (po_some (pe_op op_add pe_int (pe_op op_mul (pe_op op_mod (pe_op op_fdiv (pe_cal c__law_draw (hr.mono (by decide)) (by rfl) pass0 (pa_cons (pv 0) (pa_cons pe_int pa_nil))) pe_int) pe_int) (pe_op op_mod (pe_op op_fdiv (pe_cal c__law_draw (hr.mono (by decide)) (by rfl) pass0 (pa_cons (pv 0) (pa_cons pe_int pa_nil))) pe_int) pe_int)))))) (pg_name (i := 3) sc.nd rfl (by first | exact Or.inl rfl | exact Or.inr rfl)) (pss_one (ps_if (pt_cmpR (op_neD hr.units) (pv 4) (pe_lst pa_nil) (nomark _)) (pss_cons (ps_set (i := 5) sc.nd rfl (by first | exact Or.inl rfl | exact Or.inr rfl) (pe_op op_mod (pv 3) (pe_callB call_len_seq (by rfl) W.n_len (by decide +kernel) (pa_cons (pv 4) pa_nil))))
  (pss_one (ps_asg (pe_op op_mod (pe_op op_fdiv (pv 3) (pe_callB call_len_seq (by rfl) W.n_len (by decide +kernel) (pa_cons (pv 4) pa_nil))) (pe_op op_add pe_int (pe_cal c__law_most (hr.mono (by decide)) (by rfl) pass0 (pa_cons (pv 5) (pa_cons (pv 1) pa_nil))))) (pg_sub (pv 4) (pv 5) set_list)))) pss_nil)))
  (pss_cons (ps_setLc (i := 6) (own := [("_law_one", 7)]) (g := (gName 7)) (tt := (tTest (tOp (rEqD A.K) (tCall (sp__law_arms A) [] E0 (tCons (tVar 7) tNil)) (tVar 4)))) rfl sc.nd rfl rfl (sw_true rfl rfl rfl (by decide +kernel)) (pi_list (pe_cal c__law_all (hr.mono (by decide)) (by rfl) pass0 (pa_cons (pv 1) pa_nil))) (blkOk_by (N := ["_law_script", "_law_many", "_law_text", "_law_cell", "_law_reach", "_law_middle", "_law_fits", "_law_one", "_law_due", "_law_handed"]) (sc := defScope s_law) (by decide +kernel)) (fun _ _ _ _ _ => (pg_name (i := 7) sc.nd rfl (by first | exact Or.inl rfl | exact Or.inr rfl))) (fun _ _ _ _ _ => (pts_one (pt_cmpR (op_eqD hr.units) (pe_cal c__law_arms (hr.mono (by decide)) (by rfl) pass0 (pa_cons (pv 7) pa_nil)) (pv 4) (nomark _)))) (fun _ _ _ _ _ => (pv 7)))
  (pss_cons (ps_set (i := 8) sc.nd rfl (by first | exact Or.inl rfl | exact Or.inr rfl) (pe_callBK (cr_minDS rfl hr.units) (by rfl) W.n_min (by decide +kernel) (pa_cons (pv 6) pa_nil) (pk_cons (pe_strT (l := [110, 111, 110, 101]) (by decide +kernel)) pk_nil)))
  (pss_cons (ps_set (i := 9) sc.nd rfl (by first | exact Or.inl rfl | exact Or.inr rfl) (pe_callTy call_list_of (by rfl) W.n_list (by decide +kernel) (pa_cons (pv 4) pa_nil)))
  (pss_one (ps_ret (pe_and (pe_cmpR op_eq (pe_cal c__law_said (hr.mono (by decide)) (by rfl) pass0 (pa_cons (pv 9) pa_nil)) (pv 8) (nomark _)) (pe_and (pe_cmpR (op_eqD hr.units) (pv 9) (pv 4) (nomark _)) (pe_one (pe_cmpR op_eq (pe_cal c__law_said (hr.mono (by decide)) (by rfl) pass0 (pa_cons (pv 9) pa_nil)) (pv 8) (nomark _))))))))))))))
end
def spL0 (K : PySem.W.Frag) : Sp := fun vs H Q _ => ∃ (a : Addr) (ns : List Int), vs = [.ref a] ∧ SqL K H a (ns.map V.int) ∧ ns.length ≤ 63 ∧ ∀ H', Q (.bl true) H'
theorem all_mk {l : PySem.W.OpenLaw} {w : World} {K : PySem.W.Frag} {h : Heap} {mg : Str → Option Value} {fa f0 f1 f2 f3 f4 f5 f6 f7 f8 f9 f10 f11 f12 f13 f14 e_cME e_cBT e_cBL e_cBW e_cBA e_cNT e_cNP e_cFu e_cGroups : Addr} {od0 an0 od1 an1 od2 an2 od3 an3 od4 an4 od5 an5 od6 an6 od7 an7 od8 an8 od9 an9 od10 an10 od11 an11 od12 an12 od13 an13 od14 an14 : Option Addr} {sl0 sl1 sl2 sl3 sl4 sl5 sl6 sl7 sl8 sl9 sl10 sl11 sl12 sl13 sl14 : Array (Option Value)} {oc0 kV0 dc0 pm0 cd0 ct0 oc1 kV1 dc1 pm1 cd1 ct1 oc2 kV2 dc2 pm2 cd2 ct2 oc3 kV3 dc3 pm3 cd3 ct3 oc4 kV4 dc4 pm4 cd4 ct4 oc5 kV5 dc5 pm5 cd5 ct5 oc6 kV6 dc6 pm6 cd6 ct6 oc7 kV7 dc7 pm7 cd7 ct7 oc8 kV8 dc8 pm8 cd8 ct8 oc9 kV9 dc9 pm9 cd9 ct9 oc10 kV10 dc10 pm10 cd10 ct10 oc11 kV11 dc11 pm11 cd11 ct11 oc12 kV12 dc12 pm12 cd12 ct12 oc13 kV13 dc13 pm13 cd13 ct13 oc14 kV14 dc14 pm14 cd14 ct14 : Value} {t_LETTERS t_MOST : Tok} (X : K.In h) (G : h.Ns mainGlobals mg) (hfa : mg "law" = some (.ref fa))
    (g_MirrorError : PySem.W.nsIn K mainGlobals "MirrorError" = some (some (.ref e_cME)))
    (g_BadText : PySem.W.nsIn K mainGlobals "BadText" = some (some (.ref e_cBT)))
    (g_BadLetter : PySem.W.nsIn K mainGlobals "BadLetter" = some (some (.ref e_cBL)))
    (g_BadWord : PySem.W.nsIn K mainGlobals "BadWord" = some (some (.ref e_cBW)))
    (g_BadArms : PySem.W.nsIn K mainGlobals "BadArms" = some (some (.ref e_cBA)))
    (g_NoText : PySem.W.nsIn K mainGlobals "NoText" = some (some (.ref e_cNT)))
    (g_NoPlace : PySem.W.nsIn K mainGlobals "NoPlace" = some (some (.ref e_cNP)))
    (g_Full : PySem.W.nsIn K mainGlobals "Full" = some (some (.ref e_cFu)))
    (g_Groups : PySem.W.nsIn K mainGlobals "Groups" = some (some (.ref e_cGroups)))
    (a0 : PySem.W.nsIn K mainGlobals "is_whole" = some (some (.ref f0)))
    (l0 : K.lookup f0 = some ⟨oc0, od0, .func (PySem.W.fnOf "is_whole" "is_whole" (defArgs s_is_whole) (defBody s_is_whole) (defScope s_is_whole) .none kV0 dc0 pm0 an0 cd0 ct0), sl0⟩)
    (c0 : PySem.W.codeIn K cd0 "is_whole" = true)
    (k0 : PySem.W.keepIn K (.ref f0) = true)
    (a1 : PySem.W.nsIn K mainGlobals "most_arm" = some (some (.ref f1)))
    (l1 : K.lookup f1 = some ⟨oc1, od1, .func (PySem.W.fnOf "most_arm" "most_arm" (defArgs s_most_arm) (defBody s_most_arm) (defScope s_most_arm) .none kV1 dc1 pm1 an1 cd1 ct1), sl1⟩)
    (c1 : PySem.W.codeIn K cd1 "most_arm" = true)
    (k1 : PySem.W.keepIn K (.ref f1) = true)
    (a2 : PySem.W.nsIn K mainGlobals "is_arms" = some (some (.ref f2)))
    (l2 : K.lookup f2 = some ⟨oc2, od2, .func (PySem.W.fnOf "is_arms" "is_arms" (defArgs s_is_arms) (defBody s_is_arms) (defScope s_is_arms) .none kV2 dc2 pm2 an2 cd2 ct2), sl2⟩)
    (c2 : PySem.W.codeIn K cd2 "is_arms" = true)
    (k2 : PySem.W.keepIn K (.ref f2) = true)
    (a3 : PySem.W.findIn K (.ref e_cGroups) "__init__" = some (some (.ref f3)))
    (i3 : PySem.W.isFn K (.ref f3) = true)
    (l3 : K.lookup f3 = some ⟨oc3, od3, .func (PySem.W.fnOf "__init__" "Groups.__init__" (defArgs s_Groups_init) (defBody s_Groups_init) (defScope s_Groups_init) .none kV3 dc3 pm3 an3 cd3 ct3), sl3⟩)
    (c3 : PySem.W.codeIn K cd3 "Groups.__init__" = true)
    (k3 : PySem.W.keepIn K (.ref f3) = true)
    (a4 : PySem.W.findIn K (.ref e_cGroups) "root" = some (some (.ref f4)))
    (i4 : PySem.W.isFn K (.ref f4) = true)
    (l4 : K.lookup f4 = some ⟨oc4, od4, .func (PySem.W.fnOf "root" "Groups.root" (defArgs s_Groups_root) (defBody s_Groups_root) (defScope s_Groups_root) .none kV4 dc4 pm4 an4 cd4 ct4), sl4⟩)
    (c4 : PySem.W.codeIn K cd4 "Groups.root" = true)
    (k4 : PySem.W.keepIn K (.ref f4) = true)
    (a5 : PySem.W.findIn K (.ref e_cGroups) "tie" = some (some (.ref f5)))
    (i5 : PySem.W.isFn K (.ref f5) = true)
    (l5 : K.lookup f5 = some ⟨oc5, od5, .func (PySem.W.fnOf "tie" "Groups.tie" (defArgs s_Groups_tie) (defBody s_Groups_tie) (defScope s_Groups_tie) .none kV5 dc5 pm5 an5 cd5 ct5), sl5⟩)
    (c5 : PySem.W.codeIn K cd5 "Groups.tie" = true)
    (k5 : PySem.W.keepIn K (.ref f5) = true)
    (a6 : PySem.W.nsIn K mainGlobals "tied" = some (some (.ref f6)))
    (l6 : K.lookup f6 = some ⟨oc6, od6, .func (PySem.W.fnOf "tied" "tied" (defArgs s_tied) (defBody s_tied) (defScope s_tied) .none kV6 dc6 pm6 an6 cd6 ct6), sl6⟩)
    (c6 : PySem.W.codeIn K cd6 "tied" = true)
    (k6 : PySem.W.keepIn K (.ref f6) = true)
    (a7 : PySem.W.nsIn K mainGlobals "foes_of" = some (some (.ref f7)))
    (l7 : K.lookup f7 = some ⟨oc7, od7, .func (PySem.W.fnOf "foes_of" "foes_of" (defArgs s_foes_of) (defBody s_foes_of) (defScope s_foes_of) .none kV7 dc7 pm7 an7 cd7 ct7), sl7⟩)
    (c7 : PySem.W.codeIn K cd7 "foes_of" = true)
    (k7 : PySem.W.keepIn K (.ref f7) = true)
    (a8 : PySem.W.nsIn K mainGlobals "least_text" = some (some (.ref f8)))
    (l8 : K.lookup f8 = some ⟨oc8, od8, .func (PySem.W.fnOf "least_text" "least_text" (defArgs s_least_text) (defBody s_least_text) (defScope s_least_text) .none kV8 dc8 pm8 an8 cd8 ct8), sl8⟩)
    (c8 : PySem.W.codeIn K cd8 "least_text" = true)
    (k8 : PySem.W.keepIn K (.ref f8) = true)
    (a9 : PySem.W.nsIn K mainGlobals "_law_draw" = some (some (.ref f9)))
    (l9 : K.lookup f9 = some ⟨oc9, od9, .func (PySem.W.fnOf "_law_draw" "_law_draw" (defArgs s__law_draw) (defBody s__law_draw) (defScope s__law_draw) .none kV9 dc9 pm9 an9 cd9 ct9), sl9⟩)
    (c9 : PySem.W.codeIn K cd9 "_law_draw" = true)
    (k9 : PySem.W.keepIn K (.ref f9) = true)
    (a10 : PySem.W.nsIn K mainGlobals "_law_arms" = some (some (.ref f10)))
    (l10 : K.lookup f10 = some ⟨oc10, od10, .func (PySem.W.fnOf "_law_arms" "_law_arms" (defArgs s__law_arms) (defBody s__law_arms) (defScope s__law_arms) .none kV10 dc10 pm10 an10 cd10 ct10), sl10⟩)
    (c10 : PySem.W.codeIn K cd10 "_law_arms" = true)
    (k10 : PySem.W.keepIn K (.ref f10) = true)
    (a11 : PySem.W.nsIn K mainGlobals "_law_all" = some (some (.ref f11)))
    (l11 : K.lookup f11 = some ⟨oc11, od11, .func (PySem.W.fnOf "_law_all" "_law_all" (defArgs s__law_all) (defBody s__law_all) (defScope s__law_all) .none kV11 dc11 pm11 an11 cd11 ct11), sl11⟩)
    (c11 : PySem.W.codeIn K cd11 "_law_all" = true)
    (k11 : PySem.W.keepIn K (.ref f11) = true)
    (a12 : PySem.W.nsIn K mainGlobals "_law_most" = some (some (.ref f12)))
    (l12 : K.lookup f12 = some ⟨oc12, od12, .func (PySem.W.fnOf "_law_most" "_law_most" (defArgs s__law_most) (defBody s__law_most) (defScope s__law_most) .none kV12 dc12 pm12 an12 cd12 ct12), sl12⟩)
    (c12 : PySem.W.codeIn K cd12 "_law_most" = true)
    (k12 : PySem.W.keepIn K (.ref f12) = true)
    (a13 : PySem.W.nsIn K mainGlobals "_law_said" = some (some (.ref f13)))
    (l13 : K.lookup f13 = some ⟨oc13, od13, .func (PySem.W.fnOf "_law_said" "_law_said" (defArgs s__law_said) (defBody s__law_said) (defScope s__law_said) .none kV13 dc13 pm13 an13 cd13 ct13), sl13⟩)
    (c13 : PySem.W.codeIn K cd13 "_law_said" = true)
    (k13 : PySem.W.keepIn K (.ref f13) = true)
    (a14 : PySem.W.nsIn K mainGlobals "law" = some (some (.ref f14)))
    (l14 : K.lookup f14 = some ⟨oc14, od14, .func (PySem.W.fnOf "law" "law" (defArgs s_law) (defBody s_law) (defScope s_law) .none kV14 dc14 pm14 an14 cd14 ct14), sl14⟩)
    (c14 : PySem.W.codeIn K cd14 "law" = true)
    (k14 : PySem.W.keepIn K (.ref f14) = true)
    (n_ValueError : PySem.W.nsIn K mainGlobals "ValueError" = some none)
    (n_all : PySem.W.nsIn K mainGlobals "all" = some none)
    (n_bool : PySem.W.nsIn K mainGlobals "bool" = some none)
    (n_enumerate : PySem.W.nsIn K mainGlobals "enumerate" = some none)
    (n_int : PySem.W.nsIn K mainGlobals "int" = some none)
    (n_isinstance : PySem.W.nsIn K mainGlobals "isinstance" = some none)
    (n_len : PySem.W.nsIn K mainGlobals "len" = some none)
    (n_list : PySem.W.nsIn K mainGlobals "list" = some none)
    (n_max : PySem.W.nsIn K mainGlobals "max" = some none)
    (n_min : PySem.W.nsIn K mainGlobals "min" = some none)
    (n_range : PySem.W.nsIn K mainGlobals "range" = some none)
    (n_set : PySem.W.nsIn K mainGlobals "set" = some none)
    (g_LETTERS : PySem.W.nsIn K mainGlobals "LETTERS" = some (some (.str (PySem.Str.ofString "abcdefghijklmnopqrstuvwxyz") t_LETTERS)))
    (g_MOST : PySem.W.nsIn K mainGlobals "MOST" = some (some (.int 200 t_MOST)))
    (xx_BadArms : PySem.W.excIn K e_cBA [.type "ValueError", .type "Exception", .type "BaseException", .type "object"] "ValueError.__new__" = true)
    (xk_BadArms : PySem.W.keepIn K (.ref e_cBA) = true)
    (xs_BadArms : PySem.W.subIn K (.ref e_cBA) (.type "BaseException") = some true)
    (xt_BadArms : PySem.W.typeIn K (.ref e_cBA) = some (.type "type"))
    (xx_NoText : PySem.W.excIn K e_cNT [.type "ValueError", .type "Exception", .type "BaseException", .type "object"] "ValueError.__new__" = true)
    (xk_NoText : PySem.W.keepIn K (.ref e_cNT) = true)
    (xs_NoText : PySem.W.subIn K (.ref e_cNT) (.type "BaseException") = some true)
    (xt_NoText : PySem.W.typeIn K (.ref e_cNT) = some (.type "type"))
    (sn : PySem.W.specialIn K (.builtin "object.__class__") "__get__" = some (some (.builtin "getset_descriptor.__get__")))
    (st : PySem.W.takesIn K (.builtin "object.__class__") = some true)
    (yg_NoText : PySem.W.findIn K (.ref e_cNT) "__getattribute__" = some (some (.builtin "BaseException.__getattribute__")))
    (yk_NoText : PySem.W.findIn K (.ref e_cNT) "__getattr__" = some none)
    (ys_NoText : PySem.W.subIn K (.ref e_cNT) (.type "BaseException") = some true)
    (yd_NoText : PySem.W.hasDictIn K e_cNT = true)
    (ya_NoText : PySem.W.findIn K (.ref e_cNT) "__class__" = some (some (.builtin "object.__class__")))
    (ym_NoText : PySem.W.mroIn K e_cNT (.type "object") = some true)
    (yx_NoText : PySem.W.subIn K (.ref e_cNT) (.ref e_cME) = some true)
    (yv_NoText : PySem.W.subIn K (.ref e_cNT) (.type "ValueError") = some true)
    (y_NoText_cBT : PySem.W.subIn K (.ref e_cNT) (.ref e_cBT) = some false)
    (d_NoText_cBT : (Value.ref e_cNT == Value.ref e_cBT) = false)
    (y_NoText_cBL : PySem.W.subIn K (.ref e_cNT) (.ref e_cBL) = some false)
    (d_NoText_cBL : (Value.ref e_cNT == Value.ref e_cBL) = false)
    (y_NoText_cBW : PySem.W.subIn K (.ref e_cNT) (.ref e_cBW) = some false)
    (d_NoText_cBW : (Value.ref e_cNT == Value.ref e_cBW) = false)
    (y_NoText_cBA : PySem.W.subIn K (.ref e_cNT) (.ref e_cBA) = some false)
    (d_NoText_cBA : (Value.ref e_cNT == Value.ref e_cBA) = false)
    (y_NoText_cNP : PySem.W.subIn K (.ref e_cNT) (.ref e_cNP) = some false)
    (d_NoText_cNP : (Value.ref e_cNT == Value.ref e_cNP) = false)
    (y_NoText_cFu : PySem.W.subIn K (.ref e_cNT) (.ref e_cFu) = some false)
    (d_NoText_cFu : (Value.ref e_cNT == Value.ref e_cFu) = false)
    (me1 : PySem.W.subIn K (.ref e_cME) (.type "BaseException") = some true)
    (me2 : PySem.W.hasDictIn K e_cME = true)
    (me3 : PySem.W.typeIn K (.ref e_cME) = some (.type "type"))
    (is_cBT : PySem.W.isClsIn K e_cBT = true)
    (it_cBT : PySem.W.typeIn K (.ref e_cBT) = some (.type "type"))
    (is_cBL : PySem.W.isClsIn K e_cBL = true)
    (it_cBL : PySem.W.typeIn K (.ref e_cBL) = some (.type "type"))
    (is_cBW : PySem.W.isClsIn K e_cBW = true)
    (it_cBW : PySem.W.typeIn K (.ref e_cBW) = some (.type "type"))
    (is_cBA : PySem.W.isClsIn K e_cBA = true)
    (it_cBA : PySem.W.typeIn K (.ref e_cBA) = some (.type "type"))
    (is_cNT : PySem.W.isClsIn K e_cNT = true)
    (it_cNT : PySem.W.typeIn K (.ref e_cNT) = some (.type "type"))
    (is_cNP : PySem.W.isClsIn K e_cNP = true)
    (it_cNP : PySem.W.typeIn K (.ref e_cNP) = some (.type "type"))
    (is_cFu : PySem.W.isClsIn K e_cFu = true)
    (it_cFu : PySem.W.typeIn K (.ref e_cFu) = some (.type "type"))
    (pg_Groups : PySem.W.plainGet K e_cGroups Str.empty = true)
    (hd_Groups : PySem.W.hasDictIn K e_cGroups = true)
    (po_Groups : PySem.W.plainOver K e_cGroups = true)
    (sa_Groups : PySem.W.findIn K (.ref e_cGroups) "__setattr__" = some (some (.builtin "object.__setattr__")))
    (mk_Groups : PySem.W.makesIn K e_cGroups = true)
    (kc_Groups : PySem.W.keepIn K (.ref e_cGroups) = true)
    (na_Groups_first : PySem.W.findIn K (.ref e_cGroups) "first" = some none)
    : ∃ fd : FuncData, (∀ (s : Shared) (v : Value), BindsTo s fd ⟨[v], []⟩ [("_law_script", v)]) ∧ ∀ base : Heap, K.In base → base.Ns mainGlobals mg → FnOk l.prog w K mg base CX0 6 fa fd ["_law_script"] (spL0 K) := by
  have e := hfa.symm.trans (PySem.W.mg_of X G a14)
  cases e
  have W : Wd (⟨K, e_cME, e_cBT, e_cBL, e_cBW, e_cBA, e_cNT, e_cNP, e_cFu, 0, e_cGroups⟩ : Ad) mg := { n_ValueError := PySem.W.mg_none_of X G n_ValueError, n_all := PySem.W.mg_none_of X G n_all, n_bool := PySem.W.mg_none_of X G n_bool, n_enumerate := PySem.W.mg_none_of X G n_enumerate, n_int := PySem.W.mg_none_of X G n_int, n_isinstance := PySem.W.mg_none_of X G n_isinstance, n_len := PySem.W.mg_none_of X G n_len, n_list := PySem.W.mg_none_of X G n_list, n_max := PySem.W.mg_none_of X G n_max, n_min := PySem.W.mg_none_of X G n_min, n_range := PySem.W.mg_none_of X G n_range, n_set := PySem.W.mg_none_of X G n_set, g_LETTERS := ⟨t_LETTERS, (PySem.W.mg_of X G g_LETTERS).trans (by rw [show PySem.Str.ofString "abcdefghijklmnopqrstuvwxyz" = T letters by decide +kernel])⟩, g_MOST := ⟨t_MOST, PySem.W.mg_of X G g_MOST⟩, g_MirrorError := PySem.W.mg_of X G g_MirrorError, g_BadText := PySem.W.mg_of X G g_BadText, g_BadLetter := PySem.W.mg_of X G g_BadLetter, g_BadWord := PySem.W.mg_of X G g_BadWord, g_BadArms := PySem.W.mg_of X G g_BadArms, g_NoText := PySem.W.mg_of X G g_NoText, g_NoPlace := PySem.W.mg_of X G g_NoPlace, g_Full := PySem.W.mg_of X G g_Full, x_BadArms := ⟨PySem.W.mg_of X G g_BadArms, xx_BadArms, xk_BadArms, xs_BadArms, xt_BadArms⟩, x_NoText := ⟨PySem.W.mg_of X G g_NoText, xx_NoText, xk_NoText, xs_NoText, xt_NoText⟩, k_NoText := ⟨⟨yg_NoText, yk_NoText, ys_NoText, yd_NoText, ya_NoText, sn, st, ym_NoText⟩, PySem.W.exm_ref me1 me2 me3 yx_NoText, kit_ve yv_NoText, kit_cls is_cBT it_cBT y_NoText_cBT d_NoText_cBT, kit_cls is_cBL it_cBL y_NoText_cBL d_NoText_cBL, kit_cls is_cBW it_cBW y_NoText_cBW d_NoText_cBW, kit_cls is_cBA it_cBA y_NoText_cBA d_NoText_cBA, kit_self, kit_cls is_cNP it_cNP y_NoText_cNP d_NoText_cNP, kit_cls is_cFu it_cFu y_NoText_cFu d_NoText_cFu⟩, cl_Groups := ⟨⟨pg_Groups, hd_Groups, po_Groups, sa_Groups⟩, na_Groups_first⟩ }
  refine ⟨PySem.W.fnOf "law" "law" (defArgs s_law) (defBody s_law) (defScope s_law) .none kV14 dc14 pm14 an14 cd14 ct14, fun s v => .of_eq rfl, fun base _ _ => ?_⟩
  have F0 := fun_mk (st := s_is_whole) l0 c0 k0
  have O0 := ok_is_whole (P := l.prog) (w := w) (A := ⟨K, e_cME, e_cBT, e_cBL, e_cBW, e_cBA, e_cNT, e_cNP, e_cFu, 0, e_cGroups⟩) (mg := mg) (base := base) F0 W 
  have b0 := F0.binds (ps := ["thing"]) fun _ _ _ _ _ _ us hl => match us, hl with | [_], _ => rfl
  have C0 : Cal l.prog w K mg base CX0 1 "is_whole" ["thing"] (sp_is_whole ⟨K, e_cME, e_cBT, e_cBL, e_cBW, e_cBA, e_cNT, e_cNP, e_cFu, 0, e_cGroups⟩) := ⟨⟨f0, _, O0, PySem.W.mg_of X G a0, k0, b0⟩⟩
  have F1 := fun_mk (st := s_most_arm) l1 c1 k1
  have O1 := ok_most_arm (P := l.prog) (w := w) (A := ⟨K, e_cME, e_cBT, e_cBL, e_cBW, e_cBA, e_cNT, e_cNP, e_cFu, 0, e_cGroups⟩) (mg := mg) (base := base) F1 W 
  have b1 := F1.binds (ps := ["middle", "many"]) fun _ _ _ _ _ _ us hl => match us, hl with | [_, _], _ => rfl
  have C1 : Cal l.prog w K mg base CX0 1 "most_arm" ["middle", "many"] (sp_most_arm ⟨K, e_cME, e_cBT, e_cBL, e_cBW, e_cBA, e_cNT, e_cNP, e_cFu, 0, e_cGroups⟩) := ⟨⟨f1, _, O1, PySem.W.mg_of X G a1, k1, b1⟩⟩
  have F2 := fun_mk (st := s_is_arms) l2 c2 k2
  have O2 := ok_is_arms (P := l.prog) (w := w) (A := ⟨K, e_cME, e_cBT, e_cBL, e_cBW, e_cBA, e_cNT, e_cNP, e_cFu, 0, e_cGroups⟩) (mg := mg) (base := base) F2 W C0 C1
  have b2 := F2.binds (ps := ["thing"]) fun _ _ _ _ _ _ us hl => match us, hl with | [_], _ => rfl
  have C2 : Cal l.prog w K mg base CX0 2 "is_arms" ["thing"] (sp_is_arms ⟨K, e_cME, e_cBT, e_cBL, e_cBW, e_cBA, e_cNT, e_cNP, e_cFu, 0, e_cGroups⟩) := ⟨⟨f2, _, O2, PySem.W.mg_of X G a2, k2, b2⟩⟩
  have F3 := fun_mk (st := s_Groups_init) l3 c3 k3
  have O3 := ok_Groups_init (P := l.prog) (w := w) (A := ⟨K, e_cME, e_cBT, e_cBL, e_cBW, e_cBA, e_cNT, e_cNP, e_cFu, 0, e_cGroups⟩) (mg := mg) (base := base) F3 W 
  have b3 := F3.binds (ps := ["self", "many"]) fun _ _ _ _ _ _ us hl => match us, hl with | [_, _], _ => rfl
  have C3 : Mkc l.prog w K mg base CX0 1 "Groups" ["self", "many"] e_cGroups (sp_Groups_init ⟨K, e_cME, e_cBT, e_cBL, e_cBW, e_cBA, e_cNT, e_cNP, e_cFu, 0, e_cGroups⟩) := ⟨⟨f3, _, O3, PySem.W.mg_of X G g_Groups, ⟨mk_Groups, a3, i3, kc_Groups⟩, b3⟩⟩
  have F4 := fun_mk (st := s_Groups_root) l4 c4 k4
  have O4 := ok_Groups_root (P := l.prog) (w := w) (A := ⟨K, e_cME, e_cBT, e_cBL, e_cBW, e_cBA, e_cNT, e_cNP, e_cFu, 0, e_cGroups⟩) (mg := mg) (base := base) F4 W 
  have b4 := F4.binds (ps := ["self", "place"]) fun _ _ _ _ _ _ us hl => match us, hl with | [_, _], _ => rfl
  have C4 : Mcal l.prog w K mg base CX0 1 e_cGroups "root" ["self", "place"] (sp_Groups_root ⟨K, e_cME, e_cBT, e_cBL, e_cBW, e_cBA, e_cNT, e_cNP, e_cFu, 0, e_cGroups⟩) := ⟨⟨f4, _, O4, ⟨a4, i4, k4⟩, b4⟩⟩
  have F5 := fun_mk (st := s_Groups_tie) l5 c5 k5
  have O5 := ok_Groups_tie (P := l.prog) (w := w) (A := ⟨K, e_cME, e_cBT, e_cBL, e_cBW, e_cBA, e_cNT, e_cNP, e_cFu, 0, e_cGroups⟩) (mg := mg) (base := base) F5 W C4
  have b5 := F5.binds (ps := ["self", "one", "other"]) fun _ _ _ _ _ _ us hl => match us, hl with | [_, _, _], _ => rfl
  have C5 : Mcal l.prog w K mg base CX0 2 e_cGroups "tie" ["self", "one", "other"] (sp_Groups_tie ⟨K, e_cME, e_cBT, e_cBL, e_cBW, e_cBA, e_cNT, e_cNP, e_cFu, 0, e_cGroups⟩) := ⟨⟨f5, _, O5, ⟨a5, i5, k5⟩, b5⟩⟩
  have F6 := fun_mk (st := s_tied) l6 c6 k6
  have O6 := ok_tied (P := l.prog) (w := w) (A := ⟨K, e_cME, e_cBT, e_cBL, e_cBW, e_cBA, e_cNT, e_cNP, e_cFu, 0, e_cGroups⟩) (mg := mg) (base := base) F6 W C3 C5
  have b6 := F6.binds (ps := ["arms", "many"]) fun _ _ _ _ _ _ us hl => match us, hl with | [_, _], _ => rfl
  have C6 : Cal l.prog w K mg base CX0 3 "tied" ["arms", "many"] (sp_tied ⟨K, e_cME, e_cBT, e_cBL, e_cBW, e_cBA, e_cNT, e_cNP, e_cFu, 0, e_cGroups⟩) := ⟨⟨f6, _, O6, PySem.W.mg_of X G a6, k6, b6⟩⟩
  have F7 := fun_mk (st := s_foes_of) l7 c7 k7
  have O7 := ok_foes_of (P := l.prog) (w := w) (A := ⟨K, e_cME, e_cBT, e_cBL, e_cBW, e_cBA, e_cNT, e_cNP, e_cFu, 0, e_cGroups⟩) (mg := mg) (base := base) F7 W C4
  have b7 := F7.binds (ps := ["arms", "many", "groups"]) fun _ _ _ _ _ _ us hl => match us, hl with | [_, _, _], _ => rfl
  have C7 : Cal l.prog w K mg base (L2.CX l.prog w) 2 "foes_of" ["arms", "many", "groups"] (sp_foes_of ⟨K, e_cME, e_cBT, e_cBL, e_cBW, e_cBA, e_cNT, e_cNP, e_cFu, 0, e_cGroups⟩) := ⟨⟨f7, _, O7, PySem.W.mg_of X G a7, k7, b7⟩⟩
  have F8 := fun_mk (st := s_least_text) l8 c8 k8
  have O8 := ok_least_text (P := l.prog) (w := w) (A := ⟨K, e_cME, e_cBT, e_cBL, e_cBW, e_cBA, e_cNT, e_cNP, e_cFu, 0, e_cGroups⟩) (mg := mg) (base := base) F8 W C2 C4 C6 C7
  have b8 := F8.binds (ps := ["arms"]) fun _ _ _ _ _ _ us hl => match us, hl with | [_], _ => rfl
  have C8 : Cal l.prog w K mg base (L2.CX l.prog w) 4 "least_text" ["arms"] (sp_least_text ⟨K, e_cME, e_cBT, e_cBL, e_cBW, e_cBA, e_cNT, e_cNP, e_cFu, 0, e_cGroups⟩) := ⟨⟨f8, _, O8, PySem.W.mg_of X G a8, k8, b8⟩⟩
  have F9 := fun_mk (st := s__law_draw) l9 c9 k9
  have O9 := ok__law_draw (P := l.prog) (w := w) (A := ⟨K, e_cME, e_cBT, e_cBL, e_cBW, e_cBA, e_cNT, e_cNP, e_cFu, 0, e_cGroups⟩) (mg := mg) (base := base) F9 W 
  have b9 := F9.binds (ps := ["_law_script", "_law_k"]) fun _ _ _ _ _ _ us hl => match us, hl with | [_, _], _ => rfl
  have C9 : Cal l.prog w K mg base CX0 1 "_law_draw" ["_law_script", "_law_k"] (sp__law_draw ⟨K, e_cME, e_cBT, e_cBL, e_cBW, e_cBA, e_cNT, e_cNP, e_cFu, 0, e_cGroups⟩) := ⟨⟨f9, _, O9, PySem.W.mg_of X G a9, k9, b9⟩⟩
  have F10 := fun_mk (st := s__law_arms) l10 c10 k10
  have O10 := ok__law_arms (P := l.prog) (w := w) (A := ⟨K, e_cME, e_cBT, e_cBL, e_cBW, e_cBA, e_cNT, e_cNP, e_cFu, 0, e_cGroups⟩) (mg := mg) (base := base) F10 W 
  have b10 := F10.binds (ps := ["_law_text"]) fun _ _ _ _ _ _ us hl => match us, hl with | [_], _ => rfl
  have C10 : Cal l.prog w K mg base CX0 1 "_law_arms" ["_law_text"] (sp__law_arms ⟨K, e_cME, e_cBT, e_cBL, e_cBW, e_cBA, e_cNT, e_cNP, e_cFu, 0, e_cGroups⟩) := ⟨⟨f10, _, O10, PySem.W.mg_of X G a10, k10, b10⟩⟩
  have F11 := fun_mk (st := s__law_all) l11 c11 k11
  have O11 := ok__law_all (P := l.prog) (w := w) (A := ⟨K, e_cME, e_cBT, e_cBL, e_cBW, e_cBA, e_cNT, e_cNP, e_cFu, 0, e_cGroups⟩) (mg := mg) (base := base) F11 W 
  have b11 := F11.binds (ps := ["_law_many"]) fun _ _ _ _ _ _ us hl => match us, hl with | [_], _ => rfl
  have C11 : Cal l.prog w K mg base CX0 1 "_law_all" ["_law_many"] (sp__law_all ⟨K, e_cME, e_cBT, e_cBL, e_cBW, e_cBA, e_cNT, e_cNP, e_cFu, 0, e_cGroups⟩) := ⟨⟨f11, _, O11, PySem.W.mg_of X G a11, k11, b11⟩⟩
  have F12 := fun_mk (st := s__law_most) l12 c12 k12
  have O12 := ok__law_most (P := l.prog) (w := w) (A := ⟨K, e_cME, e_cBT, e_cBL, e_cBW, e_cBA, e_cNT, e_cNP, e_cFu, 0, e_cGroups⟩) (mg := mg) (base := base) F12 W 
  have b12 := F12.binds (ps := ["_law_middle", "_law_many"]) fun _ _ _ _ _ _ us hl => match us, hl with | [_, _], _ => rfl
  have C12 : Cal l.prog w K mg base CX0 1 "_law_most" ["_law_middle", "_law_many"] (sp__law_most ⟨K, e_cME, e_cBT, e_cBL, e_cBW, e_cBA, e_cNT, e_cNP, e_cFu, 0, e_cGroups⟩) := ⟨⟨f12, _, O12, PySem.W.mg_of X G a12, k12, b12⟩⟩
  have F13 := fun_mk (st := s__law_said) l13 c13 k13
  have O13 := ok__law_said (P := l.prog) (w := w) (A := ⟨K, e_cME, e_cBT, e_cBL, e_cBW, e_cBA, e_cNT, e_cNP, e_cFu, 0, e_cGroups⟩) (mg := mg) (base := base) F13 W C8
  have b13 := F13.binds (ps := ["_law_reach"]) fun _ _ _ _ _ _ us hl => match us, hl with | [_], _ => rfl
  have C13 : Cal l.prog w K mg base CX0 5 "_law_said" ["_law_reach"] (sp__law_said ⟨K, e_cME, e_cBT, e_cBL, e_cBW, e_cBA, e_cNT, e_cNP, e_cFu, 0, e_cGroups⟩) := ⟨⟨f13, _, O13, PySem.W.mg_of X G a13, k13, b13⟩⟩
  have F14 := fun_mk (st := s_law) l14 c14 k14
  have O14 := ok_law (P := l.prog) (w := w) (A := ⟨K, e_cME, e_cBT, e_cBL, e_cBW, e_cBA, e_cNT, e_cNP, e_cFu, 0, e_cGroups⟩) (mg := mg) (base := base) F14 W C9 C10 C11 C12 C13
  exact O14
end Mw
open PySem PySem.W PyProof.Rows
set_option maxRecDepth 100000 in
set_option maxHeartbeats 0 in
theorem PySem.Challenge.cw_mirrorwords_k04_whole_least_of_all_texts_holds : PySem.Challenge.rw_mirrorwords_k04_whole_least_of_all_texts.Holds := by
  w_on; o_law; k_head; (case hw => w_witness2)
  k_fill
  refine L2.walk_of (l := PySem.Challenge.rw_mirrorwords_k04_whole_least_of_all_texts) (n := 63) (k := 6) (x := "_law_script") (CX := fun _ => L2.CX0) (sp := fun w => Mw.spL0 _) rfl (by decide) rfl ⟨rfl, by decide, by decide⟩ (fun w h Y => PySem.W.kIn_of Y) ?F (fun _ _ a ns hl _ hS => ⟨a, ns, rfl, hS, hl, fun _ => rfl⟩) (fun _ _ _ _ _ h => h)
  case F =>
    intro w mg fa h KX G hmg
    refine' Mw.all_mk KX G hmg ?g_MirrorError ?g_BadText ?g_BadLetter ?g_BadWord ?g_BadArms ?g_NoText ?g_NoPlace ?g_Full ?g_Groups ?a0 ?l0 ?c0 ?k0 ?a1 ?l1 ?c1 ?k1 ?a2 ?l2 ?c2 ?k2 ?a3 ?i3 ?l3 ?c3 ?k3 ?a4 ?i4 ?l4 ?c4 ?k4 ?a5 ?i5 ?l5 ?c5 ?k5 ?a6 ?l6 ?c6 ?k6 ?a7 ?l7 ?c7 ?k7 ?a8 ?l8 ?c8 ?k8 ?a9 ?l9 ?c9 ?k9 ?a10 ?l10 ?c10 ?k10 ?a11 ?l11 ?c11 ?k11 ?a12 ?l12 ?c12 ?k12 ?a13 ?l13 ?c13 ?k13 ?a14 ?l14 ?c14 ?k14 ?n_ValueError ?n_all ?n_bool ?n_enumerate ?n_int ?n_isinstance ?n_len ?n_list ?n_max ?n_min ?n_range ?n_set ?g_LETTERS ?g_MOST ?xx_BadArms ?xk_BadArms ?xs_BadArms ?xt_BadArms ?xx_NoText ?xk_NoText ?xs_NoText ?xt_NoText ?sn ?st ?yg_NoText ?yk_NoText ?ys_NoText ?yd_NoText ?ya_NoText ?ym_NoText ?yx_NoText ?yv_NoText ?y_NoText_cBT ?d_NoText_cBT ?y_NoText_cBL ?d_NoText_cBL ?y_NoText_cBW ?d_NoText_cBW ?y_NoText_cBA ?d_NoText_cBA ?y_NoText_cNP ?d_NoText_cNP ?y_NoText_cFu ?d_NoText_cFu ?me1 ?me2 ?me3 ?is_cBT ?it_cBT ?is_cBL ?it_cBL ?is_cBW ?it_cBW ?is_cBA ?it_cBA ?is_cNT ?it_cNT ?is_cNP ?it_cNP ?is_cFu ?it_cFu ?pg_Groups ?hd_Groups ?po_Groups ?sa_Groups ?mk_Groups ?kc_Groups ?na_Groups_first
    (case g_MirrorError => k_is)
    (case g_BadText => k_is)
    (case g_BadLetter => k_is)
    (case g_BadWord => k_is)
    (case g_BadArms => k_is)
    (case g_NoText => k_is)
    (case g_NoPlace => k_is)
    (case g_Full => k_is)
    (case g_Groups => k_is)
    (case a0 => k_is)
    (case l0 => k_is)
    (case c0 => k_is)
    (case k0 => k_is)
    (case a1 => k_is)
    (case l1 => k_is)
    (case c1 => k_is)
    (case k1 => k_is)
    (case a2 => k_is)
    (case l2 => k_is)
    (case c2 => k_is)
    (case k2 => k_is)
    (case a3 => k_is)
    (case i3 => k_is)
    (case l3 => k_is)
    (case c3 => k_is)
    (case k3 => k_is)
    (case a4 => k_is)
    (case i4 => k_is)
    (case l4 => k_is)
    (case c4 => k_is)
    (case k4 => k_is)
    (case a5 => k_is)
    (case i5 => k_is)
    (case l5 => k_is)
    (case c5 => k_is)
    (case k5 => k_is)
    (case a6 => k_is)
    (case l6 => k_is)
    (case c6 => k_is)
    (case k6 => k_is)
    (case a7 => k_is)
    (case l7 => k_is)
    (case c7 => k_is)
    (case k7 => k_is)
    (case a8 => k_is)
    (case l8 => k_is)
    (case c8 => k_is)
    (case k8 => k_is)
    (case a9 => k_is)
    (case l9 => k_is)
    (case c9 => k_is)
    (case k9 => k_is)
    (case a10 => k_is)
    (case l10 => k_is)
    (case c10 => k_is)
    (case k10 => k_is)
    (case a11 => k_is)
    (case l11 => k_is)
    (case c11 => k_is)
    (case k11 => k_is)
    (case a12 => k_is)
    (case l12 => k_is)
    (case c12 => k_is)
    (case k12 => k_is)
    (case a13 => k_is)
    (case l13 => k_is)
    (case c13 => k_is)
    (case k13 => k_is)
    (case a14 => k_is)
    (case l14 => k_is)
    (case c14 => k_is)
    (case k14 => k_is)
    (case n_ValueError => k_is)
    (case n_all => k_is)
    (case n_bool => k_is)
    (case n_enumerate => k_is)
    (case n_int => k_is)
    (case n_isinstance => k_is)
    (case n_len => k_is)
    (case n_list => k_is)
    (case n_max => k_is)
    (case n_min => k_is)
    (case n_range => k_is)
    (case n_set => k_is)
    (case g_LETTERS => k_is)
    (case g_MOST => k_is)
    (case xx_BadArms => k_exc)
    (case xk_BadArms => k_is)
    (case xs_BadArms => k_is)
    (case xt_BadArms => k_is)
    (case xx_NoText => k_exc)
    (case xk_NoText => k_is)
    (case xs_NoText => k_is)
    (case xt_NoText => k_is)
    (case sn => k_is)
    (case st => k_is)
    (case yg_NoText => k_is)
    (case yk_NoText => k_is)
    (case ys_NoText => k_is)
    (case yd_NoText => k_is)
    (case ya_NoText => k_is)
    (case ym_NoText => k_is)
    (case yx_NoText => k_is)
    (case yv_NoText => k_is)
    (case y_NoText_cBT => k_is)
    (case d_NoText_cBT => first | rfl | decide)
    (case y_NoText_cBL => k_is)
    (case d_NoText_cBL => first | rfl | decide)
    (case y_NoText_cBW => k_is)
    (case d_NoText_cBW => first | rfl | decide)
    (case y_NoText_cBA => k_is)
    (case d_NoText_cBA => first | rfl | decide)
    (case y_NoText_cNP => k_is)
    (case d_NoText_cNP => first | rfl | decide)
    (case y_NoText_cFu => k_is)
    (case d_NoText_cFu => first | rfl | decide)
    (case me1 => k_is)
    (case me2 => k_is)
    (case me3 => k_is)
    (case is_cBT => k_is)
    (case it_cBT => k_is)
    (case is_cBL => k_is)
    (case it_cBL => k_is)
    (case is_cBW => k_is)
    (case it_cBW => k_is)
    (case is_cBA => k_is)
    (case it_cBA => k_is)
    (case is_cNT => k_is)
    (case it_cNT => k_is)
    (case is_cNP => k_is)
    (case it_cNP => k_is)
    (case is_cFu => k_is)
    (case it_cFu => k_is)
    (case pg_Groups => k_is)
    (case hd_Groups => k_is)
    (case po_Groups => k_is)
    (case sa_Groups => k_is)
    (case mk_Groups => k_is)
    (case kc_Groups => k_is)
    (case na_Groups_first => k_is)
