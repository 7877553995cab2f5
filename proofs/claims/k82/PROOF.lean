import PyProof.Rows.All
import Wide.All
import OpenK.AllK
import Wide.FinOn
import HandS.ForExc
import HandS.Text
import KE.KExcSuper
import HandS.ExcInit
import HandS.Defaults
import HandS.Wide
import HandS.IsInst
import HandS.StrMore
import HandS.Iter
import HandS.Comp
import HandS.ExcOwn
import HandS.Flow
import PySem.Challenge.RW_bestchance_k82_texts_of_plain_values
import PyProof.Rows.StrOr
import HandS.Property
import HandS.HeadHook1
import KE.KIntText
import KE.IntTextLaws
import PyProof.Rows.RuleB_pow
import HandS.ExcField
import HandS.HeadEnd
import PyProof.ReprRoads
import HandS.WordsExc
import HandS.TupLe
import HandS.TryOnly
import KE.KStateDown
import Lean
import HandS.Head0
import HandS.Head1
import HandS.Head2
import HandS.HeadHook2
import HandS.HeadNt
set_option Elab.async false
set_option linter.all false
set_option maxRecDepth 100000
set_option maxHeartbeats 1000000
/-! Plain data, its text, the reading of texts: plain Lean, no program in sight. -/
namespace T82
open PySem L2 TL

def isSign (c : Nat) : Bool := (decide (97 ≤ c) && decide (c ≤ 122)) || decide (c = 32)
def isDig (c : Nat) : Bool := decide (48 ≤ c) && decide (c ≤ 57)
def intT (i : Int) : List Nat := if i < 0 then 45 :: numL i.natAbs else numL i.natAbs

mutual
def txt : PyData → List Nat
  | .none => [110, 111, 110, 101]
  | .int i => intT i
  | .str x => 34 :: (tl x ++ [34])
  | .tuple ds => 40 :: (joinL [32] (txtAll ds) ++ [41])
  | .bool _ => []
  | .list _ => []
  | .dict _ => []
def txtAll : List PyData → List (List Nat)
  | [] => []
  | d :: ds => txt d :: txtAll ds
end
theorem txtAll_map : ∀ ds : List PyData, txtAll ds = ds.map txt
  | [] => by rw [txtAll]; rfl
  | d :: ds => by rw [txtAll, txtAll_map ds]; rfl

mutual
def plain : Nat → PyData → Bool
  | _, .none => true
  | _, .int i => decide (i.natAbs < 10 ^ 4000)
  | _, .str x => decide (x.length ≤ 4000) && (tl x).all isSign
  | n, .tuple ds => decide (0 < n) && plainAll (n - 1) ds
  | _, .bool _ => false
  | _, .list _ => false
  | _, .dict _ => false
def plainAll : Nat → List PyData → Bool
  | _, [] => true
  | n, d :: ds => plain n d && plainAll n ds
end
theorem plainAll_all (n : Nat) : ∀ ds : List PyData, plainAll n ds = ds.all (plain n)
  | [] => by rw [plainAll]; rfl
  | d :: ds => by rw [plainAll, plainAll_all n ds]; rfl

/-! ### the reader -/
/-- the value of an integer's text, if its digits ds (behind a minus or not) are one's -/
def goodDigs (neg : Bool) (ds : List Nat) : Bool := !ds.isEmpty && (decide (ds.length ≤ 4000) && !(ds.head? == some 48 && (neg || decide (1 < ds.length))))
def digInt (neg : Bool) (ds : List Nat) : Int := if neg then -((NumText.digitsVal ds : Nat) : Int) else ((NumText.digitsVal ds : Nat) : Int)
def readWhole (s : List Nat) : Option (PyData × List Nat) :=
  let neg := s.head? == some 45
  let t := if neg then s.tail else s
  let ds := t.takeWhile isDig
  if goodDigs neg ds then some (.int (digInt neg ds), t.dropWhile isDig) else none
def readStr (s : List Nat) : Option (PyData × List Nat) :=
  match s.dropWhile isSign with
  | 34 :: r => some (.str ⟨(s.takeWhile isSign).toArray⟩, r)
  | _ => none
def noneT : List Nat := [110, 111, 110, 101]
mutual
def parse : Nat → List Nat → Option (PyData × List Nat)
  | 0, _ => none
  | f + 1, s =>
    if pre noneT s then some (.none, s.drop 4) else
    if s.head? = some 34 then readStr s.tail else
    if s.head? = some 40 then (members f true s.tail).map fun p => (.tuple p.1, p.2) else readWhole s
def members : Nat → Bool → List Nat → Option (List PyData × List Nat)
  | 0, _, _ => none
  | f + 1, first, s =>
    if s.head? = some 41 then some ([], s.tail) else
    if !first && !(s.head? == some 32) then none else
    match parse f (if first then s else s.tail) with
    | none => none
    | some (d, r) => (members f false r).map fun p => (d :: p.1, p.2)
end
theorem parse_zero (s : List Nat) : parse 0 s = none := by rw [parse]
theorem members_zero (b : Bool) (s : List Nat) : members 0 b s = none := by rw [members]

theorem takeDrop (p : Nat → Bool) : ∀ l : List Nat, l.takeWhile p ++ l.dropWhile p = l
  | [] => rfl
  | c :: r => by
    rw [List.takeWhile_cons, List.dropWhile_cons]
    cases p c with
    | true => simp [takeDrop p r]
    | false => simp
theorem len_dropW (p : Nat → Bool) (l : List Nat) : (l.dropWhile p).length ≤ l.length := by
  have h := congrArg List.length (takeDrop p l)
  rw [List.length_append] at h
  omega
/-- what is left is a shorter end of the text -/
def Sfx (r s : List Nat) : Prop := ∃ a, a ≠ [] ∧ s = a ++ r
theorem Sfx.lt {r s : List Nat} (h : Sfx r s) : r.length < s.length := by
  obtain ⟨a, ha, rfl⟩ := h
  cases a with
  | nil => exact absurd rfl ha
  | cons c a => simp; omega
theorem Sfx.trans {a b c : List Nat} (h : Sfx a b) (k : Sfx b c) : Sfx a c := by
  obtain ⟨x, hx, rfl⟩ := h
  obtain ⟨y, hy, rfl⟩ := k
  exact ⟨y ++ x, by simp [hy], by rw [List.append_assoc]⟩
theorem Sfx.cons {a b : List Nat} {c : Nat} (h : Sfx a b) : Sfx a (c :: b) := by
  obtain ⟨x, hx, rfl⟩ := h
  exact ⟨c :: x, by simp, rfl⟩
theorem sfx_tail {s : List Nat} {c : Nat} (h : s.head? = some c) : Sfx s.tail s ∧ s = c :: s.tail := by
  cases s with
  | nil => cases h
  | cons d s =>
    have e : d = c := by simpa using h
    subst e
    exact ⟨⟨[d], by simp, rfl⟩, rfl⟩
theorem pre_split {S s : List Nat} (h : pre S s = true) : s = S ++ s.drop S.length := by
  unfold pre at h
  have e := eq_of_beq h
  calc s = s.take S.length ++ s.drop S.length := (List.take_append_drop _ _).symm
    _ = S ++ s.drop S.length := by rw [e]
theorem readWhole_sfx {s r : List Nat} {d : PyData} (h : readWhole s = some (d, r)) : Sfx r s := by
  unfold readWhole at h
  by_cases hn : (s.head? == some 45) = true
  · have hs := (sfx_tail (by simpa using hn)).2
    simp only [hn, if_true] at h
    split at h
    · rename_i hg
      cases h
      refine ⟨45 :: s.tail.takeWhile isDig, by simp, ?_⟩
      conv => lhs; rw [hs]
      show 45 :: s.tail = 45 :: (s.tail.takeWhile isDig ++ s.tail.dropWhile isDig)
      rw [takeDrop]
    · cases h
  · have hn' : (s.head? == some 45) = false := by simpa using hn
    simp only [hn', Bool.false_eq_true, if_false] at h
    split at h
    · rename_i hg
      cases h
      refine ⟨s.takeWhile isDig, ?_, (takeDrop _ _).symm⟩
      intro e
      rw [e] at hg
      simp [goodDigs] at hg
    · cases h
theorem readStr_sfx {s r : List Nat} {d : PyData} (h : readStr s = some (d, r)) : Sfx r s := by
  unfold readStr at h
  split at h
  · rename_i q e
    cases h
    refine ⟨s.takeWhile isSign ++ [34], by simp, ?_⟩
    have := takeDrop isSign s
    rw [e] at this
    rw [List.append_assoc]
    exact this.symm
  · cases h
mutual
theorem parse_sfx : ∀ (f : Nat) {s r : List Nat} {d : PyData}, parse f s = some (d, r) → Sfx r s
  | 0, s, r, d, h => by rw [parse] at h; cases h
  | f + 1, s, r, d, h => by
    rw [parse] at h
    split at h
    · rename_i hp
      cases h
      exact ⟨noneT, by decide, pre_split hp⟩
    · split at h
      · rename_i h34
        obtain ⟨h1, h2⟩ := sfx_tail h34
        exact (readStr_sfx h).trans h1
      · split at h
        · rename_i h40
          obtain ⟨h1, h2⟩ := sfx_tail h40
          cases e : members f true s.tail with
          | none => rw [e] at h; cases h
          | some p =>
            rw [e] at h
            obtain ⟨ds, q⟩ := p
            cases h
            exact (members_sfx f e).trans h1
        · exact readWhole_sfx h
theorem members_sfx : ∀ (f : Nat) {b : Bool} {s r : List Nat} {ds : List PyData}, members f b s = some (ds, r) → Sfx r s
  | 0, b, s, r, d, h => by rw [members] at h; cases h
  | f + 1, b, s, r, d, h => by
    rw [members] at h
    split at h
    · rename_i h41
      cases h
      exact (sfx_tail h41).1
    · split at h
      · cases h
      · rename_i hb
        have base : Sfx (if b then s else s.tail) s ∨ (if b then s else s.tail) = s := by
          cases b with
          | true => exact .inr rfl
          | false =>
            refine .inl ?_
            have : s.head? = some 32 := by simpa using hb
            exact (sfx_tail this).1
        split at h
        · cases h
        · rename_i d1 r1 e1
          have h1 := parse_sfx f e1
          have h1' : Sfx r1 s := by
            rcases base with k | k
            · exact h1.trans k
            · rw [k] at h1; exact h1
          cases e : members f false r1 with
          | none => rw [e] at h; cases h
          | some p =>
            rw [e] at h
            obtain ⟨es, q⟩ := p
            cases h
            exact (members_sfx f e).trans h1'
end
/-! ### fuel -/
mutual
theorem parse_fuel : ∀ (f g : Nat) (s : List Nat), 2 * s.length + 1 ≤ f → 2 * s.length + 1 ≤ g → parse f s = parse g s
  | 0, _, s, h, _ => by omega
  | _, 0, s, _, h => by omega
  | f + 1, g + 1, s, hf, hg => by
    rw [parse, parse]
    split
    · rfl
    · split
      · rfl
      · split
        · rename_i h40
          have l := (sfx_tail h40).1.lt
          rw [members_fuel f g true s.tail (by omega) (by omega)]
        · rfl
theorem members_fuel : ∀ (f g : Nat) (b : Bool) (s : List Nat), 2 * s.length + 2 ≤ f → 2 * s.length + 2 ≤ g → members f b s = members g b s
  | 0, _, _, s, h, _ => by omega
  | _, 0, _, s, _, h => by omega
  | f + 1, g + 1, b, s, hf, hg => by
    rw [members, members]
    split
    · rfl
    · split
      · rfl
      · have lt : (if b then s else s.tail).length ≤ s.length := by
          cases b with
          | true => exact Nat.le_refl _
          | false => simp
        rw [parse_fuel f g _ (by omega) (by omega)]
        split
        · rfl
        · rename_i d r e
          have l := (parse_sfx g e).lt
          rw [members_fuel f g false r (by omega) (by omega)]
end
def read (s : List Nat) : Option (PyData × List Nat) := parse (2 * s.length + 1) s
def reads (b : Bool) (s : List Nat) : Option (List PyData × List Nat) := members (2 * s.length + 2) b s
theorem read_eq (s : List Nat) : read s = if pre noneT s then some (.none, s.drop 4) else
    if s.head? = some 34 then readStr s.tail else
    if s.head? = some 40 then (reads true s.tail).map fun p => (.tuple p.1, p.2) else readWhole s := by
  unfold read
  rw [parse]
  split
  · rfl
  · split
    · rfl
    · split
      · rename_i h40
        have l := (sfx_tail h40).1.lt
        unfold reads
        rw [members_fuel _ (2 * s.tail.length + 2) true s.tail (by omega) (by omega)]
      · rfl
theorem reads_eq (b : Bool) (s : List Nat) : reads b s = if s.head? = some 41 then some ([], s.tail) else
    if !b && !(s.head? == some 32) then none else
    match read (if b then s else s.tail) with
    | none => none
    | some (d, r) => (reads false r).map fun p => (d :: p.1, p.2) := by
  unfold reads
  rw [members]
  split
  · rfl
  · split
    · rfl
    · have lt : (if b then s else s.tail).length ≤ s.length := by
        cases b with
        | true => exact Nat.le_refl _
        | false => simp
      unfold read
      rw [parse_fuel _ (2 * (if b then s else s.tail).length + 1) _ (by omega) (by omega)]
      split
      · rfl
      · rename_i d r e
        have l := (parse_sfx _ e).lt
        rw [members_fuel _ (2 * r.length + 2) false r (by omega) (by omega)]
theorem read_sfx {s r : List Nat} {d : PyData} (h : read s = some (d, r)) : Sfx r s := parse_sfx _ h
theorem reads_sfx {b : Bool} {s r : List Nat} {ds : List PyData} (h : reads b s = some (ds, r)) : Sfx r s := members_sfx _ h
end T82

set_option Elab.async false
set_option linter.all false
set_option maxRecDepth 100000
set_option maxHeartbeats 1000000
namespace T82
open PySem L2 TL
/-! ### texts are read back -/
theorem pre_none (r : List Nat) : pre noneT (noneT ++ r) = true := by
  unfold pre
  rw [List.take_left' rfl]
  exact beq_self_eq_true _
theorem pre_no {c : Nat} {l : List Nat} (h : c ≠ 110) : pre noneT (c :: l) = false := by
  unfold pre
  show (c :: l.take 3 == [110, 111, 110, 101]) = false
  rw [show ([110, 111, 110, 101] : List Nat) = 110 :: [111, 110, 101] from rfl]
  apply Bool.eq_false_iff.mpr
  intro e
  have e2 := eq_of_beq e
  injection e2 with e3 _
  exact h e3
theorem takeW_app (p : Nat → Bool) {a b : List Nat} (ha : a.all p = true) (hb : ∀ c, b.head? = some c → p c = false) : (a ++ b).takeWhile p = a ∧ (a ++ b).dropWhile p = b := by
  induction a with
  | nil =>
    cases b with
    | nil => exact ⟨rfl, rfl⟩
    | cons c b =>
      have hc := hb c rfl
      rw [List.nil_append, List.takeWhile_cons, List.dropWhile_cons, hc]
      exact ⟨rfl, rfl⟩
  | cons c a ih =>
    rw [List.all_cons, Bool.and_eq_true] at ha
    obtain ⟨h1, h2⟩ := ih ha.2
    rw [List.cons_append, List.takeWhile_cons, List.dropWhile_cons, ha.1, if_pos rfl, if_pos rfl, h1, h2]
    exact ⟨rfl, rfl⟩
theorem isDig_of {c : Nat} (h : 48 ≤ c ∧ c ≤ 57) : isDig c = true := by
  unfold isDig
  rw [decide_eq_true h.1, decide_eq_true h.2]
  rfl
theorem of_isDig {c : Nat} (h : isDig c = true) : 48 ≤ c ∧ c ≤ 57 := by
  unfold isDig at h
  simpa using h
theorem allDig {l : List Nat} : l.all isDig = true ↔ NumText.AllDigits l := by
  rw [List.all_eq_true]
  exact ⟨fun h c hc => of_isDig (h c hc), fun h c hc => isDig_of (h c hc)⟩
theorem numL_all (n : Nat) : (numL n).all isDig = true := allDig.mpr (numL_digits n)
theorem numL_head (n : Nat) : (numL n).head? = some 48 → n = 0 := by
  induction n using Nat.strongRecOn with
  | _ n ih =>
    intro h
    by_cases hn : n < 10
    · rw [numL_lt hn] at h
      have : 48 + n = 48 := by simpa using h
      omega
    · rw [numL_step (by omega)] at h
      have h2 : (numL (n / 10)).head? = some 48 := by
        cases e : numL (n / 10) with
        | nil => exact absurd e (numL_ne _)
        | cons c r =>
          rw [e] at h
          simpa using h
      have := ih (n / 10) (by omega) h2
      omega
theorem numL_zero : numL 0 = [48] := numL_lt (by decide)
theorem numL_cons (n : Nat) : ∃ c r, numL n = c :: r ∧ 48 ≤ c ∧ c ≤ 57 := by
  cases e : numL n with
  | nil => exact absurd e (numL_ne _)
  | cons c r =>
    have h := numL_digits n c (by rw [e]; exact List.mem_cons_self ..)
    exact ⟨c, r, rfl, h⟩
/-- how an ended text may go on -/
def Stop (r : List Nat) : Prop := ∀ c, r.head? = some c → isDig c = false
theorem read_int {i : Int} (hi : i.natAbs < 10 ^ 4000) {r : List Nat} (hr : Stop r) : read (intT i ++ r) = some (.int i, r) := by
  obtain ⟨c, t, e, h1, h2⟩ := numL_cons i.natAbs
  have hl : (numL i.natAbs).length ≤ 4000 := numL_len (by decide) hi
  rw [read_eq]
  unfold intT
  by_cases hn : i < 0
  · rw [if_pos hn]
    have p0 : pre noneT (45 :: numL i.natAbs ++ r) = false := pre_no (by decide)
    rw [List.cons_append] at p0 ⊢
    rw [p0]
    simp only [Bool.false_eq_true, if_false, List.head?_cons, List.tail_cons, Option.some.injEq, Nat.reduceEqDiff]
    unfold readWhole
    simp only [List.head?_cons, beq_self_eq_true, if_true, List.tail_cons]
    obtain ⟨w1, w2⟩ := takeW_app isDig (numL_all i.natAbs) hr
    rw [w1, w2]
    have g : goodDigs true (numL i.natAbs) = true := by
      unfold goodDigs
      rw [decide_eq_true hl]
      have h48 : ((numL i.natAbs).head? == some 48) = false := by
        rw [beq_eq_false_iff_ne]
        intro z
        have := numL_head _ z
        omega
      rw [h48, e]
      rfl
    rw [if_pos g]
    unfold digInt
    rw [if_pos rfl, numL_val]
    congr 3
    omega
  · rw [if_neg hn]
    have p0 : pre noneT (numL i.natAbs ++ r) = false := by rw [e]; exact pre_no (by omega)
    have hh : (numL i.natAbs ++ r).head? = some c := by rw [e]; rfl
    rw [p0]
    simp only [Bool.false_eq_true, if_false, hh, Option.some.injEq]
    rw [if_neg (by omega), if_neg (by omega)]
    unfold readWhole
    rw [hh]
    have nb : ((some c : Option Nat) == some 45) = false := by
      rw [beq_eq_false_iff_ne]
      intro z
      have : c = 45 := by simpa using z
      omega
    simp only [nb, Bool.false_eq_true, if_false]
    obtain ⟨w1, w2⟩ := takeW_app isDig (numL_all i.natAbs) hr
    rw [w1, w2]
    have g : goodDigs false (numL i.natAbs) = true := by
      unfold goodDigs
      rw [decide_eq_true hl]
      by_cases hz : i.natAbs = 0
      · rw [hz, numL_zero]
        rfl
      · have h48 : ((numL i.natAbs).head? == some 48) = false := by
          rw [beq_eq_false_iff_ne]
          intro z
          exact hz (numL_head _ z)
        rw [h48, e]
        rfl
    rw [if_pos g]
    unfold digInt
    rw [if_neg (by decide), numL_val]
    congr 3
    omega
theorem sign_not34 : isSign 34 = false := by decide
theorem read_str {x : Str} (hx : (tl x).all isSign = true) (r : List Nat) : read (34 :: (tl x ++ [34]) ++ r) = some (.str x, r) := by
  rw [read_eq]
  have p0 : pre noneT (34 :: (tl x ++ [34]) ++ r) = false := pre_no (by decide)
  rw [List.cons_append] at p0 ⊢
  rw [p0]
  simp only [Bool.false_eq_true, if_false, List.head?_cons, List.tail_cons, if_true]
  unfold readStr
  rw [List.append_assoc]
  obtain ⟨w1, w2⟩ := takeW_app isSign (a := tl x) (b := [34] ++ r) hx (fun c hc => by
    have : 34 = c := by simpa using hc
    rw [← this]
    exact sign_not34)
  rw [w1, w2]
  rw [mk_tl]
  rfl
theorem txt_ne41 : ∀ d : PyData, ∀ n, plain n d = true → ∃ c r, txt d = c :: r ∧ c ≠ 41
  | .none, n, _ => ⟨110, _, by rw [txt], by decide⟩
  | .int i, n, _ => by
    rw [txt]
    unfold intT
    split
    · exact ⟨45, _, rfl, by decide⟩
    · obtain ⟨c, t, e, h1, h2⟩ := numL_cons i.natAbs
      exact ⟨c, t, e, by omega⟩
  | .str x, n, _ => ⟨34, _, by rw [txt], by decide⟩
  | .tuple ds, n, _ => ⟨40, _, by rw [txt], by decide⟩
  | .bool _, n, h => by rw [plain] at h; cases h
  | .list _, n, h => by rw [plain] at h; cases h
  | .dict _, n, h => by rw [plain] at h; cases h
theorem stop_cons {c : Nat} {r : List Nat} (h : isDig c = false) : Stop (c :: r) := fun d hd => by
  have : c = d := by simpa using hd
  rw [← this]
  exact h
theorem stop_nil : Stop [] := fun c h => by cases h
mutual
theorem read_txt : ∀ (d : PyData) (n : Nat), plain n d = true → ∀ r, Stop r → read (txt d ++ r) = some (d, r)
  | .none, n, _, r, hr => by
    rw [txt, read_eq]
    have := pre_none r
    unfold noneT at this ⊢
    rw [if_pos this]
    rfl
  | .int i, n, h, r, hr => by
    rw [txt]
    rw [plain] at h
    exact read_int (of_decide_eq_true h) hr
  | .str x, n, h, r, hr => by
    rw [txt]
    rw [plain, Bool.and_eq_true] at h
    exact read_str h.2 r
  | .tuple ds, n, h, r, hr => by
    rw [plain, Bool.and_eq_true] at h
    have ih : reads true (joinL [32] (txtAll ds) ++ 41 :: r) = some (ds, r) := reads_txt ds (n - 1) h.2 true r
    rw [txt, read_eq]
    have e1 : (40 :: (joinL [32] (txtAll ds) ++ [41]) ++ r) = 40 :: (joinL [32] (txtAll ds) ++ 41 :: r) := by simp
    rw [e1]
    have p0 : pre noneT (40 :: (joinL [32] (txtAll ds) ++ 41 :: r)) = false := pre_no (by decide)
    rw [p0]
    simp only [Bool.false_eq_true, if_false, List.head?_cons, List.tail_cons, Option.some.injEq, Nat.reduceEqDiff, if_true]
    rw [ih]
    rfl
  | .bool _, n, h, _, _ => by rw [plain] at h; cases h
  | .list _, n, h, _, _ => by rw [plain] at h; cases h
  | .dict _, n, h, _, _ => by rw [plain] at h; cases h
theorem reads_txt : ∀ (ds : List PyData) (n : Nat), plainAll n ds = true → ∀ (b : Bool) (r : List Nat), reads b ((if b || ds.isEmpty then [] else [32]) ++ (joinL [32] (txtAll ds) ++ 41 :: r)) = some (ds, r)
  | [], n, _, b, r => by
    rw [txtAll, reads_eq]
    cases b <;> simp [joinL]
  | [d], n, h, b, r => by
    rw [plainAll, Bool.and_eq_true] at h
    obtain ⟨c, t, e, hc⟩ := txt_ne41 d n h.1
    have hd := read_txt d n h.1 (41 :: r) (stop_cons (by decide))
    rw [txtAll, txtAll, reads_eq]
    have hend : reads false (41 :: r) = some ([], r) := by rw [reads_eq]; rfl
    cases b with
    | true =>
      show (if (txt d ++ 41 :: r).head? = some 41 then _ else _) = _
      rw [if_neg (by rw [e]; simpa using hc)]
      show (match read (txt d ++ 41 :: r) with | none => none | some (d, r) => _) = _
      rw [hd]
      show (reads false (41 :: r)).map _ = _
      rw [hend]
      rfl
    | false =>
      show (match read (txt d ++ 41 :: r) with | none => none | some (d, r) => _) = _
      rw [hd]
      show (reads false (41 :: r)).map _ = _
      rw [hend]
      rfl
  | d :: d2 :: ds, n, h, b, r => by
    rw [plainAll, Bool.and_eq_true] at h
    obtain ⟨c, t, e, hc⟩ := txt_ne41 d n h.1
    have hs : Stop (32 :: (joinL [32] (txtAll (d2 :: ds)) ++ 41 :: r)) := stop_cons (by decide)
    have hd := read_txt d n h.1 _ hs
    have ih := reads_txt (d2 :: ds) n h.2 false r
    have e1 : joinL [32] (txtAll (d :: d2 :: ds)) ++ 41 :: r = txt d ++ 32 :: (joinL [32] (txtAll (d2 :: ds)) ++ 41 :: r) := by
      rw [txtAll, txtAll]
      show (txt d ++ ([32] ++ joinL [32] (txt d2 :: txtAll ds))) ++ 41 :: r = _
      simp
    rw [e1, reads_eq]
    have ih' : reads false (32 :: (joinL [32] (txtAll (d2 :: ds)) ++ 41 :: r)) = some (d2 :: ds, r) := ih
    cases b with
    | true =>
      show (if (txt d ++ _).head? = some 41 then _ else _) = _
      rw [if_neg (by rw [e]; simpa using hc)]
      show (match read (txt d ++ _) with | none => none | some (d, r) => _) = _
      rw [hd]
      show (reads false _).map _ = _
      rw [ih']
      rfl
    | false =>
      show (match read (txt d ++ _) with | none => none | some (d, r) => _) = _
      rw [hd]
      show (reads false _).map _ = _
      rw [ih']
      rfl
end
/-- THE READ-BACK -/
theorem read_back {d : PyData} {n : Nat} (h : plain n d = true) : read (txt d) = some (d, []) := by
  have := read_txt d n h [] stop_nil
  rw [List.append_nil] at this
  exact this
end T82

set_option Elab.async false
set_option linter.all false
set_option maxRecDepth 100000
set_option maxHeartbeats 1000000
namespace T82
open PySem L2 TL
/-! ### drawn values are small -/
mutual
def small : Nat → PyData → Bool
  | _, .none => true
  | _, .int i => decide (i.natAbs ≤ 10 ^ 63)
  | _, .str x => decide (x.length ≤ 5) && (tl x).all isSign
  | k, .tuple ds => decide (0 < k) && (decide (ds.length ≤ 3) && smallAll (k - 1) ds)
  | _, .bool _ => false
  | _, .list _ => false
  | _, .dict _ => false
def smallAll : Nat → List PyData → Bool
  | _, [] => true
  | n, d :: ds => small n d && smallAll n ds
end
theorem pow_63 : (10 : Nat) ^ 63 < 10 ^ 4000 := Nat.pow_lt_pow_right (by decide) (by decide)
mutual
theorem plain_small : ∀ (d : PyData) (k n : Nat), small k d = true → k ≤ n → plain n d = true
  | .none, k, n, _, _ => by rw [plain]
  | .int i, k, n, h, _ => by
    rw [small] at h
    rw [plain]
    exact decide_eq_true (Nat.lt_of_le_of_lt (of_decide_eq_true h) pow_63)
  | .str x, k, n, h, _ => by
    rw [small, Bool.and_eq_true] at h
    rw [plain, h.2, Bool.and_true]
    have := of_decide_eq_true h.1
    exact decide_eq_true (by omega)
  | .tuple ds, k, n, h, hn => by
    rw [small, Bool.and_eq_true, Bool.and_eq_true] at h
    have h1 := of_decide_eq_true h.1
    rw [plain, decide_eq_true (by omega : 0 < n), Bool.true_and]
    exact plainAll_small ds (k - 1) (n - 1) h.2.2 (by omega)
  | .bool _, k, n, h, _ => by rw [small] at h; cases h
  | .list _, k, n, h, _ => by rw [small] at h; cases h
  | .dict _, k, n, h, _ => by rw [small] at h; cases h
theorem plainAll_small : ∀ (ds : List PyData) (k n : Nat), smallAll k ds = true → k ≤ n → plainAll n ds = true
  | [], k, n, _, _ => by rw [plainAll]
  | d :: ds, k, n, h, hn => by
    rw [smallAll, Bool.and_eq_true] at h
    rw [plainAll, plain_small d k n h.1 hn, plainAll_small ds k n h.2 hn]
    rfl
end
theorem joinL_len (S : List Nat) : ∀ ps : List (List Nat), (joinL S ps).length ≤ (ps.map List.length).sum + ps.length * S.length
  | [] => by simp [joinL]
  | [p] => by simp [joinL]
  | p :: q :: r => by
    have ih := joinL_len S (q :: r)
    show (p ++ (S ++ joinL S (q :: r))).length ≤ _
    rw [List.length_append, List.length_append, List.map_cons, List.sum_cons, List.length_cons, Nat.add_mul, Nat.one_mul]
    omega
theorem intT_len {i : Int} {k : Nat} (hk : 0 < k) (h : i.natAbs < 10 ^ k) : (intT i).length ≤ k + 1 := by
  have := numL_len hk h
  unfold intT
  split
  · simp; omega
  · omega
def bnd : Nat → Nat
  | 0 => 65
  | k + 1 => 3 * bnd k + 5
theorem bnd_ge : ∀ k, 65 ≤ bnd k
  | 0 => Nat.le_refl _
  | k + 1 => by
    have := bnd_ge k
    show 65 ≤ 3 * bnd k + 5
    omega
mutual
theorem len_small : ∀ (d : PyData) (k : Nat), small k d = true → (txt d).length ≤ bnd k
  | .none, k, _ => by
    have := bnd_ge k
    rw [txt]
    simp; omega
  | .int i, k, h => by
    rw [small] at h
    have h2 := of_decide_eq_true h
    have := intT_len (i := i) (k := 64) (by decide) (Nat.lt_of_le_of_lt h2 (Nat.pow_lt_pow_right (by decide) (by decide)))
    have := bnd_ge k
    rw [txt]
    omega
  | .str x, k, h => by
    rw [small, Bool.and_eq_true] at h
    have h2 := of_decide_eq_true h.1
    rw [len_tl] at h2
    have := bnd_ge k
    rw [txt]
    simp only [List.length_cons, List.length_append, List.length_nil]
    omega
  | .tuple ds, k, h => by
    rw [small, Bool.and_eq_true, Bool.and_eq_true] at h
    have h1 := of_decide_eq_true h.1
    have h3 := of_decide_eq_true h.2.1
    obtain ⟨k', rfl⟩ : ∃ k', k = k' + 1 := ⟨k - 1, by omega⟩
    have ih := lenAll_small ds k' h.2.2
    have hj := joinL_len [32] (txtAll ds)
    have e : (txtAll ds).length = ds.length := by rw [txtAll_map, List.length_map]
    rw [txt]
    have hb : (txtAll ds).length * bnd k' ≤ 3 * bnd k' := Nat.mul_le_mul_right _ (by omega)
    show (40 :: (joinL [32] (txtAll ds) ++ [41])).length ≤ 3 * bnd k' + 5
    simp only [List.length_cons, List.length_append, List.length_nil] at hj ⊢
    omega
  | .bool _, k, h => by rw [small] at h; cases h
  | .list _, k, h => by rw [small] at h; cases h
  | .dict _, k, h => by rw [small] at h; cases h
theorem lenAll_small : ∀ (ds : List PyData) (k : Nat), smallAll k ds = true → ((txtAll ds).map List.length).sum ≤ (txtAll ds).length * bnd k
  | [], k, _ => by rw [txtAll]; simp
  | d :: ds, k, h => by
    rw [smallAll, Bool.and_eq_true] at h
    have h1 := len_small d k h.1
    have h2 := lenAll_small ds k h.2
    rw [txtAll, List.map_cons, List.sum_cons, List.length_cons, Nat.add_mul, Nat.one_mul]
    omega
end
theorem bnd4 : bnd 4 = 5465 := by decide
/-! ### opening brackets -/
def op (s : List Nat) : Nat := s.count 40
theorem op_cons (c : Nat) (s : List Nat) : op (c :: s) = op s + (if c = 40 then 1 else 0) := by
  unfold op
  rw [List.count_cons]
  congr 1
  by_cases h : c = 40
  · subst h; rfl
  · rw [if_neg h, if_neg (by simpa using h)]
theorem op_app (a b : List Nat) : op (a ++ b) = op a + op b := by unfold op; exact List.count_append
theorem op_sfx {r s : List Nat} (h : Sfx r s) : op r ≤ op s := by
  obtain ⟨a, _, rfl⟩ := h
  rw [op_app]
  omega
theorem op_none {l : List Nat} (h : ∀ c ∈ l, c ≠ 40) : op l = 0 := by
  unfold op
  exact List.count_eq_zero.mpr fun hm => h 40 hm rfl
theorem op_int (i : Int) : op (intT i) = 0 := by
  apply op_none
  intro c hc
  unfold intT at hc
  have key : ∀ c ∈ numL i.natAbs, c ≠ 40 := fun c h => by
    have := numL_digits _ c h
    omega
  split at hc
  · rcases List.mem_cons.mp hc with e | h
    · omega
    · exact key c h
  · exact key c hc
theorem op_join : ∀ ps : List (List Nat), op (joinL [32] ps) = (ps.map op).sum
  | [] => rfl
  | [p] => by simp [joinL]
  | p :: q :: r => by
    show op (p ++ ([32] ++ joinL [32] (q :: r))) = _
    rw [op_app, op_app, op_join (q :: r)]
    simp [op]
theorem sign_rng {c : Nat} (h : isSign c = true) : c = 32 ∨ (97 ≤ c ∧ c ≤ 122) := by
  unfold isSign at h
  rw [Bool.or_eq_true, Bool.and_eq_true] at h
  rcases h with ⟨h1, h2⟩ | h
  · exact .inr ⟨of_decide_eq_true h1, of_decide_eq_true h2⟩
  · exact .inl (of_decide_eq_true h)
def obnd : Nat → Nat
  | 0 => 0
  | k + 1 => 3 * obnd k + 1
mutual
theorem op_small : ∀ (d : PyData) (k : Nat), small k d = true → op (txt d) ≤ obnd k
  | .none, k, _ => by
    rw [txt]
    exact Nat.le_trans (Nat.le_of_eq (by decide)) (Nat.zero_le _)
  | .int i, k, h => by
    rw [txt, op_int]
    exact Nat.zero_le _
  | .str x, k, h => by
    rw [small, Bool.and_eq_true] at h
    have hs := List.all_eq_true.mp h.2
    rw [txt]
    have : op (34 :: (tl x ++ [34])) = 0 := op_none fun c hc => by
      rcases List.mem_cons.mp hc with e | hc
      · omega
      · rcases List.mem_append.mp hc with hc | hc
        · have := sign_rng (hs c hc)
          omega
        · have := List.mem_singleton.mp hc
          omega
    omega
  | .tuple ds, k, h => by
    rw [small, Bool.and_eq_true, Bool.and_eq_true] at h
    have h1 := of_decide_eq_true h.1
    have h3 := of_decide_eq_true h.2.1
    obtain ⟨k', rfl⟩ : ∃ k', k = k' + 1 := ⟨k - 1, by omega⟩
    have ih := opAll_small ds k' h.2.2
    rw [txt, op_cons, op_app, op_join]
    have : ((txtAll ds).map op).sum ≤ 3 * obnd k' := Nat.le_trans ih (Nat.mul_le_mul_right _ h3)
    show _ + op [41] + 1 ≤ 3 * obnd k' + 1
    rw [show op [41] = 0 from by decide]
    omega
  | .bool _, k, h => by rw [small] at h; cases h
  | .list _, k, h => by rw [small] at h; cases h
  | .dict _, k, h => by rw [small] at h; cases h
theorem opAll_small : ∀ (ds : List PyData) (k : Nat), smallAll k ds = true → ((txtAll ds).map op).sum ≤ ds.length * obnd k
  | [], k, _ => by rw [txtAll]; simp
  | d :: ds, k, h => by
    rw [smallAll, Bool.and_eq_true] at h
    have h1 := op_small d k h.1
    have h2 := opAll_small ds k h.2
    rw [txtAll, List.map_cons, List.sum_cons, List.length_cons, Nat.add_mul, Nat.one_mul]
    omega
end
theorem obnd4 : obnd 4 = 40 := by decide
/-! ### rows of digits -/
def run (m : Nat) (s : List Nat) : Prop := ∀ a b c, s = a ++ (b ++ c) → b.all isDig = true → b.length ≤ m
theorem run_infix {m : Nat} {s x y t : List Nat} (h : run m s) (e : s = x ++ (t ++ y)) : run m t := fun a b c e2 hb =>
  h (x ++ a) b (c ++ y) (by rw [e, e2]; simp) hb
theorem run_sfx {m : Nat} {r s : List Nat} (h : run m s) (k : Sfx r s) : run m r := by
  obtain ⟨a, _, rfl⟩ := k
  exact run_infix (y := []) h (by rw [List.append_nil])
theorem run_take {m : Nat} {s : List Nat} (h : run m s) (i : Nat) : run m (s.take i) := run_infix (x := []) (y := s.drop i) h (by rw [List.nil_append, List.take_append_drop])
theorem run_drop {m : Nat} {s : List Nat} (h : run m s) (i : Nat) : run m (s.drop i) := run_infix (x := s.take i) (y := []) h (by rw [List.append_nil, List.take_append_drop])
theorem split3 {x y a b c : List Nat} (e : x ++ y = a ++ (b ++ c)) : ∃ b1 b2 a2 c2, b = b1 ++ b2 ∧ (∃ q, x = q ++ b1 ∨ x = q ++ (b1 ++ a2)) ∧ (∃ q, y = b2 ++ q ∨ y = c2 ++ (b2 ++ q)) := by
  rcases List.append_eq_append_iff.mp e with ⟨u, h1, h2⟩ | ⟨u, h1, h2⟩
  · -- a = x ++ u
    exact ⟨[], b, [], u, rfl, ⟨x, .inl (by simp)⟩, ⟨c, .inr h2⟩⟩
  · -- x = a ++ u, b ++ c = u ++ y
    rcases List.append_eq_append_iff.mp h2 with ⟨v, k1, k2⟩ | ⟨v, k1, k2⟩
    · -- u = b ++ v, c = v ++ y
      exact ⟨b, [], v, [], by simp, ⟨a, .inr (by rw [h1, k1])⟩, ⟨y, .inl rfl⟩⟩
    · -- b = u ++ v, y = v ++ c
      exact ⟨u, v, [], [], k1, ⟨a, .inl h1⟩, ⟨c, .inl k2⟩⟩
theorem run_join {m n : Nat} {x y : List Nat} (hx : run m x) (hy : run n y) : run (m + n) (x ++ y) := fun a b c e hb => by
  obtain ⟨b1, b2, a2, c2, rfl, ⟨q, h1⟩, ⟨p, h2⟩⟩ := split3 e
  rw [List.all_append, Bool.and_eq_true] at hb
  have l1 : b1.length ≤ m := by
    rcases h1 with h1 | h1
    · exact hx q b1 [] (by rw [List.append_nil]; exact h1) hb.1
    · exact hx q b1 a2 h1 hb.1
  have l2 : b2.length ≤ n := by
    rcases h2 with h2 | h2
    · exact hy [] b2 p h2 hb.2
    · exact hy c2 b2 p h2 hb.2
  rw [List.length_append]
  omega
theorem run_len (s : List Nat) : run s.length s := fun a b c e _ => by
  rw [e]
  simp only [List.length_append]
  omega
theorem run_mono {m n : Nat} {s : List Nat} (h : run m s) (k : m ≤ n) : run n s := fun a b c e hb => Nat.le_trans (h a b c e hb) k
/-- parted by a sign that is no digit -/
theorem run_sep {m : Nat} {x y : List Nat} {d : Nat} (hx : run m x) (hy : run m y) (hd : isDig d = false) : run m (x ++ d :: y) := fun a b c e hb => by
  rcases List.append_eq_append_iff.mp e with ⟨u, h1, h2⟩ | ⟨u, h1, h2⟩
  · -- a = x ++ u, d :: y = u ++ (b ++ c)
    cases u with
    | nil =>
      cases b with
      | nil => exact Nat.zero_le _
      | cons z b =>
        have e2 : d = z := by
          have := congrArg List.head? h2
          simpa using this
        rw [List.all_cons, ← e2, hd] at hb
        cases hb
    | cons z u =>
      have e2 : y = u ++ (b ++ c) := by
        have := congrArg List.tail h2
        simpa using this
      exact hy u b c e2 hb
  · -- x = a ++ u, b ++ c = u ++ d :: y
    rcases List.append_eq_append_iff.mp h2 with ⟨v, k1, k2⟩ | ⟨v, k1, k2⟩
    · exact hx a b v (by rw [h1, k1]) hb
    · -- b = u ++ v, d :: y = v ++ c
      cases v with
      | nil => exact hx a u [] (by rw [List.append_nil]; exact h1) (by rw [k1, List.append_nil] at hb; exact hb) |> fun z => by rw [k1, List.append_nil]; exact z
      | cons z v =>
        have e2 : d = z := by
          have := congrArg List.head? k2
          simpa using this
        rw [k1, List.all_append, List.all_cons, ← e2, hd] at hb
        simp at hb
theorem run_no {l : List Nat} {m : Nat} (h : ∀ c ∈ l, isDig c = false) : run m l := fun a b c e hb => by
  cases b with
  | nil => exact Nat.zero_le _
  | cons z b =>
    have hz : z ∈ l := by rw [e]; simp
    rw [List.all_cons, h z hz] at hb
    cases hb
theorem run_joinL {m : Nat} : ∀ ps : List (List Nat), (∀ p ∈ ps, run m p) → run m (joinL [32] ps)
  | [], _ => run_no (fun c h => by cases h)
  | [p], h => h p (List.mem_singleton.mpr rfl)
  | p :: q :: r, h => by
    have ih := run_joinL (q :: r) fun z hz => h z (List.mem_cons_of_mem _ hz)
    exact run_sep (h p (List.mem_cons_self ..)) ih (by decide)
theorem run_cons {m d : Nat} {y : List Nat} (hy : run m y) (hd : isDig d = false) : run m (d :: y) := run_sep (x := []) (run_no fun c h => by cases h) hy hd
theorem sign_nodig {c : Nat} (h : isSign c = true) : isDig c = false := by
  have := sign_rng h
  cases e : isDig c with
  | false => rfl
  | true =>
    have := of_isDig e
    omega
mutual
theorem run_small : ∀ (d : PyData) (k : Nat), small k d = true → run 64 (txt d)
  | .none, k, _ => by
    rw [txt]
    exact run_no (by decide)
  | .int i, k, h => by
    rw [small] at h
    have h2 := numL_len (n := i.natAbs) (k := 64) (by decide) (Nat.lt_of_le_of_lt (of_decide_eq_true h) (Nat.pow_lt_pow_right (by decide) (by decide)))
    have h3 := run_mono (run_len (numL i.natAbs)) h2
    rw [txt]
    unfold intT
    split
    · exact run_cons h3 (by decide)
    · exact h3
  | .str x, k, h => by
    rw [small, Bool.and_eq_true] at h
    have hs := List.all_eq_true.mp h.2
    rw [txt]
    refine run_no fun c hc => ?_
    rcases List.mem_cons.mp hc with e | hc
    · rw [e]; decide
    · rcases List.mem_append.mp hc with hc | hc
      · exact sign_nodig (hs c hc)
      · rw [List.mem_singleton.mp hc]; decide
  | .tuple ds, k, h => by
    rw [small, Bool.and_eq_true, Bool.and_eq_true] at h
    have ih := runAll_small ds (k - 1) h.2.2
    rw [txt]
    exact run_cons (run_sep (run_joinL _ ih) (run_no fun c h => by cases h) (by decide)) (by decide)
  | .bool _, k, h => by rw [small] at h; cases h
  | .list _, k, h => by rw [small] at h; cases h
  | .dict _, k, h => by rw [small] at h; cases h
theorem runAll_small : ∀ (ds : List PyData) (k : Nat), smallAll k ds = true → ∀ p ∈ txtAll ds, run 64 p
  | [], k, _, p, hp => by rw [txtAll] at hp; cases hp
  | d :: ds, k, h, p, hp => by
    rw [smallAll, Bool.and_eq_true] at h
    rw [txtAll] at hp
    rcases List.mem_cons.mp hp with e | hp
    · rw [e]; exact run_small d k h.1
    · exact runAll_small ds k h.2 p hp
end
/-- a text bent at a sign or two -/
theorem run_bent {s : List Nat} (h : run 64 s) (i j : Nat) (c : Nat) : run 129 (s.take i ++ [c] ++ s.drop j) :=
  run_mono (run_join (run_join (run_take h i) (run_len [c])) (run_drop h j)) (by show 64 + 1 + 64 ≤ 129; decide)
theorem run_cut {s : List Nat} (h : run 64 s) (i j : Nat) : run 129 (s.take i ++ s.drop j) := run_mono (run_join (run_take h i) (run_drop h j)) (by decide)
end T82

set_option Elab.async false
set_option linter.all false
set_option maxRecDepth 100000
set_option maxHeartbeats 1000000
namespace T82
open PySem L2 TL
/-! ### what is read: its integers are short, its repr is short -/
theorem tl_int (i : Int) : tl (Str.ofString (toString i)) = intT i := by
  unfold intT
  by_cases h : i < 0
  · rw [if_pos h]
    obtain ⟨n, rfl⟩ : ∃ n : Nat, i = Int.negSucc n := by
      cases i with
      | ofNat n => exact absurd h (by simp)
      | negSucc n => exact ⟨n, rfl⟩
    show tl (Str.ofString ("-" ++ Nat.repr (n + 1))) = 45 :: numL (n + 1)
    rw [tl_ofString, String.toList_append, List.map_append, Nat.toList_repr]
    rfl
  · rw [if_neg h]
    obtain ⟨n, rfl⟩ : ∃ n : Nat, i = (n : Int) := ⟨i.toNat, by omega⟩
    rw [tl_num]
    rfl
theorem digVal_lt : ∀ (ds : List Nat), NumText.AllDigits ds → NumText.digitsVal ds < 10 ^ ds.length := by
  have key : ∀ (ds : List Nat) (a : Nat), NumText.AllDigits ds → ds.foldl (fun acc c => acc * 10 + (c - 48)) a < (a + 1) * 10 ^ ds.length := by
    intro ds
    induction ds with
    | nil => intro a _; simp
    | cons c ds ih =>
      intro a h
      have hc := h.head
      rw [List.foldl_cons, List.length_cons, Nat.pow_succ]
      have := ih (a * 10 + (c - 48)) h.tail
      refine Nat.lt_of_lt_of_le this ?_
      calc (a * 10 + (c - 48) + 1) * 10 ^ ds.length ≤ ((a + 1) * 10) * 10 ^ ds.length := Nat.mul_le_mul_right _ (by omega)
        _ = (a + 1) * (10 ^ ds.length * 10) := by rw [Nat.mul_assoc, Nat.mul_comm 10]
  intro ds h
  have := key ds 0 h
  rw [Nat.zero_add, Nat.one_mul] at this
  exact this
theorem digInt_abs (neg : Bool) (ds : List Nat) : (digInt neg ds).natAbs = NumText.digitsVal ds := by
  unfold digInt
  split <;> omega
theorem digInt_lt (neg : Bool) {ds : List Nat} (h : ds.all isDig = true) : (digInt neg ds).natAbs < 10 ^ ds.length := by
  rw [digInt_abs]
  exact digVal_lt ds (allDig.mp h)
theorem take_all (p : Nat → Bool) : ∀ l : List Nat, (l.takeWhile p).all p = true
  | [] => rfl
  | c :: r => by
    rw [List.takeWhile_cons]
    cases h : p c with
    | true => rw [if_pos rfl, List.all_cons, h, take_all p r]; rfl
    | false => rfl
theorem readWhole_is {s r : List Nat} {d : PyData} (h : readWhole s = some (d, r)) : ∃ neg x ds, d = .int (digInt neg ds) ∧ s = x ++ (ds ++ r) ∧ ds.all isDig = true ∧ goodDigs neg ds = true ∧ (if neg then x = [45] else x = []) := by
  unfold readWhole at h
  by_cases hn : (s.head? == some 45) = true
  · have hs := (sfx_tail (by simpa using hn)).2
    simp only [hn, if_true] at h
    split at h
    · rename_i hg
      cases h
      refine ⟨true, [45], s.tail.takeWhile isDig, rfl, ?_, take_all _ _, hg, rfl⟩
      rw [takeDrop]
      exact hs
    · cases h
  · have hn' : (s.head? == some 45) = false := by simpa using hn
    simp only [hn', Bool.false_eq_true, if_false] at h
    split at h
    · rename_i hg
      cases h
      exact ⟨false, [], s.takeWhile isDig, rfl, by rw [takeDrop]; rfl, take_all _ _, hg, rfl⟩
    · cases h
theorem readStr_is {s r : List Nat} {d : PyData} (h : readStr s = some (d, r)) : ∃ x : Str, d = .str x ∧ s = tl x ++ 34 :: r ∧ (tl x).all isSign = true := by
  unfold readStr at h
  split at h
  · rename_i q e
    cases h
    refine ⟨_, rfl, ?_, take_all _ _⟩
    have := takeDrop isSign s
    rw [e] at this
    exact this.symm
  · cases h
theorem big_1920 : (10 : Nat) ^ 129 < 2 ^ 1920 := by decide +kernel
theorem log_of {n : Nat} (h : n < 10 ^ 129) : n.log2 < 1920 := by
  by_cases h0 : n = 0
  · subst h0; decide
  · exact (Nat.log2_lt h0).mpr (Nat.lt_trans h big_1920)
theorem intStr_len {i : Int} {k : Nat} (hk : 0 < k) (h : i.natAbs < 10 ^ k) : (Str.ofString (toString i)).length ≤ k + 1 := by
  rw [len_tl, tl_int]
  exact intT_len hk h
theorem strJoin_len : ∀ ts : List Str, (Str.join ", " ts).length ≤ (ts.map Str.length).sum + 2 * ts.length
  | [] => Nat.zero_le _
  | [x] => by simp [Str.join]
  | x :: y :: r => by
    have ih := strJoin_len (y :: r)
    show (x ++ ", " ++ Str.join ", " (y :: r)).length ≤ _
    have e2 : ((", " : String) : Str).length = 2 := rfl
    rw [strLen_append, strLen_append, e2, List.map_cons, List.sum_cons, List.length_cons]
    omega
theorem tupText_len (ts : List Str) : (tupleText ts).length ≤ (ts.map Str.length).sum + 2 * ts.length + 3 := by
  unfold tupleText
  rw [strLen_append, strLen_append]
  have e1 : ((("(" : String) : Str)).length = 1 := rfl
  have e3 : (((if ts.length == 1 then ",)" else ")" : String) : Str)).length ≤ 2 := by split <;> decide
  have := strJoin_len ts
  rw [e1]
  omega
theorem str_shown {x : Str} (h : (tl x).all isSign = true) : (reprText x).length ≤ 10 * x.length + 2 := StrLaws.reprText_len x fun c hc => by
  have := sign_rng (List.all_eq_true.mp h c hc)
  have : c ≤ 122 := by omega
  exact Nat.lt_of_le_of_lt this (by decide)
/-- a value that is read: its integers have few digits, its repr is none too long -/
structure Got (d : PyData) (n : Nat) : Prop where
  show_ : PyData.showable d = true
  len : d.shown.length ≤ 12 * n
  lay : PyData.canLay0 d = true
structure GotAll (b : Bool) (ds : List PyData) (n : Nat) : Prop where
  show_ : PyData.showableAll ds = true
  len : ((PyData.shownAll ds).map Str.length).sum + 2 * (PyData.shownAll ds).length + (if b then 8 else 10) ≤ 12 * n
  lay : PyData.canLayAll0 ds = true
theorem lay_str {x : Str} (h : (tl x).all isSign = true) : PyData.canLay0 (.str x) = true := by
  rw [PyData.canLay0]
  unfold PySem.PyData.strOk
  rw [← Array.all_toList]
  refine List.all_eq_true.mpr fun c hc => ?_
  have := sign_rng (List.all_eq_true.mp h c hc)
  exact decide_eq_true (by omega)
theorem shownAll_len : ∀ ds : List PyData, (PyData.shownAll ds).length = ds.length
  | [] => by rw [PyData.shownAll]; rfl
  | d :: ds => by rw [PyData.shownAll, List.length_cons, List.length_cons, shownAll_len ds]
mutual
theorem parse_got : ∀ (f : Nat) {s r : List Nat} {d : PyData}, run 129 s → parse f s = some (d, r) → Got d (s.length - r.length)
  | 0, s, r, d, _, h => by rw [parse] at h; cases h
  | f + 1, s, r, d, hr, h => by
    have hsf := parse_sfx (f + 1) h
    rw [parse] at h
    split at h
    · rename_i hp
      cases h
      have e := congrArg List.length (pre_split hp)
      rw [List.length_append] at e
      have e4 : noneT.length = 4 := rfl
      rw [e4] at e
      refine ⟨by rw [PyData.showable], ?_, by rw [PyData.canLay0]⟩
      rw [PyData.shown]
      have : (("None" : String) : Str).length = 4 := rfl
      rw [this]
      omega
    · split at h
      · rename_i h34
        obtain ⟨h1, h2⟩ := sfx_tail h34
        obtain ⟨x, rfl, e, hs⟩ := readStr_is h
        refine ⟨by rw [PyData.showable], ?_, lay_str hs⟩
        rw [PyData.shown]
        have := str_shown hs
        have l := congrArg List.length e
        rw [List.length_append, List.length_cons, ← len_tl] at l
        have := h1.lt
        omega
      · split at h
        · rename_i h40
          obtain ⟨h1, h2⟩ := sfx_tail h40
          cases e : members f true s.tail with
          | none => rw [e] at h; cases h
          | some p =>
            rw [e] at h
            obtain ⟨ds, q⟩ := p
            cases h
            have ih := members_got f (run_sfx hr h1) e
            refine ⟨by rw [PyData.showable]; exact ih.show_, ?_, by rw [PyData.canLay0]; exact ih.lay⟩
            rw [PyData.shown]
            have a1 := tupText_len (PyData.shownAll ds)
            have a2 := ih.len
            have a3 := h1.lt
            have a4 := (members_sfx f e).lt
            rw [if_pos rfl] at a2
            show (tupleText (PyData.shownAll ds)).length ≤ 12 * (s.length - q.length)
            omega
        · obtain ⟨neg, x, ds, rfl, e, ha, hg, hx⟩ := readWhole_is h
          have hl : ds.length ≤ 129 := hr x ds r e ha
          have hv := digInt_lt neg ha
          have hp : 0 < ds.length := by
            cases ds with
            | nil => simp [goodDigs] at hg
            | cons c ds => simp
          refine ⟨?_, ?_, by rw [PyData.canLay0]⟩
          · rw [PyData.showable]
            exact decide_eq_true (log_of (Nat.lt_of_lt_of_le hv (Nat.pow_le_pow_right (by decide) hl)))
          · rw [PyData.shown]
            have := intStr_len hp hv
            have l := congrArg List.length e
            rw [List.length_append, List.length_append] at l
            omega
theorem members_got : ∀ (f : Nat) {b : Bool} {s r : List Nat} {ds : List PyData}, run 129 s → members f b s = some (ds, r) → GotAll b ds (s.length - r.length)
  | 0, b, s, r, d, _, h => by rw [members] at h; cases h
  | f + 1, b, s, r, ds0, hr, h => by
    rw [members] at h
    split at h
    · rename_i h41
      cases h
      have a1 := (sfx_tail h41).1.lt
      refine ⟨by rw [PyData.showableAll], ?_, by rw [PyData.canLayAll0]⟩
      rw [PyData.shownAll]
      show 0 + 0 + (if b then 8 else 10) ≤ 12 * (s.length - s.tail.length)
      split <;> omega
    · split at h
      · cases h
      · rename_i hb
        have base : Sfx (if b then s else s.tail) s ∨ (if b then s else s.tail) = s := by
          cases b with
          | true => exact .inr rfl
          | false =>
            refine .inl ?_
            have : s.head? = some 32 := by simpa using hb
            exact (sfx_tail this).1
        have hr' : run 129 (if b then s else s.tail) := by
          rcases base with k | k
          · exact run_sfx hr k
          · rw [k]; exact hr
        have hle : (if b then s else s.tail).length ≤ s.length := by
          rcases base with k | k
          · exact Nat.le_of_lt k.lt
          · rw [k]; exact Nat.le_refl _
        split at h
        · cases h
        · rename_i d1 r1 e1
          have h1 := parse_sfx f e1
          have g1 := parse_got f hr' e1
          have lt1 := h1.lt
          cases e : members f false r1 with
          | none => rw [e] at h; cases h
          | some p =>
            rw [e] at h
            obtain ⟨es, q⟩ := p
            cases h
            have g2 := members_got f (run_sfx hr' h1) e
            have lt2 := (members_sfx f e).lt
            refine ⟨?_, ?_, ?_⟩
            · rw [PyData.showableAll, g1.show_, g2.show_]; rfl
            · show ((PyData.shownAll (d1 :: es)).map Str.length).sum + 2 * (PyData.shownAll (d1 :: es)).length + (if b then 8 else 10) ≤ 12 * (s.length - q.length)
              rw [PyData.shownAll, List.map_cons, List.sum_cons, List.length_cons]
              have a1 := g1.len
              have a2 := g2.len
              rw [if_neg Bool.false_ne_true] at a2
              cases b with
              | true =>
                simp only [if_true] at a1 lt1 hle ⊢
                omega
              | false =>
                have h32 : s.head? = some 32 := by simpa using hb
                have a3 := (sfx_tail h32).1.lt
                simp only [Bool.false_eq_true, if_false] at a1 lt1 hle ⊢
                omega
            · rw [PyData.canLayAll0, g1.lay, g2.lay]; rfl
end
theorem read_got {s r : List Nat} {d : PyData} (hr : run 129 s) (h : read s = some (d, r)) : Got d (s.length - r.length) := parse_got _ hr h
mutual
theorem depth_plain : ∀ (d : PyData) (n : Nat), plain n d = true → d.depth ≤ n
  | .none, n, _ => by rw [PyData.depth]; exact Nat.zero_le _
  | .int i, n, _ => by rw [PyData.depth]; exact Nat.zero_le _
  | .str i, n, _ => by rw [PyData.depth]; exact Nat.zero_le _
  | .tuple ds, n, h => by
    rw [plain, Bool.and_eq_true] at h
    have h1 := of_decide_eq_true h.1
    have := depthAll_plain ds (n - 1) h.2
    rw [PyData.depth]
    omega
  | .bool _, n, h => by rw [plain] at h; cases h
  | .list _, n, h => by rw [plain] at h; cases h
  | .dict _, n, h => by rw [plain] at h; cases h
theorem depthAll_plain : ∀ (ds : List PyData) (n : Nat), plainAll n ds = true → PyData.depthAll ds ≤ n
  | [], n, _ => by rw [PyData.depthAll]; exact Nat.zero_le _
  | d :: ds, n, h => by
    rw [plainAll, Bool.and_eq_true] at h
    have h1 := depth_plain d n h.1
    have h2 := depthAll_plain ds n h.2
    rw [PyData.depthAll]
    omega
end
mutual
theorem lay_plain : ∀ (d : PyData) (n : Nat), plain n d = true → PyData.canLay0 d = true
  | .none, n, _ => by rw [PyData.canLay0]
  | .int i, n, _ => by rw [PyData.canLay0]
  | .str i, n, h => by
    rw [plain, Bool.and_eq_true] at h
    exact lay_str h.2
  | .tuple ds, n, h => by
    rw [plain, Bool.and_eq_true] at h
    rw [PyData.canLay0]
    exact layAll_plain ds (n - 1) h.2
  | .bool _, n, h => by rw [plain] at h; cases h
  | .list _, n, h => by rw [plain] at h; cases h
  | .dict _, n, h => by rw [plain] at h; cases h
theorem layAll_plain : ∀ (ds : List PyData) (n : Nat), plainAll n ds = true → PyData.canLayAll0 ds = true
  | [], n, _ => by rw [PyData.canLayAll0]
  | d :: ds, n, h => by
    rw [plainAll, Bool.and_eq_true] at h
    rw [PyData.canLayAll0, lay_plain d n h.1, layAll_plain ds n h.2]
    rfl
end
end T82

set_option Elab.async false
set_option linter.all false
set_option maxRecDepth 100000
set_option maxHeartbeats 4000000
/-! An own exception over ValueError (or over an own class over it) whose __init__ says super().__init__(text) and stores one field. -/
namespace Sup
open PySem PySem.Spec PyProof.Rows L2
/-! ### the text -/
structure Ps where
  a0 : Pos
  a1 : Pos
  a2 : Pos
  a3 : Pos
  a4 : Pos
  a5 : Pos
  a6 : Pos
  a7 : Pos
  a8 : Pos
  a9 : Pos
  b1 : Pos
  b2 : Pos
def supArgs (pn : Str) (p : Ps) : Arguments := { posonlyargs := [], args := [{ arg := "self", annotation := none, pos := p.b1 }, { arg := pn, annotation := none, pos := p.b2 }], vararg := none, kwonlyargs := [], kw_defaults := [], kwarg := none, defaults := [] }
def supBody (pn fl msg : Str) (p : Ps) : List Stmt := [.Expr (.Call (.Attribute (.Call (.Name "super" p.a0) [] [] p.a1) "__init__" p.a2) [.Constant (.str msg) 0 p.a3] [] p.a4) p.a5, .Assign [.Attribute (.Name "self" p.a6) fl p.a7] (.Name pn p.a8) p.a9]
def supScope (pn : Str) : Scope := { kind := .function, names := [(Str.ofString "self", .local), (pn, .local), (Str.ofString "__class__", .free), (Str.ofString "super", .globalImplicit)], isGenerator := false, isCoroutine := false, more := [] }
/-- what the written part says of such a class at D and of its __init__ at f -/
structure SupK (P : Program) (K : PySem.W.Frag) (mg : Str → Option Value) (D f : Addr) (pn fl : Str) (fd : FuncData) : Prop where
  fn : ∃ (oc : Value) (od : Option Addr) (osl : Array (Option Value)) (q msg : Str) (p : Ps) (kV doc pm ct : Value) (an : Option Addr) (cc cda : Addr),
    fd = PySem.W.fnX "__init__" q (supArgs pn p) (supBody pn fl msg p) (supScope pn) [("__class__", cc)] .none kV doc pm an (.ref cda) ct ∧ K.lookup f = some ⟨oc, od, .func fd, osl⟩ ∧ PySem.W.codeIn K (.ref cda) q = true ∧
    (∃ cl cld csl, K.lookup cc = some ⟨cl, cld, .cell (some (.ref D)), csl⟩) ∧ (∃ kl kd vs ksl file tf, K.lookup cda = some ⟨kl, kd, .fields vs, ksl⟩ ∧ vs[2]? = some (.str file tf) ∧ ((P.main.file : Str) == file) = true) ∧ (p.a2.endLine == p.a4.line) = true
  pne : (pn == ("super" : Str)) = false ∧ (pn == ("__class__" : Str)) = false ∧ (pn == ("self" : Str)) = false ∧ (pn == ("__debug__" : Str)) = false
  cls : (PySem.W.clsIn K D).isSome = true
  self : PySem.W.mroIn K D (.ref D) = some true
  top : (P.main.scope.names.lookup ("super" : Str)).isSome = false
  gS : mg "super" = none
  op : PySem.W.nsIn K cStatics "thirdparty.any" = some none
  sup : PySem.W.ks_superIn K D D "__init__" = some (some (.builtin "ValueError.__init__"))
  sub : PySem.W.subIn K (.ref D) (.type "ValueError") = some true
  ox : OexC K D
  noF : PySem.W.findIn K (.ref D) fl = some none
/-- the promise: the exception at a, still bare, gets its dict with the one field -/
def spSup (D : Addr) (fl : Str) : Sp := fun vs H Q _ => ∃ (a : Addr) (v : V), vs = [.ref a, v] ∧ H a = some (exo a D none) ∧ ∀ dx, H dx = none → dx ≠ a → Q .non (upd (upd H dx (exd dx [(fl, v)])) a (exo a D (some dx)))
def cxS (P : Program) (w : World) (K : PySem.W.Frag) (mg : Str → Option Value) (base : Heap) (N : List Str) (env : Env) (A : Around) (outer : List Env) (s : Shared) (H : Hp) : Cx where
  prog := P
  w := w
  K := K
  mg := mg
  base := base
  A := A.deeper env
  N := N
  s_0 := s
  H_0 := H
  env := env
  outer := outer
  stack := env :: outer
  ex := []
  calm := true
  fn := fun _ => false
  pn := []
  xe := fun _ _ => False
section
variable {P : Program} {w : World} {K : PySem.W.Frag} {mg : Str → Option Value} {base : Heap} {D f : Addr} {pn fl : Str} {fd : FuncData}
theorem call_vw {prog : Program} {w : World} {A : Around} {E : Value → Shared → Prop} {h : Heap} {g : Array GenState} {d : Drawn} {t : Nat} {os : OsState} {nm q : Str} {C N u e t0 : Addr} {bs bm : List Value} {hdct : Bool} {sn : List Str} {sub : List Value} {ab : Bool} {col : Option Bool} {dd : Option Addr} {k0 k1 k2 k3 k5 : Option Value} {rest : List Value} {Q : Value → Shared → Prop}
    (hC : h.get? C = some (excClassObj nm q C N bs bm hdct sn sub ab col dd k0 k1 k2 k3 k5 "ValueError.__new__")) (he : h.get? e = some (HandSPX.excO C t0)) (hu : h.get? u = some (PySem.W.kxs_mw "ValueError.__init__" e)) (hrest : rest.length ≤ sizeLine)
    (hq : ∀ h' t1, (∀ b o, b ≠ e → h.get? b = some o → h'.get? b = some o) → h'.get? e = some (HandSPX.excO C t1) → Q .none ⟨h', g, d, t, os⟩) :
    wpAny (model prog w) A (call (.ref u) rest) Q E ⟨h, g, d, t, os⟩ := by
  refine wpAny_call (codeAny_of_tree ?_)
  show wpAny _ A.in1 (callAny (.ref u) ⟨rest, []⟩) _ _ _
  simp only [callAny]
  refine wpAny_bind (wpAny_load hu ?_)
  simp only [PySem.W.kxs_mw, show (Value.type "method-wrapper" == Value.type "method" || Value.type "method-wrapper" == Value.type "builtin_function_or_method" || Value.type "method-wrapper" == Value.type "method-wrapper") = true by decide, if_true]
  refine PySem.W.KFB.if_so (by decide) ?_
  refine wpAny_bind (PySem.W.check_bound_init F.excBase_ValueError.toExcCallFacts hC he rfl ?_)
  refine wpAny_bind (wpAny_pure (wpAny_pure ?_))
  refine ⟨Code.quiet_builtin _ (by decide +kernel), codeAny_builtin F.excBase_ValueError.initEntry ?_⟩
  rw [Around.under_plainId F.excBase_ValueError.init.plain _]
  wp_walk
  refine hq _ h.objs.size (fun b o hb ho => ?_) ?_
  · rw [Heap.get?_update_other _ _ (Ne.symm hb)]
    exact Heap.get?_push_of_some _ ho
  · rw [Heap.get?_update_self _ (Heap.get?_push_of_some _ he) rfl]
    rfl
theorem mcall_eq {o : Expr} {name : Str} {apos pos : Pos} {args : List Expr} (env : Env) (hline : (apos.endLine == pos.line) = true)
    (hfew : methodCallForm (args.length + ([] : List Keyword).length) (backTo pos (starEach args env)) (backToKw pos (keywordEach [] env)) = true := by rfl) :
    eval (.Call (.Attribute o name apos) args [] pos) env = (do
      let ov ← attributeBase o name env (eval o env)
      standAt apos.atName
      let (f, first) ← holding [ov] (getMethod ov name (do return (← importBound o env).getD true))
      callWith pos f first (backTo pos (starEach args env)) []) := by
  have hpos : methodCallPos true o env apos pos = pure pos := by unfold methodCallPos; simp [hline]
  rw [arm_eval_Call]
  unfold methodCall
  rw [hfew]
  simp only [hpos, pure_bind, calleeOf, if_true]
  rfl
theorem sup_ok (T : SupK P K mg D f pn fl fd) (CX : CXT) (k : Nat) : FnOk P w K mg base CX k f fd ["self", pn] (spSup D fl) := by
  obtain ⟨oc, od, osl, q, msg, p, kV, doc, pm, ct, an, cc, cda, rfl, lk, hcd, ⟨cl, cld, csl, hcell⟩, ⟨kl, kd, vs0, ksl, file, tf, hcode, hvs, hfile⟩, hline⟩ := T.fn
  obtain ⟨n1, n2, n3, n4⟩ := T.pne
  have m3 : pn ≠ ("self" : Str) := by simpa using n3
  refine ⟨fun vs H Q E h => by obtain ⟨a, v, rfl, _⟩ := h; rfl, fun A outer s H args us vs Q E hr e0 hb r hsp => ?_⟩
  obtain ⟨a, v, rfl, ha, hq⟩ := hsp
  obtain ⟨u1, u, rfl, r1, r2⟩ := vals2 r
  cases (show u1 = Value.ref a from r1)
  have KX : K.In s.heap := e0.mod.kin.keeps fun b o e => (e0.bs b o e).1
  have lim : s.heap.NoLimit := e0.mod.nolimit.keeps fun b o e => (e0.bs b o e).1
  have l1 : (supScope pn).names.lookup ("self" : Str) = some .local := rfl
  have l2 : (supScope pn).names.lookup pn = some .local := by
    show (match pn == ("self" : Str) with | true => some NameKind.local | false => (match pn == pn with | true => some NameKind.local | false => _)) = _
    rw [n3, beq_self_eq_true]
  have l3 : (supScope pn).names.lookup ("__class__" : Str) = some .free := by
    show (match ("__class__" : Str) == ("self" : Str) with | true => some NameKind.local | false => (match ("__class__" : Str) == pn with | true => some NameKind.local | false => some NameKind.free)) = _
    have : (("__class__" : Str) == pn) = false := by
      rw [beq_eq_false_iff_ne] at n2 ⊢
      exact fun z => n2 z.symm
    rw [this]
    rfl
  have l4 : (supScope pn).names.lookup ("super" : Str) = some .globalImplicit := by
    show (match ("super" : Str) == ("self" : Str) with | true => some NameKind.local | false => (match ("super" : Str) == pn with | true => some NameKind.local | false => some NameKind.globalImplicit)) = _
    have : (("super" : Str) == pn) = false := by
      rw [beq_eq_false_iff_ne] at n1 ⊢
      exact fun z => n1 z.symm
    rw [this]
    rfl
  have lf : ∀ y, (supScope pn).names.lookup y = some .free → y = ("__class__" : Str) := fun y hy => by
    have hy' : (match y == ("self" : Str) with | true => some NameKind.local | false => (match y == pn with | true => some NameKind.local | false => (match y == ("__class__" : Str) with | true => some NameKind.free | false => (match y == ("super" : Str) with | true => some NameKind.globalImplicit | false => none)))) = some NameKind.free := hy
    by_cases e : (y == ("__class__" : Str)) = true
    · exact by simpa using e
    · split at hy'
      · cases hy'
      · split at hy'
        · cases hy'
        · split at hy'
          · rename_i z
            exact by simpa using z
          · split at hy' <;> cases hy'
  have lc : ∀ y, (supScope pn).names.lookup y ≠ some .cell := fun y hy => by
    have hy' : (match y == ("self" : Str) with | true => some NameKind.local | false => (match y == pn with | true => some NameKind.local | false => (match y == ("__class__" : Str) with | true => some NameKind.free | false => (match y == ("super" : Str) with | true => some NameKind.globalImplicit | false => none)))) = some NameKind.cell := hy
    split at hy'
    · cases hy'
    · split at hy'
      · cases hy'
      · split at hy'
        · cases hy'
        · split at hy' <;> cases hy'
  refine PySem.ks_codeAny_call_defAt (fd := PySem.W.fnX "__init__" q (supArgs pn p) (supBody pn fl msg p) (supScope pn) [("__class__", cc)] .none kV doc pm an (.ref cda) ct) (body := supBody pn fl msg p) (binds := [("self", .ref a), (pn, u)])
    hr.depth (KX _ _ lk) rfl lim (PySem.W.codeRec_of KX hcd) rfl hb ?_ ?_ (fun h1 hns k1 => ?_)
  · intro x hx
    rcases List.mem_cons.mp hx with e | hx
    · rw [e]; intro z; cases z
    rcases List.mem_cons.mp hx with e | hx
    · rw [e]; intro z; cases z
    rcases List.mem_cons.mp hx with e | hx
    · rw [e]; intro z; cases z
    rcases List.mem_cons.mp hx with e | hx
    · rw [e]; intro z; cases z
    · cases hx
  · intro x hx
    rcases List.mem_cons.mp hx with e | hx
    · rw [e]; exact l1
    · rw [List.mem_singleton.mp hx]; exact l2
  · have hK1 : K.In h1 := KX.keeps k1
    have hdn : A.handled = none := hr.hd
    generalize he : callEnv (PySem.W.fnX "__init__" q (supArgs pn p) (supBody pn fl msg p) (supScope pn) [("__class__", cc)] .none kV doc pm an (.ref cda) ct) s.heap.objs.size f = env
    have e1 : env = PySem.W.ksEnv q (supScope pn) s.heap.objs.size f (.ref cda) cc := he.symm
    subst e1
    clear he
    have Ok0 : (cxS P w K mg base ["self", pn] (PySem.W.ksEnv q (supScope pn) s.heap.objs.size f (.ref cda) cc) A outer s H).Ok :=
      { mod := e0.mod
        kind := rfl
        glob := rfl
        blt := rfl
        above := Nat.le_refl _
        inj := fun x y c h1 h2 => by
          have g : ∀ z, ([(("__class__" : Str), cc)] : List (Str × Addr)).lookup z = some c → z = ("__class__" : Str) := fun z hz => by
            by_cases e : (z == ("__class__" : Str)) = true
            · exact by simpa using e
            · have e' : (z == ("__class__" : Str)) = false := by simpa using e
              simp [List.lookup, e'] at hz
          exact (g x h1).trans (g y h2).symm
        has := fun x hx => by
          rcases hx with hx | hx
          · exact absurd hx (lc x)
          · exact ⟨cc, by rw [lf x hx]; rfl⟩
        cab := fun x c h => by cases h
        hd := fun _ => hdn
        frames := Around.frames_deeper e0.frames
        stk := .inr ⟨rfl, rfl⟩
        exf := fun b z => absurd (show b ∈ ([] : List Addr) from z) (by simp)
        bs := e0.bs
        bsz := e0.bsz
        noex := fun b _ _ z => absurd (show b ∈ ([] : List Addr) from z) (by simp)
        exfs := fun b z => absurd (show b ∈ ([] : List Addr) from z) (by simp)
        funs := e0.funs
        frf := e0.frf }
    have ns1 : ∀ y v, (([("self", Value.ref a), (pn, u)] : List (Str × Value)).reverse.lookup y) = some v → True := fun _ _ _ => trivial
    have vself : (([("self", Value.ref a), (pn, u)] : List (Str × Value)).reverse.lookup ("self" : Str)) = some (Value.ref a) := by
      show (match ("self" : Str) == pn with | true => some u | false => some (Value.ref a)) = _
      have : (("self" : Str) == pn) = false := by
        rw [beq_eq_false_iff_ne]
        exact fun z => m3 z.symm
      rw [this]
    have vpn : (([("self", Value.ref a), (pn, u)] : List (Str × Value)).reverse.lookup pn) = some u := by
      show (match pn == pn with | true => some u | false => _) = _
      rw [beq_self_eq_true]
    obtain ⟨cI, hcI⟩ : ∃ o, s.heap.get? cc = some o := ⟨_, KX _ _ hcell⟩
    have bcc : ∃ o, base.get? cc = some o := ⟨_, e0.mod.kin _ _ hcell⟩
    have I0 : Inv (cxS P w K mg base ["self", pn] (PySem.W.ksEnv q (supScope pn) s.heap.objs.size f (.ref cda) cc) A outer s H) [] [some (.ref a), some v] H { s with heap := h1, toks := s.toks + 2 } := by
      have gcl : ∀ z c, ([(("__class__" : Str), cc)] : List (Str × Addr)).lookup z = some c → c = cc := fun z c hz => by
        by_cases e : (z == ("__class__" : Str)) = true
        · simp [List.lookup, e] at hz
          exact hz.symm
        · have e' : (z == ("__class__" : Str)) = false := by simpa using e
          simp [List.lookup, e'] at hz
      refine ⟨Ok0, rfl, e0.bare, Un.kept k1, ⟨_, hns, fun i x y h1' h2 h3 => ?_⟩, fun x c h => ?_, e0.hok.fresh (Nat.le_refl _), fun x c h => ?_, fun p hp => absurd (show p ∈ ([] : List (Addr × Obj)) from hp) (by simp), e0.hok.kept k1, rfl⟩
      · match i, h1', h2 with
        | 0, h1', h2 =>
          cases h1'
          cases h2
          exact ⟨Value.ref a, rfl, .inl ⟨l1, vself⟩⟩
        | 1, h1', h2 =>
          cases h1'
          cases h2
          exact ⟨u, r2, .inl ⟨l2, vpn⟩⟩
        | n + 2, h1', h2 => cases h1'
      · cases gcl x c h
        exact ⟨_, ⟨_, hK1 _ _ hcell, rfl⟩⟩
      · cases gcl x c h
        obtain ⟨o, ho⟩ := bcc
        exact (e0.bs _ _ ho).2
    obtain ⟨mb, hmb, hmb2⟩ := e0.mod.blt
    have kb : ∀ b o, base.get? b = some o → h1.get? b = some o := fun b o e => k1 b o (e0.bs b o e).1
    obtain ⟨cdD, hcD⟩ := Option.isSome_iff_exists.mp T.cls
    obtain ⟨oD, hD1, hD2⟩ : ∃ oD, h1.get? D = some oD ∧ oD.data = .cls cdD := by
      have hD := hcD
      unfold PySem.W.clsIn at hD
      split at hD
      · rename_i c d cd' sl ho
        cases hD
        exact ⟨_, hK1 _ _ ho, rfl⟩
      · cases hD
    obtain ⟨t1, hoa⟩ := exo_at I0.hok ha
    obtain ⟨nm, qc, Nc, bs, bm, sn, sub, ab, col, dd, k0, k1', k2, k3, k5, hCo, hbm⟩ := T.ox.cls
    have hcl : PySem.W.clsIn K D = some { name := nm, bases := bs, mro := .ref D :: bm, ns := Nc, qualname := qc, hasDict := true, slotNames := sn, subclasses := sub, abstract := ab, collection := col, hasDel := false } := by unfold PySem.W.clsIn; rw [hCo] <;> rfl
    have haD : a ≠ D := fun z => by
      have := (e0.bs D _ (e0.mod.kin _ _ hCo)).2
      rw [← z, ha] at this
      cases this
    refine PySem.ks_wpAt_execs_cons (PySem.ks_wpAt_Expr_any (PySem.ks_wpAt_MethodCall ?_ (mcall_eq _ hline)))
    refine PySem.ks_wpAt_super_base (env := PySem.W.ksEnv q (supScope pn) s.heap.objs.size f (.ref cda) cc) l4 l3 (by decide) rfl (hK1 _ _ lk) rfl rfl rfl (hK1 _ _ hcode) rfl hvs hfile T.top ?_
    refine PySem.W.ks_loadName_global rfl l4 (Calls.loadGlobal_builtin (env := PySem.W.ksEnv q (supScope pn) s.heap.objs.size f (.ref cda) cc) (e0.mod.glob.keeps kb) T.gS (hmb.keeps kb) ((hmb2 _ (by decide)).trans (by decide +kernel)) ⟨rfl, ?_⟩)
    refine wpAny_loadName_free rfl l3 rfl ⟨_, hK1 _ _ hcell, rfl⟩ ?_
    refine wpAny_loadName_local rfl l1 hns vself ?_
    refine PySem.ks_wpAny_isType_cls hD1 hD2 ⟨rfl, ?_⟩
    refine PySem.ks_wpAny_call_super hD1 hD2 hoa rfl (fun c e => by cases e) (PySem.W.looks_mroIn hK1 T.self) (fun h2 e2 k2' => ?_)
    have hK2 : K.In h2 := hK1.keeps k2'
    have hl2 : ((PySem.W.clsIn K D).bind fun cd => PySem.W.alongIn K "__init__" ((cd.mro.dropWhile (· != .ref D)).drop 1)) = some (some (.builtin "ValueError.__init__")) := T.sup
    rw [hcl, Option.bind_some] at hl2
    refine PySem.W.kxs_getMethod PySem.W.kxs_ValueError e2 (PySem.W.looks_opaque hK2 T.op) (l₀ := .ref D :: bm) ?_ rfl hK2 hl2 ?_ haD (by decide) ?_
    · exact fun A Q E s k q => wpAny_bind ((PySem.W.looks_clsIn hK2 hcl) A _ E s k (wpAny_pure q))
    · have It : PySem.W.InstAt h2 a _ D none := ⟨k2' _ _ hoa, rfl, rfl, trivial⟩
      exact It.type.andThen (PySem.W.looks_subIn hK2 T.sub)
    refine PySem.W.kxs_callWith (i := "ValueError.__init__") (x := a) rfl ?_
    refine Calls.evalArgs_plain (Calls.spliced_cons (Calls.Constant_str (k := 0) (pos := p.a3) (Calls.spliced_nil ⟨?_, ?_⟩)))
    · exact Heap.get?_push_at rfl rfl
    have k3' : ∀ b o, h1.get? b = some o → (h2.push (PySem.W.kxs_mw "ValueError.__init__" a)).get? b = some o := fun b o e => Heap.get?_push_of_some _ (k2' b o e)
    refine call_vw (k3' _ _ (hK1 _ _ hCo)) (k3' _ _ hoa) (Heap.get?_push_at rfl rfl) (by show 1 ≤ sizeLine; rw [sizeLine_eq]; omega) (fun h4 t4 k4 hx4 => ?_)
    have Ia := I0.un (h' := h2.push (PySem.W.kxs_mw "ValueError.__init__" a)) (t' := s.toks + 2) (Un.kept k3') (I0.hok.kept k3')
    have Ib := Ia.write (t' := s.toks + 2) (x := a) (e := a) (o := exo a D none) (by rw [ha]; exact True.intro) (.inl rfl) k4 ⟨_, hx4⟩ (exo_ok hx4)
    have eu : upd H a (exo a D none) = H := by
      funext b
      by_cases hb : b = a
      · rw [hb, upd_same, ha]
      · rw [upd_ne hb]
    rw [eu] at Ib
    show PySem.wpAt _ _ _ (execs _ _) _ _ _
    refine PySem.ks_wpAt_execs_cons (PySem.ks_wpAt_Assign_Attr ?_)
    refine PySem.wpAt_of_wpAny ?_
    obtain ⟨m4, hn4, lk4⟩ := Ib.loc
    obtain ⟨u4, ru4, lu4⟩ := lk4 1 pn v rfl rfl (.inl l2)
    obtain ⟨a4, ra4, la4⟩ := lk4 0 "self" (.ref a) rfl rfl (.inl l1)
    cases (show a4 = Value.ref a from ra4)
    have mu4 : m4 pn = some u4 := by
      rcases lu4 with ⟨_, z⟩ | ⟨z | z, _⟩
      · exact z
      · exact absurd z (lc _)
      · exact absurd (l2.symm.trans z) (by simp)
    have ma4 : m4 "self" = some (.ref a) := by
      rcases la4 with ⟨_, z⟩ | ⟨z | z, _⟩
      · exact z
      · exact absurd z (lc _)
      · exact absurd (l1.symm.trans z) (by simp)
    refine wpAny_Name (wpAny_loadName_local rfl l2 hn4 mu4 ?_) n4
    refine wpAny_Name (wpAny_loadName_local rfl l1 hn4 ma4 ?_) (by decide)
    refine ost_new (X := cxS P w K mg base ["self", pn] (PySem.W.ksEnv q (supScope pn) s.heap.objs.size f (.ref cda) cc) A outer s H) (A := A.deeper (PySem.W.ksEnv q (supScope pn) s.heap.objs.size f (.ref cda) cc)) T.ox (Ib.tok _) ha T.noF ru4 (fun dx s' hn ne J => ?_)
    show PySem.wpAt _ _ _ (execs [] _) _ _ _
    rw [execs_nil]
    exact PySem.wpAt_of_wpAny (wpAny_pure ⟨.non, _, J.os, J.bare, J.base, J.hok, rfl, hq dx hn ne⟩)
end
end Sup

set_option Elab.async false
set_option linter.all false
set_option maxRecDepth 100000
set_option maxHeartbeats 1000000
namespace T82
open PySem PySem.Spec PyProof.Rows L2
abbrev PRG : Program := PySem.Challenge.pw_bestchance_k82_texts_of_plain_values
def top (i : Nat) : Stmt := PRG.main.body.getD i (.Pass ⟨0, 0, 0, 0⟩)
abbrev FnP (K : PySem.W.Frag) (x q : Str) (st : Stmt) (f : Addr) (fd : FuncData) : Prop := FunD K x q (defArgs st) (defBody st) (defScope st) [] [] f fd
/-- a def that may be called by its name -/
structure Cal (P : Program) (w : World) (K : PySem.W.Frag) (mg : Str → Option Value) (base : Heap) (CX : CXT) (k : Nat) (x : Str) (ps : List Str) (sp : Sp) : Prop where
  ex : ∃ f fd, mg x = some (.ref f) ∧ PySem.W.keepIn K (.ref f) = true ∧ Binds K fd ps [] ∧ FnOk P w K mg base CX k f fd ps sp
/-- where a def stands, and that its name tells it -/
structure At (K : PySem.W.Frag) (mg : Str → Option Value) (x : Str) (st : Stmt) : Prop where
  ex : ∃ f fd, mg x = some (.ref f) ∧ FnP K x x st f fd
section
variable {P : Program} {w : World} {K : PySem.W.Frag} {mg : Str → Option Value} {base : Heap} {CX : CXT}
theorem Cal.mono {j k : Nat} {x : Str} {ps : List Str} {sp : Sp} (C : Cal P w K mg base CX j x ps sp) (h : j ≤ k) : Cal P w K mg base CX k x ps sp := by
  obtain ⟨f, fd, a, b, c, d⟩ := C.ex
  exact ⟨f, fd, a, b, c, d.mono h⟩
theorem Cal.imp {k : Nat} {x : Str} {ps : List Str} {sp sp' : Sp} (C : Cal P w K mg base CX k x ps sp) (h : ∀ vs H Q E, sp' vs H Q E → sp vs H Q E) : Cal P w K mg base CX k x ps sp' := by
  obtain ⟨f, fd, a, b, c, d⟩ := C.ex
  exact ⟨f, fd, a, b, c, d.imp h⟩
/-- a def's promise, by its body -/
theorem cal_of {x : Str} {st : Stmt} {N ps : List Str} {k : Nat} {sp : Sp} (F : At K mg x st) (S : FnScope N ps (defScope st)) (len : ∀ vs H Q E, sp vs H Q E → vs.length = ps.length)
    (hb : ∀ (kV doc pm : Value) (an : Option Addr) (cdv ct : Value) (us : List Value), us.length = ps.length → bindArgs (PySem.W.fnOf x x (defArgs st) (defBody st) (defScope st) .none kV doc pm an cdv ct) ⟨us, []⟩ = pure (ps.zip us))
    (hbody : ∀ (f : Addr) (cdv : Value) (A : Around) (outer : List Env) (s : Shared) (H : Hp) (vs : List V) (Q : VK) (E : XK), Room k (A.deeper (envOfC x (defScope st) s.heap.objs.size f cdv)) → sp vs H Q E →
      ∃ t, PSs (cxOf CX P w K mg base N x (defScope st) f cdv A outer s H E) (defBody st) t ∧ t { nx := fun _ H' => Q .non H', rt := Q } (start N vs) H) : Cal P w K mg base CX (k + 1) x ps sp := by
  obtain ⟨f, fd, hm, D⟩ := F.ex
  exact ⟨f, fd, hm, D.kp, D.bindsN hb, D.ok S len fun cdv A outer s H vs Q E hr h => hbody f cdv A outer s H vs Q E hr h⟩
end
/-- never called -/
theorem cal_none {P : Program} {w : World} {K : PySem.W.Frag} {mg : Str → Option Value} {base : Heap} {CX : CXT} {x : Str} {st : Stmt} {ps : List Str} (k : Nat) (F : At K mg x st)
    (hb : ∀ (kV doc pm : Value) (an : Option Addr) (cdv ct : Value) (us : List Value), us.length = ps.length → bindArgs (PySem.W.fnOf x x (defArgs st) (defBody st) (defScope st) .none kV doc pm an cdv ct) ⟨us, []⟩ = pure (ps.zip us)) : Cal P w K mg base CX k x ps (fun _ _ _ _ => False) := by
  obtain ⟨f, fd, hm, D⟩ := F.ex
  exact ⟨f, fd, hm, D.kp, D.bindsN hb, ⟨fun _ _ _ _ h => h.elim, fun _ _ _ _ _ _ _ _ _ _ _ _ _ h => h.elim⟩⟩
section
variable {X : Cx} {CX : CXT} {k : Nat} {x : Str} {ps : List Str} {sp : Sp} {e : Expr} {es : List Expr} {t : TA} {p pos : Pos} {E : XK}
theorem pe_cal (C : Cal X.prog X.w X.K X.mg X.base CX k x ps sp) (hr : Room k X.A) (hg : Gl X x) (hx : Passes CX X E) (ha : PA X (e :: es) t) (hdb : (x == ("__debug__" : Str)) = false := by decide)
    (he : starEach (e :: es) X.env = (false, eval e X.env) :: starEach es X.env := by rfl) (hpl : (backTo pos (starEach es X.env)).any (·.1) = false := by rfl) : PE X (.Call (.Name x p) (e :: es) [] pos) (tCall sp [] E t) := by
  obtain ⟨f, fd, a, b, c, d⟩ := C.ex
  exact pe_call d hr hg a b c .nil hx ha hdb he hpl
/-- in a try: what the callee lets out is the body's wish -/
theorem pe_calS {W : WX} (tk : Takes X W) (C : Cal X.prog X.w X.K X.mg X.base (L2.CX X.prog X.w) k x ps sp) (hr : Room k X.A) (hg : Gl X x) (ha : PA X (e :: es) t) (hdb : (x == ("__debug__" : Str)) = false := by decide)
    (he : starEach (e :: es) X.env = (false, eval e X.env) :: starEach es X.env := by rfl) (hpl : (backTo pos (starEach es X.env)).any (·.1) = false := by rfl) : PE X (.Call (.Name x p) (e :: es) [] pos) (tCallS sp (WE W) t) := by
  obtain ⟨f, fd, a, b, c, d⟩ := C.ex
  exact pe_callS d hr hg a b c (fun σ => passAt tk σ) ha hdb he hpl
end
/-- a module's constants -/
theorem pe_gi {X : Cx} {x : Str} {i : Int} {pos : Pos} (hm : ∃ t, X.mg x = some (.int i t)) (hg : Gl X x := by rfl) (hd : (x == ("__debug__" : Str)) = false := by decide) : PE X (.Name x pos) (tC (.int i)) := by
  obtain ⟨t, h⟩ := hm
  exact pe_glob hg h ⟨_, rfl⟩ hd
theorem pe_gs {X : Cx} {x z : Str} {pos : Pos} (hm : ∃ t, X.mg x = some (.str z t)) (hg : Gl X x := by rfl) (hd : (x == ("__debug__" : Str)) = false := by decide) : PE X (.Name x pos) (tC (.str z)) := by
  obtain ⟨t, h⟩ := hm
  exact pe_glob hg h ⟨_, rfl⟩ hd
/-! ### what stands at the top -/
structure Fx (K : PySem.W.Frag) (mg : Str → Option Value) : Prop where
  b_len : mg "len" = none
  b_abs : mg "abs" = none
  b_str : mg "str" = none
  b_int : mg "int" = none
  b_bool : mg "bool" = none
  b_tuple : mg "tuple" = none
  b_isinstance : mg "isinstance" = none
  b_all : mg "all" = none
  b_sum : mg "sum" = none
  b_max : mg "max" = none
  b_min : mg "min" = none
  b_range : mg "range" = none
  b_repr : mg "repr" = none
  c_nested : ∃ t, mg "MOST_NESTED" = some (.int 30 t)
  c_text : ∃ t, mg "MOST_TEXT" = some (.int 4000 t)
  c_far : ∃ t, mg "FARTHEST" = some (.int (10 ^ 64) t)
  c_signs : ∃ t, mg "SIGNS" = some (.str "abcdefghijklmnopqrstuvwxyz " t)
  c_digits : ∃ t, mg "DIGITS" = some (.str "0123456789" t)
  c_none : ∃ t, mg "NONE" = some (.str "none" t)
  c_quote : ∃ t, mg "QUOTE" = some (.str "\"" t)
  dig : ∀ h : Heap, K.In h → h.NoDigits
/-! ### data -/
mutual
theorem dp_same {K : PySem.W.Frag} {H H' : Hp} (e : Same H H') : ∀ {v : V} {d : PyData}, Dp K H v d → Dp K H' v d
  | _, _, .non => .non
  | _, _, .bl b => .bl b
  | _, _, .int i => .int i
  | _, _, .str x => .str x
  | _, _, .lst h k => .lst (e.seq h) (dpall_same e k)
  | _, _, .tup h k => .tup (by
      rcases h with h | h
      · rcases h with h | ⟨o, h⟩
        · exact .inl (.inl (e _ _ h))
        · exact .inl (.inr ⟨o, e _ _ h⟩)
      · exact .inr h) (dpall_same e k)
theorem dpall_same {K : PySem.W.Frag} {H H' : Hp} (e : Same H H') : ∀ {vs : List V} {ds : List PyData}, DpAll K H vs ds → DpAll K H' vs ds
  | _, _, .nil => .nil
  | _, _, .cons h k => .cons (dp_same e h) (dpall_same e k)
end
end T82

set_option Elab.async false
set_option linter.all false
set_option maxRecDepth 100000
set_option maxHeartbeats 1000000
namespace T82
open PySem PySem.Spec PyProof.Rows L2
/-! plain things at v: None, bools, ints, texts, tuples of such -/
mutual
inductive Tp (H : Hp) : V → PyData → Prop
  | non : Tp H .non .none
  | bl (b : Bool) : Tp H (.bl b) (.bool b)
  | int (i : Int) : Tp H (.int i) (.int i)
  | str (x : Str) : Tp H (.str x) (.str x)
  | tup {a : Addr} {xs : List V} {ds : List PyData} : H a = some (.tup xs) → TpAll H xs ds → Tp H (.ref a) (.tuple ds)
inductive TpAll (H : Hp) : List V → List PyData → Prop
  | nil : TpAll H [] []
  | cons {v : V} {vs : List V} {d : PyData} {ds : List PyData} : Tp H v d → TpAll H vs ds → TpAll H (v :: vs) (d :: ds)
end
/-- the tuples stand -/
def TupK (H H' : Hp) : Prop := ∀ a xs, H a = some (.tup xs) → H' a = some (.tup xs)
theorem _root_.L2.Same.tups {H H' : Hp} (e : Same H H') : TupK H H' := fun a xs h => e _ _ h
theorem TupK.trans {H H1 H2 : Hp} (a : TupK H H1) (b : TupK H1 H2) : TupK H H2 := fun c xs h => b c xs (a c xs h)
mutual
theorem Tp.keep {H H' : Hp} (e : TupK H H') : ∀ {v : V} {d : PyData}, Tp H v d → Tp H' v d
  | _, _, .non => .non
  | _, _, .bl b => .bl b
  | _, _, .int i => .int i
  | _, _, .str x => .str x
  | _, _, .tup h k => .tup (e _ _ h) (TpAll.keep e k)
theorem TpAll.keep {H H' : Hp} (e : TupK H H') : ∀ {vs : List V} {ds : List PyData}, TpAll H vs ds → TpAll H' vs ds
  | _, _, .nil => .nil
  | _, _, .cons h k => .cons (Tp.keep e h) (TpAll.keep e k)
end
mutual
theorem Tp.dp {K : PySem.W.Frag} {H : Hp} : ∀ {v : V} {d : PyData}, Tp H v d → Dp K H v d
  | _, _, .non => .non
  | _, _, .bl b => .bl b
  | _, _, .int i => .int i
  | _, _, .str x => .str x
  | _, _, .tup h k => .tup (SqT.of h) (TpAll.dp k)
theorem TpAll.dp {K : PySem.W.Frag} {H : Hp} : ∀ {vs : List V} {ds : List PyData}, TpAll H vs ds → DpAll K H vs ds
  | _, _, .nil => .nil
  | _, _, .cons h k => .cons (Tp.dp h) (TpAll.dp k)
end
theorem TpAll.len {H : Hp} : ∀ {vs : List V} {ds : List PyData}, TpAll H vs ds → vs.length = ds.length
  | _, _, .nil => rfl
  | _, _, .cons _ k => congrArg Nat.succ (TpAll.len k)
theorem TpAll.get {H : Hp} : ∀ {vs : List V} {ds : List PyData}, TpAll H vs ds → ∀ {i : Nat} {v : V}, vs[i]? = some v → ∃ d, ds[i]? = some d ∧ Tp H v d
  | _, _, .nil, i, v, h => by simp at h
  | _, _, .cons h k, 0, v, e => by
    have : _ = v := Option.some.inj e
    subst this
    exact ⟨_, rfl, h⟩
  | _, _, .cons h k, i + 1, v, e => TpAll.get k (i := i) e
theorem TpAll.app {H : Hp} : ∀ {vs : List V} {ds : List PyData} {v : V} {d : PyData}, TpAll H vs ds → Tp H v d → TpAll H (vs ++ [v]) (ds ++ [d])
  | _, _, _, _, .nil, h => .cons h .nil
  | _, _, _, _, .cons a k, h => .cons a (TpAll.app k h)
/-- such data, or a list, or the empty dict -/
inductive Dv (H : Hp) : V → PyData → Prop
  | tp {v : V} {d : PyData} (h : Tp H v d) : Dv H v d
  | lst {a : Addr} {xs : List V} (h : H a = some (.lst xs)) : Dv H (.ref a) (.list [])
  | emp {a : Addr} (h : H a = some (.dK [])) : Dv H (.ref a) (.dict [])
theorem Dv.same {H H' : Hp} (e : Same H H') {v : V} {d : PyData} (h : Dv H v d) : Dv H' v d := by
  cases h with
  | tp h => exact .tp (h.keep e.tups)
  | lst h => exact .lst (e _ _ h)
  | emp h => exact .emp (e _ _ h)
def tyN : PyData → String
  | .none => "NoneType"
  | .bool _ => "bool"
  | .int _ => "int"
  | .str _ => "str"
  | .list _ => "list"
  | .tuple _ => "tuple"
  | .dict _ => "dict"
theorem Dv.ty {K : PySem.W.Frag} {H : Hp} {v : V} {d : PyData} (h : Dv H v d) : TyX K H v (.type (tyN d)) := by
  cases h with
  | emp h => exact .base (.dK h)
  | lst h => exact .base (.lst h)
  | tp h =>
    cases h with
    | non => exact .base .non
    | bl b => exact .base (.bl b)
    | int i => exact .base (.int i)
    | str x => exact .base (.str x)
    | tup h _ => exact .base (.tup h)
def isI : PyData → Bool
  | .int _ => true
  | _ => false
def isB : PyData → Bool
  | .bool _ => true
  | _ => false
def isS : PyData → Bool
  | .str _ => true
  | _ => false
def isT : PyData → Bool
  | .tuple _ => true
  | _ => false
def isN : PyData → Bool
  | .none => true
  | _ => false
theorem kit_int {K : PySem.W.Frag} : ∀ d : PyData, PySem.W.kitOne K (.type (tyN d)) (.type "int") = some (isI d || isB d)
  | .none => kit_ty (a := "NoneType") (b := "int") (show kitB "NoneType" "int" = some false by decide +kernel)
  | .bool _ => kit_ty (a := "bool") (b := "int") (show kitB "bool" "int" = some true by decide +kernel)
  | .int _ => kit_ty (a := "int") (b := "int") (show kitB "int" "int" = some true by decide +kernel)
  | .str _ => kit_ty (a := "str") (b := "int") (show kitB "str" "int" = some false by decide +kernel)
  | .list _ => kit_ty (a := "list") (b := "int") (show kitB "list" "int" = some false by decide +kernel)
  | .tuple _ => kit_ty (a := "tuple") (b := "int") (show kitB "tuple" "int" = some false by decide +kernel)
  | .dict _ => kit_ty (a := "dict") (b := "int") (show kitB "dict" "int" = some false by decide +kernel)
theorem kit_bool {K : PySem.W.Frag} : ∀ d : PyData, PySem.W.kitOne K (.type (tyN d)) (.type "bool") = some (isB d)
  | .none => kit_ty (a := "NoneType") (b := "bool") (show kitB "NoneType" "bool" = some false by decide +kernel)
  | .bool _ => kit_ty (a := "bool") (b := "bool") (show kitB "bool" "bool" = some true by decide +kernel)
  | .int _ => kit_ty (a := "int") (b := "bool") (show kitB "int" "bool" = some false by decide +kernel)
  | .str _ => kit_ty (a := "str") (b := "bool") (show kitB "str" "bool" = some false by decide +kernel)
  | .list _ => kit_ty (a := "list") (b := "bool") (show kitB "list" "bool" = some false by decide +kernel)
  | .tuple _ => kit_ty (a := "tuple") (b := "bool") (show kitB "tuple" "bool" = some false by decide +kernel)
  | .dict _ => kit_ty (a := "dict") (b := "bool") (show kitB "dict" "bool" = some false by decide +kernel)
theorem kit_str {K : PySem.W.Frag} : ∀ d : PyData, PySem.W.kitOne K (.type (tyN d)) (.type "str") = some (isS d)
  | .none => kit_ty (a := "NoneType") (b := "str") (show kitB "NoneType" "str" = some false by decide +kernel)
  | .bool _ => kit_ty (a := "bool") (b := "str") (show kitB "bool" "str" = some false by decide +kernel)
  | .int _ => kit_ty (a := "int") (b := "str") (show kitB "int" "str" = some false by decide +kernel)
  | .str _ => kit_ty (a := "str") (b := "str") (show kitB "str" "str" = some true by decide +kernel)
  | .list _ => kit_ty (a := "list") (b := "str") (show kitB "list" "str" = some false by decide +kernel)
  | .tuple _ => kit_ty (a := "tuple") (b := "str") (show kitB "tuple" "str" = some false by decide +kernel)
  | .dict _ => kit_ty (a := "dict") (b := "str") (show kitB "dict" "str" = some false by decide +kernel)
theorem kit_tuple {K : PySem.W.Frag} : ∀ d : PyData, PySem.W.kitOne K (.type (tyN d)) (.type "tuple") = some (isT d)
  | .none => kit_ty (a := "NoneType") (b := "tuple") (show kitB "NoneType" "tuple" = some false by decide +kernel)
  | .bool _ => kit_ty (a := "bool") (b := "tuple") (show kitB "bool" "tuple" = some false by decide +kernel)
  | .int _ => kit_ty (a := "int") (b := "tuple") (show kitB "int" "tuple" = some false by decide +kernel)
  | .str _ => kit_ty (a := "str") (b := "tuple") (show kitB "str" "tuple" = some false by decide +kernel)
  | .list _ => kit_ty (a := "list") (b := "tuple") (show kitB "list" "tuple" = some false by decide +kernel)
  | .tuple _ => kit_ty (a := "tuple") (b := "tuple") (show kitB "tuple" "tuple" = some true by decide +kernel)
  | .dict _ => kit_ty (a := "dict") (b := "tuple") (show kitB "dict" "tuple" = some false by decide +kernel)
theorem isW_eq (d : PyData) : ((isI d || isB d) && !isB d) = isI d := by cases d <;> rfl
section
variable {P : Program} {w : World} {K : PySem.W.Frag} {mg : Str → Option Value} {base : Heap}
/-! ### isinstance(x, T), T a built-in type -/
theorem pe_isi {X : Cx} {e : Expr} {te : TE} {n : Str} {T : String} {p1 p2 pos : Pos} (hm : X.mg "isinstance" = none) (hT : X.mg n = none) (he : PE X e te) (g1 : Gl X "isinstance" := by rfl) (g2 : Gl X n := by rfl) (hb : bootBuiltins n = some (.type T) := by decide +kernel) (hn : n ≠ "__name__" := by decide) (hd : (n == ("__debug__" : Str)) = false := by decide)
    (h1 : starEach (e :: [.Name n p2]) X.env = (false, eval e X.env) :: starEach [.Name n p2] X.env := by rfl) (h2 : starEach (.Name n p2 :: []) X.env = (false, eval (.Name n p2) X.env) :: starEach [] X.env := by rfl) (hpl : (backTo pos (starEach [.Name n p2] X.env)).any (·.1) = false := by rfl) :
    PE X (.Call (.Name "isinstance" p1) [e, .Name n p2] [] pos) (tCB (rIsi X.K) (tCons te (tCons (tC (.ty T)) tNil))) :=
  pe_callB call_isi g1 hm (by decide +kernel) (pa_cons he (pa_cons (pe_bltn g2 hT hb rfl hn hd) pa_nil h2) h1) (he := h1) (hpl := hpl)
/-! ### is_whole -/
abbrev sIsWhole : Stmt := top 5
theorem scIsWhole : FnScope ["value"] ["value"] (defScope sIsWhole) := ⟨rfl, rfl, rfl, by decide +kernel, rfl, by decide +kernel, by decide +kernel⟩
def spIsWhole : Sp := fun vs H Q _ => ∃ x d, vs = [x] ∧ Dv H x d ∧ Q (.bl (isI d)) H
theorem ok_is_whole (F : Fx K mg) (D : At K mg "is_whole" sIsWhole) : Cal P w K mg base CX0 1 "is_whole" ["value"] spIsWhole := by
  refine cal_of D scIsWhole (fun vs H Q E h => ?_) (fun _ _ _ _ _ _ us hl => match us, hl with | [_], _ => rfl) fun f cdv A outer s H vs Q E hr h => ⟨_, PSs.nox (pss_one (ps_ret (pe_and (pe_isi (T := "int") F.b_isinstance F.b_int (pv 0)) (pe_one (pe_not (pe_isi (T := "bool") F.b_isinstance F.b_bool (pv 0)))))) ), ?_⟩
  · obtain ⟨x, d, rfl, _⟩ := h
    rfl
  · obtain ⟨x, d, rfl, hd, hq⟩ := h
    refine ⟨x, rfl, x, .ty "int", _, _, _, rfl, .ty _, hd.ty, kit_int d, _, rfl, ?_⟩
    have e := isW_eq d
    cases hb : (isI d || isB d) with
    | false =>
      rw [hb] at e
      refine iteF ?_
      rw [show false = isI d from e]
      exact hq
    | true =>
      rw [hb] at e
      refine iteT ⟨x, rfl, x, .ty "bool", _, _, _, rfl, .ty _, hd.ty, kit_bool d, _, rfl, ?_⟩
      rw [show (!isB d) = isI d from e]
      exact hq
end
end T82

set_option Elab.async false
set_option linter.all false
set_option maxRecDepth 100000
set_option maxHeartbeats 1000000
namespace T82
open PySem PySem.Spec PyProof.Rows L2 TL
/-! ### digits -/
theorem numL_le {k n : Nat} (hk : 0 < k) : (numL n).length ≤ k ↔ n < 10 ^ k := by
  refine ⟨fun h => ?_, fun h => numL_len hk h⟩
  have e := digVal_lt (numL n) (numL_digits n)
  rw [numL_val] at e
  exact Nat.lt_of_lt_of_le e (Nat.pow_le_pow_right (by decide) h)
theorem str_len (n : Nat) : (Str.ofString (toString (n : Int))).length = (numL n).length := by
  rw [len_tl, tl_int]
  unfold intT
  rw [if_neg (by omega)]
  rfl
theorem div64 (n t : Nat) : n / 10 ^ (64 * t) / 10 ^ 64 = n / 10 ^ (64 * (t + 1)) := by
  rw [Nat.div_div_eq_div_mul, ← Nat.pow_add]
  congr 2
theorem short_end {n t : Nat} (ht : t ≤ 62) (hl : n / 10 ^ (64 * t) < 10 ^ 64) : decide (((64 * t : Nat) : Int) + (((numL (n / 10 ^ (64 * t))).length : Nat) : Int) ≤ 4000) = decide (n < 10 ^ 4000) := by
  have k : (numL (n / 10 ^ (64 * t))).length ≤ 4000 - 64 * t ↔ n < 10 ^ 4000 := by
    rw [numL_le (by omega), Nat.div_lt_iff_lt_mul (Nat.pow_pos (by decide)), ← Nat.pow_add, show 4000 - 64 * t + 64 * t = 4000 by omega]
  apply decide_eq_decide.mpr
  rw [← k]
  omega
theorem short_far {n : Nat} (hl : 10 ^ 64 ≤ n / 10 ^ (64 * 62)) : ¬ n < 10 ^ 4000 := by
  have h := (Nat.le_div_iff_mul_le (Nat.pow_pos (by decide))).mp hl
  rw [← Nat.pow_add] at h
  have : (10 : Nat) ^ 4000 ≤ 10 ^ (64 + 64 * 62) := Nat.pow_le_pow_right (by decide) (by decide)
  omega
abbrev sShort : Stmt := top 14
theorem scShort : FnScope ["value", "left", "digits"] ["value"] (defScope sShort) := ⟨rfl, rfl, rfl, by decide +kernel, rfl, by decide +kernel, by decide +kernel⟩
def shortB : PyData → Bool
  | .int i => decide (i.natAbs < 10 ^ 4000)
  | _ => false
def spShort : Sp := fun vs H Q _ => ∃ x d, vs = [x] ∧ Dv H x d ∧ Q (.bl (shortB d)) H
theorem abs_nat (i : Int) : (if i < 0 then -i else i) = ((i.natAbs : Nat) : Int) := by
  split <;> omega
theorem far_log : ((10 : Int) ^ 64).natAbs.log2 < 9000 := by decide +kernel
theorem ten64 : ((10 ^ 64 : Nat) : Int) = (10 : Int) ^ 64 := by decide +kernel
theorem log1920 {n : Nat} (h : n < 10 ^ 64) : ((n : Int)).natAbs.log2 < 1920 := by
  show n.log2 < 1920
  exact log_of (Nat.lt_of_lt_of_le h (Nat.pow_le_pow_right (by decide) (by decide)))
theorem isI_of {H : Hp} {x : V} {d : PyData} (h : Dv H x d) (e : isI d = true) : ∃ i, x = .int i ∧ d = .int i := by
  cases h with
  | emp h => cases e
  | lst h => cases e
  | tp h => cases h with
    | int i => exact ⟨i, rfl, rfl⟩
    | _ => cases e
section
variable {P : Program} {w : World} {K : PySem.W.Frag} {mg : Str → Option Value} {base : Heap}
theorem ok_short (F : Fx K mg) (D : At K mg "is_short_whole" sShort) (G1 : Cal P w K mg base CX0 1 "is_whole" ["value"] spIsWhole) : Cal P w K mg base CX0 2 "is_short_whole" ["value"] spShort := by
  refine cal_of D scShort (fun vs H Q E h => ?_) (fun _ _ _ _ _ _ us hl => match us, hl with | [_], _ => rfl) fun f cdv A outer s H vs Q E hr h => ⟨_, PSs.nox (pss_cons (ps_if (pt_not (pt_val (pe_cal G1 hr rfl pass0 (pa_cons (pv 0) pa_nil)))) (pss_one (ps_ret pe_bl)) pss_nil)
    (pss_cons (ps_par (by rfl) scShort.nd (i := 1) (j := 2) rfl rfl (by decide) rfl rfl (pa_cons (pe_callB call_abs rfl F.b_abs (by decide +kernel) (pa_cons (pv 0) pa_nil)) (pa_cons pe_int pa_nil)) (by rfl))
    (pss_cons (ps_while PassesOwn.never (pt_cmpR op_ge (pv 1) (pe_gi F.c_far) (nomark _))
      (pss_cons (ps_par (by rfl) scShort.nd (i := 1) (j := 2) rfl rfl (by decide) rfl rfl (pa_cons (pe_op op_fdivW (pv 1) (pe_gi F.c_far)) (pa_cons (pe_op op_add (pv 2) pe_int) pa_nil)) (by rfl))
        (pss_one (ps_if (pt_cmpR op_gt (pv 2) (pe_gi F.c_text) (nomark _)) (pss_one (ps_ret pe_bl)) pss_nil))))
    (pss_one (ps_ret (pe_cmpR op_le (pe_op op_add (pv 2) (pe_callB call_len rfl F.b_len boot_len (pa_cons (pe_callTy call_str_int rfl F.b_str (by decide +kernel) (pa_cons (pv 1) pa_nil)) pa_nil))) (pe_gi F.c_text) (nomark _))))))), ?_⟩
  · obtain ⟨x, d, rfl, _⟩ := h
    rfl
  · obtain ⟨x, d, rfl, hd, hq⟩ := h
    refine ⟨x, rfl, x, d, rfl, hd, _, rfl, ?_⟩
    cases hi : isI d with
    | false =>
      refine iteT ?_
      have : shortB d = false := by cases d <;> first | rfl | cases hi
      rw [this] at hq
      exact hq
    | true =>
      refine iteF ?_
      obtain ⟨i, rfl, rfl⟩ := isI_of hd hi
      refine ⟨_, rfl, i, rfl, _, _, rfl, ?_⟩
      rw [abs_nat]
      refine while_by (fun σ H' => H' = H ∧ ∃ t : Nat, t ≤ 62 ∧ σ = [some (.int i), some (.int ((i.natAbs / 10 ^ (64 * t) : Nat) : Int)), some (.int ((64 * t : Nat) : Int))]) (fun σ _ => match σ with | [_, some (.int L), _] => L.natAbs | _ => 0) ⟨rfl, 0, by omega, by simp; rfl⟩ ?_ ?_
      · rintro σ H' ⟨rfl, t, ht, rfl⟩
        refine ⟨_, rfl, _, _, rfl, rfl, _, rfl, ?_⟩
        by_cases hc : (10 : Int) ^ 64 ≤ ((i.natAbs / 10 ^ (64 * t) : Nat) : Int)
        · rw [decide_eq_true hc]
          refine iteT ?_
          have hn : 10 ^ 64 ≤ i.natAbs / 10 ^ (64 * t) := by
            rw [← ten64] at hc
            exact Int.ofNat_le.mp hc
          have e1 : ((i.natAbs / 10 ^ (64 * t) : Nat) : Int) / (10 : Int) ^ 64 = ((i.natAbs / 10 ^ (64 * (t + 1)) : Nat) : Int) := by
            rw [← ten64, ← Int.natCast_ediv, div64]
          have e2 : ((64 * t : Nat) : Int) + 64 = ((64 * (t + 1) : Nat) : Int) := by omega
          refine ⟨_, rfl, _, _, rfl, rfl, ⟨by decide +kernel, far_log⟩, _, rfl, _, _, rfl, rfl, V.int ((i.natAbs / 10 ^ (64 * (t + 1)) : Nat) : Int), V.int ((64 * (t + 1) : Nat) : Int), (by show [V.int (_ / _), V.int (_ + _)] = _; rw [e1, e2]), ?_⟩
          refine ⟨_, rfl, _, _, rfl, rfl, _, rfl, ?_⟩
          by_cases h2 : (4000 : Int) < ((64 * (t + 1) : Nat) : Int)
          · rw [decide_eq_true h2]
            refine iteT ?_
            have ht2 : t = 62 := by omega
            subst ht2
            have : shortB (.int i) = false := decide_eq_false (short_far hn)
            rw [this] at hq
            exact hq
          · rw [decide_eq_false h2]
            refine iteF ?_
            refine ⟨⟨rfl, t + 1, by omega, rfl⟩, ?_⟩
            show (((i.natAbs / 10 ^ (64 * (t + 1)) : Nat) : Int)).natAbs < (((i.natAbs / 10 ^ (64 * t) : Nat) : Int)).natAbs
            rw [Int.natAbs_natCast, Int.natAbs_natCast, ← div64]
            exact Nat.div_lt_self (Nat.lt_of_lt_of_le (Nat.pow_pos (by decide)) hn) (by decide)
        · rw [decide_eq_false hc]
          refine iteF ?_
          have hn : i.natAbs / 10 ^ (64 * t) < 10 ^ 64 := by
            rw [← ten64] at hc
            exact Nat.lt_of_not_le fun z => hc (Int.ofNat_le.mpr z)
          have hL : (Str.ofString (toString ((i.natAbs / 10 ^ (64 * t) : Nat) : Int))).length = (numL (i.natAbs / 10 ^ (64 * t))).length := str_len _
          refine ⟨_, rfl, _, rfl, _, rfl, log1920 hn, _, (numL (i.natAbs / 10 ^ (64 * t))).length, rfl, ⟨?_, hL.symm⟩, _, _, rfl, rfl, _, _, rfl, rfl, ?_⟩
          · rw [hL, sizeLine_eq]
            exact Nat.le_trans (numL_len (by decide) hn) (by decide)
          · show Q (V.bl (decide (((64 * t : Nat) : Int) + (((numL (i.natAbs / 10 ^ (64 * t))).length : Nat) : Int) ≤ 4000))) _
            rw [short_end ht hn]
            exact hq
      · exact fun σ H' Q Q' hQ h => by
          obtain ⟨v, h1, u, u2, e1, e2, k, e3, q⟩ := h
          exact ⟨v, h1, u, u2, e1, e2, k, e3, hQ _ _ q⟩
end
end T82

set_option Elab.async false
set_option linter.all false
set_option maxRecDepth 100000
set_option maxHeartbeats 1000000
namespace T82
open PySem PySem.Spec PyProof.Rows L2
theorem lc_yes {σ : L2.St} {H : Hp} {A B : Hp → Prop} (h : A H) : tYes σ H (fun b H3 => if b = true then A H3 else B H3) := by
  show if true = true then A H else B H
  rw [if_pos rfl]
  exact h
theorem take_snoc {α : Type} {xs : List α} {i : Nat} {x : α} (h : xs[i]? = some x) : xs.take (i + 1) = xs.take i ++ [x] := by
  rw [List.take_add_one, h]
  rfl
theorem snoc_get {α : Type} {ys : List α} {y z : α} {j : Nat} (h : (ys ++ [y])[j]? = some z) : ys[j]? = some z ∨ (j = ys.length ∧ z = y) := by
  by_cases hj : j < ys.length
  · rw [List.getElem?_append_left hj] at h
    exact .inl h
  · rw [List.getElem?_append_right (by omega)] at h
    have e : j - ys.length = 0 := by
      cases e : j - ys.length with
      | zero => rfl
      | succ n => rw [e] at h; simp at h
    rw [e] at h
    exact .inr ⟨by omega, (Option.some.inj h).symm⟩
/-- what a comprehension over a tuple's items makes -/
theorem lc_mapT {K : PySem.W.Frag} {a : Addr} {xs : List V} {g : TG} {tt : TT} {te : TE} {vs : List Nat} {σ : L2.St} {H1 : Hp} {D : Addr} {Qd : Hp → Prop} (R : Nat → V → Hp → Prop) (hT : H1 a = some (.tup xs)) (hD : H1 D = none) (hl : xs.length ≤ sizeLine)
    (stab : ∀ i y H H', TupK H H' → R i y H → R i y H')
    (hs : ∀ (i : Nat) x H (k : Hp → Prop), xs[i]? = some x → Same H1 H → (∀ y H4, Same H H4 → R i y H4 → ∃ acc, H4 D = some (.lst acc) ∧ acc.length < sizeLine ∧ k (upd H4 D (.lst (acc ++ [y])))) → g x (wipe σ vs) H fun σ2 H2 => wipe σ2 vs = wipe σ vs ∧ tt σ2 H2 fun b H3 =>
      if b = true then te σ2 H3 fun y H4 => ∃ acc, H4 D = some (.lst acc) ∧ acc.length < sizeLine ∧ k (upd H4 D (.lst (acc ++ [y]))) else k H3)
    (hd : ∀ H ys, ys.length = xs.length → (∀ i y, ys[i]? = some y → R i y H) → H D = some (.lst ys) → Same H1 H → Qd H) :
    ∃ W : Nat → Nat → Hp → Prop, (∃ m, W 0 m (upd H1 D (.lst []))) ∧ ∀ i m H, W i m H →
      ((Itt K a).stop i H ∧ Qd H) ∨ ((Itt K a).go i H ∧ ∃ Nx : Hp → Prop, (∀ H', Nx H' → ∃ m', m' < m ∧ W (i + 1) m' H') ∧ ∀ x H', (Itt K a).yld i H x H' → g x (wipe σ vs) H' fun σ2 H2 => wipe σ2 vs = wipe σ vs ∧ tt σ2 H2 fun b H3 =>
        if b = true then te σ2 H3 fun y H4 => ∃ acc, H4 D = some (.lst acc) ∧ acc.length < sizeLine ∧ Nx (upd H4 D (.lst (acc ++ [y]))) else Nx H3) := by
  have haD : ∀ b o, H1 b = some o → b ≠ D := fun b o h z => by rw [z, hD] at h; cases h
  refine lc_tup (K := K) (a := a) (xs := xs) (fun i H => ∃ ys, ys.length = i ∧ (∀ j y, ys[j]? = some y → R j y H) ∧ H D = some (.lst ys) ∧ Same H1 H) ⟨[], rfl, fun j y h => by simp at h, upd_same, fun b o h => by rw [upd_ne (haD b o h)]; exact h⟩ (fun i H _ ⟨_, _, _, _, s⟩ => SqT.of (s _ _ hT)) (fun i x H hx ⟨ys, hy, hr, hDl, sm⟩ => ?_) (fun H ⟨ys, hy, hr, hDl, sm⟩ => hd H ys hy hr hDl sm)
  refine hs i x H _ hx sm fun y H4 s4 r => ⟨ys, s4 _ _ hDl, ?_, ys ++ [y], ?_, ?_, upd_same, fun b o h => by rw [upd_ne (haD b o h)]; exact s4 _ _ (sm _ _ h)⟩
  · have hi : i < xs.length := by
      obtain ⟨h, _⟩ := List.getElem?_eq_some_iff.mp hx
      exact h
    omega
  · rw [List.length_append, hy]
    rfl
  · have tk : TupK H4 (upd H4 D (.lst (ys ++ [y]))) := fun b zs h => by
      have : b ≠ D := fun z => by
        rw [z, s4 _ _ hDl] at h
        cases h
      rw [upd_ne this]
      exact h
    intro j z hz
    rcases snoc_get hz with h | ⟨rfl, rfl⟩
    · exact stab _ _ _ _ (s4.tups.trans tk) (hr j z h)
    · rw [hy]
      exact stab _ _ _ _ tk r
/-- and over a text's signs -/
theorem lc_mapS {z : Str} {g : TG} {tt : TT} {te : TE} {vs : List Nat} {σ : L2.St} {H1 : Hp} {D : Addr} {Qd : Hp → Prop} (f : Nat → Option V) (hD : H1 D = none) (hl : z.length ≤ sizeLine)
    (hs : ∀ c H (k : Hp → Prop), c ∈ TL.tl z → Same H1 H → (∀ y, f c = some y → ∃ acc, H D = some (.lst acc) ∧ acc.length < sizeLine ∧ k (upd H D (.lst (acc ++ [y])))) → (f c = none → k H) → g (.str ⟨#[c]⟩) (wipe σ vs) H fun σ2 H2 => wipe σ2 vs = wipe σ vs ∧ tt σ2 H2 fun b H3 =>
      if b = true then te σ2 H3 fun y H4 => ∃ acc, H4 D = some (.lst acc) ∧ acc.length < sizeLine ∧ k (upd H4 D (.lst (acc ++ [y]))) else k H3)
    (hd : ∀ H, H D = some (.lst ((TL.tl z).filterMap f)) → Same H1 H → Qd H) :
    ∃ W : Nat → Nat → Hp → Prop, (∃ m, W 0 m (upd H1 D (.lst []))) ∧ ∀ i m H, W i m H →
      ((Its z).stop i H ∧ Qd H) ∨ ((Its z).go i H ∧ ∃ Nx : Hp → Prop, (∀ H', Nx H' → ∃ m', m' < m ∧ W (i + 1) m' H') ∧ ∀ x H', (Its z).yld i H x H' → g x (wipe σ vs) H' fun σ2 H2 => wipe σ2 vs = wipe σ vs ∧ tt σ2 H2 fun b H3 =>
        if b = true then te σ2 H3 fun y H4 => ∃ acc, H4 D = some (.lst acc) ∧ acc.length < sizeLine ∧ Nx (upd H4 D (.lst (acc ++ [y]))) else Nx H3) := by
  have haD : ∀ b o, H1 b = some o → b ≠ D := fun b o h z => by rw [z, hD] at h; cases h
  have hsz : z.cps.size = (TL.tl z).length := by simp [TL.tl]
  have hget : ∀ i : Nat, z.cps[i]? = (TL.tl z)[i]? := fun i => by simp [TL.tl]
  refine ⟨fun i m H => m = z.cps.size - i ∧ i ≤ z.cps.size ∧ H D = some (.lst (((TL.tl z).take i).filterMap f)) ∧ Same H1 H, ⟨_, rfl, Nat.zero_le _, upd_same, fun b o h => by rw [upd_ne (haD b o h)]; exact h⟩, ?_⟩
  rintro i m H ⟨rfl, hi, hDl, sm⟩
  by_cases hlt : i < z.cps.size
  · refine .inr ⟨hlt, fun H' => i + 1 ≤ z.cps.size ∧ H' D = some (.lst (((TL.tl z).take (i + 1)).filterMap f)) ∧ Same H1 H', fun H' ⟨h1, h2, h3⟩ => ⟨z.cps.size - (i + 1), by omega, rfl, h1, h2, h3⟩, fun x H' yl => ?_⟩
    obtain ⟨rfl, c, hc, rfl⟩ := yl
    have hc' : (TL.tl z)[i]? = some c := by rw [← hget]; exact hc
    refine hs c H' _ (List.mem_of_getElem? hc') sm (fun y hy => ⟨_, hDl, ?_, by omega, ?_, fun b o h => by rw [upd_ne (haD b o h)]; exact sm _ _ h⟩) (fun hn => ⟨by omega, ?_, sm⟩)
    · have : (((TL.tl z).take i).filterMap f).length ≤ i := Nat.le_trans (List.length_filterMap_le _ _) (by rw [List.length_take]; exact Nat.min_le_left _ _)
      have e : z.length = z.cps.size := rfl
      omega
    · rw [upd_same, take_snoc hc', List.filterMap_append, List.filterMap_cons, hy]
      rfl
    · rw [take_snoc hc', List.filterMap_append, List.filterMap_cons, hn, hDl]
      simp
  · have e : i = z.cps.size := by omega
    refine .inl ⟨Nat.le_of_eq e.symm, hd H ?_ sm⟩
    rw [hDl, List.take_of_length_le (by omega)]
end T82

set_option Elab.async false
set_option linter.all false
set_option maxRecDepth 100000
set_option maxHeartbeats 1000000
namespace T82
open PySem PySem.Spec PyProof.Rows L2 TL
abbrev sPlainIn : Stmt := top 15
theorem scPlainIn : FnScope ["value", "left", "sign", "member"] ["value", "left"] (defScope sPlainIn) := ⟨rfl, rfl, rfl, by decide +kernel, rfl, by decide +kernel, by decide +kernel⟩
/-! texts and tuples within the line -/
mutual
def okS : PyData → Bool
  | .str x => decide (x.length ≤ 16777216)
  | .tuple ds => decide (ds.length ≤ 16777216) && okSAll ds
  | .none => true
  | .bool _ => true
  | .int _ => true
  | .list _ => true
  | .dict _ => true
def okSAll : List PyData → Bool
  | [] => true
  | d :: ds => okS d && okSAll ds
end
theorem okSAll_get : ∀ {ds : List PyData} {i : Nat} {d : PyData}, okSAll ds = true → ds[i]? = some d → okS d = true
  | [], i, d, _, h => by simp at h
  | e :: ds, 0, d, h, q => by
    have : e = d := Option.some.inj q
    subst this
    rw [okSAll, Bool.and_eq_true] at h
    exact h.1
  | e :: ds, i + 1, d, h, q => by
    rw [okSAll, Bool.and_eq_true] at h
    exact okSAll_get (i := i) h.2 q
theorem signs_is (c : Nat) : decide (c ∈ (Str.ofString "abcdefghijklmnopqrstuvwxyz ").cps.toList) = isSign c := by
  have e : (Str.ofString "abcdefghijklmnopqrstuvwxyz ").cps.toList = (List.range 26).map (· + 97) ++ [32] := by decide +kernel
  rw [e]
  apply Bool.eq_iff_iff.mpr
  rw [decide_eq_true_iff]
  constructor
  · intro h
    rcases List.mem_append.mp h with h | h
    · obtain ⟨n, hn, rfl⟩ := List.mem_map.mp h
      have := List.mem_range.mp hn
      unfold isSign
      simp
      omega
    · rw [List.mem_singleton.mp h]
      decide
  · intro h
    rcases sign_rng h with h | h
    · exact List.mem_append.mpr (.inr (List.mem_singleton.mpr h))
    · exact List.mem_append.mpr (.inl (List.mem_map.mpr ⟨c - 97, List.mem_range.mpr (by omega), by omega⟩))
def spPlainIn (n : Nat) : Sp := fun vs H Q _ => ∃ x d, vs = [x, .int (n : Int)] ∧ Dv H x d ∧ okS d = true ∧ ∀ H', Same H H' → Q (.bl (plain n d)) H'
theorem plain_ns {d : PyData} (n : Nat) (h : isN d = false) (h2 : shortB d = false) (h3 : isS d = false) (h4 : isT d = false) : plain n d = false := by
  cases d with
  | none => cases h
  | int i => rw [plain]; exact h2
  | str x => cases h3
  | tuple ds => cases h4
  | bool b => rw [plain]
  | list xs => rw [plain]
  | dict kvs => rw [plain]
theorem isNv {H : Hp} {x : V} {d : PyData} (h : Dv H x d) : decide (x = .non) = isN d := by
  cases h with
  | emp h => rfl
  | lst h => rfl
  | tp h => cases h <;> first | rfl | exact decide_eq_true rfl
theorem bls_all (f : Nat → Bool) : ∀ l : List Nat, (l.filterMap fun c => some (V.bl (f c))) = (l.map f).map V.bl
  | [] => rfl
  | c :: l => by simp [bls_all f l]
section
variable {P : Program} {w : World} {K : PySem.W.Frag} {mg : Str → Option Value} {base : Heap}
theorem ok_plain_in0 (F : Fx K mg) (D : At K mg "is_plain_in" sPlainIn) (G2 : Cal P w K mg base CX0 2 "is_short_whole" ["value"] spShort) (n k : Nat) (hk : 2 ≤ k) {sp : Sp} (G : Cal P w K mg base CX0 k "is_plain_in" ["value", "left"] sp)
    (hG : ∀ m, n = m + 1 → sp = spPlainIn m) : Cal P w K mg base CX0 (k + 1) "is_plain_in" ["value", "left"] (spPlainIn n) := by
  refine cal_of D scPlainIn (fun vs H Q E h => ?_) (fun _ _ _ _ _ _ us hl => match us, hl with | [_, _], _ => rfl) fun f cdv A outer s H vs Q E hr h => ⟨_, PSs.nox (pss_cons (ps_if ((pw_or (pt_cmpR op_isN (pv 0) pe_non (nomark _)) (pw_or1 (pt_val (pe_cal G2 (hr.mono hk) (by rfl) pass0 (pa_cons (pv 0) pa_nil))))).pt) (pss_one (ps_ret pe_bl)) pss_nil)
    (pss_cons (ps_if (pt_val (pe_isi (T := "str") F.b_isinstance F.b_str (pv 0))) (pss_one (ps_ret (pe_and (pe_cmpR op_le (pe_callB call_len (by rfl) F.b_len boot_len (pa_cons (pv 0) pa_nil)) (pe_gi F.c_text) (nomark _))
        (pe_one (pe_callB (cr_all rfl) (by rfl) F.b_all (by decide +kernel) (pa_cons (pe_lc (own := [("sign", 2)]) (g := gName 2) (tt := tYes) rfl scPlainIn.nd (pi_str (pv 0)) (blkOk_by (N := ["value", "left", "sign", "member"]) (sc := defScope sPlainIn) (by decide +kernel)) (fun _ _ _ _ _ => pg_name (i := 2) scPlainIn.nd rfl (Or.inl rfl)) (fun _ _ _ _ _ => pts_nil)
          (fun _ _ _ _ _ => pe_cmpR op_in_sign (pv 2) (pe_gs F.c_signs) (by with_unfolding_all rfl))) pa_nil)))))) pss_nil)
    (pss_one (ps_ret (pe_and (pe_isi (T := "tuple") F.b_isinstance F.b_tuple (pv 0)) (pe_and (pe_cmpR op_gt (pv 1) pe_int (nomark _))
        (pe_one (pe_callB (cr_all rfl) (by rfl) F.b_all (by decide +kernel) (pa_cons (pe_lc (own := [("member", 3)]) (g := gName 3) (tt := tYes) rfl scPlainIn.nd (pi_tup (pv 0)) (blkOk_by (N := ["value", "left", "sign", "member"]) (sc := defScope sPlainIn) (by decide +kernel)) (fun _ _ _ _ _ => pg_name (i := 3) scPlainIn.nd rfl (Or.inl rfl)) (fun _ _ _ _ _ => pts_nil)
          (fun _ _ _ _ _ => pe_cal G hr (by rfl) pass0 (pa_cons (pv 3) (pa_cons (pe_op op_sub (pv 1) pe_int) pa_nil)))) pa_nil))))))))), ?_⟩
  · obtain ⟨x, d, rfl, _⟩ := h
    rfl
  · obtain ⟨x, d, rfl, hd, hok, hq⟩ := h
    refine ⟨_, rfl, rfl, _, rfl, ?_⟩
    rw [isNv hd]
    cases hN : isN d with
    | true =>
      refine iteT (iteT ?_)
      have : plain n d = true := by
        cases d <;> first | (rw [plain]; done) | cases hN
      rw [this] at hq
      exact hq H (Same.refl H)
    | false =>
      refine iteF ?_
      refine ⟨x, rfl, x, d, rfl, hd, _, rfl, ?_⟩
      cases hS : shortB d with
      | true =>
        refine iteT ?_
        have : plain n d = true := by
          cases d <;> first | (rw [plain]; exact hS) | cases hS
        rw [this] at hq
        exact hq H (Same.refl H)
      | false =>
        refine iteF ?_
        refine ⟨x, rfl, x, .ty "str", _, _, _, rfl, .ty _, hd.ty, kit_str d, _, rfl, ?_⟩
        cases hT : isS d with
        | true =>
          refine iteT ?_
          obtain ⟨z, rfl, rfl⟩ : ∃ z, x = .str z ∧ d = .str z := by
            cases hd with
            | emp h => cases hT
            | lst h => cases hT
            | tp h => cases h with
              | str z => exact ⟨z, rfl, rfl⟩
              | _ => cases hT
          have hz : z.length ≤ sizeLine := by
            rw [okS] at hok
            rw [sizeLine_eq]
            exact of_decide_eq_true hok
          refine ⟨_, rfl, _, z.length, rfl, ⟨hz, rfl⟩, _, _, rfl, rfl, _, rfl, ?_⟩
          by_cases hl : ((z.length : Nat) : Int) ≤ 4000
          · rw [decide_eq_true hl]
            refine iteT ⟨_, rfl, z, rfl, fun L hL => lc_mapS (z := z) (fun c => some (V.bl (isSign c))) hL hz (fun c H' k hc sm hk _ => ⟨rfl, lc_yes ?_⟩) (fun H' hL' sm => ?_)⟩
            · refine ⟨_, rfl, c, _, rfl, rfl, ?_⟩
              rw [signs_is]
              exact hk _ rfl
            · rw [bls_all] at hL'
              refine ⟨L, _, rfl, SqL.of hL', ?_⟩
              have e : plain n (.str z) = ((tl z).map isSign).all id := by
                rw [plain, decide_eq_true (by omega : z.length ≤ 4000), Bool.true_and, List.all_map]
                rfl
              rw [e] at hq
              exact hq H' sm
          · rw [decide_eq_false hl]
            refine iteF ?_
            have e : plain n (.str z) = false := by
              rw [plain, decide_eq_false (by omega : ¬ z.length ≤ 4000), Bool.false_and]
            rw [e] at hq
            exact hq H (Same.refl H)
        | false =>
          refine iteF ?_
          refine ⟨x, rfl, x, .ty "tuple", _, _, _, rfl, .ty _, hd.ty, kit_tuple d, _, rfl, ?_⟩
          cases hU : isT d with
          | false =>
            refine iteF ?_
            rw [plain_ns n hN hS hT hU] at hq
            exact hq H (Same.refl H)
          | true =>
            refine iteT ⟨_, rfl, _, _, rfl, rfl, _, rfl, ?_⟩
            obtain ⟨a, xs, ds, rfl, rfl, ha, hds⟩ : ∃ a xs ds, x = .ref a ∧ d = .tuple ds ∧ H a = some (.tup xs) ∧ TpAll H xs ds := by
              cases hd with
              | emp h => cases hU
              | lst h => cases hU
              | tp h => cases h with
                | tup h k => exact ⟨_, _, _, rfl, rfl, h, k⟩
                | _ => cases hU
            rw [okS, Bool.and_eq_true] at hok
            have hlen : xs.length ≤ sizeLine := by
              rw [sizeLine_eq, hds.len]
              exact of_decide_eq_true hok.1
            by_cases hn : (0 : Int) < (n : Int)
            · rw [decide_eq_true hn]
              obtain ⟨m, rfl⟩ : ∃ m, n = m + 1 := ⟨n - 1, by omega⟩
              have esp := hG m rfl
              subst esp
              refine iteT ⟨_, rfl, a, rfl, ⟨_, SqT.of ha⟩, fun L hL => lc_mapT (fun i y _ => ∃ d, ds[i]? = some d ∧ y = V.bl (plain m d)) ha hL hlen (fun i y H1 H2 e r => r) (fun i x H' k hx sm hk => ⟨rfl, lc_yes ?_⟩) (fun H' ys hy hr hL' sm => ?_)⟩
              · obtain ⟨d, hd1, hd2⟩ := hds.get hx
                refine ⟨_, rfl, _, rfl, _, _, rfl, rfl, ?_⟩
                refine ⟨x, d, ?_, .tp (hd2.keep sm.tups), okSAll_get hok.2 hd1, fun H4 s4 => hk _ H4 s4 ⟨d, hd1, rfl⟩⟩
                show [x, V.int (((m + 1 : Nat) : Int) - 1)] = _
                rw [show ((m + 1 : Nat) : Int) - 1 = (m : Int) by omega]
              · have e : ys = (ds.map (plain m)).map V.bl := by
                  apply List.ext_getElem?
                  intro i
                  cases h : ys[i]? with
                  | none =>
                    have h1 := List.getElem?_eq_none_iff.mp h
                    rw [hy, hds.len] at h1
                    rw [List.getElem?_eq_none]
                    rw [List.length_map, List.length_map]
                    exact h1
                  | some y =>
                    obtain ⟨d, h1, h2⟩ := hr i y h
                    rw [List.getElem?_map, List.getElem?_map, h1, h2]
                    rfl
                rw [e] at hL'
                refine ⟨L, _, rfl, SqL.of hL', ?_⟩
                have e2 : plain (m + 1) (.tuple ds) = (ds.map (plain m)).all id := by
                  rw [plain, decide_eq_true (by omega : 0 < m + 1), Bool.true_and, plainAll_all, List.all_map]
                  rfl
                rw [e2] at hq
                exact hq H' sm
            · rw [decide_eq_false hn]
              refine iteF ?_
              have e : plain n (.tuple ds) = false := by
                rw [plain, decide_eq_false (by omega : ¬ 0 < n), Bool.false_and]
              rw [e] at hq
              exact hq H (Same.refl H)
theorem ok_plain_in (F : Fx K mg) (D : At K mg "is_plain_in" sPlainIn) (G2 : Cal P w K mg base CX0 2 "is_short_whole" ["value"] spShort) : ∀ n : Nat, Cal P w K mg base CX0 (n + 3) "is_plain_in" ["value", "left"] (spPlainIn n)
  | 0 => ok_plain_in0 F D G2 0 2 (Nat.le_refl _) (cal_none 2 D fun _ _ _ _ _ _ us hl => match us, hl with | [_, _], _ => rfl) fun m h => by omega
  | n + 1 => ok_plain_in0 F D G2 (n + 1) (n + 3) (by omega) (ok_plain_in F D G2 n) fun m h => by
    have e : n = m := by omega
    rw [e]
/-! ### is_plain -/
abbrev sIsPlain : Stmt := top 18
theorem scIsPlain : FnScope ["value"] ["value"] (defScope sIsPlain) := ⟨rfl, rfl, rfl, by decide +kernel, rfl, by decide +kernel, by decide +kernel⟩
def spIsPlain : Sp := fun vs H Q _ => ∃ x d, vs = [x] ∧ Dv H x d ∧ okS d = true ∧ ∀ H', Same H H' → Q (.bl (plain 30 d)) H'
theorem ok_is_plain (F : Fx K mg) (D : At K mg "is_plain" sIsPlain) (G : Cal P w K mg base CX0 33 "is_plain_in" ["value", "left"] (spPlainIn 30)) : Cal P w K mg base CX0 34 "is_plain" ["value"] spIsPlain := by
  refine cal_of D scIsPlain (fun vs H Q E h => ?_) (fun _ _ _ _ _ _ us hl => match us, hl with | [_], _ => rfl) fun f cdv A outer s H vs Q E hr h => ⟨_, PSs.nox (pss_one (ps_ret (pe_cal G hr (by rfl) pass0 (pa_cons (pv 0) (pa_cons (pe_gi F.c_nested) pa_nil))))), ?_⟩
  · obtain ⟨x, d, rfl, _⟩ := h
    rfl
  · obtain ⟨x, d, rfl, hd, hok, hq⟩ := h
    exact ⟨x, rfl, x, d, rfl, hd, hok, hq⟩
end
end T82

set_option Elab.async false
set_option linter.all false
set_option maxRecDepth 100000
set_option maxHeartbeats 1000000
namespace T82
open PySem PySem.Spec PyProof.Rows L2 TL
/-- str of an int of up to 4299 digits -/
theorem call_str_wide {X : Cx} (hc : X.calm = true) (dig : ∀ h : Heap, X.K.In h → h.NoDigits) : CallR X (.type "str") (fun xs H Q => ∃ i, xs = [.int i] ∧ i.natAbs < 10 ^ 4300 ∧ Q (.str (toString i)) H) := by
  intro pins s σ H xs us Q I r h
  obtain ⟨i, rfl, hz, q⟩ := h
  obtain ⟨u, rfl, t, rfl⟩ := vals1 r
  exact str_of_int_or (I.ok.hd hc) (dig _ I.kIn) (fun _ => ⟨.str _, H, I.tok _, ⟨_, rfl⟩, q⟩) fun h => absurd hz (Nat.not_lt.mpr h)
theorem joinL_sum : ∀ ps : List (List Nat), ps ≠ [] → (joinL [32] ps).length + 1 = (ps.map List.length).sum + ps.length
  | [], h => absurd rfl h
  | [p], _ => by simp [joinL]
  | p :: q :: r, _ => by
    have ih := joinL_sum (q :: r) (by simp)
    show (p ++ ([32] ++ joinL [32] (q :: r))).length + 1 = _
    have e1 : (p :: q :: r).length = (q :: r).length + 1 := rfl
    have e2 : ((p :: q :: r).map List.length).sum = p.length + ((q :: r).map List.length).sum := rfl
    have e3 : ([32] : List Nat).length = 1 := rfl
    rw [List.length_append, List.length_append, e1, e2, e3]
    omega
theorem joinL_sum_le (ps : List (List Nat)) : (ps.map List.length).sum + ps.length ≤ (joinL [32] ps).length + 1 := by
  cases ps with
  | nil => simp [joinL]
  | cons p ps => exact Nat.le_of_eq (joinL_sum (p :: ps) (by simp)).symm
theorem le_sum : ∀ {ps : List (List Nat)} {p : List Nat}, p ∈ ps → p.length ≤ (ps.map List.length).sum
  | [], p, h => by cases h
  | q :: ps, p, h => by
    rw [List.map_cons, List.sum_cons]
    rcases List.mem_cons.mp h with e | h
    · rw [e]; omega
    · have := le_sum h
      omega
abbrev sTextIn : Stmt := top 16
theorem scTextIn : FnScope ["value", "member"] ["value"] (defScope sTextIn) := ⟨rfl, rfl, rfl, by decide +kernel, rfl, by decide +kernel, by decide +kernel⟩
def spTextIn (n : Nat) : Sp := fun vs H Q _ => ∃ x d, vs = [x] ∧ Tp H x d ∧ plain n d = true ∧ (txt d).length ≤ 20000 ∧ ∀ H' y, Same H H' → tl y = txt d → Q (.str y) H'
theorem plainAll_get : ∀ {n : Nat} {ds : List PyData} {i : Nat} {d : PyData}, plainAll n ds = true → ds[i]? = some d → plain n d = true
  | n, [], i, d, _, h => by simp at h
  | n, e :: ds, 0, d, h, q => by
    have : e = d := Option.some.inj q
    subst this
    rw [plainAll, Bool.and_eq_true] at h
    exact h.1
  | n, e :: ds, i + 1, d, h, q => by
    rw [plainAll, Bool.and_eq_true] at h
    exact plainAll_get (i := i) h.2 q
theorem texts_of : ∀ (ys : List V) (ds : List PyData), ys.length = ds.length → (∀ (i : Nat) y, ys[i]? = some y → ∃ d z, ds[i]? = some d ∧ y = V.str z ∧ tl z = txt d) → ∃ zs : List Str, ys = zs.map V.str ∧ zs.map tl = txtAll ds := by
  intro ys
  induction ys with
  | nil =>
    intro ds e _
    cases ds with
    | nil => exact ⟨[], rfl, by rw [txtAll]; rfl⟩
    | cons _ _ => cases e
  | cons y ys ih =>
    intro ds e h
    cases ds with
    | nil => cases e
    | cons d ds =>
      obtain ⟨d', z, h1, h2, h3⟩ := h 0 y rfl
      have e0 : d = d' := Option.some.inj h1
      subst e0
      obtain ⟨zs, k1, k2⟩ := ih ds (Nat.succ.inj e) fun i y h' => h (i + 1) y h'
      exact ⟨z :: zs, by rw [h2, k1]; rfl, by rw [txtAll, List.map_cons, h3, k2]⟩
section
variable {P : Program} {w : World} {K : PySem.W.Frag} {mg : Str → Option Value} {base : Heap}
theorem ok_text_in0 (F : Fx K mg) (D : At K mg "text_in" sTextIn) (n k : Nat) {sp : Sp} (G : Cal P w K mg base CX0 k "text_in" ["value"] sp) (hG : ∀ m, n = m + 1 → sp = spTextIn m) : Cal P w K mg base CX0 (k + 1) "text_in" ["value"] (spTextIn n) := by
  refine cal_of D scTextIn (fun vs H Q E h => ?_) (fun _ _ _ _ _ _ us hl => match us, hl with | [_], _ => rfl) fun f cdv A outer s H vs Q E hr h => ⟨_, PSs.nox (pss_cons (ps_if (pt_cmpR op_isN (pv 0) pe_non (nomark _)) (pss_one (ps_ret (pe_gs F.c_none))) pss_nil)
    (pss_cons (ps_if (pt_val (pe_isi (T := "str") F.b_isinstance F.b_str (pv 0))) (pss_one (ps_ret (pe_op op_add_str (pe_op op_add_str (pe_gs F.c_quote) (pv 0)) (pe_gs F.c_quote)))) pss_nil)
    (pss_cons (ps_if (pt_val (pe_isi (T := "tuple") F.b_isinstance F.b_tuple (pv 0))) (pss_one (ps_ret (pe_op op_add_str (pe_op op_add_str pe_str (pe_join pe_str
        (pe_lc (own := [("member", 1)]) (g := gName 1) (tt := tYes) rfl scTextIn.nd (pi_tup (pv 0)) (blkOk_by (N := ["value", "member"]) (sc := defScope sTextIn) (by decide +kernel)) (fun _ _ _ _ _ => pg_name (i := 1) scTextIn.nd rfl (Or.inl rfl)) (fun _ _ _ _ _ => pts_nil)
          (fun _ _ _ _ _ => pe_cal G hr (by rfl) pass0 (pa_cons (pv 1) pa_nil))))) pe_str))) pss_nil)
    (pss_one (ps_ret (pe_callTy (call_str_wide rfl F.dig) (by rfl) F.b_str (by decide +kernel) (pa_cons (pv 0) pa_nil))))))), ?_⟩
  · obtain ⟨x, d, rfl, _⟩ := h
    rfl
  · obtain ⟨x, d, rfl, hd, hp, hl, hq⟩ := h
    refine ⟨_, rfl, rfl, _, rfl, ?_⟩
    rw [isNv (.tp hd)]
    cases hd with
    | non =>
      refine iteT ?_
      refine hq H _ (Same.refl H) ?_
      rw [txt]
      decide +kernel
    | bl b => rw [plain] at hp; cases hp
    | str z =>
      refine iteF ⟨_, rfl, _, .ty "str", _, _, _, rfl, .ty _, (Dv.tp (.str z)).ty, kit_str (.str z), _, rfl, iteT ?_⟩
      rw [txt] at hl
      simp only [List.length_cons, List.length_append, List.length_nil] at hl
      have hz : z.length ≤ 20000 := by
        rw [len_tl]
        omega
      refine ⟨_, rfl, _, _, rfl, rfl, ?_, _, _, rfl, rfl, ?_, hq H _ (Same.refl H) ?_⟩
      · show 1 + z.length ≤ sizeLine
        rw [sizeLine_eq]
        omega
      · show ((("\"" : String) : Str) ++ z).length + 1 ≤ sizeLine
        rw [sizeLine_eq, strLen_append]
        show 1 + z.length + 1 ≤ _
        omega
      · rw [tl_append, tl_append, txt]
        rfl
    | int i =>
      refine iteF ⟨_, rfl, _, .ty "str", _, _, _, rfl, .ty _, (Dv.tp (.int i)).ty, kit_str (.int i), _, rfl, iteF ?_⟩
      refine ⟨_, rfl, _, .ty "tuple", _, _, _, rfl, .ty _, (Dv.tp (.int i)).ty, kit_tuple (.int i), _, rfl, iteF ?_⟩
      rw [plain] at hp
      refine ⟨_, rfl, i, rfl, Nat.lt_trans (of_decide_eq_true hp) (Nat.pow_lt_pow_right (by decide) (by decide)), hq H _ (Same.refl H) ?_⟩
      rw [txt]
      exact tl_int i
    | @tup a xs ds ha hds =>
      have hD : Dv H (.ref a) (.tuple ds) := .tp (.tup ha hds)
      refine iteF ⟨_, rfl, _, .ty "str", _, _, _, rfl, .ty _, hD.ty, kit_str (.tuple ds), _, rfl, iteF ?_⟩
      refine ⟨_, rfl, _, .ty "tuple", _, _, _, rfl, .ty _, hD.ty, kit_tuple (.tuple ds), _, rfl, iteT ?_⟩
      rw [plain, Bool.and_eq_true] at hp
      obtain ⟨m, rfl⟩ : ∃ m, n = m + 1 := ⟨n - 1, by have := of_decide_eq_true hp.1; omega⟩
      have esp := hG m rfl
      subst esp
      have hpl : plainAll m ds = true := hp.2
      rw [txt] at hl
      simp only [List.length_cons, List.length_append, List.length_nil] at hl
      have hsum := joinL_sum_le (txtAll ds)
      have hnum : (txtAll ds).length = ds.length := by rw [txtAll_map, List.length_map]
      have hlen : xs.length ≤ sizeLine := by
        rw [sizeLine_eq, hds.len]
        omega
      refine ⟨⟨_, rfl⟩, _, rfl, a, rfl, ⟨_, SqT.of ha⟩, fun L hL => lc_mapT (fun i y _ => ∃ d z, ds[i]? = some d ∧ y = V.str z ∧ tl z = txt d) ha hL hlen (fun i y H1 H2 e r => r) (fun i x H' k hx sm hk => ⟨rfl, lc_yes ?_⟩) (fun H' ys hy hr hL' sm => ?_)⟩
      · obtain ⟨d, hd1, hd2⟩ := hds.get hx
        refine ⟨_, rfl, x, d, rfl, hd2.keep sm.tups, plainAll_get hpl hd1, ?_, fun H4 z s4 hz => hk _ H4 s4 ⟨d, z, hd1, rfl, hz⟩⟩
        have hm : txt d ∈ txtAll ds := by
          rw [txtAll_map]
          exact List.mem_map.mpr ⟨d, List.mem_of_getElem? hd1, rfl⟩
        have := le_sum hm
        omega
      · obtain ⟨zs, rfl, hzs⟩ := texts_of ys ds (by rw [hy, hds.len]) hr
        have htl : ((zs.map (·.length)).sum) = ((txtAll ds).map List.length).sum := by
          rw [← hzs, List.map_map]
          rfl
        have hzl : zs.length = ds.length := by
          have := congrArg List.length hzs
          rw [List.length_map, hnum] at this
          exact this
        have e1 : ((" " : String) : Str).length = 1 := rfl
        have hj : tl (Txt.join " " zs) = joinL [32] (txtAll ds) := by
          have h0 : tl (Txt.join " " zs) = joinL (tl (Str.ofString " ")) (zs.map tl) := (congrArg tl (TL.join_eq _ zs)).trans (tl_join _ zs)
          rw [h0, hzs]
          rfl
        have hjl : (Txt.join " " zs).length = (joinL [32] (txtAll ds)).length := by rw [len_tl, hj]
        refine ⟨_, L, zs, rfl, rfl, .inl (SqL.of hL'), ?_, _, _, rfl, rfl, ?_, _, _, rfl, rfl, ?_, hq H' _ sm ?_⟩
        · rw [htl, hzl, e1]
          omega
        · show 1 + (Txt.join " " zs).length ≤ sizeLine
          rw [sizeLine_eq, hjl]
          omega
        · show ((("(" : String) : Str) ++ Txt.join " " zs).length + 1 ≤ sizeLine
          rw [sizeLine_eq, strLen_append, hjl]
          show 1 + _ + 1 ≤ _
          omega
        · rw [tl_append, tl_append, hj, txt]
          rfl
theorem ok_text_in (F : Fx K mg) (D : At K mg "text_in" sTextIn) : ∀ n : Nat, Cal P w K mg base CX0 (n + 2) "text_in" ["value"] (spTextIn n)
  | 0 => ok_text_in0 F D 0 1 (cal_none 1 D fun _ _ _ _ _ _ us hl => match us, hl with | [_], _ => rfl) fun m h => by omega
  | n + 1 => ok_text_in0 F D (n + 1) (n + 2) (ok_text_in F D n) fun m h => by
    have e : n = m := by omega
    rw [e]
end
end T82

set_option Elab.async false
set_option linter.all false
set_option maxRecDepth 100000
set_option maxHeartbeats 1000000
namespace T82
open PySem PySem.Spec PyProof.Rows L2 TL
/-! ### what the top has of the classes -/
abbrev aR (K : PySem.W.Frag) : Addr := He.ga K "Reading"
abbrev aP (K : PySem.W.Frag) : Addr := He.ga K "ParseError"
abbrev aI (K : PySem.W.Frag) : Addr := He.ga K "InvalidOperation"
abbrev fP (K : PySem.W.Frag) : Addr := He.ma K (aP K) "__init__"
structure Fe (P : Program) (K : PySem.W.Frag) (mg : Str → Option Value) : Prop where
  gI : mg "InvalidOperation" = some (.ref (aI K))
  xI : PySem.W.excIn K (aI K) He.veBase "ValueError.__new__" = true
  kI : PySem.W.keepIn K (.ref (aI K)) = true
  bI : PySem.W.subIn K (.ref (aI K)) (.type "BaseException") = some true
  tI : PySem.W.typeIn K (.ref (aI K)) = some (.type "type")
  eI : PySem.W.exmOne K (.ref (aI K)) (.ref (aI K)) = some true
  gP : mg "ParseError" = some (.ref (aP K))
  iP : PySem.W.findIn K (.ref (aP K)) "__init__" = some (some (.ref (fP K)))
  tP : PySem.W.typeIn K (.ref (fP K)) = some (.type "function")
  fd : ∃ fd, Sup.SupK P K mg (aP K) (fP K) "spot" "spot" fd ∧ Binds K fd ["self", "spot"] []
  eP : PySem.W.exmOne K (.ref (aP K)) (.ref (aP K)) = some true
  gaP : PySem.W.findIn K (.ref (aP K)) "__getattribute__" = some (some (.builtin "BaseException.__getattribute__"))
  ggP : PySem.W.findIn K (.ref (aP K)) "__getattr__" = some none
  hdP : PySem.W.hasDictIn K (aP K) = true
/-- a method of Reading at its place -/
structure MAt (K : PySem.W.Frag) (m q : Str) (j : Nat) : Prop where
  ex : ∃ f fd, Meth K (aR K) m f ∧ FnP K m q (inClass (top 17) j) f fd
structure Fr (K : PySem.W.Frag) (mg : Str → Option Value) : Prop where
  cl : Cls K (aR K)
  n1 : NoAttr K (aR K) "own_text"
  n2 : NoAttr K (aR K) "own_at"
  gR : mg "Reading" = some (.ref (aR K))
  mkr : ∃ f fd, Mk K (aR K) f ∧ FnP K "__init__" "Reading.__init__" (inClass (top 17) 0) f fd
  pr : ∃ p g fd, PropOf K (aR K) "is_over" p g ∧ FnP K "is_over" "Reading.is_over" (inClass (top 17) 1) g fd
  has : MAt K "has" "Reading.has" 2
  take : MAt K "take" "Reading.take" 3
  row : MAt K "row_of" "Reading.row_of" 4
  value : MAt K "value" "Reading.value" 5
  string : MAt K "string" "Reading.string" 6
  members : MAt K "members" "Reading.members" 7
  whole : MAt K "whole" "Reading.whole" 8
/-! ### raising -/
section
variable {X : Cx} {W : WX}
theorem ps_inv {m : Str} {j : Nat} {p p2 pos pos2 : Pos} (T : Fe X.prog X.K X.mg) (hc : X.calm = true) (tk : Takes X W) (hg : Gl X "InvalidOperation" := by rfl) :
    PS X (.Raise (some (.Call (.Name "InvalidOperation" p) [.Constant (.str m) j p2] [] pos)) none pos2) (fun _ σ H => W (.ref (aI X.K)) none σ H) :=
  ps_raise hc tk (pmk_own PySem.F.excBase_ValueError T.xI T.gI T.kI (raises_own T.bI T.tI) hg)
def tPe (K : PySem.W.Frag) : L2.St → Hp → XK → Prop := fun σ H Q => ∀ d H', H d = none → Same H H' → H' d = some (.xd [("spot", .non)]) → Q (.ref (aP K)) (some d) H'
theorem pmk_pe {p p2 pos : Pos} {j : Nat} (T : Fe X.prog X.K X.mg) (hr : Room 1 X.A) (hg : Gl X "ParseError" := by rfl) (he : starEach [.Constant .none j p2] X.env = (false, eval (.Constant .none j p2) X.env) :: starEach [] X.env := by rfl)
    (hpl : (backTo pos (starEach [] X.env)).any (·.1) = false := by rfl) : PMk X (.Call (.Name "ParseError" p) [.Constant .none j p2] [] pos) (tPe X.K) := by
  obtain ⟨fd, S, b⟩ := T.fd
  intro pins s σ H Q I h
  refine pmk_oex S.ox T.iP T.tP (Sup.sup_ok (base := X.base) (P := X.prog) (w := X.w) S CX0 0) hr b .nil (fun _ _ _ _ _ _ _ h => h.elim) hg T.gP (pa_cons pe_non pa_nil he) (by decide) he hpl pins s σ H Q I ?_
  refine ⟨by decide, fun a na => ⟨a, .non, rfl, upd_same, fun dx ndx hne => ⟨rfl, dx, [("spot", .non)], upd_same, ?_, ?_, ?_⟩⟩⟩
  · rw [upd_ne hne, upd_same]
  · rw [upd_ne hne] at ndx
    exact ndx
  · rw [upd_ne hne] at ndx
    refine h dx _ ndx (fun b o hb => ?_) upd_same
    have nb1 : b ≠ a := fun z => by rw [z, na] at hb; cases hb
    have nb2 : b ≠ dx := fun z => by rw [z, ndx] at hb; cases hb
    rw [upd_ne nb2, del_ne nb1, upd_ne nb1, upd_ne nb2, upd_ne nb1]
    exact hb
theorem ps_pe {p p2 pos pos2 : Pos} {j : Nat} (T : Fe X.prog X.K X.mg) (hc : X.calm = true) (hr : Room 1 X.A) (tk : Takes X W) (hg : Gl X "ParseError" := by rfl) (he : starEach [.Constant .none j p2] X.env = (false, eval (.Constant .none j p2) X.env) :: starEach [] X.env := by rfl)
    (hpl : (backTo pos (starEach [] X.env)).any (·.1) = false := by rfl) : PS X (.Raise (some (.Call (.Name "ParseError" p) [.Constant .none j p2] [] pos)) none pos2) (fun _ σ H => tPe X.K σ H fun cls d H' => W cls d σ H') :=
  ps_raise hc tk (pmk_pe T hr hg he hpl)
end
/-! ### texts -/
theorem starts3 {x y : Str} {i : Nat} (hi : i ≤ x.length) : Txt.startswith3 x y (i : Int) = pre (tl y) ((tl x).drop i) := by
  have e : fromIndex x.length (i : Int) = i := by
    unfold fromIndex
    rw [if_neg (by omega)]
    omega
  unfold Txt.startswith3
  rw [e, StrLaws.subAt_eq]
  unfold pre
  rw [len_tl y]
  by_cases h : i + (tl y).length ≤ x.length
  · rw [decide_eq_true h, Bool.true_and]
  · rw [decide_eq_false h, Bool.false_and]
    symm
    rw [beq_eq_false_iff_ne]
    intro z
    have := congrArg List.length z
    rw [List.length_take, List.length_drop, ← len_tl x] at this
    omega
theorem cut_nat {x : Str} {i j : Nat} (h : i ≤ j) (hj : j ≤ x.length) : cutS x (some (i : Int)) (some (j : Int)) = ⟨(((tl x).drop i).take (j - i)).toArray⟩ := by
  unfold cutS
  rw [HT.sIx_nat, HT.sIx_nat, Nat.min_eq_left (by omega), Nat.min_eq_left (by omega)]
end T82

set_option Elab.async false
set_option linter.all false
set_option maxRecDepth 100000
set_option maxHeartbeats 1000000
namespace T82
open PySem PySem.Spec PyProof.Rows L2 TL
/-- a method that keeps a promise -/
structure CalM (P : Program) (w : World) (K : PySem.W.Frag) (mg : Str → Option Value) (base : Heap) (CX : CXT) (k : Nat) (m : Str) (ps : List Str) (sp : Sp) : Prop where
  ex : ∃ f fd, Meth K (aR K) m f ∧ Binds K fd ps [] ∧ FnOk P w K mg base CX k f fd ps sp
section
variable {P : Program} {w : World} {K : PySem.W.Frag} {mg : Str → Option Value} {base : Heap} {CX : CXT}
theorem CalM.mono {j k : Nat} {x : Str} {ps : List Str} {sp : Sp} (C : CalM P w K mg base CX j x ps sp) (h : j ≤ k) : CalM P w K mg base CX k x ps sp := by
  obtain ⟨f, fd, a, c, d⟩ := C.ex
  exact ⟨f, fd, a, c, d.mono h⟩
theorem calm_of {m q : Str} {j : Nat} {N ps : List Str} {k : Nat} {sp : Sp} (F : MAt K m q j) (S : FnScope N ps (defScope (inClass (top 17) j))) (len : ∀ vs H Q E, sp vs H Q E → vs.length = ps.length)
    (hb : ∀ (kV doc pm : Value) (an : Option Addr) (cdv ct : Value) (us : List Value), us.length = ps.length → bindArgs (PySem.W.fnOf m q (defArgs (inClass (top 17) j)) (defBody (inClass (top 17) j)) (defScope (inClass (top 17) j)) .none kV doc pm an cdv ct) ⟨us, []⟩ = pure (ps.zip us))
    (hbody : ∀ (f : Addr) (cdv : Value) (A : Around) (outer : List Env) (s : Shared) (H : Hp) (vs : List V) (Q : VK) (E : XK), Room k (A.deeper (envOfC q (defScope (inClass (top 17) j)) s.heap.objs.size f cdv)) → sp vs H Q E →
      ∃ t, PSs (cxOf CX P w K mg base N q (defScope (inClass (top 17) j)) f cdv A outer s H E) (defBody (inClass (top 17) j)) t ∧ t { nx := fun _ H' => Q .non H', rt := Q } (start N vs) H) : CalM P w K mg base CX (k + 1) m ps sp := by
  obtain ⟨f, fd, hm, D⟩ := F.ex
  exact ⟨f, fd, hm, D.bindsN hb, D.ok S len fun cdv A outer s H vs Q E hr h => hbody f cdv A outer s H vs Q E hr h⟩
theorem calm_none {m q : Str} {j : Nat} {ps : List Str} (k : Nat) (F : MAt K m q j)
    (hb : ∀ (kV doc pm : Value) (an : Option Addr) (cdv ct : Value) (us : List Value), us.length = ps.length → bindArgs (PySem.W.fnOf m q (defArgs (inClass (top 17) j)) (defBody (inClass (top 17) j)) (defScope (inClass (top 17) j)) .none kV doc pm an cdv ct) ⟨us, []⟩ = pure (ps.zip us)) : CalM P w K mg base CX k m ps (fun _ _ _ _ => False) := by
  obtain ⟨f, fd, hm, D⟩ := F.ex
  exact ⟨f, fd, hm, D.bindsN hb, ⟨fun _ _ _ _ h => h.elim, fun _ _ _ _ _ _ _ _ _ _ _ _ _ h => h.elim⟩⟩
end
section
variable {X : Cx} {CX : CXT} {k : Nat} {m : Str} {ps : List Str} {sp : Sp} {o e : Expr} {es : List Expr} {ta : TE} {t : TA} {apos pos : Pos} {E : XK}
theorem pe_calm {pl : Sem Bool} (c : Cls X.K (aR X.K)) (C : CalM X.prog X.w X.K X.mg X.base CX k m ps sp) (hr : Room k X.A) (hx : Passes CX X E) (he : PE X o ta) (ha : PA X (e :: es) t)
    (hst : starEach (e :: es) X.env = (false, eval e X.env) :: starEach es X.env := by rfl) (hpl : (backTo pos (starEach es X.env)).any (·.1) = false := by rfl)
    (ht : eval (.Call (.Attribute o m apos) (e :: es) [] pos) X.env = (do
      let ov ← eval o X.env
      standAt apos.atName
      let (f, first) ← holding [ov] (getMethod ov m pl)
      callWith pos f first (backTo pos (starEach (e :: es) X.env)) (backToKw pos (keywordEach [] X.env))) := by rfl) :
    PE X (.Call (.Attribute o m apos) (e :: es) [] pos) (tMeth (aR X.K) m sp [] E ta t) := by
  obtain ⟨f, fd, a, b, d⟩ := C.ex
  exact pe_meth he c a d hr b .nil hx ha hst hpl ht
theorem pe_calm0 {pl : Sem Bool} (c : Cls X.K (aR X.K)) (C : CalM X.prog X.w X.K X.mg X.base CX k m ps sp) (hr : Room k X.A) (hx : Passes CX X E) (he : PE X o ta)
    (ht : eval (.Call (.Attribute o m apos) [] [] pos) X.env = (do
      let ov ← eval o X.env
      standAt apos.atName
      let (f, first) ← holding [ov] (getMethod ov m pl)
      callWith pos f first (backTo pos (starEach [] X.env)) (backToKw pos (keywordEach [] X.env))) := by rfl) :
    PE X (.Call (.Attribute o m apos) [] [] pos) (tMeth (aR X.K) m sp [] E ta tNil) := by
  obtain ⟨f, fd, a, b, d⟩ := C.ex
  exact pe_meth0 he c a d hr b .nil hx ht
end
/-- a Reading of x that stands at i -/
abbrev rdo (K : PySem.W.Frag) (dx : Addr) (x : Str) (i : Nat) : HO := .ins (aR K) dx [("own_text", .str x), ("own_at", .int (i : Int))]
/-- what is left to be read -/
abbrev lft (x : Str) (i : Nat) : List Nat := (tl x).drop i
/-- all but the object at p stands -/
def KeepE (p : Addr) (H H' : Hp) : Prop := ∀ b o, b ≠ p → H b = some o → H' b = some o
/-- the way out of a text that is none -/
def Bad (K : PySem.W.Frag) (E : XK) (p : Addr) (H : Hp) : Prop := ∀ d H', H d = none → KeepE p H H' → H' d = some (.xd [("spot", .non)]) → E (.ref (aP K)) (some d) H'
theorem Bad.of {K : PySem.W.Frag} {E : XK} {p : Addr} {H H1 : Hp} (h : Bad K E p H) (k : KeepE p H H1) (hp : H p ≠ none) : ∀ d H', H1 d = none → KeepE p H1 H' → H' d = some (.xd [("spot", .non)]) → d ≠ p → E (.ref (aP K)) (some d) H' := fun d H' hd k2 hx hdp =>
  h d H' (by
    cases e : H d with
    | none => rfl
    | some o =>
      have := k d o hdp e
      rw [hd] at this
      cases this) (fun b o hb e => k2 b o hb (k b o hb e)) hx
theorem KeepE.tups {p : Addr} {H H' : Hp} {K : PySem.W.Frag} {dx : Addr} {x : Str} {i : Nat} (k : KeepE p H H') (hp : H p = some (rdo K dx x i)) : TupK H H' := fun a xs h => k a _ (fun z => by rw [z, hp] at h; cases h) h
theorem keepE_upd {p : Addr} {H : Hp} {o : HO} : KeepE p H (upd H p o) := fun b u hb e => by rw [upd_ne hb]; exact e
theorem KeepE.trans {p : Addr} {H H1 H2 : Hp} (a : KeepE p H H1) (b : KeepE p H1 H2) : KeepE p H H2 := fun c o hc e => b c o hc (a c o hc e)
theorem KeepE.refl (p : Addr) (H : Hp) : KeepE p H H := fun _ _ _ e => e
section
variable {P : Program} {w : World} {K : PySem.W.Frag} {mg : Str → Option Value} {base : Heap}
/-! ### __init__ -/
theorem scInit : FnScope ["self", "text"] ["self", "text"] (defScope (inClass (top 17) 0)) := ⟨rfl, rfl, rfl, by decide +kernel, rfl, by decide +kernel, by decide +kernel⟩
def spInit (K : PySem.W.Frag) : Sp := fun vs H Q _ => ∃ p dx x, vs = [.ref p, .str x] ∧ H p = some (.ins (aR K) dx []) ∧ Q .non (upd H p (rdo K dx x 0))
theorem ok_init (T : Fr K mg) : ∃ f fd, Mk K (aR K) f ∧ Binds K fd ["self", "text"] [] ∧ FnOk P w K mg base CX0 1 f fd ["self", "text"] (spInit K) := by
  obtain ⟨f, fd, M, D⟩ := T.mkr
  refine ⟨f, fd, M, D.bindsN fun _ _ _ _ _ _ us hl => match us, hl with | [_, _], _ => rfl, D.ok scInit (fun vs H Q E h => ?_) fun cdv A outer s H vs Q E hr h => ⟨_, PSs.nox (pss_cons (ps_fld (pv 0) (pv 1) rfl) (pss_one (ps_fld (pv 0) pe_int rfl))), ?_⟩⟩
  · obtain ⟨p, dx, x, rfl, _⟩ := h
    rfl
  · obtain ⟨p, dx, x, rfl, hp, hq⟩ := h
    refine ⟨_, rfl, _, rfl, p, _, dx, _, rfl, hp, T.cl, T.n1, by decide, _, rfl, p, _, dx, _, rfl, upd_same, T.cl, T.n2, (show (1 : Nat) < 1000 by decide), ?_⟩
    have e : upd (upd H p (.ins (aR K) dx (putF "own_text" (.str x) []))) p (.ins (aR K) dx (putF "own_at" (.int 0) (putF "own_text" (.str x) []))) = upd H p (rdo K dx x 0) := by
      funext b
      by_cases hb : b = p
      · rw [hb, upd_same, upd_same]
        rfl
      · rw [upd_ne hb, upd_ne hb, upd_ne hb]
    show Q .non (upd (upd H p _) p _)
    rw [show upd (upd H p (.ins (aR K) dx (putF "own_text" (.str x) []))) p (.ins (aR K) dx (putF "own_at" (.int 0) (putF "own_text" (.str x) []))) = _ from e]
    exact hq
/-! ### is_over -/
theorem scOver : FnScope ["self"] ["self"] (defScope (inClass (top 17) 1)) := ⟨rfl, rfl, rfl, by decide +kernel, rfl, by decide +kernel, by decide +kernel⟩
def spOver (K : PySem.W.Frag) : Sp := fun vs H Q _ => ∃ p dx x i, vs = [.ref p] ∧ H p = some (rdo K dx x i) ∧ x.length ≤ 20000 ∧ Q (.bl (decide (i = x.length))) H
theorem ok_over (F : Fx K mg) (T : Fr K mg) : ∃ p g fd, PropOf K (aR K) "is_over" p g ∧ Binds K fd ["self"] [] ∧ FnOk P w K mg base CX0 1 g fd ["self"] (spOver K) := by
  obtain ⟨p, g, fd, M, D⟩ := T.pr
  refine ⟨p, g, fd, M, D.bindsN fun _ _ _ _ _ _ us hl => match us, hl with | [_], _ => rfl, D.ok scOver (fun vs H Q E h => ?_) fun cdv A outer s H vs Q E hr h => ⟨_, PSs.nox (pss_one (ps_ret (pe_cmp (pc_eqI (pe_fld (pv 0) rfl) (pe_callB call_len (by rfl) F.b_len boot_len (pa_cons (pe_fld (pv 0) rfl) pa_nil))) rfl))), ?_⟩⟩
  · obtain ⟨p, dx, x, i, rfl, _⟩ := h
    rfl
  · obtain ⟨p, dx, x, i, rfl, hp, hx, hq⟩ := h
    refine ⟨_, rfl, p, _, dx, _, _, rfl, hp, T.cl, T.n2, rfl, _, rfl, p, _, dx, _, _, rfl, hp, T.cl, T.n1, rfl, _, x.length, rfl, ⟨?_, rfl⟩, _, _, rfl, rfl, ?_⟩
    · rw [sizeLine_eq]
      omega
    · have e : decide ((i : Int) = (x.length : Int)) = decide (i = x.length) := by
        apply decide_eq_decide.mpr
        omega
      show Q (.bl (decide ((i : Int) = (x.length : Int)))) H
      rw [e]
      exact hq
/-! ### has, take -/
theorem scHas : FnScope ["self", "word"] ["self", "word"] (defScope (inClass (top 17) 2)) := ⟨rfl, rfl, rfl, by decide +kernel, rfl, by decide +kernel, by decide +kernel⟩
def spHas (K : PySem.W.Frag) : Sp := fun vs H Q _ => ∃ p dx x i z, vs = [.ref p, .str z] ∧ H p = some (rdo K dx x i) ∧ i ≤ x.length ∧ Q (.bl (pre (tl z) (lft x i))) H
theorem ok_has (F : Fx K mg) (T : Fr K mg) : CalM P w K mg base CX0 1 "has" ["self", "word"] (spHas K) := by
  refine calm_of T.has scHas (fun vs H Q E h => ?_) (fun _ _ _ _ _ _ us hl => match us, hl with | [_, _], _ => rfl) fun f cdv A outer s H vs Q E hr h => ⟨_, PSs.nox (pss_one (ps_ret (pe_bm PySem.F.plainAttrs_str PySem.F.slot_str_startswith PySem.F.type_str_startswith mt_startswith3 (pe_fld (pv 0) rfl) (pa_cons (pv 1) (pa_cons (pe_fld (pv 0) rfl) pa_nil))))), ?_⟩
  · obtain ⟨p, dx, x, i, z, rfl, _⟩ := h
    rfl
  · obtain ⟨p, dx, x, i, z, rfl, hp, hi, hq⟩ := h
    refine ⟨_, rfl, p, _, dx, _, _, rfl, hp, T.cl, T.n1, rfl, rfl, _, rfl, _, rfl, p, _, dx, _, _, rfl, hp, T.cl, T.n2, rfl, x, z, (i : Int), rfl, rfl, ?_⟩
    rw [starts3 hi]
    exact hq
theorem scTake : FnScope ["self", "word"] ["self", "word"] (defScope (inClass (top 17) 3)) := ⟨rfl, rfl, rfl, by decide +kernel, rfl, by decide +kernel, by decide +kernel⟩
def spTake (K : PySem.W.Frag) : Sp := fun vs H Q E => ∃ p dx x i z, vs = [.ref p, .str z] ∧ H p = some (rdo K dx x i) ∧ i ≤ x.length ∧ z.length ≤ 1000 ∧ (pre (tl z) (lft x i) = true → Q .non (upd H p (rdo K dx x (i + z.length)))) ∧ (pre (tl z) (lft x i) = false → Bad K E p H)
theorem ok_take (F : Fx K mg) (T : Fr K mg) (E0 : Fe P K mg) (G : CalM P w K mg base CX0 1 "has" ["self", "word"] (spHas K)) : CalM P w K mg base (L2.CX P w) 2 "take" ["self", "word"] (spTake K) := by
  refine calm_of T.take scTake (fun vs H Q E h => ?_) (fun _ _ _ _ _ _ us hl => match us, hl with | [_, _], _ => rfl) fun f cdv A outer s H vs Q E hr h => ⟨_, pss_cons (ps_if (pt_not (pt_val (pe_calm T.cl G hr pass0 (pv 0) (pa_cons (pv 1) pa_nil)))) (pss_one (ps_pe E0 rfl hr (takes_of rfl rfl rfl rfl))) pss_nil)
    (pss_one (ps_fldaug (pv 0) (pe_callB call_len (by rfl) F.b_len boot_len (pa_cons (pv 1) pa_nil)) in_add)), ?_⟩
  · obtain ⟨p, dx, x, i, z, rfl, _⟩ := h
    rfl
  · obtain ⟨p, dx, x, i, z, rfl, hp, hi, hz, hq, hb⟩ := h
    refine ⟨_, rfl, p, dx, _, rfl, hp, rfl, _, rfl, p, dx, x, i, z, rfl, hp, hi, _, rfl, ?_⟩
    cases e : pre (tl z) (lft x i) with
    | false => exact iteT (fun d H' hd hs hx => hb e d H' hd (fun b o _ h => hs b o h) hx)
    | true =>
      refine iteF ?_
      refine ⟨_, rfl, p, _, dx, _, _, rfl, hp, T.cl, T.n2, rfl, _, rfl, _, z.length, rfl, ⟨?_, rfl⟩, _, _, rfl, rfl, dx, _, hp, (show (2 : Nat) < 1000 by decide), ?_⟩
      · rw [sizeLine_eq]
        omega
      · have := hq e
        exact this
end
end T82

set_option Elab.async false
set_option linter.all false
set_option maxRecDepth 100000
set_option maxHeartbeats 1000000
namespace T82
open PySem PySem.Spec PyProof.Rows L2 TL
theorem tw_lt {f : Nat → Bool} : ∀ {l : List Nat} {j : Nat}, j < (l.takeWhile f).length → ∃ c, l[j]? = some c ∧ f c = true
  | [], j, h => by simp at h
  | c :: l, j, h => by
    rw [List.takeWhile_cons] at h
    cases e : f c with
    | false => rw [e] at h; simp at h
    | true =>
      rw [e, if_pos rfl, List.length_cons] at h
      cases j with
      | zero => exact ⟨c, rfl, e⟩
      | succ j => exact tw_lt (l := l) (j := j) (by omega)
theorem tw_end {f : Nat → Bool} : ∀ {l : List Nat} {c : Nat}, l[(l.takeWhile f).length]? = some c → f c = false
  | [], c, h => by simp at h
  | d :: l, c, h => by
    rw [List.takeWhile_cons] at h
    cases e : f d with
    | false =>
      rw [e] at h
      have : d = c := by simpa using h
      rw [← this]
      exact e
    | true =>
      rw [e, if_pos rfl, List.length_cons] at h
      exact tw_end (l := l) (by simpa using h)
theorem tw_le (f : Nat → Bool) : ∀ l : List Nat, (l.takeWhile f).length ≤ l.length
  | [] => by simp
  | c :: l => by
    rw [List.takeWhile_cons]
    cases f c with
    | false => simp
    | true =>
      have := tw_le f l
      simp
      exact this
theorem tw_take {f : Nat → Bool} : ∀ l : List Nat, l.take (l.takeWhile f).length = l.takeWhile f
  | [] => rfl
  | c :: l => by
    rw [List.takeWhile_cons]
    cases f c with
    | false => rfl
    | true =>
      show c :: l.take (l.takeWhile f).length = _
      rw [tw_take l]
      rfl
theorem upd_self {H : Hp} {p : Addr} {o : HO} (h : H p = some o) : upd H p o = H := by
  funext b
  by_cases hb : b = p
  · rw [hb, upd_same, h]
  · rw [upd_ne hb]
theorem upd_upd {H : Hp} {p : Addr} {o u : HO} : upd (upd H p o) p u = upd H p u := by
  funext b
  by_cases hb : b = p
  · rw [hb, upd_same, upd_same]
  · rw [upd_ne hb, upd_ne hb, upd_ne hb]
section
variable {P : Program} {w : World} {K : PySem.W.Frag} {mg : Str → Option Value} {base : Heap}
theorem scRow : FnScope ["self", "signs", "begin"] ["self", "signs"] (defScope (inClass (top 17) 4)) := ⟨rfl, rfl, rfl, by decide +kernel, rfl, by decide +kernel, by decide +kernel⟩
def rowW (z x : Str) (i : Nat) : List Nat := (lft x i).takeWhile fun c => decide (c ∈ z.cps.toList)
def spRow (K : PySem.W.Frag) : Sp := fun vs H Q _ => ∃ p dx x i z, vs = [.ref p, .str z] ∧ H p = some (rdo K dx x i) ∧ i ≤ x.length ∧ x.length ≤ 20000 ∧ Q (.str ⟨(rowW z x i).toArray⟩) (upd H p (rdo K dx x (i + (rowW z x i).length)))
theorem ok_row (F : Fx K mg) (T : Fr K mg) : CalM P w K mg base CX0 3 "row_of" ["self", "signs"] (spRow K) := by
  obtain ⟨pp, pg, pfd, pM, pb, pF⟩ := ok_over (P := P) (w := w) (base := base) F T
  refine calm_of T.row scRow (fun vs H Q E h => ?_) (fun _ _ _ _ _ _ us hl => match us, hl with | [_, _], _ => rfl) fun f cdv A outer s H vs Q E hr h => ⟨_, PSs.nox (pss_cons (ps_set (i := 2) scRow.nd rfl (Or.inl rfl) (pe_fld (pv 0) rfl))
    (pss_cons (ps_while PassesOwn.never (pw_and (pt_not (pt_val (pe_prop (pv 0) T.cl pM pF hr pb .nil pass0 rfl))) (pw_and1 (pt_cmpR op_in_sign (pe_ix ix_str (pe_fld (pv 0) rfl) (pe_fld (pv 0) rfl) (fun _ _ => rfl)) (pv 1) (by with_unfolding_all rfl)))).pt
      (pss_one (ps_fldaug (pv 0) pe_int in_add)))
    (pss_one (ps_ret (pe_slice sl_str (pe_fld (pv 0) rfl) (po_some (pv 2)) (po_some (pe_fld (pv 0) rfl))))))), ?_⟩
  · obtain ⟨p, dx, x, i, z, rfl, _⟩ := h
    rfl
  · obtain ⟨p, dx, x, i, z, rfl, hp, hi, hx, hq⟩ := h
    refine ⟨_, rfl, p, _, dx, _, _, rfl, hp, T.cl, T.n2, rfl, ?_⟩
    have hll : (lft x i).length = x.length - i := by
      show ((tl x).drop i).length = _
      rw [List.length_drop, len_tl]
    have hwl : (rowW z x i).length ≤ x.length - i := by rw [← hll]; exact tw_le _ _
    have hg : ∀ j, (lft x i)[j]? = (tl x)[i + j]? := fun j => by
      show ((tl x).drop i)[j]? = _
      rw [List.getElem?_drop]
    refine ⟨fun m σ H' => ∃ j, j ≤ (rowW z x i).length ∧ m = (rowW z x i).length - j ∧ σ = [some (.ref p), some (.str z), some (.int (i : Int))] ∧ H' = upd H p (rdo K dx x (i + j)), ⟨_, 0, Nat.zero_le _, rfl, rfl, (upd_self hp).symm⟩, ?_⟩
    rintro m σ H' ⟨j, hj, rfl, rfl, rfl⟩
    -- behind the loop
    have fin : j = (rowW z x i).length → tRet (tSl rSlS (tFld K (tVar 0) "own_text") (tPart (tVar 2)) (tPart (tFld K (tVar 0) "own_at"))) { nx := fun _ H' => Q .non H', rt := Q } [some (.ref p), some (.str z), some (.int (i : Int))] (upd H p (rdo K dx x (i + j))) := fun ej => by
      refine ⟨_, rfl, p, _, dx, _, _, rfl, upd_same, T.cl, T.n1, rfl, _, rfl, (i : Int), rfl, _, rfl, p, _, dx, _, _, rfl, upd_same, T.cl, T.n2, rfl, ((i + j : Nat) : Int), rfl, x, rfl, ?_, ?_⟩
      · rw [sizeLine_eq]
        omega
      · rw [cut_nat (by omega) (by omega), show i + j - i = j by omega, ej]
        have e : (lft x i).take (rowW z x i).length = rowW z x i := tw_take _
        rw [e]
        exact hq
    refine ⟨_, rfl, p, dx, _, rfl, upd_same, p, dx, x, i + j, rfl, upd_same, hx, _, rfl, ?_⟩
    by_cases ho : i + j = x.length
    · rw [decide_eq_true ho]
      exact iteF (iteF (fin (by omega)))
    · rw [decide_eq_false ho]
      refine iteT ?_
      obtain ⟨c, hc⟩ : ∃ c, (tl x)[i + j]? = some c := ⟨(tl x)[i + j]'(by rw [← len_tl]; omega), List.getElem?_eq_getElem _⟩
      refine ⟨_, rfl, p, _, dx, _, _, rfl, upd_same, T.cl, T.n1, rfl, _, rfl, p, _, dx, _, _, rfl, upd_same, T.cl, T.n2, rfl, x, ((i + j : Nat) : Int), c, rfl, rfl, ?_, atI_nat hc, _, rfl, c, z, rfl, rfl, _, rfl, ?_⟩
      · rw [sizeLine_eq]
        omega
      · have hc2 : (lft x i)[j]? = some c := by rw [hg]; exact hc
        by_cases hin : c ∈ z.cps.toList
        · rw [decide_eq_true hin]
          refine iteT ?_
          have hlt : j < (rowW z x i).length := by
            refine Nat.lt_of_le_of_ne hj fun e => ?_
            have hc3 : (lft x i)[((lft x i).takeWhile fun c => decide (c ∈ z.cps.toList)).length]? = some c := by rw [← hc2, e]; rfl
            have := tw_end hc3
            rw [decide_eq_true hin] at this
            cases this
          refine ⟨_, fun σ' H' h => h, _, rfl, p, _, dx, _, _, rfl, upd_same, T.cl, T.n2, rfl, _, _, rfl, rfl, dx, _, upd_same, (show (2 : Nat) < 1000 by decide), (rowW z x i).length - (j + 1), by omega, j + 1, hlt, rfl, rfl, ?_⟩
          rw [upd_upd]
          rfl
        · rw [decide_eq_false hin]
          refine iteF (fin ?_)
          rcases Nat.lt_or_eq_of_le hj with h | h
          · obtain ⟨c', h1, h2⟩ := tw_lt (f := fun c => decide (c ∈ z.cps.toList)) (l := lft x i) h
            rw [hc2] at h1
            have e := Option.some.inj h1
            subst e
            exact absurd (of_decide_eq_true h2) hin
          · exact h
end
end T82

set_option Elab.async false
set_option linter.all false
set_option maxRecDepth 100000
set_option maxHeartbeats 4000000
namespace T82
open PySem PySem.Calls PySem.NumText PyProof.Rows PySem.W
/-- int(text): a text of up to 4300 digits (the limit as it is at the start) -/
theorem wp_text43 {M : Model} {A : Around} {E : Value → Shared → Prop} {s : Shared} {Q : Value → Shared → Prop} {v : Value} {text : List Nat} {n : Int} (hn : s.heap.NoDigits)
    (hs : ¬ (text.takeWhile (· != 0)).length ≤ 640) (hr : (int_private% "readNumeral") 4300 10 (text.takeWhile (· != 0)) = (int_private% "Numeral.value") n)
    (ha : ((text.takeWhile (· != 0)).length == text.length) = true) (h : Q (.int n s.toks) { s with toks := s.toks + 1 }) :
    wpAny M A ((int_private% "intFromText") v text 10) Q E s := by
  have lim : ∀ Q' : Nat → Shared → Prop, Q' 4300 s → wpAny M A Builtin.intMaxStrDigits Q' E s := fun Q' q => by
    obtain ⟨mc, hns, hnone⟩ := hn
    unfold Builtin.intMaxStrDigits
    refine wpAny_bind (wpAny_nsGet hns ?_)
    rw [hnone]
    exact wpAny_pure q
  obtain ⟨hp, g, d, tk, os⟩ := s
  repeat (any_goals (first
    | assumption
    | (with_reducible refine wpAny_ite_false (decide_eq_false hs) ?_)
    | (with_reducible refine wpAny_ite_true (decide_eq_true ha) ?_)
    | (with_reducible refine lim _ ?_)
    | wp_step))
  all_goals (try rw [hr])
  all_goals (try dsimp only)
  repeat (any_goals (first
    | assumption
    | (with_reducible refine wpAny_ite_false (decide_eq_false hs) ?_)
    | (with_reducible refine wpAny_ite_true (decide_eq_true ha) ?_)
    | (with_reducible refine lim _ ?_)
    | wp_step))
structure Hid (p : Prop) : Prop where
  out : p
theorem wp_textA {M : Model} {A : Around} {E : Value → Shared → Prop} {s : Shared} {Q : Value → Shared → Prop} {v : Value} {x : PySem.Str} {n : Int} (hl : x.length ≤ 4300) (hn : PySem.intText? x = some n) (hd : s.heap.NoDigits)
    (h : Q (.int n s.toks) { s with toks := s.toks + 1 }) : wpAny M A ((int_private% "intFromText") v (numTextOf x) 10) Q E s := by
  by_cases hs : (numSeenOf x).length ≤ 640
  · have hr : (int_private% "readNumeral") 0 10 (numSeenOf x) = (int_private% "Numeral.value") n ∧ ((numSeenOf x).length == (numTextOf x).length) = true := by
      rcases read0 x hs with ⟨m, h1, h2, h3⟩ | ⟨h1, _⟩
      · rw [hn] at h1
        injection h1 with h1
        subst h1
        exact ⟨h3, h2⟩
      · rw [hn] at h1
        cases h1
    exact KIN.wp_text hs hr.1 hr.2 h
  · have hr : (int_private% "readNumeral") 4300 10 (numSeenOf x) = (int_private% "Numeral.value") n ∧ ((numSeenOf x).length == (numTextOf x).length) = true := by
      rcases read4300 x (by rw [sizeLine_eq]; omega) with ⟨m, h1, h2, h3⟩ | ⟨h1, _⟩
      · rw [hn] at h1
        injection h1 with h1
        subst h1
        exact ⟨h3, h2⟩
      · rw [hn] at h1
        cases h1
    exact wp_text43 hd hs hr.1 hr.2 h
theorem meets_text43 {x : PySem.Str} {u : Tok} {n : Int} (hl : x.length ≤ 4300) (hn : PySem.intText? x = some n) :
    Meets (Builtin.«int.__new__» ⟨[.type "int", .str x u], []⟩) (fun A R s => s.heap.NoDigits ∧ R (.ok (.ret (.int n s.toks))) { s with toks := s.toks + 1 }) :=
  .of_wp fun prog w A R s hq => by
    obtain ⟨hdig, h⟩ := hq
    have f1 := F.conv_sub_int
    have f2 := F.madeHere_int
    have f3 := KIN.str_int
    have f4 := KIN.str_idx
    have f5 := KIN.str_trunc
    have f6 : typeOf (.str x u) = pure (.type "str") := rfl
    have hk := Hid.mk (And.intro hl (And.intro hn hdig))
    clear hl hn hdig
    obtain ⟨hp, g, d, tk, os⟩ := s
    repeat (any_goals (first
      | assumption
      | ((with_reducible show wpAny _ _ ((int_private% "intFromText") _ _ _) _ _ _); refine wp_textA hk.out.1 hk.out.2.1 hk.out.2.2 ?_)
      | wp_step))
    all_goals first | exact ⟨_, rfl, h⟩ | skip
end T82
namespace T82
open PySem PySem.Spec PyProof.Rows L2 TL
theorem call_int_wide {X : Cx} (dig : ∀ h : Heap, X.K.In h → h.NoDigits) : CallR X (.type "int") (fun xs H Q => ∃ a n, xs = [.str a] ∧ PySem.intText? a = some n ∧ a.length ≤ 4300 ∧ Q (.int n) H) := by
  intro pins s σ H xs us Q I rs h
  obtain ⟨a, n, rfl, hn, hl, h⟩ := h
  cases rs with
  | cons r1 rs =>
    cases rs
    obtain ⟨t, rfl⟩ := r1
    exact PySem.call_int_1 (meets_text43 hl hn) ⟨dig _ I.kIn, show Shared.TypeIs _ (.int n _) "int" ∧ _ from ⟨rfl, .int n, H, I.tok _, ⟨_, rfl⟩, h⟩⟩
end T82

set_option Elab.async false
set_option linter.all false
set_option maxRecDepth 100000
set_option maxHeartbeats 1000000
namespace T82
open PySem PySem.Spec PyProof.Rows L2 TL
theorem digs_is (c : Nat) : decide (c ∈ (Str.ofString "0123456789").cps.toList) = isDig c := by
  have e : (Str.ofString "0123456789").cps.toList = (List.range 10).map (· + 48) := by decide +kernel
  rw [e]
  apply Bool.eq_iff_iff.mpr
  rw [decide_eq_true_iff]
  constructor
  · intro h
    obtain ⟨n, hn, rfl⟩ := List.mem_map.mp h
    have := List.mem_range.mp hn
    exact isDig_of (by omega)
  · intro h
    have := of_isDig h
    exact List.mem_map.mpr ⟨c - 48, List.mem_range.mpr (by omega), by omega⟩
theorem row_signs (x : Str) (i : Nat) : rowW "abcdefghijklmnopqrstuvwxyz " x i = (lft x i).takeWhile isSign := by
  unfold rowW
  congr 1
  funext c
  exact signs_is c
theorem row_digs (x : Str) (i : Nat) : rowW "0123456789" x i = (lft x i).takeWhile isDig := by
  unfold rowW
  congr 1
  funext c
  exact digs_is c
theorem pre_one (c : Nat) (s : List Nat) : pre [c] s = true ↔ s.head? = some c := by
  cases s with
  | nil => simp [pre]
  | cons d s => simp [pre]
theorem pre_one_f (c : Nat) (s : List Nat) : pre [c] s = false ↔ s.head? ≠ some c := by
  rw [Ne, ← pre_one]
  simp
theorem lft_drop (x : Str) (i k : Nat) : lft x (i + k) = (lft x i).drop k := by
  show (tl x).drop (i + k) = ((tl x).drop i).drop k
  rw [List.drop_drop]
theorem lft_len (x : Str) (i : Nat) : (lft x i).length = x.length - i := by
  show ((tl x).drop i).length = _
  rw [List.length_drop, len_tl]
theorem drop_tw (f : Nat → Bool) : ∀ l : List Nat, l.drop (l.takeWhile f).length = l.dropWhile f
  | [] => rfl
  | c :: l => by
    rw [List.takeWhile_cons, List.dropWhile_cons]
    cases f c with
    | false => rfl
    | true => exact drop_tw f l
theorem head_lt {x : Str} {i c : Nat} (h : (lft x i).head? = some c) : i < x.length := by
  have := lft_len x i
  cases e : lft x i with
  | nil => rw [e] at h; cases h
  | cons d r =>
    rw [e, List.length_cons] at this
    omega
section
variable {P : Program} {w : World} {K : PySem.W.Frag} {mg : Str → Option Value} {base : Heap}
theorem pass {N : List Str} {q : Str} {sc : Scope} {f : Addr} {cdv : Value} {A : Around} {outer : List Env} {s : Shared} {H : Hp} {E : XK} : Passes (L2.CX P w) (cxOf (L2.CX P w) P w K mg base N q sc f cdv A outer s H E) E :=
  passes_call (takes_of rfl rfl rfl rfl) fun _ _ _ _ h => h
theorem Bad.upd {K : PySem.W.Frag} {E : XK} {p : Addr} {H : Hp} {o : HO} (h : Bad K E p H) : Bad K E p (L2.upd H p o) := fun d H' hd k hx => by
  have hne : d ≠ p := fun z => by rw [z, upd_same] at hd; cases hd
  refine h d H' (by rw [upd_ne hne] at hd; exact hd) (fun b u hb e => k b u hb (by rw [upd_ne hb]; exact e)) hx
/-! ### string -/
theorem scString : FnScope ["self", "found"] ["self"] (defScope (inClass (top 17) 6)) := ⟨rfl, rfl, rfl, by decide +kernel, rfl, by decide +kernel, by decide +kernel⟩
def spString (K : PySem.W.Frag) : Sp := fun vs H Q E => ∃ p dx x i, vs = [.ref p] ∧ H p = some (rdo K dx x i) ∧ (lft x i).head? = some 34 ∧ x.length ≤ 20000 ∧
  (∀ y r, readStr (lft x i).tail = some (.str y, r) → y.length ≤ 4000 → Q (.str y) (upd H p (rdo K dx x (x.length - r.length)))) ∧ ((∀ y r, readStr (lft x i).tail = some (.str y, r) → ¬ y.length ≤ 4000) → Bad K E p H)
theorem ok_string (F : Fx K mg) (T : Fr K mg) (E0 : Fe P K mg) (G2 : CalM P w K mg base (L2.CX P w) 2 "take" ["self", "word"] (spTake K)) (G3 : CalM P w K mg base CX0 3 "row_of" ["self", "signs"] (spRow K)) :
    CalM P w K mg base (L2.CX P w) 4 "string" ["self"] (spString K) := by
  refine calm_of T.string scString (fun vs H Q E h => ?_) (fun _ _ _ _ _ _ us hl => match us, hl with | [_], _ => rfl) fun f cdv A outer s H vs Q E hr h => ⟨_, pss_cons (ps_expr (pe_calm T.cl G2 (hr.mono (by decide)) pass (pv 0) (pa_cons (pe_gs F.c_quote) pa_nil)))
    (pss_cons (ps_set (i := 1) scString.nd rfl (Or.inl rfl) (pe_calm T.cl G3 hr pass0 (pv 0) (pa_cons (pe_gs F.c_signs) pa_nil)))
    (pss_cons (ps_expr (pe_calm T.cl G2 (hr.mono (by decide)) pass (pv 0) (pa_cons (pe_gs F.c_quote) pa_nil)))
    (pss_cons (ps_if (pt_cmpR op_gt (pe_callB call_len (by rfl) F.b_len boot_len (pa_cons (pv 1) pa_nil)) (pe_gi F.c_text) (nomark _)) (pss_one (ps_pe E0 rfl (hr.mono (by decide)) (takes_of rfl rfl rfl rfl))) pss_nil)
    (pss_one (ps_ret (pv 1)))))), ?_⟩
  · obtain ⟨p, dx, x, i, rfl, _⟩ := h
    rfl
  · obtain ⟨p, dx, x, i, rfl, hp, hh, hx, hq, hb⟩ := h
    have hpne : H p ≠ none := by rw [hp]; simp
    have hi := head_lt hh
    have hs := (sfx_tail hh).2
    have e1 : lft x (i + 1) = (lft x i).tail := by rw [lft_drop, List.drop_one]
    have hw := row_signs x (i + 1)
    have hwl : (rowW "abcdefghijklmnopqrstuvwxyz " x (i + 1)).length ≤ x.length - (i + 1) := by rw [hw, ← lft_len]; exact tw_le _ _
    have e2 : lft x (i + 1 + (rowW "abcdefghijklmnopqrstuvwxyz " x (i + 1)).length) = (lft x i).tail.dropWhile isSign := by
      rw [lft_drop, hw, drop_tw, e1]
    have e34 : tl ("\"" : Str) = [34] := by decide +kernel
    refine ⟨_, rfl, p, dx, _, rfl, hp, rfl, p, dx, x, i, "\"", rfl, hp, Nat.le_of_lt hi, by decide, fun _ => ?_, fun hn => absurd hh (by rw [e34] at hn; exact (pre_one_f _ _).mp hn)⟩
    refine ⟨_, rfl, p, dx, _, rfl, upd_same, rfl, p, dx, x, i + 1, _, rfl, upd_same, hi, hx, ?_⟩
    rw [upd_upd]
    refine ⟨_, rfl, p, dx, _, rfl, upd_same, rfl, p, dx, x, i + 1 + (rowW "abcdefghijklmnopqrstuvwxyz " x (i + 1)).length, "\"", rfl, upd_same, by omega, by decide, fun hq2 => ?_, fun hn => ?_⟩
    · -- the second quote stands
      rw [e34, pre_one, e2] at hq2
      have hr1 : ∃ r, readStr (lft x i).tail = some (.str ⟨(rowW "abcdefghijklmnopqrstuvwxyz " x (i + 1)).toArray⟩, r) ∧ (lft x i).tail.dropWhile isSign = 34 :: r := by
        have e := (sfx_tail hq2).2
        refine ⟨_, ?_, e⟩
        unfold readStr
        rw [e, hw, e1]
        rfl
      obtain ⟨r, hr1, hr2⟩ := hr1
      have hrl : x.length - r.length = i + 1 + (rowW "abcdefghijklmnopqrstuvwxyz " x (i + 1)).length + 1 := by
        have h1 := lft_len x (i + 1 + (rowW "abcdefghijklmnopqrstuvwxyz " x (i + 1)).length)
        rw [e2, hr2, List.length_cons] at h1
        omega
      have e1q : ("\"" : Str).length = 1 := rfl
      rw [upd_upd, e1q, ← hrl]
      have hyl : (⟨(rowW "abcdefghijklmnopqrstuvwxyz " x (i + 1)).toArray⟩ : Str).length = (rowW "abcdefghijklmnopqrstuvwxyz " x (i + 1)).length := by rw [len_tl, tl_mk]
      refine ⟨_, rfl, _, _, rfl, ⟨by rw [sizeLine_eq, hyl]; omega, rfl⟩, _, _, rfl, rfl, _, rfl, ?_⟩
      by_cases hl : (4000 : Int) < (((⟨(rowW "abcdefghijklmnopqrstuvwxyz " x (i + 1)).toArray⟩ : Str).length : Nat) : Int)
      · rw [decide_eq_true hl]
        refine iteT (fun d H' hd hs' hx' => (hb fun y r' h' hy => ?_).upd d H' hd (fun b o _ h => hs' b o h) hx')
        rw [hr1] at h'
        cases h'
        omega
      · rw [decide_eq_false hl]
        exact iteF ⟨_, rfl, hq _ _ hr1 (by omega)⟩
    · rw [e34, pre_one_f, e2] at hn
      refine (hb fun y r' h' => ?_).upd
      unfold readStr at h'
      split at h'
      · rename_i q e
        rw [e] at hn
        exact absurd rfl hn
      · cases h'
end
end T82

set_option Elab.async false
set_option linter.all false
set_option maxRecDepth 100000
set_option maxHeartbeats 2000000
namespace T82
open PySem PySem.Spec PyProof.Rows L2 TL
theorem one_str {c d : Nat} : decide (V.str ⟨#[c]⟩ = V.str ⟨#[d]⟩) = decide (c = d) := by
  apply decide_eq_decide.mpr
  constructor
  · intro h
    injection h with h
    injection h with h
    have := congrArg Array.toList h
    simpa using this
  · intro h
    rw [h]
theorem zero_str : ("0" : Str) = ⟨#[48]⟩ := by decide +kernel
theorem emp_str (l : List Nat) : decide (V.str ⟨l.toArray⟩ = V.str "") = l.isEmpty := by
  cases l with
  | nil => exact decide_eq_true (by decide +kernel)
  | cons c l =>
    refine decide_eq_false fun h => ?_
    injection h with h
    have h2 := congrArg Str.length h
    rw [len_tl, tl_mk] at h2
    cases h2
section
variable {P : Program} {w : World} {K : PySem.W.Frag} {mg : Str → Option Value} {base : Heap}
theorem scWhole : FnScope ["self", "is_below", "digits"] ["self"] (defScope (inClass (top 17) 8)) := ⟨rfl, rfl, rfl, by decide +kernel, rfl, by decide +kernel, by decide +kernel⟩
def spWhole (K : PySem.W.Frag) : Sp := fun vs H Q E => ∃ p dx x i, vs = [.ref p] ∧ H p = some (rdo K dx x i) ∧ i ≤ x.length ∧ x.length ≤ 20000 ∧
  (∀ k r, readWhole (lft x i) = some (.int k, r) → Q (.int k) (upd H p (rdo K dx x (x.length - r.length)))) ∧ (readWhole (lft x i) = none → Bad K E p H)
/-- the sign, where the digits begin -/
def Sgn (x : Str) (i : Nat) (neg : Bool) (j : Nat) : Prop := ((lft x i).head? == some 45) = neg ∧ j = i + (if neg then 1 else 0) ∧ j ≤ x.length
theorem sgn_read {x : Str} {i j : Nat} {neg : Bool} (h : Sgn x i neg j) : readWhole (lft x i) = if goodDigs neg ((lft x j).takeWhile isDig) then some (.int (digInt neg ((lft x j).takeWhile isDig)), (lft x j).dropWhile isDig) else none := by
  obtain ⟨h1, rfl, h3⟩ := h
  unfold readWhole
  rw [h1]
  cases neg with
  | true =>
    have e : lft x (i + (if true = true then 1 else 0)) = (lft x i).tail := by
      show lft x (i + 1) = _
      rw [lft_drop, List.drop_one]
    rw [e]
    rfl
  | false => rfl
theorem ok_whole (F : Fx K mg) (T : Fr K mg) (E0 : Fe P K mg) (G1 : CalM P w K mg base CX0 1 "has" ["self", "word"] (spHas K)) (G2 : CalM P w K mg base (L2.CX P w) 2 "take" ["self", "word"] (spTake K)) (G3 : CalM P w K mg base CX0 3 "row_of" ["self", "signs"] (spRow K)) :
    CalM P w K mg base (L2.CX P w) 4 "whole" ["self"] (spWhole K) := by
  refine calm_of T.whole scWhole (fun vs H Q E h => ?_) (fun _ _ _ _ _ _ us hl => match us, hl with | [_], _ => rfl) fun f cdv A outer s H vs Q E hr h => ?_
  · obtain ⟨p, dx, x, i, rfl, _⟩ := h
    rfl
  · obtain ⟨p, dx, x, i, rfl, hp, hi, hx, hq, hb⟩ := h
    have hT : ∃ tT : TS, PSs (cxOf (L2.CX P w) P w K mg base ["self", "is_below", "digits"] "Reading.whole" (defScope (inClass (top 17) 8)) f cdv A outer s H E) ((defBody (inClass (top 17) 8)).drop 2) tT ∧
        ∀ neg j, Sgn x i neg j → tT { nx := fun _ H' => Q .non H', rt := Q } [some (.ref p), some (.bl neg), none] (upd H p (rdo K dx x j)) := by
      refine ⟨_, pss_cons (ps_set (i := 2) scWhole.nd rfl (Or.inl rfl) (pe_calm T.cl G3 hr pass0 (pv 0) (pa_cons (pe_gs F.c_digits) pa_nil)))
        (pss_cons (ps_if ((pw_or (pt_cmpR op_eq (pv 2) pe_str (nomark _)) (pw_or (pt_cmpR op_gt (pe_callB call_len (by rfl) F.b_len boot_len (pa_cons (pv 2) pa_nil)) (pe_gi F.c_text) (nomark _))
            (pw_or1 ((pw_and (pt_cmpR op_eq (pe_ix ix_str (pv 2) pe_int (fun _ _ => rfl)) pe_str (nomark _)) (pw_and1 ((pw_or (pt_val (pv 1)) (pw_or1 (pt_cmpR op_gt (pe_callB call_len (by rfl) F.b_len boot_len (pa_cons (pv 2) pa_nil)) pe_int (nomark _)))).pt))).pt)))).pt)
          (pss_one (ps_pe E0 rfl (hr.mono (by decide)) (takes_of rfl rfl rfl rfl))) pss_nil)
        (pss_one (ps_ret (pe_ifExp (pt_val (pv 1)) (pe_un un_neg (pe_callTy (call_int_wide F.dig) (by rfl) F.b_int (by decide +kernel) (pa_cons (pv 2) pa_nil))) (pe_callTy (call_int_wide F.dig) (by rfl) F.b_int (by decide +kernel) (pa_cons (pv 2) pa_nil)))))), fun neg j hs => ?_⟩
      have hrd := sgn_read hs
      have hw := row_digs x j
      have hwl : (rowW "0123456789" x j).length ≤ x.length - j := by rw [hw, ← lft_len]; exact tw_le _ _
      have hj := hs.2.2
      refine ⟨_, rfl, p, dx, _, rfl, upd_same, rfl, p, dx, x, j, _, rfl, upd_same, hj, hx, ?_⟩
      rw [upd_upd, hw]
      rw [hw] at hwl
      have hall : ((lft x j).takeWhile isDig).all isDig = true := take_all _ _
      have hdrop : (lft x j).dropWhile isDig = lft x (j + ((lft x j).takeWhile isDig).length) := by rw [lft_drop, drop_tw]
      have hdl : x.length - ((lft x j).dropWhile isDig).length = j + ((lft x j).takeWhile isDig).length := by
        rw [hdrop, lft_len]
        omega
      generalize hds : (lft x j).takeWhile isDig = ds at *
      have hzl : (⟨ds.toArray⟩ : Str).length = ds.length := by rw [len_tl, tl_mk]
      have hline : (⟨ds.toArray⟩ : Str).length ≤ sizeLine := by
        rw [sizeLine_eq, hzl]
        omega
      -- the way out where the digits are none
      have bad : goodDigs neg ds = false → ∀ σ, (fun (_ : Ends) (σ : L2.St) (H : Hp) => tPe K σ H fun cls d H' => E cls d H') { nx := fun _ H' => Q .non H', rt := Q } σ (upd H p (rdo K dx x (j + ds.length))) := fun hg σ d H' hd hs' hx' => by
        rw [hg] at hrd
        exact (hb hrd).upd d H' hd (fun b o _ h => hs' b o h) hx'
      have good : goodDigs neg ds = true → (tIf (tB (tVar 1)) (tUn (rU fun i => V.int (-i)) (tCB (fun xs H Q => ∃ a n, xs = [V.str a] ∧ PySem.intText? a = some n ∧ a.length ≤ 4300 ∧ Q (.int n) H) (tCons (tVar 2) tNil))) (tCB (fun xs H Q => ∃ a n, xs = [V.str a] ∧ PySem.intText? a = some n ∧ a.length ≤ 4300 ∧ Q (.int n) H) (tCons (tVar 2) tNil)))
          [some (.ref p), some (.bl neg), some (.str ⟨ds.toArray⟩)] (upd H p (rdo K dx x (j + ds.length))) Q := fun hg => by
        have hg' := hg
        unfold goodDigs at hg'
        rw [Bool.and_eq_true, Bool.and_eq_true] at hg'
        have hne : ds ≠ [] := by
          intro z
          rw [z] at hg'
          cases hg'.1
        have h4 := of_decide_eq_true hg'.2.1
        have hint : PySem.intText? (⟨ds.toArray⟩ : Str) = some ((NumText.digitsVal ds : Nat) : Int) := PySem.intText_digits (x := ⟨ds.toArray⟩) (allDig.mp hall) hne (by rw [hzl]; omega)
        rw [hg, if_pos rfl] at hrd
        have hq2 := hq _ _ hrd
        rw [hdl] at hq2
        refine ⟨_, rfl, _, rfl, ?_⟩
        cases neg with
        | true => exact iteT ⟨_, rfl, _, _, rfl, hint, by rw [hzl]; omega, _, rfl, hq2⟩
        | false => exact iteF ⟨_, rfl, _, _, rfl, hint, by rw [hzl]; omega, hq2⟩
      refine ⟨_, rfl, rfl, _, rfl, ?_⟩
      rw [emp_str]
      cases he : ds.isEmpty with
      | true => exact iteT (iteT (bad (by unfold goodDigs; rw [he]; rfl) _))
      | false =>
        refine iteF ⟨_, rfl, _, _, rfl, ⟨hline, rfl⟩, _, _, rfl, rfl, _, rfl, ?_⟩
        by_cases h4 : (4000 : Int) < (((⟨ds.toArray⟩ : Str).length : Nat) : Int)
        · rw [decide_eq_true h4]
          exact iteT (iteT (bad (by
            unfold goodDigs
            rw [decide_eq_false (by omega : ¬ ds.length ≤ 4000)]
            simp) _))
        · rw [decide_eq_false h4]
          obtain ⟨c, ds', rfl⟩ : ∃ c ds', ds = c :: ds' := by
            cases ds with
            | nil => cases he
            | cons c ds' => exact ⟨c, ds', rfl⟩
          have hd4 : decide ((c :: ds').length ≤ 4000) = true := decide_eq_true (by omega)
          refine iteF ⟨_, rfl, _, (0 : Int), c, rfl, rfl, hline, atI_nat (j := 0) rfl, rfl, _, rfl, ?_⟩
          rw [zero_str, one_str]
          by_cases h0 : c = 48
          · rw [decide_eq_true h0]
            refine iteT ⟨_, rfl, _, rfl, ?_⟩
            have hgd : goodDigs neg (c :: ds') = !(neg || decide (1 < (c :: ds').length)) := by
              unfold goodDigs
              rw [hd4, h0]
              rfl
            cases neg with
            | true =>
              exact iteT (iteT (bad (by rw [hgd]; rfl) _))
            | false =>
              refine iteF ⟨_, rfl, _, _, rfl, ⟨hline, rfl⟩, _, _, rfl, rfl, _, rfl, ?_⟩
              by_cases h1 : (1 : Int) < (((⟨(c :: ds').toArray⟩ : Str).length : Nat) : Int)
              · rw [decide_eq_true h1]
                exact iteT (bad (by rw [hgd, decide_eq_true (by omega : 1 < (c :: ds').length)]; rfl) _)
              · rw [decide_eq_false h1]
                exact iteF (good (by rw [hgd, decide_eq_false (by omega : ¬ 1 < (c :: ds').length)]; rfl))
          · rw [decide_eq_false h0]
            refine iteF (iteF (good ?_))
            unfold goodDigs
            rw [hd4]
            have : ((c :: ds').head? == some 48) = false := by
              rw [beq_eq_false_iff_ne]
              intro z
              exact h0 (Option.some.inj z)
            rw [this]
            rfl
    obtain ⟨tT, hPS, hT⟩ := hT
    have e45 : tl ("-" : Str) = [45] := by decide +kernel
    have e1m : ("-" : Str).length = 1 := rfl
    refine ⟨_, pss_cons (ps_set (i := 1) scWhole.nd rfl (Or.inl rfl) (pe_calm T.cl G1 (hr.mono (by decide)) pass0 (pv 0) (pa_cons pe_str pa_nil)))
      (pss_cons (ps_if (pt_val (pv 1)) (pss_one (ps_expr (pe_calm T.cl G2 (hr.mono (by decide)) pass (pv 0) (pa_cons pe_str pa_nil)))) pss_nil) hPS), ?_⟩
    refine ⟨_, rfl, p, dx, _, rfl, hp, rfl, p, dx, x, i, "-", rfl, hp, hi, _, rfl, _, rfl, ?_⟩
    rw [e45]
    cases hm : pre [45] (lft x i) with
    | true =>
      have hh := (pre_one _ _).mp hm
      refine iteT ⟨_, rfl, p, dx, _, rfl, hp, rfl, p, dx, x, i, "-", rfl, hp, hi, by decide, fun _ => ?_, fun hn => ?_⟩
      · rw [e1m]
        refine hT true (i + 1) ⟨?_, rfl, head_lt hh⟩
        rw [hh]
        rfl
      · rw [e45, hm] at hn
        cases hn
    | false =>
      have hh := (pre_one_f _ _).mp hm
      have := hT false i ⟨by rw [beq_eq_false_iff_ne]; exact hh, rfl, hi⟩
      rw [upd_self hp] at this
      exact iteF this
end
end T82

set_option Elab.async false
set_option linter.all false
set_option maxRecDepth 100000
set_option maxHeartbeats 2000000
namespace T82
open PySem PySem.Spec PyProof.Rows L2 TL
theorem lft_sfx {x : Str} {i : Nat} {r : List Nat} (h : Sfx r (lft x i)) : lft x (x.length - r.length) = r ∧ x.length - r.length ≤ x.length ∧ i < x.length - r.length := by
  obtain ⟨a, ha, e⟩ := h
  have hl := congrArg List.length e
  rw [List.length_append, lft_len] at hl
  have hal : 0 < a.length := List.length_pos_iff.mpr ha
  have hi : i + a.length = x.length - r.length := by omega
  refine ⟨?_, Nat.sub_le _ _, by omega⟩
  rw [← hi, lft_drop, e, List.drop_left]
theorem eqv_nil : ∀ ds : List PyData, PyData.eqv (.list ds) (.list []) = ds.isEmpty
  | [] => by rw [PyData.eqv, PyData.eqvAll]; rfl
  | d :: ds => by rw [PyData.eqv, PyData.eqvAll]; rfl
theorem shaped_list {ds : List PyData} {n : Nat} (h : plainAll n ds = true) (hn : n ≤ 40) : SeqAt.shaped (.list ds) = true := by
  unfold SeqAt.shaped
  have := depthAll_plain ds n h
  rw [PyData.canLay0, layAll_plain ds n h, Bool.true_and, PyData.depth]
  exact decide_eq_true (by omega)
theorem shaped_nil : SeqAt.shaped (.list []) = true := by decide +kernel
theorem Bad.trans {K : PySem.W.Frag} {E : XK} {p : Addr} {H H1 : Hp} (h : Bad K E p H) (k : KeepE p H H1) (hp : H1 p ≠ none) : Bad K E p H1 := fun d H' hd k2 hx => by
  have hne : d ≠ p := fun z => hp (by rw [← z]; exact hd)
  refine h d H' ?_ (k.trans k2) hx
  cases e : H d with
  | none => rfl
  | some o =>
    have := k d o hne e
    rw [hd] at this
    cases this
theorem plainAll_app {n : Nat} {ds es : List PyData} : plainAll n (ds ++ es) = (plainAll n ds && plainAll n es) := by
  rw [plainAll_all, plainAll_all, plainAll_all, List.all_append]
section
variable {P : Program} {w : World} {K : PySem.W.Frag} {mg : Str → Option Value} {base : Heap}
theorem scMembers : FnScope ["self", "left", "found"] ["self", "left"] (defScope (inClass (top 17) 7)) := ⟨rfl, rfl, rfl, by decide +kernel, rfl, by decide +kernel, by decide +kernel⟩
def spValue (K : PySem.W.Frag) (n : Nat) : Sp := fun vs H Q E => ∃ p dx x i, vs = [.ref p, .int (n : Int)] ∧ H p = some (rdo K dx x i) ∧ i ≤ x.length ∧ x.length ≤ 20000 ∧
  (∀ d r, read (lft x i) = some (d, r) → plain n d = true → ∀ H' v, KeepE p H H' → H' p = some (rdo K dx x (x.length - r.length)) → Tp H' v d → Q v H') ∧ ((∀ d r, read (lft x i) = some (d, r) → plain n d = false) → Bad K E p H)
def spMembers (K : PySem.W.Frag) (n : Nat) : Sp := fun vs H Q E => ∃ p dx x i, vs = [.ref p, .int (n : Int)] ∧ H p = some (rdo K dx x i) ∧ (lft x i).head? = some 40 ∧ x.length ≤ 20000 ∧
  (∀ ds r, reads true (lft x i).tail = some (ds, r) → plain n (.tuple ds) = true → ∀ H' v, KeepE p H H' → H' p = some (rdo K dx x (x.length - r.length)) → Tp H' v (.tuple ds) → Q v H') ∧
  ((∀ ds r, reads true (lft x i).tail = some (ds, r) → plain n (.tuple ds) = false) → Bad K E p H)
/-- behind some members -/
def memW (K : PySem.W.Frag) (H : Hp) (x : Str) (p L dx : Addr) (m i : Nat) (q : Nat) (σ : L2.St) (H' : Hp) : Prop :=
  ∃ j ds vs, q = x.length - j ∧ j ≤ x.length ∧ σ = [some (.ref p), some (.int ((m + 1 : Nat) : Int)), some (.ref L)] ∧ H' p = some (rdo K dx x j) ∧ H' L = some (.lst vs) ∧ TpAll H' vs ds ∧ plainAll m ds = true ∧ vs.length + (x.length - j) ≤ x.length ∧
      KeepE p H H' ∧ reads true (lft x i).tail = (reads ds.isEmpty (lft x j)).map (fun z => (ds ++ z.1, z.2))
theorem ok_members0 (F : Fx K mg) (T : Fr K mg) (E0 : Fe P K mg) (G1 : CalM P w K mg base CX0 1 "has" ["self", "word"] (spHas K)) (G2 : CalM P w K mg base (L2.CX P w) 2 "take" ["self", "word"] (spTake K)) (n k : Nat) (hk : 4 ≤ k) (hn30 : n ≤ 30) {sp : Sp}
    (G : CalM P w K mg base (L2.CX P w) k "value" ["self", "left"] sp) (hG : ∀ m, n = m + 1 → sp = spValue K m) : CalM P w K mg base (L2.CX P w) (k + 1) "members" ["self", "left"] (spMembers K n) := by
  refine calm_of T.members scMembers (fun vs H Q E h => ?_) (fun _ _ _ _ _ _ us hl => match us, hl with | [_, _], _ => rfl) fun f cdv A outer s H vs Q E hr h => ⟨_, pss_cons (ps_if (pt_cmpR op_eq (pv 1) pe_int (nomark _)) (pss_one (ps_pe E0 rfl (hr.mono (by omega)) (takes_of rfl rfl rfl rfl))) pss_nil)
    (pss_cons (ps_expr (pe_calm T.cl G2 (hr.mono (by omega)) pass (pv 0) (pa_cons pe_str pa_nil)))
    (pss_cons (ps_set (i := 2) scMembers.nd rfl (Or.inl rfl) (pe_lst pa_nil))
    (pss_cons (ps_while (passes_of rfl) (pt_not (pt_val (pe_calm T.cl G1 (hr.mono (by omega)) pass0 (pv 0) (pa_cons pe_str pa_nil))))
      (pss_cons (ps_if (pt_cmpR (op_neD hr.units) (pv 2) (pe_lst pa_nil) (nomark _)) (pss_one (ps_expr (pe_calm T.cl G2 (hr.mono (by omega)) pass (pv 0) (pa_cons pe_str pa_nil)))) pss_nil)
      (pss_one (ps_expr (pe_bm PySem.F.plainAttrs_list PySem.F.slot_list_append PySem.F.type_list_append mt_append (pv 2) (pa_cons (pe_calm T.cl G hr pass (pv 0) (pa_cons (pe_op op_sub (pv 1) pe_int) pa_nil)) pa_nil))))))
    (pss_cons (ps_expr (pe_calm T.cl G2 (hr.mono (by omega)) pass (pv 0) (pa_cons pe_str pa_nil)))
    (pss_one (ps_ret (pe_callTy call_tuple_of (by rfl) F.b_tuple (by decide +kernel) (pa_cons (pv 2) pa_nil)))))))), ?_⟩
  · obtain ⟨p, dx, x, i, rfl, _⟩ := h
    rfl
  · obtain ⟨p, dx, x, i, rfl, hp, hh, hx, hq, hb⟩ := h
    have hpne : H p ≠ none := by rw [hp]; simp
    have out : ∀ {H1 : Hp}, Bad K E p H1 → ∀ σ, (fun (_ : Ends) (σ : L2.St) (H : Hp) => tPe K σ H fun cls d H' => E cls d H') { nx := fun _ H' => Q .non H', rt := Q } σ H1 := fun {H1} hb σ d H' hd hs' hx' => hb d H' hd (fun b o _ h => hs' b o h) hx'
    refine ⟨_, rfl, rfl, _, rfl, ?_⟩
    by_cases hn0 : n = 0
    · subst hn0
      rw [show decide (V.int ((0 : Nat) : Int) = V.int 0) = true from rfl]
      refine iteT (out (hb fun ds r _ => ?_) [])
      rw [plain]
      rfl
    obtain ⟨m, rfl⟩ : ∃ m, n = m + 1 := ⟨n - 1, by omega⟩
    have esp := hG m rfl
    subst esp
    rw [show decide (V.int ((m + 1 : Nat) : Int) = V.int 0) = false from decide_eq_false (fun z => by injection z with z; omega)]
    have hi := head_lt hh
    have e40 : tl ("(" : Str) = [40] := by decide +kernel
    have e41 : tl (")" : Str) = [41] := by decide +kernel
    have e32 : tl (" " : Str) = [32] := by decide +kernel
    have l1a : ("(" : Str).length = 1 := rfl
    have l1b : (")" : Str).length = 1 := rfl
    have l1c : (" " : Str).length = 1 := rfl
    refine iteF ⟨_, rfl, p, dx, _, rfl, hp, rfl, p, dx, x, i, "(", rfl, hp, Nat.le_of_lt hi, by decide, fun _ => ?_, fun hn => absurd hh (by rw [e40] at hn; exact (pre_one_f _ _).mp hn)⟩
    rw [l1a]
    have e1 : lft x (i + 1) = (lft x i).tail := by rw [lft_drop, List.drop_one]
    refine ⟨by show 0 ≤ sizeLine; exact Nat.zero_le _, fun L hL => ?_⟩
    have hLp : L ≠ p := fun z => by rw [z, upd_same] at hL; cases hL
    have hLH : H L = none := by rw [upd_ne hLp] at hL; exact hL
    refine ⟨memW K H x p L dx m i, ⟨_, i + 1, [], [], rfl, hi, rfl, ?_, upd_same, .nil, by rw [plainAll], by simp, ?_, ?_⟩, ?_⟩
    · rw [upd_ne (Ne.symm hLp), upd_same]
    · intro b o hb' e
      have : b ≠ L := fun z => by rw [z, hLH] at e; cases e
      rw [upd_ne this, upd_ne hb']
      exact e
    · rw [e1]
      show _ = (reads true (lft x i).tail).map _
      cases reads true (lft x i).tail with
      | none => rfl
      | some z => rfl
    rintro q σ H' ⟨j, ds, vs, rfl, hj, rfl, hp', hL', hT, hpl, hlen, hK, hR⟩
    have hpne' : H' p ≠ none := by rw [hp']; simp
    refine ⟨_, rfl, p, dx, _, rfl, hp', rfl, p, dx, x, j, ")", rfl, hp', hj, _, rfl, ?_⟩
    rw [e41]
    cases h41 : pre [41] (lft x j) with
    | true =>
      refine iteF ?_
      have hc := (pre_one _ _).mp h41
      refine ⟨_, rfl, p, dx, _, rfl, hp', rfl, p, dx, x, j, ")", rfl, hp', hj, by decide, fun _ => ?_, fun hn => by rw [e41, h41] at hn; cases hn⟩
      rw [l1b]
      refine ⟨_, rfl, L, vs, rfl, .inl ⟨SqL.of (by rw [upd_ne hLp]; exact hL'), fun t ht => ?_⟩⟩
      have htp : t ≠ p := fun z => by rw [z, upd_same] at ht; cases ht
      have htH : H' t = none := by rw [upd_ne htp] at ht; exact ht
      have hr : reads true (lft x i).tail = some (ds, (lft x j).tail) := by
        rw [hR, reads_eq, if_pos hc]
        simp
      have hjl := head_lt hc
      have hrl : x.length - (lft x j).tail.length = j + 1 := by
        rw [List.length_tail, lft_len]
        omega
      have tk : TupK H' (upd (upd H' p (rdo K dx x (j + 1))) t (.tup vs)) := fun b xs e => by
        have b1 : b ≠ p := fun z => by rw [z, hp'] at e; cases e
        have b2 : b ≠ t := fun z => by rw [z, htH] at e; cases e
        rw [upd_ne b2, upd_ne b1]
        exact e
      refine hq _ _ hr ?_ _ _ (fun b o hb' e => ?_) ?_ (.tup upd_same (hT.keep tk))
      · rw [plain, decide_eq_true (by omega : 0 < m + 1)]
        exact hpl
      · have e' := hK b o hb' e
        have b2 : b ≠ t := fun z => by rw [z, htH] at e'; cases e'
        rw [upd_ne b2, upd_ne hb']
        exact e'
      · rw [upd_ne (Ne.symm htp), upd_same, hrl]
    | false =>
      refine iteT ⟨_, fun σ' H'' h => h, ?_⟩
      have hnc := (pre_one_f _ _).mp h41
      refine ⟨_, rfl, by show 0 ≤ sizeLine; exact Nat.zero_le _, fun L2 hL2 => ?_⟩
      have l2p : L2 ≠ p := fun z => by rw [z, hp'] at hL2; cases hL2
      have l2L : L2 ≠ L := fun z => by rw [z, hL'] at hL2; cases hL2
      have sm : Same H' (upd H' L2 (.lst [])) := fun b o e => by
        have : b ≠ L2 := fun z => by rw [z, hL2] at e; cases e
        rw [upd_ne this]
        exact e
      refine ⟨.list ds, .list [], .lst (SqL.of (sm _ _ hL')) (TpAll.dp (hT.keep sm.tups)), .lst (SqL.of upd_same) .nil, shaped_list hpl (by omega), shaped_nil, _, rfl, ?_⟩
      rw [eqv_nil]
      have fin : ∀ (H4 : Hp) (j' j4 : Nat) (d : PyData) (v : V), KeepE p H' H4 → H4 p = some (rdo K dx x j4) → Tp H4 v d → plain m d = true → j ≤ j' → j' < j4 → j4 ≤ x.length →
          reads ds.isEmpty (lft x j) = (reads false (lft x j4)).map (fun z => (d :: z.1, z.2)) → ∃ m', m' < x.length - j ∧ memW K H x p L dx m i m' [some (.ref p), some (.int ((m + 1 : Nat) : Int)), some (.ref L)] (upd H4 L (.lst (vs ++ [v]))) := by
        intro H4 j' j4 d v k4 hp4 hv hpd hjj hj4 hj5 hR4
        have tk : TupK H4 (upd H4 L (.lst (vs ++ [v]))) := fun b xs e => by
          have : b ≠ L := fun z => by
            rw [z, k4 _ _ hLp hL'] at e
            cases e
          rw [upd_ne this]
          exact e
        refine ⟨x.length - j4, by omega, j4, ds ++ [d], vs ++ [v], rfl, hj5, rfl, ?_, upd_same, ((hT.keep (k4.tups hp')).keep tk).app (hv.keep tk), ?_, ?_, ?_, ?_⟩
        · rw [upd_ne (Ne.symm hLp)]
          exact hp4
        · rw [plainAll_app, hpl, Bool.true_and, plainAll, hpd, plainAll]
          rfl
        · rw [List.length_append]
          show vs.length + 1 + _ ≤ _
          omega
        · intro b o hb' e
          have : b ≠ L := fun z => by rw [z, hLH] at e; cases e
          rw [upd_ne this]
          exact k4 _ _ hb' (hK _ _ hb' e)
        · rw [hR, hR4]
          have : (ds ++ [d]).isEmpty = false := by cases ds <;> rfl
          rw [this]
          cases reads false (lft x j4) with
          | none => rfl
          | some z => simp
      have app : ∀ (H3 : Hp) (j' : Nat), KeepE p H' H3 → H3 p = some (rdo K dx x j') → j ≤ j' → j' ≤ x.length → (reads ds.isEmpty (lft x j) = match read (lft x j') with | none => none | some (d, r) => (reads false r).map (fun z => (d :: z.1, z.2))) →
          tBM K "list" rAppend (tVar 2) (tCons (tMeth (aR K) "value" (spValue K m) [] E (tVar 0) (tCons (tOp (rI0 fun i j => .int (i - j)) (tVar 1) (tC (.int 1))) tNil)) tNil) [some (.ref p), some (.int ((m + 1 : Nat) : Int)), some (.ref L)] H3
            (fun _ H1 => ∃ m', m' < x.length - j ∧ memW K H x p L dx m i m' [some (.ref p), some (.int ((m + 1 : Nat) : Int)), some (.ref L)] H1) := by
        intro H3 j' k3 hp3 hjj hj3 hR3
        refine ⟨_, rfl, .inl ⟨rfl, _, SqL.of (k3 _ _ hLp hL')⟩, _, rfl, p, dx, _, rfl, hp3, rfl, _, rfl, _, _, rfl, rfl, p, dx, x, j', ?_, hp3, hj3, hx, fun d r hr hpd H4 v k4 hp4 hv => ?_, fun hbad => ?_⟩
        · show [V.ref p, V.int (((m + 1 : Nat) : Int) - 1)] = _
          rw [show ((m + 1 : Nat) : Int) - 1 = (m : Int) by omega]
        · obtain ⟨s1, s2, s3⟩ := lft_sfx (read_sfx hr)
          refine ⟨L, vs, v, rfl, rfl, k4 _ _ hLp (k3 _ _ hLp hL'), ?_, ?_⟩
          · rw [sizeLine_eq]
            omega
          · refine fin H4 j' _ d v (k3.trans k4) hp4 hv hpd hjj s3 s2 ?_
            rw [hR3, hr, s1]
        · refine (hb fun es r hes => ?_).trans (hK.trans k3) (by rw [hp3]; simp)
          rw [plain, decide_eq_true (by omega : 0 < m + 1), Bool.true_and]
          rw [hR, hR3] at hes
          cases hrd : read (lft x j') with
          | none => rw [hrd] at hes; cases hes
          | some z =>
            obtain ⟨d, r'⟩ := z
            rw [hrd] at hes
            have hpd := hbad d r' hrd
            have hes' : (Option.map (fun z => (ds ++ z.1, z.2)) (Option.map (fun z : List PyData × List Nat => (d :: z.1, z.2)) (reads false r'))) = some (es, r) := hes
            cases hrs : reads false r' with
            | none =>
              rw [hrs] at hes'
              cases hes'
            | some z =>
              rw [hrs] at hes'
              cases hes'
              show plainAll m (ds ++ d :: z.1) = false
              rw [plainAll_app, plainAll, hpd]
              simp
      cases hds : ds.isEmpty with
      | true =>
        refine iteF (app _ j (fun b o _ e => sm _ _ e) (sm _ _ hp') (Nat.le_refl _) hj ?_)
        rw [hds, reads_eq, if_neg hnc]
        rfl
      | false =>
        refine iteT ⟨_, rfl, p, dx, _, rfl, sm _ _ hp', rfl, p, dx, x, j, " ", rfl, sm _ _ hp', hj, by decide, fun h32 => ?_, fun h32 => ?_⟩
        · rw [e32] at h32
          have hc := (pre_one _ _).mp h32
          have hjl := head_lt hc
          rw [l1c]
          refine app _ (j + 1) (fun b o hb' e => by rw [upd_ne hb']; exact sm _ _ e) upd_same (Nat.le_succ _) hjl ?_
          rw [hds, reads_eq, if_neg hnc, hc]
          show (match read (if false = true then lft x j else (lft x j).tail) with | none => none | some (d, r) => _) = _
          have : (if false = true then lft x j else (lft x j).tail) = lft x (j + 1) := by
            show (lft x j).tail = _
            rw [lft_drop, List.drop_one]
          rw [this]
        · rw [e32] at h32
          have hc := (pre_one_f _ _).mp h32
          refine (hb fun es r hes => ?_).trans (hK.trans (fun b o _ e => sm _ _ e)) (by rw [sm _ _ hp']; simp)
          rw [hR, hds, reads_eq, if_neg hnc] at hes
          have : (!false && !((lft x j).head? == some 32)) = true := by
            rw [show ((lft x j).head? == some 32) = false from by rw [beq_eq_false_iff_ne]; exact hc]
            rfl
          rw [this] at hes
          cases hes
end
end T82

set_option Elab.async false
set_option linter.all false
set_option maxRecDepth 100000
set_option maxHeartbeats 2000000
namespace T82
open PySem PySem.Spec PyProof.Rows L2 TL
section
variable {P : Program} {w : World} {K : PySem.W.Frag} {mg : Str → Option Value} {base : Heap}
theorem scValue : FnScope ["self", "left"] ["self", "left"] (defScope (inClass (top 17) 5)) := ⟨rfl, rfl, rfl, by decide +kernel, rfl, by decide +kernel, by decide +kernel⟩
theorem ok_value0 (F : Fx K mg) (T : Fr K mg) (G1 : CalM P w K mg base CX0 1 "has" ["self", "word"] (spHas K)) (G2 : CalM P w K mg base (L2.CX P w) 2 "take" ["self", "word"] (spTake K)) (G4 : CalM P w K mg base (L2.CX P w) 4 "string" ["self"] (spString K)) (G5 : CalM P w K mg base (L2.CX P w) 4 "whole" ["self"] (spWhole K))
    (n k : Nat) (hk : 4 ≤ k) (G : CalM P w K mg base (L2.CX P w) k "members" ["self", "left"] (spMembers K n)) : CalM P w K mg base (L2.CX P w) (k + 1) "value" ["self", "left"] (spValue K n) := by
  refine calm_of T.value scValue (fun vs H Q E h => ?_) (fun _ _ _ _ _ _ us hl => match us, hl with | [_, _], _ => rfl) fun f cdv A outer s H vs Q E hr h => ⟨_, pss_cons (ps_if (pt_val (pe_calm T.cl G1 (hr.mono (by omega)) pass0 (pv 0) (pa_cons (pe_gs F.c_none) pa_nil))) (pss_cons (ps_expr (pe_calm T.cl G2 (hr.mono (by omega)) pass (pv 0) (pa_cons (pe_gs F.c_none) pa_nil))) (pss_one (ps_ret pe_non))) pss_nil)
    (pss_cons (ps_if (pt_val (pe_calm T.cl G1 (hr.mono (by omega)) pass0 (pv 0) (pa_cons (pe_gs F.c_quote) pa_nil))) (pss_one (ps_ret (pe_calm0 T.cl G4 (hr.mono (by omega)) pass (pv 0)))) pss_nil)
    (pss_cons (ps_if (pt_val (pe_calm T.cl G1 (hr.mono (by omega)) pass0 (pv 0) (pa_cons pe_str pa_nil))) (pss_one (ps_ret (pe_calm T.cl G hr pass (pv 0) (pa_cons (pv 1) pa_nil)))) pss_nil)
    (pss_one (ps_ret (pe_calm0 T.cl G5 (hr.mono (by omega)) pass (pv 0)))))), ?_⟩
  · obtain ⟨p, dx, x, i, rfl, _⟩ := h
    rfl
  · obtain ⟨p, dx, x, i, rfl, hp, hi, hx, hq, hb⟩ := h
    have eN : tl ("none" : Str) = noneT := by decide +kernel
    have e34 : tl ("\"" : Str) = [34] := by decide +kernel
    have e40 : tl ("(" : Str) = [40] := by decide +kernel
    have l4 : ("none" : Str).length = 4 := rfl
    have hrd := read_eq (lft x i)
    refine ⟨_, rfl, p, dx, _, rfl, hp, rfl, p, dx, x, i, "none", rfl, hp, hi, _, rfl, ?_⟩
    rw [eN]
    cases hN : pre noneT (lft x i) with
    | true =>
      rw [hN, if_pos rfl] at hrd
      refine iteT ⟨_, rfl, p, dx, _, rfl, hp, rfl, p, dx, x, i, "none", rfl, hp, hi, by decide, fun _ => ?_, fun hn => by rw [eN, hN] at hn; cases hn⟩
      rw [l4]
      have hl : x.length - ((lft x i).drop 4).length = i + 4 := by
        have h1 := congrArg List.length (pre_split hN)
        rw [List.length_append, lft_len] at h1
        have h4 : noneT.length = 4 := rfl
        rw [h4] at h1
        rw [List.length_drop, lft_len] at h1 ⊢
        omega
      refine hq _ _ hrd (by rw [plain]) _ _ keepE_upd ?_ .non
      rw [upd_same, hl]
    | false =>
      rw [hN] at hrd
      refine iteF ⟨_, rfl, p, dx, _, rfl, hp, rfl, p, dx, x, i, "\"", rfl, hp, hi, _, rfl, ?_⟩
      rw [e34]
      cases h34 : pre [34] (lft x i) with
      | true =>
        have hc := (pre_one _ _).mp h34
        rw [if_neg (by decide), if_pos hc] at hrd
        refine iteT ⟨_, rfl, p, dx, _, rfl, hp, rfl, p, dx, x, i, rfl, hp, hc, hx, fun y r hr' hy => ?_, fun hbad => hb fun d r hd => ?_⟩
        · rw [hr'] at hrd
          obtain ⟨y', e, _, hs⟩ := readStr_is hr'
          cases e
          refine hq _ _ hrd ?_ _ _ keepE_upd upd_same (.str y)
          rw [plain, hs, Bool.and_true]
          exact decide_eq_true hy
        · rw [hd] at hrd
          obtain ⟨y', rfl, _, hs⟩ := readStr_is hrd.symm
          have := hbad y' r hrd.symm
          rw [plain, decide_eq_false this, Bool.false_and]
      | false =>
        have hc := (pre_one_f _ _).mp h34
        rw [if_neg (by decide), if_neg hc] at hrd
        refine iteF ⟨_, rfl, p, dx, _, rfl, hp, rfl, p, dx, x, i, "(", rfl, hp, hi, _, rfl, ?_⟩
        rw [e40]
        cases h40 : pre [40] (lft x i) with
        | true =>
          have hc4 := (pre_one _ _).mp h40
          rw [if_pos hc4] at hrd
          refine iteT ⟨_, rfl, p, dx, _, rfl, hp, rfl, _, rfl, p, dx, x, i, rfl, hp, hc4, hx, fun ds r hr' hpl H' v k hp' hv => ?_, fun hbad => hb fun d r hd => ?_⟩
          · rw [hr'] at hrd
            exact hq _ _ hrd hpl _ _ k hp' hv
          · rw [hd] at hrd
            cases hrs : reads true (lft x i).tail with
            | none => rw [hrs] at hrd; cases hrd
            | some z =>
              obtain ⟨ds, r'⟩ := z
              rw [hrs] at hrd
              cases hrd
              exact hbad ds _ hrs
        | false =>
          have hc4 := (pre_one_f _ _).mp h40
          rw [if_neg hc4] at hrd
          refine iteF ⟨_, rfl, p, dx, _, rfl, hp, rfl, p, dx, x, i, rfl, hp, hi, hx, fun k r hr' => ?_, fun hbad => hb fun d r hd => ?_⟩
          · rw [hr'] at hrd
            obtain ⟨neg, y, ds, e, _, ha, hg, _⟩ := readWhole_is hr'
            injection e with e
            subst e
            refine hq _ _ hrd ?_ _ _ keepE_upd upd_same (.int _)
            rw [plain]
            unfold goodDigs at hg
            rw [Bool.and_eq_true, Bool.and_eq_true] at hg
            exact decide_eq_true (Nat.lt_of_lt_of_le (digInt_lt neg ha) (Nat.pow_le_pow_right (by decide) (of_decide_eq_true hg.2.1)))
          · rw [hd, hbad] at hrd
            cases hrd
theorem ok_value (F : Fx K mg) (T : Fr K mg) (E0 : Fe P K mg) : ∀ n : Nat, n ≤ 30 → CalM P w K mg base (L2.CX P w) (2 * n + 6) "value" ["self", "left"] (spValue K n) := by
  have G1 := ok_has (P := P) (w := w) (base := base) F T
  have G2 := ok_take F T E0 G1
  have G3 := ok_row (P := P) (w := w) (base := base) F T
  have G4 := ok_string F T E0 G2 G3
  have G5 := ok_whole F T E0 G1 G2 G3
  intro n
  induction n with
  | zero =>
    intro _
    exact ok_value0 F T G1 G2 G4 G5 0 5 (by decide) (ok_members0 F T E0 G1 G2 0 4 (by decide) (by decide) (calm_none 4 T.value fun _ _ _ _ _ _ us hl => match us, hl with | [_, _], _ => rfl) fun m h => by omega)
  | succ n ih =>
    intro hn
    have hv := ih (by omega)
    have := ok_value0 F T G1 G2 G4 G5 (n + 1) (2 * n + 7) (by omega) (ok_members0 F T E0 G1 G2 (n + 1) (2 * n + 6) (by omega) hn hv fun m h => by
      have e : n = m := by omega
      rw [e])
    exact this
end
end T82

set_option Elab.async false
set_option linter.all false
set_option maxRecDepth 100000
set_option maxHeartbeats 2000000
namespace T82
open PySem PySem.Spec PyProof.Rows L2 TL
section
variable {P : Program} {w : World} {K : PySem.W.Frag} {mg : Str → Option Value} {base : Heap}
abbrev sValueText : Stmt := top 19
theorem scValueText : FnScope ["value"] ["value"] (defScope sValueText) := ⟨rfl, rfl, rfl, by decide +kernel, rfl, by decide +kernel, by decide +kernel⟩
def spValueText (K : PySem.W.Frag) : Sp := fun vs H Q E => ∃ x d, vs = [x] ∧ Dv H x d ∧ okS d = true ∧ (plain 30 d = true → (txt d).length ≤ 20000 ∧ ∀ H' y, Same H H' → tl y = txt d → Q (.str y) H') ∧ (plain 30 d = false → ∀ H', Same H H' → E (.ref (aI K)) none H')
theorem Dv.plain_tp {H : Hp} {x : V} {d : PyData} {n : Nat} (h : Dv H x d) (hp : plain n d = true) : Tp H x d := by
  cases h with
  | tp h => exact h
  | lst h => rw [plain] at hp; cases hp
  | emp h => rw [plain] at hp; cases hp
theorem ok_value_text (F : Fx K mg) (E0 : Fe P K mg) (D : At K mg "value_text" sValueText) (G1 : Cal P w K mg base CX0 34 "is_plain" ["value"] spIsPlain) (G2 : Cal P w K mg base CX0 32 "text_in" ["value"] (spTextIn 30)) :
    Cal P w K mg base (L2.CX P w) 35 "value_text" ["value"] (spValueText K) := by
  refine cal_of D scValueText (fun vs H Q E h => ?_) (fun _ _ _ _ _ _ us hl => match us, hl with | [_], _ => rfl) fun f cdv A outer s H vs Q E hr h => ⟨_, pss_cons (ps_if (pt_not (pt_val (pe_cal G1 hr (by rfl) pass0 (pa_cons (pv 0) pa_nil)))) (pss_one (ps_inv E0 rfl (takes_of rfl rfl rfl rfl))) pss_nil)
    (pss_one (ps_ret (pe_cal G2 (hr.mono (by decide)) (by rfl) pass0 (pa_cons (pv 0) pa_nil)))), ?_⟩
  · obtain ⟨x, d, rfl, _⟩ := h
    rfl
  · obtain ⟨x, d, rfl, hd, hok, hq, hb⟩ := h
    refine ⟨_, rfl, x, d, rfl, hd, hok, fun H' sm => ⟨_, rfl, ?_⟩⟩
    cases hp : plain 30 d with
    | false => exact iteT (hb hp H' sm)
    | true =>
      obtain ⟨hl, hq⟩ := hq hp
      exact iteF ⟨_, rfl, x, d, rfl, (hd.plain_tp hp).keep sm.tups, hp, hl, fun H2 y s2 hy => hq H2 y (sm.trans s2) hy⟩
abbrev sReadValue : Stmt := top 20
theorem scReadValue : FnScope ["value", "reading", "found"] ["value"] (defScope sReadValue) := ⟨rfl, rfl, rfl, by decide +kernel, rfl, by decide +kernel, by decide +kernel⟩
/-- a refused text's way out -/
def BadS (K : PySem.W.Frag) (E : XK) (H : Hp) : Prop := ∀ d H', H d = none → Same H H' → H' d = some (.xd [("spot", .non)]) → E (.ref (aP K)) (some d) H'
theorem BadS.trans {K : PySem.W.Frag} {E : XK} {H H1 : Hp} (h : BadS K E H) (k : Same H H1) : BadS K E H1 := fun d H' hd s hx => h d H' (k.free hd) (k.trans s) hx
def spReadValue (K : PySem.W.Frag) : Sp := fun vs H Q E => ∃ x d, vs = [x] ∧ Dv H x d ∧ (∀ z, d = .str z → z.length ≤ 20000 ∧ (∀ e, read (tl z) = some (e, []) → plain 30 e = true → ∀ H' v, Same H H' → Tp H' v e → Q v H')) ∧
  ((∀ z e, d = .str z → read (tl z) = some (e, []) → plain 30 e = false) → BadS K E H)
theorem ok_read_value (F : Fx K mg) (T : Fr K mg) (E0 : Fe P K mg) (D : At K mg "read_value" sReadValue) (G : CalM P w K mg base (L2.CX P w) 66 "value" ["self", "left"] (spValue K 30)) :
    Cal P w K mg base (L2.CX P w) 67 "read_value" ["value"] (spReadValue K) := by
  obtain ⟨fi, fdi, Mi, bi, Fi⟩ := ok_init (P := P) (w := w) (base := base) T
  obtain ⟨pp, pg, pfd, pM, pb, pF⟩ := ok_over (P := P) (w := w) (base := base) F T
  refine cal_of D scReadValue (fun vs H Q E h => ?_) (fun _ _ _ _ _ _ us hl => match us, hl with | [_], _ => rfl) fun f cdv A outer s H vs Q E hr h => ⟨_, pss_cons (ps_if (pt_not (pt_val (pe_isi (T := "str") F.b_isinstance F.b_str (pv 0)))) (pss_one (ps_pe E0 rfl (hr.mono (by decide)) (takes_of rfl rfl rfl rfl))) pss_nil)
    (pss_cons (ps_set (i := 1) scReadValue.nd rfl (Or.inl rfl) (pe_make Mi Fi (hr.mono (by decide)) (by rfl) T.gR bi .nil pass0 (pa_cons (pv 0) pa_nil)))
    (pss_cons (ps_set (i := 2) scReadValue.nd rfl (Or.inl rfl) (pe_calm T.cl G hr pass (pv 1) (pa_cons (pe_gi F.c_nested) pa_nil)))
    (pss_cons (ps_if (pt_not (pt_val (pe_prop (pv 1) T.cl pM pF (hr.mono (by decide)) pb .nil pass0 rfl))) (pss_one (ps_pe E0 rfl (hr.mono (by decide)) (takes_of rfl rfl rfl rfl))) pss_nil)
    (pss_one (ps_ret (pv 2)))))), ?_⟩
  · obtain ⟨x, d, rfl, _⟩ := h
    rfl
  · obtain ⟨x, d, rfl, hd, hq, hb⟩ := h
    refine ⟨_, rfl, x, .ty "str", _, _, _, rfl, .ty _, hd.ty, kit_str d, _, rfl, ?_⟩
    cases hS : isS d with
    | false =>
      exact iteT (hb fun z e hz => by rw [hz] at hS; cases hS)
    | true =>
      obtain ⟨z, rfl, rfl⟩ : ∃ z, x = .str z ∧ d = .str z := by
        cases hd with
        | emp h => cases hS
        | lst h => cases hS
        | tp h => cases h with
          | str z => exact ⟨z, rfl, rfl⟩
          | _ => cases hS
      obtain ⟨hz, hq⟩ := hq z rfl
      refine iteF ⟨_, rfl, fun p dx hp hdx hne => ⟨p, dx, z, rfl, upd_same, rfl, ?_⟩⟩
      rw [upd_upd]
      have sm : Same H (upd (upd H dx (.own p)) p (rdo K dx z 0)) := fun b o e => by
        have b1 : b ≠ p := fun q => by rw [q, hp] at e; cases e
        have b2 : b ≠ dx := fun q => by rw [q, hdx] at e; cases e
        rw [upd_ne b1, upd_ne b2]
        exact e
      have l0 : lft z 0 = tl z := List.drop_zero
      have kh : ∀ {H2 : Hp}, KeepE p (upd (upd H dx (.own p)) p (rdo K dx z 0)) H2 → Same H H2 := fun k b o e => by
        have b1 : b ≠ p := fun q => by rw [q, hp] at e; cases e
        exact k b o b1 (sm b o e)
      refine ⟨_, rfl, p, dx, _, rfl, upd_same, rfl, p, dx, z, 0, rfl, upd_same, Nat.zero_le _, hz, fun e r hrd hpl H2 v k2 hp2 hv => ?_, fun hbad => ?_⟩
      · rw [l0] at hrd
        have hrl : r.length ≤ z.length := by
          have := (read_sfx hrd).lt
          rw [← len_tl] at this
          omega
        refine ⟨_, rfl, p, dx, _, rfl, hp2, p, dx, z, _, rfl, hp2, hz, _, rfl, ?_⟩
        by_cases hr0 : r = []
        · subst hr0
          rw [show decide (z.length - ([] : List Nat).length = z.length) = true from decide_eq_true (Nat.sub_zero _)]
          exact iteF ⟨_, rfl, hq e hrd hpl H2 v (kh k2) hv⟩
        · have hpos : 0 < r.length := List.length_pos_iff.mpr hr0
          have hsl := (read_sfx hrd).lt
          rw [← len_tl] at hsl
          rw [decide_eq_false (by omega : ¬ z.length - r.length = z.length)]
          refine iteT ((hb fun z' e' hz' hr' => ?_).trans (kh k2))
          injection hz' with hz'
          subst hz'
          rw [hrd] at hr'
          injection hr' with hr'
          injection hr' with _ hr'
          exact absurd hr' hr0
      · intro dd H' hdd k hx
        refine hb (fun z' e' hz' hr' => ?_) dd H' ?_ (kh k) hx
        · injection hz' with hz'
          subst hz'
          rw [l0] at hbad
          exact hbad _ _ hr'
        · exact sm.free hdd
end
end T82

set_option Elab.async false
set_option linter.all false
set_option maxRecDepth 100000
set_option maxHeartbeats 2000000
namespace T82
open PySem PySem.Spec PyProof.Rows L2 TL
/-- (10 ** 57) ** 6 -/
theorem op_pow6 {X : Cx} : OpR X (binaryOp .Pow) (rI (fun i j => i = 10 ^ 57 ∧ j = 6) fun _ _ => .int (10 ^ 342)) := opI fun i j _ _ _ _ _ hc q => by
  obtain ⟨rfl, rfl⟩ := hc
  refine pow_int (by decide) (by decide +kernel) ?_
  rw [show ((10 : Int) ^ 57) ^ (6 : Int).toNat = 10 ^ 342 by decide +kernel]
  exact q
/-- a bowl: three numbers -/
def Bowl (H : Hp) (l : Addr) : Prop := ∃ b0 b1 b2 : Int, H l = some (.lst [.int b0, .int b1, .int b2])
theorem Bowl.ne {H : Hp} {l : Addr} (h : Bowl H l) : H l ≠ none := by
  obtain ⟨_, _, _, h⟩ := h
  rw [h]
  simp
theorem Bowl.tups {H H' : Hp} {l : Addr} (h : Bowl H l) (k : KeepE l H H') : TupK H H' := fun a xs e => k a _ (fun z => by
  obtain ⟨_, _, _, h⟩ := h
  rw [z, h] at e
  cases e) e
theorem Bowl.same {H H' : Hp} {l : Addr} (h : Bowl H l) (k : Same H H') : Bowl H' l := by
  obtain ⟨a, b, c, h⟩ := h
  exact ⟨a, b, c, k _ _ h⟩
section
variable {P : Program} {w : World} {K : PySem.W.Frag} {mg : Str → Option Value} {base : Heap}
/-! ### _law_bowl -/
abbrev sBowl : Stmt := top 22
theorem scBowl : FnScope ["script", "spot", "cell", "great"] ["script", "spot"] (defScope sBowl) := ⟨rfl, rfl, rfl, by decide +kernel, rfl, by decide +kernel, by decide +kernel⟩
def spBowl (K : PySem.W.Frag) : Sp := fun vs H Q _ => ∃ (a : Addr) (ns : List Int) (j : Nat), vs = [.ref a, .int (j : Int)] ∧ SqL K H a (ns.map V.int) ∧ ∀ H' l, Same H H' → H l = none → Bowl H' l → Q (.ref l) H'
theorem cutV_ints (ns : List Int) (lo hi : Option Int) : ∃ ms : List Int, cutV (ns.map V.int) lo hi = ms.map V.int := by
  unfold cutV
  refine ⟨(ns.drop (HT.sIx (ns.map V.int).length 0 lo)).take (HT.sIx (ns.map V.int).length (ns.map V.int).length hi - HT.sIx (ns.map V.int).length 0 lo), ?_⟩
  rw [List.map_take, List.map_drop]
theorem ok_bowl (F : Fx K mg) (D : At K mg "_law_bowl" sBowl) : Cal P w K mg base CX0 1 "_law_bowl" ["script", "spot"] (spBowl K) := by
  refine cal_of D scBowl (fun vs H Q E h => ?_) (fun _ _ _ _ _ _ us hl => match us, hl with | [_, _], _ => rfl) fun f cdv A outer s H vs Q E hr h => ?_
  · obtain ⟨a, ns, j, rfl, _⟩ := h
    rfl
  · obtain ⟨a, ns, j, rfl, hS, hq⟩ := h
    have hT : ∃ tT : TS, PSs (cxOf CX0 P w K mg base ["script", "spot", "cell", "great"] "_law_bowl" (defScope sBowl) f cdv A outer s H E).nox ((defBody sBowl).drop 1) tT ∧
        ∀ c H1, Same H H1 → tT { nx := fun _ H' => Q .non H', rt := Q } [some (.ref a), some (.int (j : Int)), some (.int c), none] H1 := by
      refine ⟨_, pss_cons (ps_set (i := 3) scBowl.nd rfl (Or.inl rfl) (pe_op op_modN (pe_callTy call_int1 (by rfl) F.b_int (by decide +kernel) (pa_cons (pe_callB call_abs (by rfl) F.b_abs (by decide +kernel) (pa_cons (pv 2) pa_nil)) pa_nil)) (pe_op op_pow6 (pe_op op_pow pe_int pe_int) pe_int)))
    (pss_one (ps_ret (pe_lst (pa_cons (pe_callB (call_max2 rfl) (by rfl) F.b_max (by decide +kernel) (pa_cons pe_int (pa_cons (pe_op op_sub (pv 3) (pe_op op_pow pe_int pe_int)) pa_nil)))
      (pa_cons (pe_op op_add (pe_op op_add (pe_op op_add (pe_op op_mul (pe_op op_modN (pe_callTy call_int1 (by rfl) F.b_int (by decide +kernel) (pa_cons (pv 3) pa_nil)) pe_int) pe_int) (pe_op op_mul pe_int (pv 1))) (pe_op op_mul pe_int (pe_callTy call_int1 (by rfl) F.b_int (by decide +kernel) (pa_cons (pe_cmpR op_lt (pv 2) pe_int (nomark _)) pa_nil)))) pe_int)
      (pa_cons pe_int pa_nil)))))), fun c H1 sm => ?_⟩
      refine ⟨_, rfl, _, rfl, .inl ⟨_, rfl, _, _, rfl, rfl, ⟨by decide, by decide, by decide⟩, _, _, rfl, rfl, ⟨by decide +kernel, rfl⟩, _, _, rfl, rfl, (show ((10 : Int) ^ 342) ≠ 0 by decide +kernel), ?_⟩⟩
      refine ⟨_, rfl, _, _, rfl, rfl, ⟨by decide, by decide, by decide⟩, _, _, rfl, rfl, _, _, rfl, ?_⟩
      refine ⟨_, rfl, .inl ⟨_, rfl, _, _, rfl, rfl, (show (2147483563 : Int) ≠ 0 by decide), _, _, rfl, rfl, .inr ⟨by decide, by decide⟩, _, rfl, _, _, rfl, rfl, .inl ⟨by decide, by decide⟩, _, _, rfl, rfl, ?_⟩⟩
      refine ⟨_, rfl, _, _, rfl, rfl, .inr ⟨_, rfl, _, _, rfl, rfl, .inl ⟨by decide, by decide⟩, _, _, rfl, rfl, _, _, rfl, rfl, ?_⟩⟩
      refine ⟨by show 3 ≤ sizeLine; rw [sizeLine_eq]; decide, fun l hl => hq _ l ?_ ?_ ⟨_, _, _, upd_same⟩⟩
      · exact fun b o e => by
          have : b ≠ l := fun z => by
            have := sm b o e
            rw [z, hl] at this
            cases this
          rw [upd_ne this]
          exact sm b o e
      · exact sm.free hl
    obtain ⟨tT, hPS, hT⟩ := hT
    refine ⟨_, PSs.nox (pss_cons (ps_set (i := 2) scBowl.nd rfl (Or.inl rfl) (pe_ifExp (pt_cmpR op_lt (pv 1) (pe_callB call_len (by rfl) F.b_len boot_len (pa_cons (pv 0) pa_nil)) (nomark _))
        (pe_callTy call_int1 (by rfl) F.b_int (by decide +kernel) (pa_cons (pe_ix ix_list (pv 0) (pv 1) (fun _ _ => rfl)) pa_nil))
        (pe_op op_add (pe_op op_add (pe_op op_mul pe_int (pv 1)) pe_int) (pe_op op_modN (pe_callTy call_int1 (by rfl) F.b_int (by decide +kernel) (pa_cons (pe_callB (cr_sum rfl) (by rfl) F.b_sum (by decide +kernel) (pa_cons (pe_slice sl_list (pv 0) po_none (po_some pe_int)) pa_nil)) pa_nil)) pe_int)))) hPS), ?_⟩
    refine ⟨_, rfl, _, rfl, _, (ns.map V.int).length, rfl, .inl ⟨_, hS, rfl⟩, _, _, rfl, rfl, _, rfl, ?_⟩
    by_cases hj : (j : Int) < (((ns.map V.int).length : Nat) : Int)
    · rw [decide_eq_true hj]
      have hj' : j < ns.length := by
        rw [List.length_map] at hj
        omega
      refine iteT ⟨_, rfl, _, rfl, a, ns.map V.int, (j : Int), .int ns[j], rfl, rfl, hS, atI_nat (by rw [List.getElem?_map, List.getElem?_eq_getElem hj']; rfl), .inl ⟨_, rfl, hT _ _ (Same.refl H)⟩⟩
    · rw [decide_eq_false hj]
      obtain ⟨ms, hms⟩ := cutV_ints ns none (some 1)
      refine iteF ⟨_, rfl, _, _, rfl, rfl, .inl ⟨by decide, by decide⟩, _, _, rfl, rfl, _, rfl, _, rfl, a, ns.map V.int, rfl, hS, fun q hq' => ?_⟩
      refine ⟨q, ms, rfl, SqL.of (by rw [upd_same, hms]), .inl ⟨_, rfl, _, _, rfl, rfl, (show (1000003 : Int) ≠ 0 by decide), _, _, rfl, rfl, hT _ _ ?_⟩⟩
      exact fun b o e => by
        have : b ≠ q := fun z => by rw [z, hq'] at e; cases e
        rw [upd_ne this]
        exact e
/-! ### _law_scoop -/
abbrev sScoop : Stmt := top 23
theorem scScoop : FnScope ["bowl", "total", "found", "one", "two"] ["bowl", "total"] (defScope sScoop) := ⟨rfl, rfl, rfl, by decide +kernel, rfl, by decide +kernel, by decide +kernel⟩
def spScoop : Sp := fun vs H Q _ => ∃ (l : Addr) (t : Nat), vs = [.ref l, .int (t : Int)] ∧ 0 < t ∧ t < 2 ^ 30 ∧ Bowl H l ∧ ∀ (r : Nat) H', r < t → KeepE l H H' → Bowl H' l → Q (.int (r : Int)) H'
theorem mod_nat (i : Int) {t : Nat} (ht : 0 < t) : ∃ r : Nat, r < t ∧ i.fmod (t : Int) = (r : Int) := by
  have h1 := Int.fmod_nonneg_of_pos i (show (0 : Int) < (t : Int) by omega)
  have h2 := Int.fmod_lt_of_pos i (show (0 : Int) < (t : Int) by omega)
  exact ⟨(i.fmod (t : Int)).toNat, by omega, by omega⟩
theorem ok_scoop (F : Fx K mg) (D : At K mg "_law_scoop" sScoop) : Cal P w K mg base CX0 1 "_law_scoop" ["bowl", "total"] spScoop := by
  refine cal_of D scScoop (fun vs H Q E h => ?_) (fun _ _ _ _ _ _ us hl => match us, hl with | [_, _], _ => rfl) fun f cdv A outer s H vs Q E hr h => ⟨_, PSs.nox (pss_cons (ps_if (pt_cmpR op_gt (pe_ix ix_list (pv 0) pe_int (fun _ _ => rfl)) pe_int (nomark _))
      (pss_cons (ps_set (i := 2) scScoop.nd rfl (Or.inl rfl) (pe_op op_modN (pe_callTy call_int1 (by rfl) F.b_int (by decide +kernel) (pa_cons (pe_ix ix_list (pv 0) pe_int (fun _ _ => rfl)) pa_nil)) (pv 1)))
      (pss_cons (ps_asg (pe_op op_fdivW (pe_ix ix_list (pv 0) pe_int (fun _ _ => rfl)) (pv 1)) (pg_sub (pv 0) pe_int set_list)) (pss_one (ps_ret (pv 2))))) pss_nil)
    (pss_cons (ps_asg (pe_op op_add (pe_ix ix_list (pv 0) pe_int (fun _ _ => rfl)) pe_int) (pg_sub (pv 0) pe_int set_list))
    (pss_cons (ps_set (i := 3) scScoop.nd rfl (Or.inl rfl) (pe_op op_modN (pe_callTy call_int1 (by rfl) F.b_int (by decide +kernel) (pa_cons (pe_op op_add (pe_ix ix_list (pv 0) pe_int (fun _ _ => rfl)) (pe_op op_mul pe_int (pe_ix ix_list (pv 0) pe_int (fun _ _ => rfl)))) pa_nil)) pe_int))
    (pss_cons (ps_set (i := 4) scScoop.nd rfl (Or.inl rfl) (pe_op op_add (pe_op op_mul (pe_op op_modN (pe_callTy call_int1 (by rfl) F.b_int (by decide +kernel) (pa_cons (pe_op op_add (pe_op op_mul (pv 3) (pv 3)) (pe_op op_mul pe_int (pe_ix ix_list (pv 0) pe_int (fun _ _ => rfl)))) pa_nil)) pe_int) pe_int) (pv 3)))
    (pss_one (ps_ret (pe_op op_modN (pe_callTy call_int1 (by rfl) F.b_int (by decide +kernel) (pa_cons (pe_op op_fdiv (pv 4) pe_int) pa_nil)) (pv 1)))))))), ?_⟩
  · obtain ⟨l, t, rfl, _⟩ := h
    rfl
  · obtain ⟨l, t, rfl, ht, ht2, ⟨b0, b1, b2, hl⟩, hq⟩ := h
    refine ⟨_, rfl, l, _, (0 : Int), _, rfl, rfl, SqL.of hl, atI_nat (j := 0) rfl, _, _, rfl, rfl, _, rfl, ?_⟩
    by_cases h0 : (0 : Int) < b0
    · rw [decide_eq_true h0]
      obtain ⟨r, hr1, hr2⟩ := mod_nat b0 ht
      refine iteT ⟨_, rfl, l, _, (0 : Int), _, rfl, rfl, SqL.of hl, atI_nat (j := 0) rfl, .inl ⟨_, rfl, _, rfl, _, _, rfl, rfl, (by omega : (t : Int) ≠ 0), ?_⟩⟩
      refine ⟨_, rfl, l, _, (0 : Int), _, rfl, rfl, SqL.of hl, atI_nat (j := 0) rfl, _, rfl, _, _, rfl, rfl, wide_div (b := 30) (by omega) (by omega) (by decide) (by decide), ?_⟩
      refine ⟨_, rfl, l, _, (0 : Int), 0, rfl, rfl, hl, rfl, _, rfl, ?_⟩
      have := hq r (upd H l (.lst [.int (b0 / (t : Int)), .int b1, .int b2])) hr1 keepE_upd ⟨_, _, _, upd_same⟩
      rw [← hr2] at this
      exact this
    · rw [decide_eq_false h0]
      refine iteF ⟨_, rfl, l, _, (2 : Int), _, rfl, rfl, SqL.of hl, atI_nat (j := 2) rfl, _, _, rfl, rfl, _, rfl, l, _, (2 : Int), 2, rfl, rfl, hl, rfl, ?_⟩
      have hl3 : (upd H l (.lst [V.int b0, .int b1, .int (b2 + 1)])) l = some (.lst [V.int b0, .int b1, .int (b2 + 1)]) := upd_same
      obtain ⟨one, ho1, ho2⟩ := mod_nat (b1 + 9699809 * (b2 + 1)) (t := 2305843009213693951) (by decide)
      refine ⟨_, rfl, l, _, (1 : Int), _, rfl, rfl, SqL.of hl3, atI_nat (j := 1) rfl, _, rfl, l, _, (2 : Int), _, rfl, rfl, SqL.of hl3, atI_nat (j := 2) rfl, _, _, rfl, rfl, .inl ⟨by decide, by decide⟩, _, _, rfl, rfl, .inl ⟨_, rfl, (b1 + 9699809 * (b2 + 1)), 2305843009213693951, rfl, rfl, (show (2305843009213693951 : Int) ≠ 0 by decide), ?_⟩⟩
      have hw : ∀ i : Nat, i < 2305843009213693951 → -(2 ^ 64) < (i : Int) ∧ (i : Int) < 2 ^ 64 := fun i h => by omega
      have ho3 : (fun i j : Int => V.int (i.fmod j)) (b1 + 9699809 * (b2 + 1)) 2305843009213693951 = V.int (one : Int) := congrArg V.int ho2
      show tSeq _ _ { nx := _, rt := Q } ([some (.ref l), some (.int (t : Int)), none, some ((fun i j : Int => V.int (i.fmod j)) (b1 + 9699809 * (b2 + 1)) 2305843009213693951), none]) (upd H l (.lst [V.int b0, .int b1, .int (b2 + 1)]))
      rw [ho3]
      obtain ⟨r, hr1, hr2⟩ := mod_nat (((one : Int) * one + 499 * (b2 + 1)).fmod 2305843009213693921 * 5800087 + one) (t := 65537) (by decide)
      refine ⟨_, rfl, _, rfl, _, _, rfl, rfl, .inl (hw _ ho1), _, rfl, l, _, (2 : Int), _, rfl, rfl, SqL.of hl3, atI_nat (j := 2) rfl, _, _, rfl, rfl, .inl ⟨by decide, by decide⟩, _, _, rfl, rfl, .inl ⟨_, rfl, _, _, rfl, rfl, (show (2305843009213693921 : Int) ≠ 0 by decide), _, _, rfl, rfl, .inr ⟨by decide, by decide⟩, _, rfl, _, _, rfl, rfl, ?_⟩⟩
      obtain ⟨q, hq1, hq2⟩ := mod_nat ((((one : Int) * one + 499 * (b2 + 1)).fmod 2305843009213693921 * 5800087 + one) / 65537) ht
      refine ⟨_, rfl, _, _, rfl, rfl, ⟨by decide, by decide⟩, .inl ⟨_, rfl, _, rfl, _, _, rfl, rfl, (by omega : (t : Int) ≠ 0), ?_⟩⟩
      have := hq q (upd H l (.lst [V.int b0, .int b1, .int (b2 + 1)])) hq1 keepE_upd ⟨_, _, _, upd_same⟩
      rw [← hq2] at this
      exact this
end
end T82

set_option Elab.async false
set_option linter.all false
set_option maxRecDepth 100000
set_option maxHeartbeats 2000000
namespace T82
open PySem PySem.Spec PyProof.Rows L2 TL
/-! ### lists of ones -/
theorem ones_dp {K : PySem.W.Frag} {H : Hp} : ∀ n : Nat, DpAll K H (List.replicate n (V.int 1)) (List.replicate n (PyData.int 1))
  | 0 => .nil
  | n + 1 => .cons (.int 1) (ones_dp n)
theorem ones_lay : ∀ n : Nat, PyData.canLayAll0 (List.replicate n (PyData.int 1)) = true
  | 0 => by
    show PyData.canLayAll0 [] = true
    rw [PyData.canLayAll0]
  | n + 1 => by
    show PyData.canLayAll0 (.int 1 :: List.replicate n (.int 1)) = true
    rw [PyData.canLayAll0, ones_lay n, PyData.canLay0]
    rfl
theorem ones_depth : ∀ n : Nat, PyData.depthAll (List.replicate n (PyData.int 1)) = 0
  | 0 => by
    show PyData.depthAll [] = 0
    rw [PyData.depthAll]
  | n + 1 => by
    show PyData.depthAll (.int 1 :: List.replicate n (.int 1)) = 0
    rw [PyData.depthAll, ones_depth n, PyData.depth]
    rfl
theorem ones_shaped (n : Nat) : SeqAt.shaped (.list (List.replicate n (PyData.int 1))) = true := by
  unfold SeqAt.shaped
  rw [PyData.canLay0, ones_lay, PyData.depth, ones_depth]
  rfl
section
variable {P : Program} {w : World} {K : PySem.W.Frag} {mg : Str → Option Value} {base : Heap}
/-! ### _law_one_of -/
abbrev sOneOf : Stmt := top 24
theorem scOneOf : FnScope ["bowl", "items"] ["bowl", "items"] (defScope sOneOf) := ⟨rfl, rfl, rfl, by decide +kernel, rfl, by decide +kernel, by decide +kernel⟩
def spOneOf : Sp := fun vs H Q _ => ∃ l x, vs = [.ref l, x] ∧ Bowl H l ∧ ((∃ z, x = .str z ∧ 0 < z.length ∧ z.length ≤ 1000 ∧ ∀ c H', c ∈ tl z → KeepE l H H' → Bowl H' l → Q (.str ⟨#[c]⟩) H') ∨
  (∃ (a : Addr) (zs : List Str), x = .ref a ∧ H a = some (.lst (zs.map V.str)) ∧ a ≠ l ∧ 0 < zs.length ∧ zs.length ≤ 1000 ∧ ∀ z H', z ∈ zs → KeepE l H H' → Bowl H' l → Q (.str z) H'))
theorem ok_one_of (F : Fx K mg) (D : At K mg "_law_one_of" sOneOf) (G : Cal P w K mg base CX0 1 "_law_scoop" ["bowl", "total"] spScoop) : Cal P w K mg base CX0 2 "_law_one_of" ["bowl", "items"] spOneOf := by
  refine cal_of D scOneOf (fun vs H Q E h => ?_) (fun _ _ _ _ _ _ us hl => match us, hl with | [_, _], _ => rfl) fun f cdv A outer s H vs Q E hr h => ⟨_, PSs.nox (pss_one (ps_ret (pe_ix ix_seq (pv 1) (pe_cal G hr (by rfl) pass0 (pa_cons (pv 0) (pa_cons (pe_callB call_len (by rfl) F.b_len boot_len (pa_cons (pv 1) pa_nil)) pa_nil))) (fun _ _ => rfl)))), ?_⟩
  · obtain ⟨l, x, rfl, _⟩ := h
    rfl
  · obtain ⟨l, x, rfl, hB, h⟩ := h
    rcases h with ⟨z, rfl, h0, h1, hq⟩ | ⟨a, zs, rfl, ha, hne, h0, h1, hq⟩
    · refine ⟨_, rfl, _, rfl, _, rfl, _, z.length, rfl, ⟨by rw [sizeLine_eq]; omega, rfl⟩, l, z.length, rfl, h0, by omega, hB, fun r H' hr' k hB' => ?_⟩
      have hr2 : r < (tl z).length := by rw [← len_tl]; exact hr'
      exact .inr (.inr ⟨z, (r : Int), (tl z)[r], rfl, rfl, by rw [sizeLine_eq]; omega, atI_nat (List.getElem?_eq_getElem hr2), hq _ H' (List.getElem_mem hr2) k hB'⟩)
    · refine ⟨_, rfl, _, rfl, _, rfl, _, (zs.map V.str).length, rfl, .inl ⟨_, SqL.of ha, rfl⟩, l, zs.length, by rw [List.length_map]; rfl, h0, by omega, hB, fun r H' hr' k hB' => ?_⟩
      exact .inl ⟨a, zs.map V.str, (r : Int), .str zs[r], rfl, rfl, SqL.of (k a _ hne ha), atI_nat (by rw [List.getElem?_map, List.getElem?_eq_getElem hr']; rfl), hq _ H' (List.getElem_mem hr') k hB'⟩
/-! ### _law_is_plain -/
abbrev sLPlain : Stmt := top 25
abbrev nLPlain : List Str := ["value", "deep", "top", "turn", "sign", "one"]
theorem scLPlain : FnScope nLPlain ["value", "deep"] (defScope sLPlain) := ⟨rfl, rfl, rfl, by decide +kernel, rfl, by decide +kernel, by decide +kernel⟩
theorem p60 (t : Nat) : ((10 ^ (60 * t) : Nat) : Int) * 10 ^ 60 = ((10 ^ (60 * (t + 1)) : Nat) : Int) := by
  rw [show ((10 : Int) ^ 60) = ((10 ^ 60 : Nat) : Int) by decide +kernel, ← Int.natCast_mul, ← Nat.pow_add]
  congr 2
theorem p60_lt (t : Nat) : 10 ^ (60 * t) < 2 ^ (240 * t + 1) := by
  have h : (10 : Nat) ^ (60 * t) ≤ (2 ^ 4) ^ (60 * t) := Nat.pow_le_pow_left (by decide) _
  rw [← Nat.pow_mul] at h
  refine Nat.lt_of_le_of_lt h ?_
  exact Nat.pow_lt_pow_right (by decide) (by omega)
theorem t60_lt : (10 : Nat) ^ 60 < 2 ^ 200 := by decide +kernel
theorem ok_law_plain0 (F : Fx K mg) (D : At K mg "_law_is_plain" sLPlain) (n k : Nat) {sp : Sp} (G : Cal P w K mg base CX0 k "_law_is_plain" ["value", "deep"] sp) (hG : ∀ m, n = m + 1 → sp = spPlainIn m) : Cal P w K mg base CX0 (k + 1) "_law_is_plain" ["value", "deep"] (spPlainIn n) := by
  refine cal_of D scLPlain (fun vs H Q E h => ?_) (fun _ _ _ _ _ _ us hl => match us, hl with | [_, _], _ => rfl) fun f cdv A outer s H vs Q E hr h => ⟨_, PSs.nox (pss_cons (ps_if (pt_cmpR op_isN (pv 0) pe_non (nomark _)) (pss_one (ps_ret pe_bl)) pss_nil)
    (pss_cons (ps_if (pt_val (pe_isi (T := "bool") F.b_isinstance F.b_bool (pv 0))) (pss_one (ps_ret pe_bl)) pss_nil)
    (pss_cons (ps_if (pt_val (pe_isi (T := "int") F.b_isinstance F.b_int (pv 0)))
      (pss_cons (ps_set (i := 2) scLPlain.nd rfl (Or.inl rfl) pe_int)
      (pss_cons (ps_for PassesOwn.never rfl (pi_range1 rfl F.b_range (pa_cons pe_int pa_nil)) (pg_name (i := 3) scLPlain.nd rfl (Or.inl rfl)) (pss_one (ps_set (i := 2) scLPlain.nd rfl (Or.inl rfl) (pe_op op_mulW (pv 2) (pe_op op_pow pe_int pe_int)))))
      (pss_one (ps_ret (pe_cmpR op_lt (pe_callB call_abs (by rfl) F.b_abs (by decide +kernel) (pa_cons (pv 0) pa_nil)) (pe_op op_mulW (pv 2) (pe_op op_pow pe_int pe_int)) (nomark _)))))) pss_nil)
    (pss_cons (ps_if (pt_val (pe_isi (T := "str") F.b_isinstance F.b_str (pv 0))) (pss_one (ps_ret (pe_and (pe_cmpR op_lt (pe_callB call_len (by rfl) F.b_len boot_len (pa_cons (pv 0) pa_nil)) pe_int (nomark _))
        (pe_one (pe_cmpR (op_eqD hr.units) (pe_lc (own := [("sign", 4)]) (g := gName 4) rfl scLPlain.nd (pi_str (pv 0)) (blkOk_by (N := nLPlain) (sc := defScope sLPlain) (by decide +kernel)) (fun _ _ _ _ _ => pg_name (i := 4) scLPlain.nd rfl (Or.inl rfl))
          (fun _ _ _ _ _ => pts_one (pt_cmpR op_notIn_sign (pv 4) pe_str (by with_unfolding_all rfl))) (fun _ _ _ _ _ => pe_int)) (pe_lst pa_nil) (nomark _)))))) pss_nil)
    (pss_cons (ps_if ((pw_or (pt_not (pt_val (pe_isi (T := "tuple") F.b_isinstance F.b_tuple (pv 0)))) (pw_or1 (pt_cmpR op_eq (pv 1) pe_int (nomark _)))).pt) (pss_one (ps_ret pe_bl)) pss_nil)
    (pss_one (ps_ret (pe_cmpR (op_eqD hr.units) (pe_lc (own := [("one", 5)]) (g := gName 5) rfl scLPlain.nd (pi_tup (pv 0)) (blkOk_by (N := nLPlain) (sc := defScope sLPlain) (by decide +kernel)) (fun _ _ _ _ _ => pg_name (i := 5) scLPlain.nd rfl (Or.inl rfl))
          (fun _ _ _ _ _ => pts_one (pt_not (pt_val (pe_cal G hr (by rfl) pass0 (pa_cons (pv 5) (pa_cons (pe_op op_sub (pv 1) pe_int) pa_nil)))))) (fun _ _ _ _ _ => pe_int)) (pe_lst pa_nil) (nomark _))))))))), ?_⟩
  · obtain ⟨x, d, rfl, _⟩ := h
    rfl
  · obtain ⟨x, d, rfl, hd, hok, hq⟩ := h
    refine ⟨_, rfl, rfl, _, rfl, ?_⟩
    rw [isNv hd]
    cases hN : isN d with
    | true =>
      have : plain n d = true := by
        cases d <;> first | (rw [plain]; done) | cases hN
      rw [this] at hq
      exact iteT (hq H (Same.refl H))
    | false =>
      refine iteF ⟨x, rfl, x, .ty "bool", _, _, _, rfl, .ty _, hd.ty, kit_bool d, _, rfl, ?_⟩
      cases hB : isB d with
      | true =>
        have : plain n d = false := by
          cases d <;> first | (rw [plain]; done) | cases hB
        rw [this] at hq
        exact iteT (hq H (Same.refl H))
      | false =>
        refine iteF ⟨x, rfl, x, .ty "int", _, _, _, rfl, .ty _, hd.ty, kit_int d, _, rfl, ?_⟩
        rw [hB, Bool.or_false]
        cases hI : isI d with
        | true =>
          obtain ⟨i, rfl, rfl⟩ := isI_of hd hI
          refine iteT ⟨66, rfl, by decide, by decide, for_range (n := 66) (fun t σ H' => H' = H ∧ ∃ u : Option V, σ = [some (.int i), some (.int (n : Int)), some (.int ((10 ^ (60 * t) : Nat) : Int)), u, none, none]) ⟨rfl, none, rfl⟩ ?_ ?_⟩
          · rintro t σ H' ht ⟨rfl, u, rfl⟩
            refine ⟨_, rfl, _, _, rfl, rfl, ⟨by decide, by decide, by decide⟩, _, _, rfl, rfl, ?_, ?_⟩
            · refine wide_mul (a := 240 * t + 1) (b := 200) ?_ ?_ (by omega) (by decide) (by omega)
              · rw [Int.natAbs_natCast]
                exact p60_lt t
              · exact (by decide +kernel : ((10 : Int) ^ (60 : Int).toNat).natAbs < 2 ^ 200)
            · refine ⟨rfl, some (V.int (0 + (t : Int))), ?_⟩
              show [some (V.int i), some (V.int (n : Int)), some (V.int (((10 ^ (60 * t) : Nat) : Int) * (10 : Int) ^ (60 : Int).toNat)), some (V.int (0 + (t : Int))), none, none] = _
              rw [show ((10 : Int) ^ (60 : Int).toNat) = 10 ^ 60 from rfl, p60]
          · rintro σ H' ⟨rfl, u, rfl⟩
            refine ⟨_, rfl, i, rfl, _, rfl, _, _, rfl, rfl, ⟨by decide, by decide, by decide⟩, _, _, rfl, rfl, ?_, _, _, rfl, rfl, ?_⟩
            · refine wide_mul (a := 240 * 66 + 1) (b := 200) ?_ ?_ (by omega) (by decide) (by omega)
              · rw [Int.natAbs_natCast]
                exact p60_lt 66
              · exact (by decide +kernel : ((10 : Int) ^ (40 : Int).toNat).natAbs < 2 ^ 200)
            · have e1 : ((10 ^ (60 * 66) : Nat) : Int) * (10 : Int) ^ (40 : Int).toNat = ((10 ^ 4000 : Nat) : Int) := by
                rw [show ((10 : Int) ^ (40 : Int).toNat) = ((10 ^ 40 : Nat) : Int) by decide +kernel, ← Int.natCast_mul, ← Nat.pow_add]
              have e2 : decide ((if i < 0 then -i else i) < ((10 ^ (60 * 66) : Nat) : Int) * (10 : Int) ^ (40 : Int).toNat) = plain n (.int i) := by
                rw [e1, plain, abs_nat]
                exact decide_eq_decide.mpr Int.ofNat_lt
              show Q (.bl (decide ((if i < 0 then -i else i) < ((10 ^ (60 * 66) : Nat) : Int) * (10 : Int) ^ (40 : Int).toNat))) _
              rw [e2]
              exact hq _ (Same.refl _)
        | false =>
          refine iteF ⟨x, rfl, x, .ty "str", _, _, _, rfl, .ty _, hd.ty, kit_str d, _, rfl, ?_⟩
          cases hT : isS d with
          | true =>
            refine iteT ?_
            obtain ⟨z, rfl, rfl⟩ : ∃ z, x = .str z ∧ d = .str z := by
              cases hd with
              | emp h => cases hT
              | lst h => cases hT
              | tp h => cases h with
                | str z => exact ⟨z, rfl, rfl⟩
                | _ => cases hT
            have hz : z.length ≤ sizeLine := by
              rw [okS] at hok
              rw [sizeLine_eq]
              exact of_decide_eq_true hok
            refine ⟨_, rfl, _, z.length, rfl, ⟨hz, rfl⟩, _, _, rfl, rfl, _, rfl, ?_⟩
            by_cases hl : ((z.length : Nat) : Int) < 4001
            · rw [decide_eq_true hl]
              refine iteT ⟨_, rfl, z, rfl, fun L hL => lc_mapS (z := z) (fun c => if isSign c then none else some (V.int 1)) hL hz (fun c H' k hc sm hk hk0 => ⟨rfl, _, rfl, c, _, rfl, rfl, _, rfl, ?_⟩) (fun H' hL' sm => ?_)⟩
              · rw [signs_is]
                cases hs : isSign c with
                | true => exact iteF (hk0 (by rw [hs]; rfl))
                | false => exact iteT (hk _ (by rw [hs]; rfl))
              · obtain ⟨m, hm, hm0⟩ : ∃ m, (tl z).filterMap (fun c => if isSign c then none else some (V.int 1)) = List.replicate m (V.int 1) ∧ ((List.replicate m (PyData.int 1)).isEmpty = (tl z).all isSign) := by
                  generalize tl z = l
                  induction l with
                  | nil => exact ⟨0, rfl, rfl⟩
                  | cons c l ih =>
                    obtain ⟨m, h1, h2⟩ := ih
                    cases hs : isSign c with
                    | true => exact ⟨m, by rw [List.filterMap_cons, hs]; exact h1, by rw [List.all_cons, hs, h2]; rfl⟩
                    | false => exact ⟨m + 1, by rw [List.filterMap_cons, hs, List.replicate_succ]; exact congrArg _ h1, by rw [List.all_cons, hs]; rfl⟩
                rw [hm] at hL'
                refine ⟨by show 0 ≤ sizeLine; exact Nat.zero_le _, fun p hp => ?_⟩
                have sm2 : Same H' (upd H' p (.lst [])) := fun b o e => by
                  have : b ≠ p := fun z => by rw [z, hp] at e; cases e
                  rw [upd_ne this]
                  exact e
                refine ⟨.list (List.replicate m (.int 1)), .list [], .lst (SqL.of (sm2 _ _ hL')) (ones_dp m), .lst (SqL.of upd_same) .nil, ones_shaped m, shaped_nil, ?_⟩
                rw [eqv_nil, hm0]
                have e : plain n (.str z) = (tl z).all isSign := by
                  rw [plain, decide_eq_true (by omega : z.length ≤ 4000), Bool.true_and]
                rw [e] at hq
                exact hq _ (sm.trans sm2)
            · rw [decide_eq_false hl]
              refine iteF ?_
              have e : plain n (.str z) = false := by
                rw [plain, decide_eq_false (by omega : ¬ z.length ≤ 4000), Bool.false_and]
              rw [e] at hq
              exact hq H (Same.refl H)
          | false =>
            refine iteF ⟨x, rfl, x, .ty "tuple", _, _, _, rfl, .ty _, hd.ty, kit_tuple d, _, rfl, ?_⟩
            cases hU : isT d with
            | false =>
              refine iteT (iteT ?_)
              have hS : shortB d = false := by cases d <;> first | rfl | cases hI
              rw [plain_ns n hN hS hT hU] at hq
              exact hq H (Same.refl H)
            | true =>
              refine iteF ⟨_, rfl, rfl, _, rfl, ?_⟩
              obtain ⟨a, xs, ds, rfl, rfl, ha, hds⟩ : ∃ a xs ds, x = .ref a ∧ d = .tuple ds ∧ H a = some (.tup xs) ∧ TpAll H xs ds := by
                cases hd with
                | emp h => cases hU
                | lst h => cases hU
                | tp h => cases h with
                  | tup h k => exact ⟨_, _, _, rfl, rfl, h, k⟩
                  | _ => cases hU
              rw [okS, Bool.and_eq_true] at hok
              have hlen : xs.length ≤ sizeLine := by
                rw [sizeLine_eq, hds.len]
                exact of_decide_eq_true hok.1
              by_cases hn : n = 0
              · subst hn
                rw [show decide (V.int ((0 : Nat) : Int) = V.int 0) = true from rfl]
                refine iteT ?_
                have e : plain 0 (.tuple ds) = false := by
                  rw [plain]
                  rfl
                rw [e] at hq
                exact hq H (Same.refl H)
              · obtain ⟨m, rfl⟩ : ∃ m, n = m + 1 := ⟨n - 1, by omega⟩
                rw [show decide (V.int ((m + 1 : Nat) : Int) = V.int 0) = false from decide_eq_false (fun z => by injection z with z; omega)]
                have esp := hG m rfl
                subst esp
                refine iteF ⟨_, rfl, a, rfl, ⟨_, SqT.of ha⟩, fun L hL => ?_⟩
                have haD : ∀ b o, H b = some o → b ≠ L := fun b o h z => by rw [z, hL] at h; cases h
                refine lc_tup (K := K) (a := a) (xs := xs) (fun i H' => Same H H' ∧ ∃ q, q ≤ i ∧ H' L = some (.lst (List.replicate q (V.int 1))) ∧ ((List.replicate q (PyData.int 1)).isEmpty = (ds.take i).all (plain m)))
                  ⟨fun b o h => by rw [upd_ne (haD b o h)]; exact h, 0, Nat.le_refl _, upd_same, rfl⟩ (fun i H' _ ⟨s, _⟩ => SqT.of (s _ _ ha)) (fun i x H' hx ⟨sm, q, hqi, hL', he⟩ => ⟨rfl, ?_⟩) (fun H' ⟨sm, q, hqi, hL', he⟩ => ?_)
                · obtain ⟨d, hd1, hd2⟩ := hds.get hx
                  have hi : i < xs.length := (List.getElem?_eq_some_iff.mp hx).1
                  refine ⟨_, rfl, _, rfl, _, _, rfl, rfl, x, d, ?_, .tp (hd2.keep sm.tups), okSAll_get hok.2 hd1, fun H4 s4 => ⟨_, rfl, ?_⟩⟩
                  · show [x, V.int (((m + 1 : Nat) : Int) - 1)] = _
                    rw [show ((m + 1 : Nat) : Int) - 1 = (m : Int) by omega]
                  · cases hp : plain m d with
                    | true =>
                      refine iteF ⟨sm.trans s4, q, by omega, s4 _ _ hL', ?_⟩
                      rw [take_snoc hd1, List.all_append, he]
                      simp [hp]
                    | false =>
                      refine iteT ⟨_, s4 _ _ hL', ?_, fun b o h => by rw [upd_ne (haD b o h)]; exact s4 _ _ (sm _ _ h), q + 1, by omega, ?_, ?_⟩
                      · rw [List.length_replicate]
                        omega
                      · rw [upd_same, List.replicate_succ']
                      · rw [take_snoc hd1, List.all_append]
                        simp [hp]
                · refine ⟨by show 0 ≤ sizeLine; exact Nat.zero_le _, fun p hp => ?_⟩
                  have sm2 : Same H' (upd H' p (.lst [])) := fun b o e => by
                    have : b ≠ p := fun z => by rw [z, hp] at e; cases e
                    rw [upd_ne this]
                    exact e
                  refine ⟨.list (List.replicate q (.int 1)), .list [], .lst (SqL.of (sm2 _ _ hL')) (ones_dp q), .lst (SqL.of upd_same) .nil, ones_shaped q, shaped_nil, ?_⟩
                  rw [eqv_nil, he, List.take_of_length_le (Nat.le_of_eq hds.len.symm)]
                  have e : plain (m + 1) (.tuple ds) = ds.all (plain m) := by
                    rw [plain, decide_eq_true (by omega : 0 < m + 1), Bool.true_and, plainAll_all]
                    rfl
                  rw [e] at hq
                  exact hq _ (sm.trans sm2)
theorem ok_law_plain (F : Fx K mg) (D : At K mg "_law_is_plain" sLPlain) : ∀ n : Nat, Cal P w K mg base CX0 (n + 2) "_law_is_plain" ["value", "deep"] (spPlainIn n)
  | 0 => ok_law_plain0 F D 0 1 (cal_none 1 D fun _ _ _ _ _ _ us hl => match us, hl with | [_, _], _ => rfl) fun m h => by omega
  | n + 1 => ok_law_plain0 F D (n + 1) (n + 2) (ok_law_plain F D n) fun m h => by
    have e : n = m := by omega
    rw [e]
end
end T82

set_option Elab.async false
set_option linter.all false
set_option maxRecDepth 100000
set_option maxHeartbeats 2000000
namespace T82
open PySem PySem.Spec PyProof.Rows L2 TL
section
variable {P : Program} {w : World} {K : PySem.W.Frag} {mg : Str → Option Value} {base : Heap}
/-! ### _law_text -/
abbrev sLText : Stmt := top 26
theorem scLText : FnScope ["value", "one"] ["value"] (defScope sLText) := ⟨rfl, rfl, rfl, by decide +kernel, rfl, by decide +kernel, by decide +kernel⟩
theorem ok_law_text0 (F : Fx K mg) (D : At K mg "_law_text" sLText) (n k : Nat) {sp : Sp} (G : Cal P w K mg base CX0 k "_law_text" ["value"] sp) (hG : ∀ m, n = m + 1 → sp = spTextIn m) : Cal P w K mg base CX0 (k + 1) "_law_text" ["value"] (spTextIn n) := by
  refine cal_of D scLText (fun vs H Q E h => ?_) (fun _ _ _ _ _ _ us hl => match us, hl with | [_], _ => rfl) fun f cdv A outer s H vs Q E hr h => ⟨_, PSs.nox (pss_cons (ps_if (pt_cmpR op_isN (pv 0) pe_non (nomark _)) (pss_one (ps_ret pe_str)) pss_nil)
    (pss_cons (ps_if (pt_val (pe_isi (T := "int") F.b_isinstance F.b_int (pv 0))) (pss_one (ps_ret (pe_callTy (call_str_wide rfl F.dig) (by rfl) F.b_str (by decide +kernel) (pa_cons (pv 0) pa_nil)))) pss_nil)
    (pss_cons (ps_if (pt_val (pe_isi (T := "str") F.b_isinstance F.b_str (pv 0))) (pss_one (ps_ret (pe_op op_add_str (pe_op op_add_str pe_str (pv 0)) pe_str))) pss_nil)
    (pss_one (ps_ret (pe_op op_add_str (pe_op op_add_str pe_str (pe_join pe_str
        (pe_lc (own := [("one", 1)]) (g := gName 1) (tt := tYes) rfl scLText.nd (pi_tup (pv 0)) (blkOk_by (N := ["value", "one"]) (sc := defScope sLText) (by decide +kernel)) (fun _ _ _ _ _ => pg_name (i := 1) scLText.nd rfl (Or.inl rfl)) (fun _ _ _ _ _ => pts_nil)
          (fun _ _ _ _ _ => pe_cal G hr (by rfl) pass0 (pa_cons (pv 1) pa_nil))))) pe_str)))))), ?_⟩
  · obtain ⟨x, d, rfl, _⟩ := h
    rfl
  · obtain ⟨x, d, rfl, hd, hp, hl, hq⟩ := h
    refine ⟨_, rfl, rfl, _, rfl, ?_⟩
    rw [isNv (.tp hd)]
    cases hd with
    | non =>
      refine iteT ?_
      refine hq H _ (Same.refl H) ?_
      rw [txt]
      decide +kernel
    | bl b => rw [plain] at hp; cases hp
    | int i =>
      refine iteF ⟨_, rfl, _, .ty "int", _, _, _, rfl, .ty _, (Dv.tp (.int i)).ty, kit_int (.int i), _, rfl, iteT ?_⟩
      rw [plain] at hp
      refine ⟨_, rfl, i, rfl, Nat.lt_trans (of_decide_eq_true hp) (Nat.pow_lt_pow_right (by decide) (by decide)), hq H _ (Same.refl H) ?_⟩
      rw [txt]
      exact tl_int i
    | str z =>
      refine iteF ⟨_, rfl, _, .ty "int", _, _, _, rfl, .ty _, (Dv.tp (.str z)).ty, kit_int (.str z), _, rfl, iteF ?_⟩
      refine ⟨_, rfl, _, .ty "str", _, _, _, rfl, .ty _, (Dv.tp (.str z)).ty, kit_str (.str z), _, rfl, iteT ?_⟩
      rw [txt] at hl
      simp only [List.length_cons, List.length_append, List.length_nil] at hl
      have hz : z.length ≤ 20000 := by
        rw [len_tl]
        omega
      refine ⟨_, rfl, _, _, rfl, rfl, ?_, _, _, rfl, rfl, ?_, hq H _ (Same.refl H) ?_⟩
      · show 1 + z.length ≤ sizeLine
        rw [sizeLine_eq]
        omega
      · show ((("\"" : String) : Str) ++ z).length + 1 ≤ sizeLine
        rw [sizeLine_eq, strLen_append]
        show 1 + z.length + 1 ≤ _
        omega
      · rw [tl_append, tl_append, txt]
        rfl
    | @tup a xs ds ha hds =>
      have hD : Dv H (.ref a) (.tuple ds) := .tp (.tup ha hds)
      refine iteF ⟨_, rfl, _, .ty "int", _, _, _, rfl, .ty _, hD.ty, kit_int (.tuple ds), _, rfl, iteF ?_⟩
      refine ⟨_, rfl, _, .ty "str", _, _, _, rfl, .ty _, hD.ty, kit_str (.tuple ds), _, rfl, iteF ?_⟩
      rw [plain, Bool.and_eq_true] at hp
      obtain ⟨m, rfl⟩ : ∃ m, n = m + 1 := ⟨n - 1, by have := of_decide_eq_true hp.1; omega⟩
      have esp := hG m rfl
      subst esp
      have hpl : plainAll m ds = true := hp.2
      rw [txt] at hl
      simp only [List.length_cons, List.length_append, List.length_nil] at hl
      have hsum := joinL_sum_le (txtAll ds)
      have hnum : (txtAll ds).length = ds.length := by rw [txtAll_map, List.length_map]
      have hlen : xs.length ≤ sizeLine := by
        rw [sizeLine_eq, hds.len]
        omega
      refine ⟨⟨_, rfl⟩, _, rfl, a, rfl, ⟨_, SqT.of ha⟩, fun L hL => lc_mapT (fun i y _ => ∃ d z, ds[i]? = some d ∧ y = V.str z ∧ tl z = txt d) ha hL hlen (fun i y H1 H2 e r => r) (fun i x H' k hx sm hk => ⟨rfl, lc_yes ?_⟩) (fun H' ys hy hr hL' sm => ?_)⟩
      · obtain ⟨d, hd1, hd2⟩ := hds.get hx
        refine ⟨_, rfl, x, d, rfl, hd2.keep sm.tups, plainAll_get hpl hd1, ?_, fun H4 z s4 hz => hk _ H4 s4 ⟨d, z, hd1, rfl, hz⟩⟩
        have hm : txt d ∈ txtAll ds := by
          rw [txtAll_map]
          exact List.mem_map.mpr ⟨d, List.mem_of_getElem? hd1, rfl⟩
        have := le_sum hm
        omega
      · obtain ⟨zs, rfl, hzs⟩ := texts_of ys ds (by rw [hy, hds.len]) hr
        have htl : ((zs.map (·.length)).sum) = ((txtAll ds).map List.length).sum := by
          rw [← hzs, List.map_map]
          rfl
        have hzl : zs.length = ds.length := by
          have := congrArg List.length hzs
          rw [List.length_map, hnum] at this
          exact this
        have e1 : ((" " : String) : Str).length = 1 := rfl
        have hj : tl (Txt.join " " zs) = joinL [32] (txtAll ds) := by
          have h0 : tl (Txt.join " " zs) = joinL (tl (Str.ofString " ")) (zs.map tl) := (congrArg tl (TL.join_eq _ zs)).trans (tl_join _ zs)
          rw [h0, hzs]
          rfl
        have hjl : (Txt.join " " zs).length = (joinL [32] (txtAll ds)).length := by rw [len_tl, hj]
        refine ⟨_, L, zs, rfl, rfl, .inl (SqL.of hL'), ?_, _, _, rfl, rfl, ?_, _, _, rfl, rfl, ?_, hq H' _ sm ?_⟩
        · rw [htl, hzl, e1]
          omega
        · show 1 + (Txt.join " " zs).length ≤ sizeLine
          rw [sizeLine_eq, hjl]
          omega
        · show ((("(" : String) : Str) ++ Txt.join " " zs).length + 1 ≤ sizeLine
          rw [sizeLine_eq, strLen_append, hjl]
          show 1 + _ + 1 ≤ _
          omega
        · rw [tl_append, tl_append, hj, txt]
          rfl
theorem ok_law_text (F : Fx K mg) (D : At K mg "_law_text" sLText) : ∀ n : Nat, Cal P w K mg base CX0 (n + 2) "_law_text" ["value"] (spTextIn n)
  | 0 => ok_law_text0 F D 0 1 (cal_none 1 D fun _ _ _ _ _ _ us hl => match us, hl with | [_], _ => rfl) fun m h => by omega
  | n + 1 => ok_law_text0 F D (n + 1) (n + 2) (ok_law_text F D n) fun m h => by
    have e : n = m := by omega
    rw [e]
end
end T82

set_option Elab.async false
set_option linter.all false
set_option maxRecDepth 100000
set_option maxHeartbeats 2000000
namespace T82
open PySem PySem.Spec PyProof.Rows L2 TL
/-- a comprehension over a range whose turns use the bowl at l -/
theorem lc_mapR {n : Nat} {l : Addr} {g : TG} {tt : TT} {te : TE} {vs : List Nat} {σ : L2.St} {H1 : Hp} {D : Addr} {Qd : Hp → Prop} (R : V → Hp → Prop) (hB : Bowl H1 l) (hD : H1 D = none) (hl : n ≤ sizeLine)
    (stab : ∀ y H H', TupK H H' → R y H → R y H')
    (hs : ∀ (i : Nat) H (k : Hp → Prop), i < n → KeepE l H1 H → Bowl H l → (∀ y H4, KeepE l H H4 → Bowl H4 l → R y H4 → ∃ acc, H4 D = some (.lst acc) ∧ acc.length < sizeLine ∧ k (upd H4 D (.lst (acc ++ [y])))) → g (.int (0 + i)) (wipe σ vs) H fun σ2 H2 => wipe σ2 vs = wipe σ vs ∧ tt σ2 H2 fun b H3 =>
      if b = true then te σ2 H3 fun y H4 => ∃ acc, H4 D = some (.lst acc) ∧ acc.length < sizeLine ∧ k (upd H4 D (.lst (acc ++ [y]))) else k H3)
    (hd : ∀ H ys, ys.length = n → (∀ y ∈ ys, R y H) → H D = some (.lst ys) → KeepE l H1 H → Bowl H l → Qd H) :
    ∃ W : Nat → Nat → Hp → Prop, (∃ m, W 0 m (upd H1 D (.lst []))) ∧ ∀ i m H, W i m H →
      ((Itr 0 n).stop i H ∧ Qd H) ∨ ((Itr 0 n).go i H ∧ ∃ Nx : Hp → Prop, (∀ H', Nx H' → ∃ m', m' < m ∧ W (i + 1) m' H') ∧ ∀ x H', (Itr 0 n).yld i H x H' → g x (wipe σ vs) H' fun σ2 H2 => wipe σ2 vs = wipe σ vs ∧ tt σ2 H2 fun b H3 =>
        if b = true then te σ2 H3 fun y H4 => ∃ acc, H4 D = some (.lst acc) ∧ acc.length < sizeLine ∧ Nx (upd H4 D (.lst (acc ++ [y]))) else Nx H3) := by
  have haD : ∀ b o, H1 b = some o → b ≠ D := fun b o h z => by rw [z, hD] at h; cases h
  have hlD : l ≠ D := fun z => hB.ne (by rw [z]; exact hD)
  have bw : ∀ {H : Hp} {o : HO}, Bowl H l → Bowl (upd H D o) l := fun {H o} ⟨a, b, c, h⟩ => ⟨a, b, c, by rw [upd_ne hlD]; exact h⟩
  refine lc_range (lo := 0) (n := n) (fun i H => ∃ ys, ys.length = i ∧ (∀ y ∈ ys, R y H) ∧ H D = some (.lst ys) ∧ KeepE l H1 H ∧ Bowl H l) ⟨[], rfl, (fun y h => by cases h), upd_same, fun b o hb h => by rw [upd_ne (haD b o h)]; exact h, bw hB⟩
    (fun i H hi ⟨ys, hy, hr, hDl, sm, hB'⟩ => ?_) (fun H ⟨ys, hy, hr, hDl, sm, hB'⟩ => hd H ys hy hr hDl sm hB')
  refine hs i H _ hi sm hB' fun y H4 s4 hB4 r => ⟨ys, s4 _ _ (Ne.symm hlD) hDl, by omega, ys ++ [y], by rw [List.length_append, hy]; rfl, ?_, upd_same, fun b o hb h => by rw [upd_ne (haD b o h)]; exact s4 _ _ hb (sm _ _ hb h), bw hB4⟩
  have tk : TupK H4 (upd H4 D (.lst (ys ++ [y]))) := fun b zs h => by
    have : b ≠ D := fun z => by
      rw [z, s4 _ _ (Ne.symm hlD) hDl] at h
      cases h
    rw [upd_ne this]
    exact h
  intro z hz
  rcases List.mem_append.mp hz with h | h
  · exact stab _ _ _ ((hB'.tups s4).trans tk) (hr z h)
  · rw [List.mem_singleton.mp h]
    exact stab _ _ _ tk r
theorem signs_small {zs : List V} (h : ∀ y ∈ zs, ∃ c, y = V.str ⟨#[c]⟩ ∧ isSign c = true) : ∃ cs : List Nat, zs = cs.map (fun c => V.str ⟨#[c]⟩) ∧ cs.all isSign = true := by
  induction zs with
  | nil => exact ⟨[], rfl, rfl⟩
  | cons y zs ih =>
    obtain ⟨c, hy, hc⟩ := h y (List.mem_cons_self ..)
    obtain ⟨cs, h1, h2⟩ := ih fun y hy => h y (List.mem_cons_of_mem _ hy)
    exact ⟨c :: cs, by rw [hy, h1]; rfl, by rw [List.all_cons, hc, h2]; rfl⟩
theorem join_nil : ∀ ps : List (List Nat), joinL [] ps = ps.flatten
  | [] => rfl
  | [p] => by simp [joinL]
  | p :: q :: r => by
    show p ++ ([] ++ joinL [] (q :: r)) = _
    rw [join_nil (q :: r)]
    rfl
theorem tps_small {H : Hp} {m : Nat} {ys : List V} (h : ∀ y ∈ ys, ∃ d, Tp H y d ∧ small m d = true) : ∃ ds, TpAll H ys ds ∧ smallAll m ds = true ∧ ds.length = ys.length := by
  induction ys with
  | nil => exact ⟨[], .nil, by rw [smallAll], rfl⟩
  | cons y ys ih =>
    obtain ⟨d, h1, h2⟩ := h y (List.mem_cons_self ..)
    obtain ⟨ds, k1, k2, k3⟩ := ih fun y hy => h y (List.mem_cons_of_mem _ hy)
    exact ⟨d :: ds, .cons h1 k1, by rw [smallAll, h2, k2]; rfl, by simp [k3]⟩
section
variable {P : Program} {w : World} {K : PySem.W.Frag} {mg : Str → Option Value} {base : Heap}
abbrev sLValue : Stmt := top 28
abbrev nLValue : List Str := ["bowl", "deep", "way", "turn"]
theorem scLValue : FnScope nLValue ["bowl", "deep"] (defScope sLValue) := ⟨rfl, rfl, rfl, by decide +kernel, rfl, by decide +kernel, by decide +kernel⟩
def spLValue (n : Nat) : Sp := fun vs H Q _ => ∃ l, vs = [.ref l, .int (n : Int)] ∧ Bowl H l ∧ ∀ H' v d, KeepE l H H' → Bowl H' l → Tp H' v d → small n d = true → Q v H'
theorem ok_law_value0 (F : Fx K mg) (D : At K mg "_law_value" sLValue) (G1 : Cal P w K mg base CX0 1 "_law_scoop" ["bowl", "total"] spScoop) (G2 : Cal P w K mg base CX0 2 "_law_one_of" ["bowl", "items"] spOneOf) (n k : Nat) (hk : 2 ≤ k) {sp : Sp}
    (G : Cal P w K mg base CX0 k "_law_value" ["bowl", "deep"] sp) (hG : ∀ m, n = m + 1 → sp = spLValue m) : Cal P w K mg base CX0 (k + 1) "_law_value" ["bowl", "deep"] (spLValue n) := by
  refine cal_of D scLValue (fun vs H Q E h => ?_) (fun _ _ _ _ _ _ us hl => match us, hl with | [_, _], _ => rfl) fun f cdv A outer s H vs Q E hr h => ?_
  · obtain ⟨l, rfl, _⟩ := h
    rfl
  · obtain ⟨l, rfl, hB, hq⟩ := h
    have hT : ∃ tT : TS, PSs (cxOf CX0 P w K mg base nLValue "_law_value" (defScope sLValue) f cdv A outer s H E).nox ((defBody sLValue).drop 1) tT ∧
        ∀ (r : Nat) H1, (r < 4 ∨ 0 < n) → KeepE l H H1 → Bowl H1 l → tT { nx := fun _ H' => Q .non H', rt := Q } [some (.ref l), some (.int (n : Int)), some (.int (r : Int)), none] H1 := by
      refine ⟨_, pss_cons (ps_if (pt_cmpR op_eq (pv 2) pe_int (nomark _)) (pss_one (ps_ret pe_non)) pss_nil)
    (pss_cons (ps_if (pt_cmpR op_eq (pv 2) pe_int (nomark _)) (pss_one (ps_ret (pe_op op_mul (pe_op op_sub (pe_cal G1 (hr.mono (by omega)) (by rfl) pass0 (pa_cons (pv 0) (pa_cons pe_int pa_nil))) pe_int)
        (pe_ifExp (pt_cmpR op_eq (pe_cal G1 (hr.mono (by omega)) (by rfl) pass0 (pa_cons (pv 0) (pa_cons pe_int pa_nil))) pe_int (nomark _)) (pe_op op_pow pe_int pe_int) pe_int)))) pss_nil)
    (pss_cons (ps_if (pt_cmpR op_in_seq (pv 2) (pe_tup (pa_cons pe_int (pa_cons pe_int pa_nil))) (by rfl)) (pss_one (ps_ret (pe_join pe_str
        (pe_lc (own := [("turn", 3)]) (g := gName 3) (tt := tYes) rfl scLValue.nd (pi_range1 (by rfl) F.b_range (pa_cons (pe_cal G1 (hr.mono (by omega)) (by rfl) pass0 (pa_cons (pv 0) (pa_cons pe_int pa_nil))) pa_nil)) (blkOk_by (N := nLValue) (sc := defScope sLValue) (by decide +kernel)) (fun _ _ _ _ _ => pg_name (i := 3) scLValue.nd rfl (Or.inl rfl)) (fun _ _ _ _ _ => pts_nil)
          (fun _ _ _ _ _ => pe_cal G2 (hr.mono hk) (by rfl) pass0 (pa_cons (pv 0) (pa_cons pe_str pa_nil))))))) pss_nil)
    (pss_one (ps_ret (pe_callTy call_tuple_of (by rfl) F.b_tuple (by decide +kernel) (pa_cons
        (pe_lc (own := [("turn", 3)]) (g := gName 3) (tt := tYes) rfl scLValue.nd (pi_range1 (by rfl) F.b_range (pa_cons (pe_cal G1 (hr.mono (by omega)) (by rfl) pass0 (pa_cons (pv 0) (pa_cons pe_int pa_nil))) pa_nil)) (blkOk_by (N := nLValue) (sc := defScope sLValue) (by decide +kernel)) (fun _ _ _ _ _ => pg_name (i := 3) scLValue.nd rfl (Or.inl rfl)) (fun _ _ _ _ _ => pts_nil)
          (fun _ _ _ _ _ => pe_cal G hr (by rfl) pass0 (pa_cons (pv 0) (pa_cons (pe_op op_sub (pv 1) pe_int) pa_nil)))) pa_nil)))))), fun r H1 hrn k1 hB1 => ?_⟩
      have deq : ∀ (a b : Nat), decide (V.int (a : Int) = V.int (b : Int)) = decide (a = b) := fun a b => by
        apply decide_eq_decide.mpr
        exact ⟨fun h => by injection h with h; omega, fun h => by rw [h]⟩
      refine ⟨_, rfl, rfl, _, rfl, ?_⟩
      have d0 := deq r 0
      rw [show decide (V.int (r : Int) = V.int 0) = decide (r = 0) from d0]
      by_cases r0 : r = 0
      · rw [decide_eq_true r0]
        exact iteT (hq H1 _ _ k1 hB1 .non (by rw [small]))
      rw [decide_eq_false r0]
      refine iteF ⟨_, rfl, rfl, _, rfl, ?_⟩
      rw [show decide (V.int (r : Int) = V.int 1) = decide (r = 1) from deq r 1]
      by_cases r1 : r = 1
      · rw [decide_eq_true r1]
        refine iteT ⟨_, rfl, l, 2001, rfl, by decide, by decide, hB1, fun a H2 ha k2 hB2 => ⟨_, _, rfl, rfl, _, rfl, l, 4, rfl, by decide, by decide, hB2, fun b H3 hb k3 hB3 => ⟨rfl, _, rfl, ?_⟩⟩⟩
        have hlo : (-(2 ^ 64) < (a : Int) - 1000 ∧ (a : Int) - 1000 < 2 ^ 64) := by omega
        have ha' : ((a : Int) - 1000).natAbs ≤ 1000 := by omega
        have kk := (k1.trans k2).trans k3
        rw [show decide (V.int (b : Int) = V.int 0) = decide (b = 0) from deq b 0]
        by_cases b0 : b = 0
        · rw [decide_eq_true b0]
          refine iteT ⟨_, _, rfl, rfl, ⟨by decide, by decide, by decide⟩, _, _, rfl, rfl, .inl hlo, hq H3 _ _ kk hB3 (.int _) ?_⟩
          rw [small]
          refine decide_eq_true ?_
          rw [Int.natAbs_mul]
          have e : (((10 : Int) ^ (60 : Int).toNat)).natAbs = 10 ^ 60 := by decide +kernel
          rw [e]
          exact Nat.le_trans (Nat.mul_le_mul_right _ ha') (by decide +kernel)
        · rw [decide_eq_false b0]
          refine iteF ⟨_, _, rfl, rfl, .inl hlo, hq H3 _ _ kk hB3 (.int _) ?_⟩
          rw [small]
          refine decide_eq_true ?_
          rw [Int.mul_one]
          exact Nat.le_trans ha' (by decide +kernel)
      rw [decide_eq_false r1]
      refine iteF ⟨_, rfl, by show 2 ≤ sizeLine; rw [sizeLine_eq]; decide, fun p hp => ?_⟩
      refine ⟨p, [.int 2, .int 3], rfl, .inr (SqT.of upd_same), rfl, rfl, inV (.int (r : Int)) [.int 2, .int 3], rfl, ?_⟩
      have hpl : p ≠ l := fun z => hB1.ne (by rw [← z]; exact hp)
      have hB2 : Bowl (upd H1 p (.tup [.int 2, .int 3])) l := by
        obtain ⟨a, b, c, h⟩ := hB1
        exact ⟨a, b, c, by rw [upd_ne (Ne.symm hpl)]; exact h⟩
      have k2 : KeepE l H (upd H1 p (.tup [.int 2, .int 3])) := fun b o hb e => by
        have e' := k1 b o hb e
        have : b ≠ p := fun z => by rw [z, hp] at e'; cases e'
        rw [upd_ne this]
        exact e'
      cases hin : inV (.int (r : Int)) [.int 2, .int 3] with
      | true =>
        refine iteT ⟨⟨_, rfl⟩, _, rfl, l, 6, rfl, by decide, by decide, hB2, fun c H3 hc k3 hB3 => ⟨(c : Int), rfl, by omega, by omega, fun L hL => ?_⟩⟩
        refine lc_mapR (n := (c : Int).toNat) (l := l) (fun y _ => ∃ c, y = V.str ⟨#[c]⟩ ∧ isSign c = true) hB3 hL (by rw [sizeLine_eq]; omega) (fun y H H' _ h => h) (fun i H4 kk hi k4 hB4 hk' => ⟨rfl, lc_yes ?_⟩) (fun H4 ys hy hr' hD k4 hB4 => ?_)
        · refine ⟨_, rfl, l, _, rfl, hB4, .inl ⟨_, rfl, by decide, by decide, fun c H5 hc' k5 hB5 => hk' _ H5 k5 hB5 ⟨c, rfl, ?_⟩⟩⟩
          have e : tl ("abcxyz  " : Str) = [97, 98, 99, 120, 121, 122, 32, 32] := by decide +kernel
          rw [e] at hc'
          have hall : ∀ c ∈ [97, 98, 99, 120, 121, 122, 32, 32], isSign c = true := by decide
          exact hall c hc'
        · obtain ⟨cs, rfl, hcs⟩ := signs_small hr'
          have e0 : ((cs.map fun c => V.str ⟨#[c]⟩)) = (cs.map fun c => (⟨#[c]⟩ : Str)).map V.str := by rw [List.map_map]; rfl
          rw [List.length_map] at hy
          have hsum : ((cs.map fun c => (⟨#[c]⟩ : Str)).map (·.length)).sum = cs.length := by
            rw [List.map_map]
            clear hy hcs e0 hr' hD
            induction cs with
            | nil => rfl
            | cons c cs ih =>
              rw [List.map_cons, List.sum_cons, ih]
              show 1 + cs.length = _
              simp
              omega
          have htl : tl (Txt.join "" (cs.map fun c => (⟨#[c]⟩ : Str))) = cs := by
            have h0 : tl (Txt.join "" (cs.map fun c => (⟨#[c]⟩ : Str))) = joinL (tl (Str.ofString "")) ((cs.map fun c => (⟨#[c]⟩ : Str)).map tl) := (congrArg tl (TL.join_eq _ _)).trans (tl_join _ _)
            rw [h0, show tl (Str.ofString "") = [] by decide +kernel, join_nil, List.map_map]
            clear hy hcs e0 hr' hD hsum h0
            induction cs with
            | nil => rfl
            | cons c cs ih =>
              rw [List.map_cons, List.flatten_cons, ih]
              rfl
          refine ⟨_, L, cs.map fun c => (⟨#[c]⟩ : Str), rfl, rfl, .inl (SqL.of (by rw [← e0]; exact hD)), ?_, hq H4 _ _ ((k2.trans k3).trans k4) hB4 (.str _) ?_⟩
          · rw [hsum, List.length_map]
            show cs.length + cs.length * 0 ≤ _
            omega
          · rw [small, htl, hcs, Bool.and_true, len_tl, htl]
            exact decide_eq_true (by omega)
      | false =>
        have hn : 0 < n := by
          rcases hrn with h | h
          · have : r = 2 ∨ r = 3 := by omega
            rcases this with h | h <;> (subst h; cases hin)
          · exact h
        obtain ⟨m, rfl⟩ : ∃ m, n = m + 1 := ⟨n - 1, by omega⟩
        have esp := hG m rfl
        subst esp
        refine iteF ⟨_, rfl, l, 4, rfl, by decide, by decide, hB2, fun c H3 hc k3 hB3 => ⟨(c : Int), rfl, by omega, by omega, fun L hL => ?_⟩⟩
        refine lc_mapR (n := (c : Int).toNat) (l := l) (fun y H => ∃ d, Tp H y d ∧ small m d = true) hB3 hL (by rw [sizeLine_eq]; omega) (fun y H H' tk ⟨d, h1, h2⟩ => ⟨d, h1.keep tk, h2⟩) (fun i H4 kk hi k4 hB4 hk' => ⟨rfl, lc_yes ?_⟩) (fun H4 ys hy hr' hD k4 hB4 => ?_)
        · refine ⟨_, rfl, _, rfl, _, _, rfl, rfl, l, ?_, hB4, fun H5 v d k5 hB5 hv hd => hk' v H5 k5 hB5 ⟨d, hv, hd⟩⟩
          show [V.ref l, V.int (((m + 1 : Nat) : Int) - 1)] = _
          rw [show ((m + 1 : Nat) : Int) - 1 = (m : Int) by omega]
        · obtain ⟨ds, h1, h2, h3⟩ := tps_small hr'
          refine ⟨L, ys, rfl, .inl ⟨SqL.of hD, fun t ht => ?_⟩⟩
          have htl : t ≠ l := fun z => hB4.ne (by rw [← z]; exact ht)
          have tk : TupK H4 (upd H4 t (.tup ys)) := fun b xs e => by
            have : b ≠ t := fun z => by rw [z, ht] at e; cases e
            rw [upd_ne this]
            exact e
          refine hq _ _ _ (fun b o hb e => ?_) ?_ (.tup upd_same (h1.keep tk)) ?_
          · have e' := ((k2.trans k3).trans k4) b o hb e
            have : b ≠ t := fun z => by rw [z, ht] at e'; cases e'
            rw [upd_ne this]
            exact e'
          · obtain ⟨a, b, c, h⟩ := hB4
            exact ⟨a, b, c, by rw [upd_ne (Ne.symm htl)]; exact h⟩
          · rw [small, decide_eq_true (by omega : 0 < m + 1), Bool.true_and, decide_eq_true (by omega : ds.length ≤ 3), Bool.true_and]
            exact h2
    obtain ⟨tT, hPS, hT⟩ := hT
    refine ⟨_, PSs.nox (pss_cons (ps_set (i := 2) scLValue.nd rfl (Or.inl rfl) (pe_cal G1 (hr.mono (by omega)) (by rfl) pass0 (pa_cons (pv 0) (pa_cons (pe_ifExp (pt_cmpR op_gt (pv 1) pe_int (nomark _)) pe_int pe_int) pa_nil)))) hPS), ?_⟩
    refine ⟨_, rfl, _, rfl, _, _, rfl, rfl, _, rfl, ?_⟩
    by_cases hn : (0 : Int) < (n : Int)
    · rw [decide_eq_true hn]
      exact iteT ⟨l, 7, rfl, by decide, by decide, hB, fun r H1 hr' k1 hB1 => hT r H1 (.inr (by omega)) k1 hB1⟩
    · rw [decide_eq_false hn]
      exact iteF ⟨l, 4, rfl, by decide, by decide, hB, fun r H1 hr' k1 hB1 => hT r H1 (.inl hr') k1 hB1⟩
theorem ok_law_value (F : Fx K mg) (D : At K mg "_law_value" sLValue) (G1 : Cal P w K mg base CX0 1 "_law_scoop" ["bowl", "total"] spScoop) (G2 : Cal P w K mg base CX0 2 "_law_one_of" ["bowl", "items"] spOneOf) : ∀ n : Nat, Cal P w K mg base CX0 (n + 3) "_law_value" ["bowl", "deep"] (spLValue n)
  | 0 => ok_law_value0 F D G1 G2 0 2 (by decide) (cal_none 2 D fun _ _ _ _ _ _ us hl => match us, hl with | [_, _], _ => rfl) fun m h => by omega
  | n + 1 => ok_law_value0 F D G1 G2 (n + 1) (n + 3) (by omega) (ok_law_value F D G1 G2 n) fun m h => by
    have e : n = m := by omega
    rw [e]
end
end T82

set_option Elab.async false
set_option linter.all false
set_option maxRecDepth 100000
set_option maxHeartbeats 2000000
namespace T82
open PySem PySem.Spec PyProof.Rows L2 TL
/-! ### what is read can be laid and compared -/
mutual
theorem parse_lay : ∀ (f : Nat) {s r : List Nat} {d : PyData}, parse f s = some (d, r) → PyData.canLay0 d = true ∧ d.depth + op r ≤ op s
  | 0, s, r, d, h => by rw [parse] at h; cases h
  | f + 1, s, r, d, h => by
    have hsf := op_sfx (parse_sfx (f + 1) h)
    rw [parse] at h
    split at h
    · cases h
      exact ⟨by rw [PyData.canLay0], by rw [PyData.depth, Nat.zero_add]; exact hsf⟩
    · split at h
      · obtain ⟨x, rfl, e, hs⟩ := readStr_is h
        exact ⟨lay_str hs, by rw [PyData.depth, Nat.zero_add]; exact hsf⟩
      · split at h
        · rename_i h40
          obtain ⟨h1, h2⟩ := sfx_tail h40
          cases e : members f true s.tail with
          | none => rw [e] at h; cases h
          | some p =>
            rw [e] at h
            obtain ⟨ds, q⟩ := p
            cases h
            obtain ⟨k1, k2⟩ := members_lay f e
            refine ⟨by rw [PyData.canLay0]; exact k1, ?_⟩
            have h3 : op s = op s.tail + 1 := by
              conv => lhs; rw [h2]
              rw [op_cons, if_pos rfl]
            rw [PyData.depth]
            show PyData.depthAll ds + 1 + op q ≤ _
            omega
        · obtain ⟨neg, x, ds, rfl, e, ha, hg, hx⟩ := readWhole_is h
          exact ⟨by rw [PyData.canLay0], by rw [PyData.depth, Nat.zero_add]; exact hsf⟩
theorem members_lay : ∀ (f : Nat) {b : Bool} {s r : List Nat} {ds : List PyData}, members f b s = some (ds, r) → PyData.canLayAll0 ds = true ∧ PyData.depthAll ds + op r ≤ op s
  | 0, b, s, r, d, h => by rw [members] at h; cases h
  | f + 1, b, s, r, ds0, h => by
    have hsf := op_sfx (members_sfx (f + 1) h)
    rw [members] at h
    split at h
    · cases h
      exact ⟨by rw [PyData.canLayAll0], by rw [PyData.depthAll, Nat.zero_add]; exact hsf⟩
    · split at h
      · cases h
      · have hb : op (if b then s else s.tail) ≤ op s := by
          cases b with
          | true => exact Nat.le_refl _
          | false =>
            show op s.tail ≤ op s
            cases s with
            | nil => exact Nat.le_refl _
            | cons c s => rw [op_cons]; exact Nat.le_add_right _ _
        split at h
        · cases h
        · rename_i d1 r1 e1
          obtain ⟨k1, k2⟩ := parse_lay f e1
          cases e : members f false r1 with
          | none => rw [e] at h; cases h
          | some p =>
            rw [e] at h
            obtain ⟨es, q⟩ := p
            cases h
            obtain ⟨k3, k4⟩ := members_lay f e
            refine ⟨by rw [PyData.canLayAll0, k1, k3]; rfl, ?_⟩
            rw [PyData.depthAll]
            show max d1.depth (PyData.depthAll es) + op q ≤ op s
            have := op_sfx (members_sfx f e)
            omega
end
theorem read_lay {s r : List Nat} {d : PyData} (h : read s = some (d, r)) : PyData.canLay0 d = true ∧ d.depth + op r ≤ op s := parse_lay _ h
/-! ### slices -/
theorem cut_any {x : Str} {i j : Nat} (hi : i ≤ x.length) (h : i ≤ j) : cutS x (some (i : Int)) (some (j : Int)) = ⟨((lft x i).take (j - i)).toArray⟩ := by
  unfold cutS
  rw [HT.sIx_nat, HT.sIx_nat, Nat.min_eq_left hi]
  have e : ((tl x).drop i).take (min j x.length - i) = (lft x i).take (j - i) := by
    show ((tl x).drop i).take _ = ((tl x).drop i).take _
    by_cases hj : j ≤ x.length
    · rw [Nat.min_eq_left hj]
    · rw [Nat.min_eq_right (by omega), List.take_of_length_le (by rw [List.length_drop, len_tl]; omega), List.take_of_length_le (by rw [List.length_drop, ← len_tl]; omega)]
  show (⟨(((tl x).drop i).take (min j x.length - i)).toArray⟩ : Str) = _
  rw [e]
theorem str_eq_tl {l : List Nat} {z : Str} : decide (V.str ⟨l.toArray⟩ = V.str z) = (l == tl z) := by
  apply Bool.eq_iff_iff.mpr
  rw [decide_eq_true_iff, beq_iff_eq]
  constructor
  · intro h
    injection h with h
    rw [← h, tl_mk]
  · intro h
    rw [h, mk_tl]
theorem cut_pre {x z : Str} {i : Nat} (hi : i ≤ x.length) : decide (V.str (cutS x (some (i : Int)) (some ((i : Int) + ((tl z).length : Nat)))) = V.str z) = pre (tl z) (lft x i) := by
  have e : (i : Int) + ((tl z).length : Nat) = ((i + (tl z).length : Nat) : Int) := by omega
  rw [e, cut_any hi (Nat.le_add_right _ _), str_eq_tl, Nat.add_sub_cancel_left]
  rfl
theorem cut_preN {x z : Str} {w : List Nat} {i : Nat} (hz : tl z = w) (k : Nat) (hk : w.length = k) (hi : i ≤ x.length) : decide (V.str (cutS x (some (i : Int)) (some ((i : Int) + (k : Nat)))) = V.str z) = pre w (lft x i) := by
  subst hz
  subst hk
  exact cut_pre hi
/-- a turn of a walk over signs -/
theorem row_go {z x : Str} {j t : Nat} (hj : j ≤ x.length) (ht : t ≤ (rowW z x j).length) : (j + t = x.length ∧ t = (rowW z x j).length) ∨ ∃ c, j + t < x.length ∧ (tl x)[j + t]? = some c ∧ ((c ∈ z.cps.toList ∧ t < (rowW z x j).length) ∨ (c ∉ z.cps.toList ∧ t = (rowW z x j).length)) := by
  have hll := lft_len x j
  have hwl : (rowW z x j).length ≤ x.length - j := by rw [← hll]; exact tw_le _ _
  have hg : ∀ t, (lft x j)[t]? = (tl x)[j + t]? := fun t => by
    show ((tl x).drop j)[t]? = _
    rw [List.getElem?_drop]
  by_cases ho : j + t = x.length
  · exact .inl ⟨ho, by omega⟩
  · have hlt : j + t < x.length := by omega
    obtain ⟨c, hc⟩ : ∃ c, (tl x)[j + t]? = some c := ⟨(tl x)[j + t]'(by rw [← len_tl]; omega), List.getElem?_eq_getElem _⟩
    have hc2 : (lft x j)[t]? = some c := by rw [hg]; exact hc
    refine .inr ⟨c, hlt, hc, ?_⟩
    by_cases hin : c ∈ z.cps.toList
    · refine .inl ⟨hin, Nat.lt_of_le_of_ne ht fun e => ?_⟩
      have hc3 : (lft x j)[((lft x j).takeWhile fun c => decide (c ∈ z.cps.toList)).length]? = some c := by rw [← hc2, e]; rfl
      have := tw_end hc3
      rw [decide_eq_true hin] at this
      cases this
    · refine .inr ⟨hin, ?_⟩
      rcases Nat.lt_or_eq_of_le ht with h | h
      · obtain ⟨c', h1, h2⟩ := tw_lt (f := fun c => decide (c ∈ z.cps.toList)) (l := lft x j) h
        rw [hc2] at h1
        have e := Option.some.inj h1
        subst e
        exact absurd (of_decide_eq_true h2) hin
      · exact h
section
variable {P : Program} {w : World} {K : PySem.W.Frag} {mg : Str → Option Value} {base : Heap}
abbrev sLRead : Stmt := top 27
abbrev nLRead : List Str := ["text", "at", "end", "found", "told", "begin"]
theorem scLRead : FnScope nLRead ["text", "at"] (defScope sLRead) := ⟨rfl, rfl, rfl, by decide +kernel, rfl, by decide +kernel, by decide +kernel⟩
def spLRead (n : Nat) : Sp := fun vs H Q _ => ∃ (x : Str) (i : Nat), vs = [.str x, .int (i : Int)] ∧ i ≤ x.length ∧ x.length ≤ 20000 ∧ op (lft x i) ≤ n ∧
  (∀ d r, read (lft x i) = some (d, r) → ∀ H' t v, Same H H' → H' t = some (.tup [v, .int ((x.length - r.length : Nat) : Int)]) → Tp H' v d → Q (.ref t) H') ∧ (read (lft x i) = none → ∀ H', Same H H' → Q .non H')
/-- behind some members, the law's reader -/
def lrdW (H : Hp) (x : Str) (L : Addr) (m i : Nat) (q : Nat) (σ : L2.St) (H' : Hp) : Prop :=
  ∃ (j : Nat) (ds : List PyData) (vs : List V) (u : Option V), q = x.length - j ∧ j ≤ x.length ∧ σ = [some (.str x), some (.int (j : Int)), none, some (.ref L), u, none] ∧ H' L = some (.lst vs) ∧ TpAll H' vs ds ∧ PyData.canLayAll0 ds = true ∧ PyData.depthAll ds ≤ 50 ∧
    vs.length + (x.length - j) ≤ x.length ∧ op (lft x j) ≤ m ∧ Same H H' ∧ reads true (lft x i).tail = (reads ds.isEmpty (lft x j)).map (fun z => (ds ++ z.1, z.2))
theorem layAll_app {ds es : List PyData} : PyData.canLayAll0 (ds ++ es) = (PyData.canLayAll0 ds && PyData.canLayAll0 es) := by
  induction ds with
  | nil => rw [List.nil_append, PyData.canLayAll0, Bool.true_and]
  | cons d ds ih => rw [List.cons_append, PyData.canLayAll0, PyData.canLayAll0, ih, Bool.and_assoc]
theorem depthAll_app {ds es : List PyData} : PyData.depthAll (ds ++ es) = max (PyData.depthAll ds) (PyData.depthAll es) := by
  induction ds with
  | nil => rw [List.nil_append, PyData.depthAll]; omega
  | cons d ds ih =>
    rw [List.cons_append, PyData.depthAll, PyData.depthAll, ih]
    omega
theorem shaped_lay {ds : List PyData} (h : PyData.canLayAll0 ds = true) (hd : PyData.depthAll ds ≤ 50) : SeqAt.shaped (.list ds) = true := by
  unfold SeqAt.shaped
  rw [PyData.canLay0, h, Bool.true_and, PyData.depth]
  exact decide_eq_true (by omega)
theorem ok_law_read0 (F : Fx K mg) (D : At K mg "_law_read" sLRead) (n k : Nat) (hn : n ≤ 50) {sp : Sp} (G : Cal P w K mg base CX0 k "_law_read" ["text", "at"] sp) (hG : ∀ m, n = m + 1 → sp = spLRead m) : Cal P w K mg base CX0 (k + 1) "_law_read" ["text", "at"] (spLRead n) := by
  refine cal_of D scLRead (fun vs H Q E h => ?_) (fun _ _ _ _ _ _ us hl => match us, hl with | [_, _], _ => rfl) fun f cdv A outer s H vs Q E hr h => ⟨_, PSs.nox (pss_cons (ps_if (pt_cmpR op_eq (pe_slice sl_str (pv 0) (po_some (pv 1)) (po_some (pe_op op_add (pv 1) pe_int))) pe_str (nomark _)) (pss_one (ps_ret (pe_tup (pa_cons pe_non (pa_cons (pe_op op_add (pv 1) pe_int) pa_nil))))) pss_nil)
    (pss_cons (ps_if (pt_cmpR op_eq (pe_slice sl_str (pv 0) (po_some (pv 1)) (po_some (pe_op op_add (pv 1) pe_int))) pe_str (nomark _))
      (pss_cons (ps_set (i := 2) scLRead.nd rfl (Or.inl rfl) (pe_op op_add (pv 1) pe_int))
      (pss_cons (ps_while PassesOwn.never (pw_and (pt_cmpR op_lt (pv 2) (pe_callB call_len (by rfl) F.b_len boot_len (pa_cons (pv 0) pa_nil)) (nomark _)) (pw_and1 (pt_cmpR op_in_sign (pe_ix ix_str (pv 0) (pv 2) (fun _ _ => rfl)) pe_str (by with_unfolding_all rfl)))).pt (pss_one (ps_set (i := 2) scLRead.nd rfl (Or.inl rfl) (pe_op op_add (pv 2) pe_int))))
      (pss_one (ps_ret (pe_ifExp (pt_cmpR op_eq (pe_slice sl_str (pv 0) (po_some (pv 2)) (po_some (pe_op op_add (pv 2) pe_int))) pe_str (nomark _)) (pe_tup (pa_cons (pe_slice sl_str (pv 0) (po_some (pe_op op_add (pv 1) pe_int)) (po_some (pv 2))) (pa_cons (pe_op op_add (pv 2) pe_int) pa_nil))) pe_non))))) pss_nil)
    (pss_cons (ps_if (pt_cmpR op_eq (pe_slice sl_str (pv 0) (po_some (pv 1)) (po_some (pe_op op_add (pv 1) pe_int))) pe_str (nomark _))
      (pss_cons (ps_par (by rfl) scLRead.nd (i := 3) (j := 1) rfl rfl (by decide) rfl rfl (pa_cons (pe_lst pa_nil) (pa_cons (pe_op op_add (pv 1) pe_int) pa_nil)) (by rfl))
      (pss_cons (ps_while PassesOwn.never (pt_cmpR op_ne (pe_slice sl_str (pv 0) (po_some (pv 1)) (po_some (pe_op op_add (pv 1) pe_int))) pe_str (nomark _))
        (pss_cons (ps_if (pt_cmpR (op_neD hr.units) (pv 3) (pe_lst pa_nil) (nomark _))
          (pss_cons (ps_if (pt_cmpR op_ne (pe_slice sl_str (pv 0) (po_some (pv 1)) (po_some (pe_op op_add (pv 1) pe_int))) pe_str (nomark _)) (pss_one (ps_ret pe_non)) pss_nil)
          (pss_one (ps_set (i := 1) scLRead.nd rfl (Or.inl rfl) (pe_op op_add (pv 1) pe_int)))) pss_nil)
        (pss_cons (ps_set (i := 4) scLRead.nd rfl (Or.inl rfl) (pe_cal G hr (by rfl) pass0 (pa_cons (pv 0) (pa_cons (pv 1) pa_nil))))
        (pss_cons (ps_if (pt_cmpR op_isN (pv 4) pe_non (nomark _)) (pss_one (ps_ret pe_non)) pss_nil)
        (pss_cons (ps_expr (pe_bm PySem.F.plainAttrs_list PySem.F.slot_list_append PySem.F.type_list_append mt_append (pv 3) (pa_cons (pe_ix ix_tup (pv 4) pe_int (fun _ _ => rfl)) pa_nil)))
        (pss_one (ps_set (i := 1) scLRead.nd rfl (Or.inl rfl) (pe_ix ix_tup (pv 4) pe_int (fun _ _ => rfl)))))))))
      (pss_one (ps_ret (pe_tup (pa_cons (pe_callTy call_tuple_of (by rfl) F.b_tuple (by decide +kernel) (pa_cons (pv 3) pa_nil)) (pa_cons (pe_op op_add (pv 1) pe_int) pa_nil))))))) pss_nil)
    (pss_cons (ps_set (i := 2) scLRead.nd rfl (Or.inl rfl) (pe_op op_add (pv 1) (pe_callTy call_int1 (by rfl) F.b_int (by decide +kernel) (pa_cons (pe_cmpR op_eq (pe_slice sl_str (pv 0) (po_some (pv 1)) (po_some (pe_op op_add (pv 1) pe_int))) pe_str (nomark _)) pa_nil))))
    (pss_cons (ps_set (i := 5) scLRead.nd rfl (Or.inl rfl) (pv 2))
    (pss_cons (ps_while PassesOwn.never (pw_and (pt_cmpR op_lt (pv 2) (pe_callB call_len (by rfl) F.b_len boot_len (pa_cons (pv 0) pa_nil)) (nomark _)) (pw_and1 (pt_cmpR op_in_sign (pe_ix ix_str (pv 0) (pv 2) (fun _ _ => rfl)) pe_str (by with_unfolding_all rfl)))).pt (pss_one (ps_set (i := 2) scLRead.nd rfl (Or.inl rfl) (pe_op op_add (pv 2) pe_int))))
    (pss_cons (ps_if ((pw_or (pt_cmpR op_eq (pv 2) (pv 5) (nomark _)) (pw_or ((pw_and (pt_cmpR op_eq (pe_ix ix_str (pv 0) (pv 5) (fun _ _ => rfl)) pe_str (nomark _)) (pw_and1 ((pw_or (pt_cmpR op_gt (pv 2) (pe_op op_add (pv 5) pe_int) (nomark _)) (pw_or1 (pt_cmpR op_gt (pv 5) (pv 1) (nomark _)))).pt))).pt)
        (pw_or1 (pt_cmpR op_gt (pe_op op_sub (pv 2) (pv 5)) pe_int (nomark _))))).pt) (pss_one (ps_ret pe_non)) pss_nil)
    (pss_one (ps_ret (pe_tup (pa_cons (pe_callTy (call_int_wide F.dig) (by rfl) F.b_int (by decide +kernel) (pa_cons (pe_slice sl_str (pv 0) (po_some (pv 1)) (po_some (pv 2))) pa_nil)) (pa_cons (pv 2) pa_nil)))))))))))), ?_⟩
  · obtain ⟨x, i, rfl, _⟩ := h
    rfl
  · obtain ⟨x, i, rfl, hi, hx, hop, hq, hb⟩ := h
    have hline : x.length ≤ sizeLine := by
      rw [sizeLine_eq]
      omega
    have eN : tl ("none" : Str) = noneT := by decide +kernel
    have e34 : tl ("\"" : Str) = [34] := by decide +kernel
    have e40 : tl ("(" : Str) = [40] := by decide +kernel
    have e41 : tl (")" : Str) = [41] := by decide +kernel
    have e32 : tl (" " : Str) = [32] := by decide +kernel
    have e45 : tl ("-" : Str) = [45] := by decide +kernel
    have hrd := read_eq (lft x i)
    have tN : decide (V.str (cutS x (some (i : Int)) (some ((i : Int) + 4))) = V.str "none") = pre noneT (lft x i) := cut_preN eN 4 rfl hi
    have t1 : ∀ {z : Str} {c j : Nat}, tl z = [c] → j ≤ x.length → decide (V.str (cutS x (some (j : Int)) (some ((j : Int) + 1))) = V.str z) = pre [c] (lft x j) := fun hz hj => cut_preN hz 1 rfl hj
    refine ⟨_, rfl, _, rfl, _, rfl, _, rfl, _, _, rfl, rfl, _, rfl, x, rfl, hline, rfl, _, congrArg V.bl tN, ?_⟩
    cases hN : pre noneT (lft x i) with
    | true =>
      rw [hN, if_pos rfl] at hrd
      have h1 := congrArg List.length (pre_split hN)
      rw [List.length_append, lft_len] at h1
      have h4 : noneT.length = 4 := rfl
      rw [h4] at h1
      refine iteT ⟨_, rfl, _, _, rfl, rfl, by show 2 ≤ sizeLine; rw [sizeLine_eq]; decide, fun p hp => hq _ _ hrd _ p .non (fun b o e => ?_) ?_ .non⟩
      · have : b ≠ p := fun z => by rw [z, hp] at e; cases e
        rw [upd_ne this]
        exact e
      · rw [upd_same]
        have e : (i : Int) + 4 = ((x.length - ((lft x i).drop 4).length : Nat) : Int) := by
          rw [List.length_drop, lft_len] at h1
          rw [List.length_drop, lft_len]
          omega
        show some (HO.tup [V.non, V.int ((i : Int) + 4)]) = _
        rw [e]
    | false =>
    rw [hN] at hrd
    refine iteF ⟨_, rfl, _, rfl, _, rfl, _, rfl, _, _, rfl, rfl, _, rfl, x, rfl, hline, rfl, _, congrArg V.bl (t1 e34 hi), ?_⟩
    cases h34 : pre [34] (lft x i) with
    | true =>
      have hc := (pre_one _ _).mp h34
      rw [if_neg (by decide), if_pos hc] at hrd
      have hi' := head_lt hc
      have hs := (sfx_tail hc).2
      have e1 : lft x (i + 1) = (lft x i).tail := by rw [lft_drop, List.drop_one]
      have hw := row_signs x (i + 1)
      have hwl : (rowW "abcdefghijklmnopqrstuvwxyz " x (i + 1)).length ≤ x.length - (i + 1) := by rw [hw, ← lft_len]; exact tw_le _ _
      have e2 : lft x (i + 1 + (rowW "abcdefghijklmnopqrstuvwxyz " x (i + 1)).length) = (lft x i).tail.dropWhile isSign := by
        rw [lft_drop, hw, drop_tw, e1]
      refine iteT ⟨_, rfl, _, _, rfl, rfl, ?_⟩
      refine ⟨fun m σ H' => ∃ t, t ≤ (rowW "abcdefghijklmnopqrstuvwxyz " x (i + 1)).length ∧ m = (rowW "abcdefghijklmnopqrstuvwxyz " x (i + 1)).length - t ∧ σ = [some (.str x), some (.int (i : Int)), some (.int ((i + 1 + t : Nat) : Int)), none, none, none] ∧ H' = H, ⟨_, 0, Nat.zero_le _, rfl, rfl, rfl⟩, ?_⟩
      rintro m σ H' ⟨t, ht, rfl, rfl, rfl⟩
      have fin : t = (rowW "abcdefghijklmnopqrstuvwxyz " x (i + 1)).length → (tRet (tIf (tTest (tOp rEq (tSl rSlS (tVar 0) (tPart (tVar 2)) (tPart (tOp (rI0 fun i j => V.int (i + j)) (tVar 2) (tC (.int 1))))) (tC (.str "\""))))
          (tTup (tCons (tSl rSlS (tVar 0) (tPart (tOp (rI0 fun i j => V.int (i + j)) (tVar 1) (tC (.int 1)))) (tPart (tVar 2))) (tCons (tOp (rI0 fun i j => V.int (i + j)) (tVar 2) (tC (.int 1))) tNil))) (tC .non)))
          { nx := fun _ H' => Q .non H', rt := Q } [some (.str x), some (.int (i : Int)), some (.int ((i + 1 + t : Nat) : Int)), none, none, none] H' := fun et => by
        refine ⟨_, rfl, _, rfl, _, rfl, _, rfl, _, _, rfl, rfl, _, rfl, x, rfl, hline, rfl, _, congrArg V.bl (t1 (j := i + 1 + t) e34 (by omega)), ?_⟩
        rw [et, e2]
        cases hq2 : pre [34] ((lft x i).tail.dropWhile isSign) with
        | true =>
          have hq3 := (pre_one _ _).mp hq2
          obtain ⟨r, hr1, hr2⟩ : ∃ r, readStr (lft x i).tail = some (.str ⟨(rowW "abcdefghijklmnopqrstuvwxyz " x (i + 1)).toArray⟩, r) ∧ (lft x i).tail.dropWhile isSign = 34 :: r := by
            have e := (sfx_tail hq3).2
            refine ⟨_, ?_, e⟩
            unfold readStr
            rw [e, hw, e1]
            rfl
          have hrl : x.length - r.length = i + 1 + (rowW "abcdefghijklmnopqrstuvwxyz " x (i + 1)).length + 1 := by
            have h1 := lft_len x (i + 1 + (rowW "abcdefghijklmnopqrstuvwxyz " x (i + 1)).length)
            rw [e2, hr2, List.length_cons] at h1
            omega
          rw [hr1] at hrd
          have ecut : cutS x (some ((i : Int) + 1)) (some ((i + 1 + (rowW "abcdefghijklmnopqrstuvwxyz " x (i + 1)).length : Nat) : Int)) = ⟨(rowW "abcdefghijklmnopqrstuvwxyz " x (i + 1)).toArray⟩ := by
            have h1 := cut_any (x := x) (i := i + 1) (j := i + 1 + (rowW "abcdefghijklmnopqrstuvwxyz " x (i + 1)).length) (by omega) (by omega)
            rw [Nat.add_sub_cancel_left] at h1
            have h2 : (lft x (i + 1)).take (rowW "abcdefghijklmnopqrstuvwxyz " x (i + 1)).length = rowW "abcdefghijklmnopqrstuvwxyz " x (i + 1) := tw_take _
            rw [h2] at h1
            exact h1
          refine iteT ⟨_, rfl, _, rfl, _, _, rfl, rfl, _, rfl, _, rfl, _, rfl, x, rfl, hline, _, rfl, _, _, rfl, rfl, by show 2 ≤ sizeLine; rw [sizeLine_eq]; decide, fun p hp => hq _ _ hrd _ p (.str ⟨(rowW "abcdefghijklmnopqrstuvwxyz " x (i + 1)).toArray⟩) (fun b o e => ?_) ?_ (.str _)⟩
          · have : b ≠ p := fun z => by rw [z, hp] at e; cases e
            rw [upd_ne this]
            exact e
          · rw [upd_same, hrl]
            show some (HO.tup [V.str (cutS x (some ((i : Int) + 1)) (some ((i + 1 + (rowW "abcdefghijklmnopqrstuvwxyz " x (i + 1)).length : Nat) : Int))), V.int (((i + 1 + (rowW "abcdefghijklmnopqrstuvwxyz " x (i + 1)).length : Nat) : Int) + 1)]) = _
            rw [ecut]
            rfl
        | false =>
          refine iteF (hb ?_ _ (Same.refl _))
          rw [hrd]
          unfold readStr
          split
          · rename_i r e
            rw [e] at hq2
            cases hq2
          · rfl
      refine ⟨_, rfl, _, rfl, _, x.length, rfl, ⟨hline, rfl⟩, _, _, rfl, rfl, _, rfl, ?_⟩
      rcases row_go (z := "abcdefghijklmnopqrstuvwxyz ") (x := x) (j := i + 1) (t := t) hi' ht with ⟨ho, ht2⟩ | ⟨c, hlt, hc', h⟩
      · rw [decide_eq_false (by omega : ¬ ((i + 1 + t : Nat) : Int) < ((x.length : Nat) : Int))]
        exact iteF (iteF (fin ht2))
      · rw [decide_eq_true (by omega : ((i + 1 + t : Nat) : Int) < ((x.length : Nat) : Int))]
        refine iteT ⟨_, rfl, _, rfl, x, ((i + 1 + t : Nat) : Int), c, rfl, rfl, hline, atI_nat hc', c, _, rfl, rfl, _, rfl, ?_⟩
        rcases h with ⟨hin, hlt2⟩ | ⟨hin, ht2⟩
        · rw [decide_eq_true hin]
          exact iteT ⟨_, fun σ' H'' h => h, _, rfl, _, _, rfl, rfl, _, by omega, t + 1, hlt2, rfl, rfl, rfl⟩
        · rw [decide_eq_false hin]
          exact iteF (fin ht2)
    | false =>
    have hc := (pre_one_f _ _).mp h34
    rw [if_neg (by decide), if_neg hc] at hrd
    refine iteF ⟨_, rfl, _, rfl, _, rfl, _, rfl, _, _, rfl, rfl, _, rfl, x, rfl, hline, rfl, _, congrArg V.bl (t1 e40 hi), ?_⟩
    cases h40 : pre [40] (lft x i) with
    | true =>
      have hc4 := (pre_one _ _).mp h40
      rw [if_pos hc4] at hrd
      have hi' := head_lt hc4
      have hs40 := (sfx_tail hc4).2
      have hop1 : op (lft x i) = op (lft x i).tail + 1 := by
        conv => lhs; rw [hs40]
        rw [op_cons, if_pos rfl]
      have e1 : lft x (i + 1) = (lft x i).tail := by rw [lft_drop, List.drop_one]
      obtain ⟨m, rfl⟩ : ∃ m, n = m + 1 := ⟨n - 1, by omega⟩
      have esp := hG m rfl
      subst esp
      refine iteT ⟨by show 0 ≤ sizeLine; exact Nat.zero_le _, fun L hLH => ⟨_, rfl, _, _, rfl, rfl, _, _, rfl, ?_⟩⟩
      refine ⟨lrdW H x L m i, ⟨_, i + 1, [], [], none, rfl, hi', rfl, upd_same, .nil, by rw [PyData.canLayAll0], by rw [PyData.depthAll]; omega, by simp, by rw [e1]; omega, fun b o e => ?_, ?_⟩, ?_⟩
      · have : b ≠ L := fun z => by rw [z, hLH] at e; cases e
        rw [upd_ne this]
        exact e
      · rw [e1]
        show _ = (reads true (lft x i).tail).map _
        cases reads true (lft x i).tail with
        | none => rfl
        | some z => rfl
      rintro q σ H' ⟨j, ds, vs, u, rfl, hj, rfl, hL', hT, hlay, hdep, hlen, hopj, hS, hR⟩
      refine ⟨_, rfl, _, rfl, _, rfl, _, rfl, _, _, rfl, rfl, _, rfl, x, rfl, hline, rfl, _, congrArg (fun b => V.bl (!b)) (t1 e41 hj), ?_⟩
      cases h41 : pre [41] (lft x j) with
      | true =>
        have hc := (pre_one _ _).mp h41
        have hjl := head_lt hc
        refine iteF ⟨_, rfl, L, vs, rfl, .inl ⟨SqL.of hL', fun t ht => ⟨_, rfl, _, _, rfl, rfl, by show 2 ≤ sizeLine; rw [sizeLine_eq]; decide, fun p hp => ?_⟩⟩⟩
        have hr : reads true (lft x i).tail = some (ds, (lft x j).tail) := by
          rw [hR, reads_eq, if_pos hc]
          simp
        rw [hr] at hrd
        have hrl : x.length - (lft x j).tail.length = j + 1 := by
          rw [List.length_tail, lft_len]
          omega
        have tpn : t ≠ p := fun z => by rw [← z, upd_same] at hp; cases hp
        have sm1 : Same H' (upd (upd H' t (.tup vs)) p (.tup [.ref t, .int ((j : Int) + 1)])) := fun b o e => by
          have b1 : b ≠ t := fun z => by rw [z, ht] at e; cases e
          have b2 : b ≠ p := fun z => by
            rw [z] at e
            rw [upd_ne (Ne.symm tpn)] at hp
            rw [hp] at e
            cases e
          rw [upd_ne b2, upd_ne b1]
          exact e
        refine hq _ _ hrd _ p (.ref t) (hS.trans sm1) ?_ (.tup (by rw [upd_ne tpn, upd_same]) (hT.keep sm1.tups))
        show upd _ p _ p = some (.tup [.ref t, .int ((x.length - (lft x j).tail.length : Nat) : Int)])
        rw [upd_same, hrl]
        rfl
      | false =>
        have hnc := (pre_one_f _ _).mp h41
        refine iteT ⟨_, fun σ' H'' h => h, ?_⟩
        refine ⟨_, rfl, by show 0 ≤ sizeLine; exact Nat.zero_le _, fun L2 hL2 => ?_⟩
        have sm : Same H' (upd H' L2 (.lst [])) := fun b o e => by
          have : b ≠ L2 := fun z => by rw [z, hL2] at e; cases e
          rw [upd_ne this]
          exact e
        refine ⟨.list ds, .list [], .lst (SqL.of (sm _ _ hL')) (TpAll.dp (hT.keep sm.tups)), .lst (SqL.of upd_same) .nil, shaped_lay hlay hdep, shaped_nil, _, rfl, ?_⟩
        rw [eqv_nil]
        cases hds : ds.isEmpty with
        | true =>
          have hR3 : reads ds.isEmpty (lft x j) = match read (lft x j) with | none => none | some (d, r) => (reads false r).map (fun z => (d :: z.1, z.2)) := by
            rw [hds, reads_eq, if_neg hnc]
            rfl
          have hj3 := hj
          have hop3 := hopj
          refine iteF ?_
          refine ⟨_, rfl, _, rfl, x, j, rfl, hj3, hx, hop3, fun d r hrr H4 t v s4 ht hv => ?_, fun hrr H4 s4 => ?_⟩
          · obtain ⟨s1, s2, s3⟩ := lft_sfx (read_sfx hrr)
            obtain ⟨y1, y2⟩ := read_lay hrr
            have hL4 : H4 L = some (.lst vs) := s4 _ _ (sm _ _ hL')
            have htL : t ≠ L := fun z => by
              rw [z, hL4] at ht
              cases ht
            have tk : TupK H4 (upd H4 L (.lst (vs ++ [v]))) := fun b xs e => by
              have : b ≠ L := fun z => by
                rw [z, hL4] at e
                cases e
              rw [upd_ne this]
              exact e
            refine ⟨_, rfl, rfl, _, rfl, ?_⟩
            rw [show decide (V.ref t = V.non) = false from rfl]
            refine iteF ⟨_, rfl, .inl ⟨rfl, _, SqL.of hL4⟩, _, rfl, t, _, (0 : Int), v, rfl, rfl, SqT.of ht, atI_nat (j := 0) rfl, L, vs, v, rfl, rfl, hL4, by rw [sizeLine_eq]; omega, ?_⟩
            refine ⟨_, rfl, t, _, (1 : Int), _, rfl, rfl, SqT.of (tk _ _ ht), atI_nat (j := 1) rfl, x.length - (x.length - r.length), by omega, x.length - r.length, ds ++ [d], vs ++ [v], some (.ref t), rfl, s2, rfl, upd_same, ((hT.keep (sm.tups.trans s4.tups)).keep tk).app (hv.keep tk), ?_, ?_, ?_, ?_, ?_, ?_⟩
            · rw [layAll_app, hlay, PyData.canLayAll0, y1, PyData.canLayAll0]
              rfl
            · rw [depthAll_app, PyData.depthAll, PyData.depthAll]
              omega
            · rw [List.length_append]
              show vs.length + 1 + _ ≤ _
              omega
            · rw [s1]
              omega
            · exact fun b o e => by
                have : b ≠ L := fun z => by rw [z, hLH] at e; cases e
                rw [upd_ne this]
                exact s4 _ _ (sm _ _ (hS _ _ e))
            · rw [hR, hR3, hrr, s1]
              have : (ds ++ [d]).isEmpty = false := by cases ds <;> rfl
              rw [this]
              show (Option.map _ ((reads false r).map _)) = _
              cases reads false r with
              | none => rfl
              | some z => simp
          · refine ⟨_, rfl, rfl, _, rfl, iteT (hb ?_ _ (hS.trans (sm.trans s4)))⟩
            rw [hrd, hR, hR3, hrr]
            rfl
        | false =>
          refine iteT ⟨_, rfl, _, rfl, _, rfl, _, rfl, _, _, rfl, rfl, _, rfl, x, rfl, hline, rfl, _, congrArg (fun b => V.bl (!b)) (t1 e32 hj), ?_⟩
          cases h32 : pre [32] (lft x j) with
          | false =>
            have hc := (pre_one_f _ _).mp h32
            refine iteT (hb ?_ _ (hS.trans sm))
            rw [hrd, hR, hds, reads_eq, if_neg hnc]
            have : (!false && !((lft x j).head? == some 32)) = true := by
              rw [show ((lft x j).head? == some 32) = false from by rw [beq_eq_false_iff_ne]; exact hc]
              rfl
            rw [this]
            rfl
          | true =>
            have hc := (pre_one _ _).mp h32
            have hj3 := head_lt hc
            have e2 : lft x (j + 1) = (lft x j).tail := by rw [lft_drop, List.drop_one]
            have hop3 : op (lft x (j + 1)) ≤ m := by
              rw [e2]
              exact Nat.le_trans (op_sfx (sfx_tail hc).1) hopj
            have hR3 : reads ds.isEmpty (lft x j) = match read (lft x (j + 1)) with | none => none | some (d, r) => (reads false r).map (fun z => (d :: z.1, z.2)) := by
              rw [hds, reads_eq, if_neg hnc, hc]
              show (match read (if false = true then lft x j else (lft x j).tail) with | none => none | some (d, r) => _) = _
              have : (if false = true then lft x j else (lft x j).tail) = lft x (j + 1) := by
                show (lft x j).tail = _
                rw [e2]
              rw [this]
            refine iteF ⟨_, rfl, _, _, rfl, rfl, ?_⟩
            refine ⟨_, rfl, _, rfl, x, j + 1, rfl, hj3, hx, hop3, fun d r hrr H4 t v s4 ht hv => ?_, fun hrr H4 s4 => ?_⟩
            · obtain ⟨s1, s2, s3⟩ := lft_sfx (read_sfx hrr)
              obtain ⟨y1, y2⟩ := read_lay hrr
              have hL4 : H4 L = some (.lst vs) := s4 _ _ (sm _ _ hL')
              have htL : t ≠ L := fun z => by
                rw [z, hL4] at ht
                cases ht
              have tk : TupK H4 (upd H4 L (.lst (vs ++ [v]))) := fun b xs e => by
                have : b ≠ L := fun z => by
                  rw [z, hL4] at e
                  cases e
                rw [upd_ne this]
                exact e
              refine ⟨_, rfl, rfl, _, rfl, ?_⟩
              rw [show decide (V.ref t = V.non) = false from rfl]
              refine iteF ⟨_, rfl, .inl ⟨rfl, _, SqL.of hL4⟩, _, rfl, t, _, (0 : Int), v, rfl, rfl, SqT.of ht, atI_nat (j := 0) rfl, L, vs, v, rfl, rfl, hL4, by rw [sizeLine_eq]; omega, ?_⟩
              refine ⟨_, rfl, t, _, (1 : Int), _, rfl, rfl, SqT.of (tk _ _ ht), atI_nat (j := 1) rfl, x.length - (x.length - r.length), by omega, x.length - r.length, ds ++ [d], vs ++ [v], some (.ref t), rfl, s2, rfl, upd_same, ((hT.keep (sm.tups.trans s4.tups)).keep tk).app (hv.keep tk), ?_, ?_, ?_, ?_, ?_, ?_⟩
              · rw [layAll_app, hlay, PyData.canLayAll0, y1, PyData.canLayAll0]
                rfl
              · rw [depthAll_app, PyData.depthAll, PyData.depthAll]
                omega
              · rw [List.length_append]
                show vs.length + 1 + _ ≤ _
                omega
              · rw [s1]
                omega
              · exact fun b o e => by
                  have : b ≠ L := fun z => by rw [z, hLH] at e; cases e
                  rw [upd_ne this]
                  exact s4 _ _ (sm _ _ (hS _ _ e))
              · rw [hR, hR3, hrr, s1]
                have : (ds ++ [d]).isEmpty = false := by cases ds <;> rfl
                rw [this]
                show (Option.map _ ((reads false r).map _)) = _
                cases reads false r with
                | none => rfl
                | some z => simp
            · refine ⟨_, rfl, rfl, _, rfl, iteT (hb ?_ _ (hS.trans (sm.trans s4)))⟩
              rw [hrd, hR, hR3, hrr]
              rfl
    | false =>
      have hc4 := (pre_one_f _ _).mp h40
      rw [if_neg hc4] at hrd
      refine iteF ⟨_, rfl, _, rfl, _, rfl, _, rfl, _, rfl, _, _, rfl, rfl, _, rfl, x, rfl, hline, rfl, .inr ⟨_, congrArg (fun b => [V.bl b]) (t1 e45 hi), _, _, rfl, rfl, ?_⟩⟩
      obtain ⟨neg, j, hs, ej⟩ : ∃ neg j, Sgn x i neg j ∧ (i : Int) + (if pre [45] (lft x i) = true then 1 else 0) = (j : Int) := by
        cases hm : pre [45] (lft x i) with
        | true =>
          have hh := (pre_one _ _).mp hm
          refine ⟨true, i + 1, ⟨by rw [hh]; rfl, rfl, head_lt hh⟩, ?_⟩
          rw [if_pos rfl]
          omega
        | false =>
          have hh := (pre_one_f _ _).mp hm
          refine ⟨false, i, ⟨by rw [beq_eq_false_iff_ne]; exact hh, rfl, hi⟩, ?_⟩
          rw [if_neg (by decide)]
          omega
      have hrw := sgn_read hs
      have hw := row_digs x j
      obtain ⟨hs1, hs2, hj⟩ := hs
      have hwl : (rowW "0123456789" x j).length ≤ x.length - j := by rw [hw, ← lft_len]; exact tw_le _ _
      show tSeq _ _ _ ([some (.str x), some (.int (i : Int)), some (.int ((i : Int) + (if pre [45] (lft x i) = true then 1 else 0))), none, none, none]) H
      rw [ej]
      refine ⟨_, rfl, ?_⟩
      refine ⟨fun m σ H' => ∃ t, t ≤ (rowW "0123456789" x j).length ∧ m = (rowW "0123456789" x j).length - t ∧ σ = [some (.str x), some (.int (i : Int)), some (.int ((j + t : Nat) : Int)), none, none, some (.int (j : Int))] ∧ H' = H, ⟨_, 0, Nat.zero_le _, rfl, rfl, rfl⟩, ?_⟩
      rintro m σ H' ⟨t, ht, rfl, rfl, rfl⟩
      have fin : t = (rowW "0123456789" x j).length → tSeq (tIfS (tOr (tTest (tOp rEq (tVar 2) (tVar 5))) (tOr (tAnd (tTest (tOp rEq (tOp rIxS (tVar 0) (tVar 5)) (tC (.str "0")))) (tOr (tTest (tOp (rI0 fun i j => .bl (decide (j < i))) (tVar 2) (tOp (rI0 fun i j => V.int (i + j)) (tVar 5) (tC (.int 1))))) (tTest (tOp (rI0 fun i j => .bl (decide (j < i))) (tVar 5) (tVar 1)))))
            (tTest (tOp (rI0 fun i j => .bl (decide (j < i))) (tOp (rI0 fun i j => V.int (i - j)) (tVar 2) (tVar 5)) (tC (.int 4000)))))) (tRet (tC .non)) tNext)
          (tRet (tTup (tCons (tCB (fun xs H Q => ∃ a n, xs = [V.str a] ∧ PySem.intText? a = some n ∧ a.length ≤ 4300 ∧ Q (.int n) H) (tCons (tSl rSlS (tVar 0) (tPart (tVar 1)) (tPart (tVar 2))) tNil)) (tCons (tVar 2) tNil))))
          { nx := fun _ H' => Q .non H', rt := Q } [some (.str x), some (.int (i : Int)), some (.int ((j + t : Nat) : Int)), none, none, some (.int (j : Int))] H' := fun et => by
        rw [hw] at hwl et
        generalize hds : (lft x j).takeWhile isDig = ds at *
        have hall : ds.all isDig = true := by rw [← hds]; exact take_all _ _
        have hdrop : (lft x j).dropWhile isDig = lft x (j + ds.length) := by rw [lft_drop, ← hds, drop_tw]
        have hdl : x.length - ((lft x j).dropWhile isDig).length = j + ds.length := by
          rw [hdrop, lft_len]
          omega
        have bad : goodDigs neg ds = false → Q .non H' := fun hg => hb (by rw [hrd, hrw, hg]; rfl) _ (Same.refl _)
        subst et
        have deq : decide (V.int ((j + ds.length : Nat) : Int) = V.int (j : Int)) = ds.isEmpty := by
          cases ds with
          | nil => exact decide_eq_true rfl
          | cons c ds =>
            refine decide_eq_false fun h => ?_
            injection h with h
            rw [List.length_cons] at h
            omega
        refine ⟨_, rfl, _, rfl, rfl, _, congrArg V.bl deq, ?_⟩
        cases ds with
        | nil => exact iteT (iteT (bad rfl))
        | cons c ds' =>
          have hcj : (tl x)[j]? = some c := by
            have h1 : (lft x j)[0]? = some c := by
              have h2 := takeDrop isDig (lft x j)
              rw [hds] at h2
              rw [← h2]
              rfl
            have h2 : ((tl x).drop j)[0]? = some c := h1
            rw [List.getElem?_drop] at h2
            exact h2
          have deq2 : decide (V.str ⟨#[c]⟩ = V.str "0") = decide (c = 48) := by rw [zero_str, one_str]
          have hgd : goodDigs neg (c :: ds') = (decide ((c :: ds').length ≤ 4000) && !(decide (c = 48) && (neg || decide (1 < (c :: ds').length)))) := by
            unfold goodDigs
            have : ((c :: ds').head? == some 48) = decide (c = 48) := by
              by_cases h : c = 48
              · subst h; rfl
              · rw [decide_eq_false h, beq_eq_false_iff_ne]
                intro z
                exact h (Option.some.inj z)
            rw [this]
            rfl
          have hneg : decide ((i : Int) < (j : Int)) = neg := by
            rw [hs2]
            cases neg with
            | true => exact decide_eq_true (by rw [if_pos rfl]; omega)
            | false => exact decide_eq_false (by rw [if_neg (by decide)]; omega)
          have last : (decide (c = 48) && (neg || decide (1 < (c :: ds').length))) = false → (tTest (tOp (rI0 fun i j => .bl (decide (j < i))) (tOp (rI0 fun i j => V.int (i - j)) (tVar 2) (tVar 5)) (tC (.int 4000))))
              [some (.str x), some (.int (i : Int)), some (.int ((j + (c :: ds').length : Nat) : Int)), none, none, some (.int (j : Int))] H' (fun b H1 => if b = true then (tRet (tC .non)) { nx := fun _ H' => Q .non H', rt := Q } [some (.str x), some (.int (i : Int)), some (.int ((j + (c :: ds').length : Nat) : Int)), none, none, some (.int (j : Int))] H1 else (tRet (tTup (tCons (tCB (fun xs H Q => ∃ a n, xs = [V.str a] ∧ PySem.intText? a = some n ∧ a.length ≤ 4300 ∧ Q (.int n) H) (tCons (tSl rSlS (tVar 0) (tPart (tVar 1)) (tPart (tVar 2))) tNil)) (tCons (tVar 2) tNil))))
          { nx := fun _ H' => Q .non H', rt := Q } [some (.str x), some (.int (i : Int)), some (.int ((j + (c :: ds').length : Nat) : Int)), none, none, some (.int (j : Int))] H1) := fun hz => by
            refine ⟨_, rfl, _, rfl, _, _, rfl, rfl, _, _, rfl, rfl, _, rfl, ?_⟩
            by_cases h4 : (4000 : Int) < ((j + (c :: ds').length : Nat) : Int) - (j : Int)
            · rw [decide_eq_true h4]
              exact iteT (bad (by rw [hgd, decide_eq_false (by omega : ¬ (c :: ds').length ≤ 4000)]; rfl))
            · rw [decide_eq_false h4]
              have hg : goodDigs neg (c :: ds') = true := by
                rw [hgd, decide_eq_true (by omega : (c :: ds').length ≤ 4000), hz]
                rfl
              rw [hrw, hg, if_pos rfl] at hrd
              have hcut : cutS x (some (i : Int)) (some ((j + (c :: ds').length : Nat) : Int)) = ⟨(if neg then 45 :: (c :: ds') else (c :: ds')).toArray⟩ := by
                rw [cut_any hi (by omega)]
                have h2 := takeDrop isDig (lft x j)
                rw [hds] at h2
                cases neg with
                | true =>
                  have h45 : (lft x i).head? = some 45 := by simpa using hs1
                  have h3 := (sfx_tail h45).2
                  have ej : j = i + 1 := hs2
                  have h4 : (lft x i).tail = lft x j := by rw [ej, lft_drop, List.drop_one]
                  rw [h3, h4, ← h2, if_pos rfl, show j + (c :: ds').length - i = (c :: ds').length + 1 by omega, List.take_succ_cons, List.take_left']
                  rfl
                | false =>
                  have ej : j = i := hs2
                  rw [if_neg (by decide), ← ej, ← h2, Nat.add_sub_cancel_left, List.take_left']
                  rfl
              have hint : PySem.intText? (⟨(if neg then 45 :: (c :: ds') else (c :: ds')).toArray⟩ : Str) = some (digInt neg (c :: ds')) := by
                cases neg with
                | true => exact PySem.intText_neg (cs := c :: ds') rfl (allDig.mp hall) (by simp) (by rw [len_tl, tl_mk]; show (c :: ds').length + 1 ≤ 4300; omega)
                | false => exact PySem.intText_digits (x := ⟨(c :: ds').toArray⟩) (allDig.mp hall) (by show c :: ds' ≠ []; simp) (by rw [len_tl, tl_mk]; omega)
              refine iteF ⟨_, rfl, _, rfl, _, rfl, _, rfl, _, rfl, x, rfl, hline, _, _, congrArg (fun z => [V.str z]) hcut, hint, ?_, _, rfl, by show 2 ≤ sizeLine; rw [sizeLine_eq]; decide, fun p hp => hq _ _ hrd _ p (.int (digInt neg (c :: ds'))) (fun b o e => ?_) ?_ (.int _)⟩
              · rw [len_tl, tl_mk]
                cases neg with
                | true =>
                  show (c :: ds').length + 1 ≤ 4300
                  omega
                | false =>
                  show (c :: ds').length ≤ 4300
                  omega
              · have : b ≠ p := fun z => by rw [z, hp] at e; cases e
                rw [upd_ne this]
                exact e
              · rw [upd_same, hdl]
          refine iteF ⟨_, rfl, _, rfl, x, (j : Int), c, rfl, rfl, hline, atI_nat hcj, rfl, _, congrArg V.bl deq2, ?_⟩
          by_cases h0 : c = 48
          · rw [decide_eq_true h0]
            have d1 : decide ((j : Int) + 1 < ((j + (c :: ds').length : Nat) : Int)) = decide (1 < (c :: ds').length) := decide_eq_decide.mpr (by omega)
            refine iteT ⟨_, rfl, _, rfl, _, _, rfl, rfl, _, _, rfl, rfl, _, congrArg V.bl d1, ?_⟩
            cases hl1 : decide (1 < (c :: ds').length) with
            | true =>
              refine iteT (iteT (iteT (bad ?_)))
              rw [hgd, decide_eq_true h0, hl1]
              simp
            | false =>
              refine iteF ⟨_, rfl, _, rfl, _, _, rfl, rfl, _, congrArg V.bl hneg, ?_⟩
              cases neg with
              | true =>
                refine iteT (iteT (bad ?_))
                rw [hgd, decide_eq_true h0]
                simp
              | false => exact iteF (last (by rw [hl1]; simp))
          · rw [decide_eq_false h0]
            exact iteF (iteF (last (by rw [decide_eq_false h0]; rfl)))
      refine ⟨_, rfl, _, rfl, _, x.length, rfl, ⟨hline, rfl⟩, _, _, rfl, rfl, _, rfl, ?_⟩
      rcases row_go (z := "0123456789") (x := x) (j := j) (t := t) hj ht with ⟨ho, ht2⟩ | ⟨c, hlt, hc', h⟩
      · rw [decide_eq_false (by omega : ¬ ((j + t : Nat) : Int) < ((x.length : Nat) : Int))]
        exact iteF (iteF (fin ht2))
      · rw [decide_eq_true (by omega : ((j + t : Nat) : Int) < ((x.length : Nat) : Int))]
        refine iteT ⟨_, rfl, _, rfl, x, ((j + t : Nat) : Int), c, rfl, rfl, hline, atI_nat hc', c, _, rfl, rfl, _, rfl, ?_⟩
        rcases h with ⟨hin, hlt2⟩ | ⟨hin, ht2⟩
        · rw [decide_eq_true hin]
          exact iteT ⟨_, fun σ' H'' h => h, _, rfl, _, _, rfl, rfl, _, by omega, t + 1, hlt2, rfl, rfl, rfl⟩
        · rw [decide_eq_false hin]
          exact iteF (fin ht2)
theorem ok_law_read (F : Fx K mg) (D : At K mg "_law_read" sLRead) : ∀ n : Nat, n ≤ 50 → Cal P w K mg base CX0 (n + 2) "_law_read" ["text", "at"] (spLRead n)
  | 0, _ => ok_law_read0 F D 0 1 (by decide) (cal_none 1 D fun _ _ _ _ _ _ us hl => match us, hl with | [_, _], _ => rfl) fun m h => by omega
  | n + 1, hn => ok_law_read0 F D (n + 1) (n + 2) hn (ok_law_read F D n (by omega)) fun m h => by
    have e : n = m := by omega
    rw [e]
end
end T82

set_option Elab.async false
set_option linter.all false
set_option maxRecDepth 100000
set_option maxHeartbeats 2000000
namespace T82
open PySem PySem.Spec PyProof.Rows L2 TL
/-- what a value is read as -/
def told : PyData → Option PyData
  | .str z => match read (tl z) with
    | some (e, []) => if plain 30 e then some e else none
    | _ => none
  | _ => none
theorem told_is (z : Str) : told (.str z) = match read (tl z) with
    | some (e, []) => if plain 30 e then some e else none
    | _ => none := rfl
theorem told_str {z : Str} {e : PyData} (h : read (tl z) = some (e, [])) (hp : plain 30 e = true) : told (.str z) = some e := by
  rw [told_is, h]
  show (if plain 30 e = true then some e else none) = _
  rw [if_pos hp]
theorem told_none {d : PyData} (h : told d = none) {z : Str} {e : PyData} (hz : d = .str z) (hr : read (tl z) = some (e, [])) : plain 30 e = false := by
  subst hz
  rw [told_is, hr] at h
  cases hp : plain 30 e with
  | false => rfl
  | true =>
    have h' : (if plain 30 e = true then some e else none) = none := h
    rw [if_pos hp] at h'
    cases h'
section
variable {P : Program} {w : World} {K : PySem.W.Frag} {mg : Str → Option Value} {base : Heap}
abbrev sLTold : Stmt := top 29
theorem scLTold : FnScope ["text", "error"] ["text"] (defScope sLTold) := ⟨rfl, rfl, rfl, by decide +kernel, rfl, by decide +kernel, by decide +kernel⟩
def spLTold : Sp := fun vs H Q _ => ∃ x d, vs = [x] ∧ Dv H x d ∧ (∀ z, d = .str z → z.length ≤ 20000) ∧ (∀ e, told d = some e → ∀ H' t v, Same H H' → H' t = some (.tup [.str "read", v]) → Tp H' v e → Q (.ref t) H') ∧
  (told d = none → ∀ H' t, Same H H' → H' t = some (.tup [.str "refused", .non]) → Q (.ref t) H')
theorem ok_law_told (F : Fx K mg) (E0 : Fe P K mg) (D : At K mg "_law_told" sLTold) (G : Cal P w K mg base (L2.CX P w) 67 "read_value" ["value"] (spReadValue K)) : Cal P w K mg base CX0 68 "_law_told" ["text"] spLTold := by
  have xf : XfC K (aP K) := by
    obtain ⟨fd, S, _⟩ := E0.fd
    exact ⟨E0.gaP, E0.ggP, S.ox.exC, E0.hdP⟩
  have hno : PySem.W.findIn K (.ref (aP K)) "spot" = some none := by
    obtain ⟨fd, S, _⟩ := E0.fd
    exact S.noF
  refine cal_of D scLTold (fun vs H Q E h => ?_) (fun _ _ _ _ _ _ us hl => match us, hl with | [_], _ => rfl) fun f cdv A outer s H vs Q E hr h => ⟨_, pss_one (ps_try_as (i := 1) rfl rfl scLTold.nd rfl rfl ⟨rfl, by decide, .inl E0.gP⟩ takes0 (fun W pn xe tk _ => pss_one (ps_ret (pe_tup (pa_cons pe_str (pa_cons (pe_calS tk G hr (by rfl) (pa_cons (pv 0) pa_nil)) pa_nil)))))
      (fun a oe cls d pn hz hf => pss_one (ps_ret (pe_tup (pa_cons pe_str (pa_cons (pe_xf xf hno hz hf (pv 1)) pa_nil)))))), ?_⟩
  · obtain ⟨x, d, rfl, _⟩ := h
    rfl
  · obtain ⟨x, d, rfl, hd, hz, hq, hb⟩ := h
    refine ⟨_, rfl, x, d, rfl, hd, fun z hz' => ⟨hz z hz', fun e hre hpl H' v sm hv => ?_⟩, fun hbad dd H' hdd sm hx => ?_⟩
    · refine ⟨by show 2 ≤ sizeLine; rw [sizeLine_eq]; decide, fun p hp => ?_⟩
      have sm2 : Same H' (upd H' p (.tup [.str "read", v])) := fun b o e => by
        have : b ≠ p := fun z => by rw [z, hp] at e; cases e
        rw [upd_ne this]
        exact e
      subst hz'
      exact hq e (told_str hre hpl) _ p v (sm.trans sm2) upd_same (hv.keep sm2.tups)
    · refine ⟨true, E0.eP, fun _ a ha => ?_, fun q => Bool.noConfusion q⟩
      refine ⟨_, rfl, rfl, rfl, dd, _, _, rfl, hx, rfl, by show 2 ≤ sizeLine; rw [sizeLine_eq]; decide, fun p hp => ?_⟩
      have sm2 : Same H' (upd H' p (.tup [.str "refused", .non])) := fun b o e => by
        have : b ≠ p := fun z => by rw [z, hp] at e; cases e
        rw [upd_ne this]
        exact e
      refine hb ?_ _ p (sm.trans sm2) upd_same
      cases ht : told d with
      | none => rfl
      | some e =>
        exfalso
        cases d with
        | str z =>
          unfold told at ht
          have ht' : (match read (tl z) with | some (e, []) => if plain 30 e = true then some e else none | _ => none) = some e := ht
          split at ht'
          · rename_i e' hre
            have := hbad z e' rfl hre
            rw [this] at ht'
            cases ht'
          · cases ht'
        | _ => cases ht
end
end T82

set_option Elab.async false
set_option linter.all false
set_option maxRecDepth 100000
set_option maxHeartbeats 2000000
/-! Defs that ask for the repr of tuples: their promises are kept where no repr is under way (A.guards = some []). -/
namespace T82
open PySem PySem.Spec PyProof.Rows L2
/-- as FnOk, where no repr is under way -/
structure FnG (P : Program) (w : World) (K : PySem.W.Frag) (mg : Str → Option Value) (base : Heap) (CX : CXT) (k : Nat) (f : Addr) (fd : FuncData) (ps : List Str) (sp : Sp) : Prop where
  len : ∀ vs H Q E, sp vs H Q E → vs.length = ps.length
  go : ∀ (A : Around) (outer : List Env) (s : Shared) (H : Hp) (args : Args) (us : List Value) (vs : List V) (Q : VK) (E : XK), A.guards = some [] → Room k A →
    Env0 P w K mg base A outer s H → BindsTo s fd args (ps.zip us) → Vals vs us → sp vs H Q E → codeAny (model P w) A (.call (.ref f) args) (CR CX outer P w H s Q E) s
theorem fnG_of {CX : CXT} {P : Program} {w : World} {K : PySem.W.Frag} {mg : Str → Option Value} {base : Heap} {k : Nat} {f : Addr} {x : Str} {st : Stmt} {fd : FuncData} {N ps : List Str} {sp : Sp} (D : FnP K x x st f fd) (S : FnScope N ps (defScope st))
    (len : ∀ vs H Q E, sp vs H Q E → vs.length = ps.length)
    (hbody : ∀ (cdv : Value) (A : Around) (outer : List Env) (s : Shared) (H : Hp) (vs : List V) (Q : VK) (E : XK), A.guards = some [] → Room k (A.deeper (envOfC x (defScope st) s.heap.objs.size f cdv)) → sp vs H Q E →
      ∃ t, PSs (cxOf CX P w K mg base N x (defScope st) f cdv A outer s H E) (defBody st) t ∧ t { nx := fun _ H' => Q .non H', rt := Q } (start N vs) H) : FnG P w K mg base CX (k + 1) f fd ps sp := by
  obtain ⟨oc, od, dV, kV, doc, pm, an, cdv, ct, osl, rfl, lk, hcd, _, _⟩ := D.ex
  refine ⟨len, ?_⟩
  intro A outer s H args us vs Q E gA hr e0 hb r hsp
  have nv := len _ _ _ _ hsp
  have inK : K.In s.heap := e0.mod.kin.keeps fun b o z => (e0.bs b o z).1
  have nol : s.heap.NoLimit := e0.mod.nolimit.keeps fun b o z => (e0.bs b o z).1
  have kinds : ∀ y ∈ ps.zip us, (defScope st).names.lookup y.1 = some .local ∨ ((defScope st).names.lookup y.1 = some .cell ∧ ((cellsFrom (s.heap.objs.size + 1) (defScope st).names []).lookup y.1).isSome = true) := by
    intro y hy
    obtain ⟨n, v⟩ := y
    rcases S.par n (List.of_mem_zip hy).1 with z | z
    · exact Or.inl z
    · exact Or.inr ⟨z, PySem.W.cellsFrom_some _ _ _ (Or.inl z)⟩
  refine codeAny_call_function hr.depth (inK _ _ lk) rfl S.co S.gen rfl (PySem.W.codeRec_of inK hcd) (hb _ _ _ _ ?_)
  refine wpAny_newFunctionEnv_cells S.kind kinds fun env he s1 c1 => ?_
  subst he
  refine ⟨nol.keeps c1.toInCall.keep, codeAny_func ?_⟩
  obtain ⟨t, ht, hq⟩ := hbody cdv A outer s H vs Q E gA (hr.deeper _) hsp
  have I0 := inv_start (CX := CX) (E := E) S hr.hd e0 nv r c1
  refine wpAny_mono (ht.run [] s1 _ H _ I0 hq) (fun fl s' z => ?_) fun _ _ z => z
  cases fl with
  | ret u =>
    obtain ⟨v, τ, H', J, rv, q⟩ := z
    exact ⟨v, H', J.os, J.bare, J.base, J.hok, rv, q⟩
  | next =>
    obtain ⟨τ, H', J, q⟩ := z
    exact ⟨V.non, H', J.os, J.bare, J.base, J.hok, rfl, q⟩
  | brk => exact z.elim fun _ z => z.elim fun _ z => z.2.elim
  | cont => exact z.elim fun _ z => z.elim fun _ z => z.2.elim
structure CalG (P : Program) (w : World) (K : PySem.W.Frag) (mg : Str → Option Value) (base : Heap) (CX : CXT) (k : Nat) (x : Str) (ps : List Str) (sp : Sp) : Prop where
  ex : ∃ f fd, mg x = some (.ref f) ∧ PySem.W.keepIn K (.ref f) = true ∧ Binds K fd ps [] ∧ FnG P w K mg base CX k f fd ps sp
  own : ∀ f fd, mg x = some (.ref f) → (∃ oc od osl, K.lookup f = some ⟨oc, od, .func fd, osl⟩) → FnG P w K mg base CX k f fd ps sp
theorem calG_of {P : Program} {w : World} {K : PySem.W.Frag} {mg : Str → Option Value} {base : Heap} {CX : CXT} {x : Str} {st : Stmt} {N ps : List Str} {k : Nat} {sp : Sp} (F : At K mg x st) (S : FnScope N ps (defScope st)) (len : ∀ vs H Q E, sp vs H Q E → vs.length = ps.length)
    (hb : ∀ (kV doc pm : Value) (an : Option Addr) (cdv ct : Value) (us : List Value), us.length = ps.length → bindArgs (PySem.W.fnOf x x (defArgs st) (defBody st) (defScope st) .none kV doc pm an cdv ct) ⟨us, []⟩ = pure (ps.zip us))
    (hbody : ∀ (f : Addr) (cdv : Value) (A : Around) (outer : List Env) (s : Shared) (H : Hp) (vs : List V) (Q : VK) (E : XK), A.guards = some [] → Room k (A.deeper (envOfC x (defScope st) s.heap.objs.size f cdv)) → sp vs H Q E →
      ∃ t, PSs (cxOf CX P w K mg base N x (defScope st) f cdv A outer s H E) (defBody st) t ∧ t { nx := fun _ H' => Q .non H', rt := Q } (start N vs) H) : CalG P w K mg base CX (k + 1) x ps sp := by
  obtain ⟨f, fd, hm, D⟩ := F.ex
  have G := fnG_of (P := P) (w := w) (mg := mg) (base := base) (CX := CX) D S len fun cdv A outer s H vs Q E g hr h => hbody f cdv A outer s H vs Q E g hr h
  refine ⟨⟨f, fd, hm, D.kp, D.bindsN hb, G⟩, fun f2 fd2 h2 ⟨oc, od, osl, l2⟩ => ?_⟩
  obtain ⟨oc1, od1, dV, kV, doc, pm, an, cdv, ct, osl1, e1, l1, _⟩ := D.ex
  have e3 := hm.symm.trans h2
  cases e3
  have e4 := l1.symm.trans l2
  cases e4
  exact G
section
variable {X : Cx} {k : Nat} {x : Str} {ps : List Str} {sp : Sp} {e : Expr} {es : List Expr} {t : TA} {p pos : Pos}
theorem pe_calG (C : CalG X.prog X.w X.K X.mg X.base CX0 k x ps sp) (gA : X.A.guards = some []) (hr : Room k X.A) (hg : Gl X x) (ha : PA X (e :: es) t) (hdb : (x == ("__debug__" : Str)) = false := by decide)
    (he : starEach (e :: es) X.env = (false, eval e X.env) :: starEach es X.env := by rfl) (hpl : (backTo pos (starEach es X.env)).any (·.1) = false := by rfl) : PE X (.Call (.Name x p) (e :: es) [] pos) (tCall sp [] E0 t) := by
  obtain ⟨f, fd, hm, hk, hb, Ff⟩ := C.ex
  refine ⟨fun pins s σ H Q I h => ?_⟩
  refine wpAny_Call_Name_kw (ld_glob I hg hm ?_ hdb)
  refine PySem.W.callWith_K (h₀ := X.base) I.ok.mod.kin hk (thn (ha.run pos pins s σ H _ I h) fun us s1 ⟨vs, H1, I1, r, q⟩ => ⟨I1.kIn, ?_⟩) he hpl
  have q2 : sp vs H1 Q E0 := by
    have q' : sp (vs ++ []) H1 Q E0 := q
    rw [List.append_nil] at q'
    exact q'
  have nl : us.length = ps.length := by
    rw [← r.length]
    exact Ff.len _ _ _ _ q2
  have bb := hb s1 us I1.kIn (by rw [List.append_nil]; exact nl)
  rw [List.append_nil] at bb
  refine wpAny_call (codeAny_mono (Ff.go X.A X.stack s1 H1 ⟨us, []⟩ us vs Q E0 gA hr I1.env0 bb r q2) fun res s2 z => ?_)
  cases res with
  | error er => exact False.elim z
  | ok fl =>
    cases fl with
    | next => exact False.elim z
    | brk => exact False.elim z
    | cont => exact False.elim z
    | ret u => exact I1.after z
/-- repr of data that stands at an address -/
theorem call_reprD (gA : X.A.guards = some []) (hu : X.A.units + 64 < cLine) : CallR X (.builtin "repr") (fun xs H Q => ∃ a d, xs = [.ref a] ∧ Dp X.K H (.ref a) d ∧ d.showable = true ∧ d.hasDict = false ∧ d.depth ≤ 62 ∧ d.shown.length ≤ sizeLine ∧ Q (.str d.shown) H) := by
  intro pins s σ H xs us Q I r h
  obtain ⟨a, d, rfl, hd, hs, hnd, hdep, hsz, q⟩ := h
  obtain ⟨u, rfl, ru⟩ := vals1 r
  cases (show u = Value.ref a from ru)
  obtain ⟨as, rd⟩ := Dp.reads I d (.ref a) (.ref a) hd rfl
  exact repr_of_reads' rd hs (PyData.noDict_hsm hnd) gA (by omega) (fun _ _ z => z) (fun h' u tk hk => ⟨.str d.shown, H, I.kept hk, ⟨u, rfl⟩, q⟩) hsz
end
/-! ### the law's own call -/
/-- the law's promise, over a heap of which H tracks at most the script -/
theorem law_core {P : Program} {w : World} {K : PySem.W.Frag} {mg mb : Str → Option Value} {k : Nat} {fa a : Addr} {fd : FuncData} {x : Str} {sp : Sp} {s : Shared} {vs : List Value} {H : Hp}
    (KX : K.In s.heap) (hns : s.heap.Ns mainGlobals mg) (hbl : s.heap.Ns builtinsNs mb) (hbb : ∀ y : Str, y ≠ "__name__" → mb y = bootBuiltins y) (hlim : s.heap.NoLimit) (hgen : s.gens = #[])
    (ho : s.heap.get? a = some { cls := .type "list", data := .seq vs.toArray }) (hr : Room k callerA) (F : ∀ base : Heap, K.In base → base.Ns mainGlobals mg → FnG P w K mg base CX0 k fa fd [x] sp)
    (hbind : ∀ (s : Shared) (u : Value), BindsTo s fd ⟨[u], []⟩ [(x, u)]) (hsp : sp [.ref a] H (fun v _ => v = .bl true) fun _ _ _ => False) (hO : Only H) (hok : HOk P w H s.heap) (one : ∀ b, b ≠ a → H b = none) (noK : H a = none ∨ K.lookup a = none) :
    codeAny (model P w) callerA (.call (.ref fa) ⟨[.ref a], []⟩) (fun r s' => r = .ok (.ret (.bool true)) ∧ OldK s.heap s'.heap ∧ s'.os = s.os ∧ AllBare s'.gens) s := by
  have dicts : ∀ {b : Addr} {m : Str → Option Value}, s.heap.Ns b m → (hidT s.heap H).Ns b m := by
    intro b m ⟨ob, es, ep, e1, e2, e3⟩
    refine ⟨ob, es, ep, hidT_get e1 (one b fun z => ?_), e2, e3⟩
    rw [z, ho] at e1
    cases e1
    cases (show Data.seq vs.toArray _ = Data.dict es ep from e2)
  have inB : K.In (hidT s.heap H) := by
    intro b o hb
    refine hidT_get (KX b o hb) ?_
    by_cases hba : b = a
    · rcases noK with z | z
      · rw [hba]
        exact z
      · rw [hba, z] at hb
        cases hb
    · exact one b hba
  have md : Mod K mg (hidT s.heap H) := by
    refine ⟨inB, dicts hns, ⟨mb, dicts hbl, hbb⟩, ?_⟩
    obtain ⟨mc, l1, l2⟩ := hlim
    exact ⟨mc, dicts l1, l2⟩
  have ev : Env0 P w K mg (hidT s.heap H) callerA [] s H := {
    frames := rfl
    mod := md
    bs := fun b o z => of_hidT z
    bsz := Nat.le_of_eq (hidT_size _ _)
    funs := trivial
    frf := fun b z => by cases z
    hok := hok
    bare := .of_eq hgen }
  refine codeAny_mono ((F _ inB (dicts hns)).go callerA [] s H ⟨[.ref a], []⟩ [.ref a] [.ref a] _ _ rfl hr ev (hbind s (.ref a)) (.cons rfl .nil) hsp) fun r s' z => ?_
  cases r with
  | error e => exact z.elim
  | ok fl =>
    cases fl with
    | next => exact z.elim
    | brk => exact z.elim
    | cont => exact z.elim
    | ret u =>
      obtain ⟨v, H', hos, hbare, hun, hok', hv, rfl⟩ := z
      cases (show u = Value.bool true from hv)
      refine ⟨rfl, OldK.of_keep fun b o hb => ?_, hos, hbare⟩
      rcases hO b with n | ⟨ob, xs, n⟩
      · exact hun.keep b o hb n (fun y => by cases y) (fun y => by cases y)
      · obtain ⟨o1, _⟩ := hok b _ n
        obtain ⟨o2, _⟩ := hok' b _ (hun.frzs b ob _ n)
        rw [hb] at o1
        cases o1
        exact o2
theorem walk_ofG {l : PySem.W.OpenLaw} {n k : Nat} {q : Program} {loose : List Str} {XP : (Str → Option Value) → Heap → Prop} {YP : World → Heap → Prop} {d : DefRec} {x : Str} (hn : l.most = some n) (hn2 : n ≤ sizeLine) (hdf : d.params.defaults = []) (hr : Room k callerA)
    (F : ∀ (w : World) (mg : Str → Option Value) (fa : Addr) (h : Heap), YP w h → h.Ns mainGlobals mg → mg d.name = some (.ref fa) → ∃ (K : PySem.W.Frag) (fd : FuncData) (sp : Sp), K.In h ∧ (∀ (s : Shared) (u : Value), BindsTo s fd ⟨[u], []⟩ [(x, u)]) ∧
      (∀ (H : Hp) (a : Addr) (ns : List Int), ns.length ≤ n → SqL K H a (ns.map V.int) → sp [.ref a] H (fun v _ => v = .bl true) fun _ _ _ => False) ∧ ∀ base : Heap, K.In base → base.Ns mainGlobals mg → FnG l.prog w K mg base CX0 k fa fd [x] sp) :
    PySem.W.WalkO q loose XP YP l.row.toRowW d [] (fun f vs => PySem.call f vs) := by
  refine Att.attach_call hn hdf ?_
  intro w s₀ s mg mb fa o pm cd doc a vs ns G Y _ _ _ hmg hobj hints hlen hgen
  obtain ⟨K, fd, sp, KX, hb, hsp, hF⟩ := F w mg fa _ Y G.T.g hmg
  have rv := vals_ints hints
  have hl : ns.length ≤ sizeLine := Nat.le_trans hlen hn2
  cases hk : K.lookup a with
  | some ob =>
    have e := KX a ob hk
    rw [hobj] at e
    cases e
    have nl := hints.length
    refine law_core (H := fun _ => none) KX G.T.g G.T.b G.T.builtins G.T.nolimit hgen hobj hr hF hb (hsp _ a ns hlen (.inr ⟨_, vs.toArray, _, hk, rfl, rfl, rfl, by rw [List.size_toArray, nl]; exact hl, by simpa using rv⟩)) (fun _ => .inl rfl) (fun b u z => by cases z) (fun _ _ => rfl) (.inl rfl)
  | none =>
    let H : Hp := fun b => if b = a then some (.frz { cls := .type "list", data := .seq vs.toArray } (.lst (ns.map V.int))) else none
    have hH : H a = some (.frz { cls := .type "list", data := .seq vs.toArray } (.lst (ns.map V.int))) := if_pos rfl
    have hN : ∀ b, b ≠ a → H b = none := fun b hb => if_neg hb
    refine law_core (H := H) KX G.T.g G.T.b G.T.builtins G.T.nolimit hgen hobj hr hF hb (hsp H a ns hlen (.inl (.inr ⟨_, hH⟩))) (fun b => ?_) (fun b u z => ?_) hN (.inr hk)
    · by_cases hb : b = a
      · rw [hb]
        exact .inr ⟨_, _, hH⟩
      · exact .inl (hN b hb)
    · by_cases hb : b = a
      · rw [hb, hH] at z
        cases z
        rw [hb]
        exact ⟨hobj, by rw [List.length_map]; exact hl, vs, _, rv, hobj⟩
      · rw [hN b hb] at z
        cases z
end T82

set_option Elab.async false
set_option linter.all false
set_option maxRecDepth 100000
set_option maxHeartbeats 2000000
namespace T82
open PySem PySem.Spec PyProof.Rows L2 TL
mutual
theorem parse_okS : ∀ (f : Nat) {s r : List Nat} {d : PyData}, parse f s = some (d, r) → s.length ≤ 16777216 → okS d = true
  | 0, s, r, d, h, _ => by rw [parse] at h; cases h
  | f + 1, s, r, d, h, hl => by
    rw [parse] at h
    split at h
    · cases h
      rw [okS]
    · split at h
      · rename_i h34
        obtain ⟨h1, h2⟩ := sfx_tail h34
        obtain ⟨x, rfl, e, hs⟩ := readStr_is h
        rw [okS]
        have l := congrArg List.length e
        rw [List.length_append, ← len_tl] at l
        have := h1.lt
        exact decide_eq_true (by omega)
      · split at h
        · rename_i h40
          obtain ⟨h1, h2⟩ := sfx_tail h40
          cases e : members f true s.tail with
          | none => rw [e] at h; cases h
          | some p =>
            rw [e] at h
            obtain ⟨ds, q⟩ := p
            cases h
            have := h1.lt
            obtain ⟨k1, k2⟩ := members_okS f e (by omega)
            have k3 : ds.length ≤ 16777216 := by omega
            rw [okS, k1, Bool.and_true]
            exact decide_eq_true k3
        · obtain ⟨neg, x, ds, rfl, e, ha, hg, hx⟩ := readWhole_is h
          rw [okS]
theorem members_okS : ∀ (f : Nat) {b : Bool} {s r : List Nat} {ds : List PyData}, members f b s = some (ds, r) → s.length ≤ 16777216 → okSAll ds = true ∧ ds.length ≤ s.length
  | 0, b, s, r, d, h, _ => by rw [members] at h; cases h
  | f + 1, b, s, r, ds0, h, hl => by
    rw [members] at h
    split at h
    · cases h
      exact ⟨by rw [okSAll], Nat.zero_le _⟩
    · split at h
      · cases h
      · have hb : (if b then s else s.tail).length ≤ s.length := by
          cases b with
          | true => exact Nat.le_refl _
          | false => simp
        split at h
        · cases h
        · rename_i d1 r1 e1
          have k1 := parse_okS f e1 (by omega)
          have k2 := (parse_sfx f e1).lt
          cases e : members f false r1 with
          | none => rw [e] at h; cases h
          | some p =>
            rw [e] at h
            obtain ⟨es, q⟩ := p
            cases h
            obtain ⟨k3, k4⟩ := members_okS f e (by omega)
            refine ⟨by rw [okSAll, k1, k3]; rfl, ?_⟩
            show es.length + 1 ≤ s.length
            omega
end
theorem read_okS {s r : List Nat} {d : PyData} (h : read s = some (d, r)) (hl : s.length ≤ 16777216) : okS d = true := parse_okS _ h hl
theorem nodict_plain (d : PyData) (n : Nat) (h : plain n d = true) : d.hasDict = false := PyData.hasDict_of_canLay d (lay_plain d n h)
/-- what may be shown -/
structure Sh (d : PyData) : Prop where
  s : d.showable = true
  l : d.shown.length ≤ 1000000
structure ShT (d : PyData) : Prop where
  s : d.showable = true
  n : d.hasDict = false
  dep : d.depth ≤ 62
  l : d.shown.length ≤ sizeLine
theorem sht_read {d : PyData} (h : Sh d) (hp : plain 30 d = true) : ShT (.tuple [.str "read", d]) := by
  have hd := depth_plain d 30 hp
  refine ⟨?_, ?_, ?_, ?_⟩
  · rw [PyData.showable, PyData.showableAll, PyData.showableAll, PyData.showableAll, PyData.showable, h.s]
    rfl
  · rw [PyData.hasDict, PyData.hasDictAll, PyData.hasDictAll, PyData.hasDictAll, nodict_plain d 30 hp, PyData.hasDict]
    rfl
  · rw [PyData.depth, PyData.depthAll, PyData.depthAll, PyData.depthAll, PyData.depth]
    omega
  · rw [PyData.shown, PyData.shownAll, PyData.shownAll, PyData.shownAll, PyData.shown, sizeLine_eq]
    refine Nat.le_trans (tupText_len _) ?_
    have e : (reprText "read").length = 6 := by decide +kernel
    have := h.l
    simp only [List.map_cons, List.map_nil, List.sum_cons, List.sum_nil, List.length_cons, List.length_nil, e]
    omega
theorem sht_refused : ShT (.tuple [.str "refused", .none]) := by
  refine ⟨?_, ?_, ?_, ?_⟩
  · rw [PyData.showable, PyData.showableAll, PyData.showableAll, PyData.showableAll, PyData.showable, PyData.showable]
    rfl
  · rw [PyData.hasDict, PyData.hasDictAll, PyData.hasDictAll, PyData.hasDictAll, PyData.hasDict, PyData.hasDict]
    rfl
  · rw [PyData.depth, PyData.depthAll, PyData.depthAll, PyData.depthAll, PyData.depth, PyData.depth]
    decide
  · rw [PyData.shown, PyData.shownAll, PyData.shownAll, PyData.shownAll, PyData.shown, PyData.shown, sizeLine_eq]
    refine Nat.le_trans (tupText_len _) ?_
    decide +kernel
section
variable {P : Program} {w : World} {K : PySem.W.Frag} {mg : Str → Option Value} {base : Heap}
abbrev sLRR : Stmt := top 30
theorem scLRR : FnScope ["text", "told", "due"] ["text"] (defScope sLRR) := ⟨rfl, rfl, rfl, by decide +kernel, rfl, by decide +kernel, by decide +kernel⟩
def spLRR : Sp := fun vs H Q _ => ∃ x : Str, vs = [.str x] ∧ x.length ≤ 20000 ∧ op (tl x) ≤ 45 ∧ (∀ d, read (tl x) = some (d, []) → plain 30 d = true → Sh d) ∧ ∀ H', Same H H' → Q (.bl true) H'
theorem ok_law_rr (F : Fx K mg) (D : At K mg "_law_read_right" sLRR) (G1 : Cal P w K mg base CX0 47 "_law_read" ["text", "at"] (spLRead 45)) (G2 : Cal P w K mg base CX0 32 "_law_is_plain" ["value", "deep"] (spPlainIn 30)) (G3 : Cal P w K mg base CX0 68 "_law_told" ["text"] spLTold) :
    CalG P w K mg base CX0 69 "_law_read_right" ["text"] spLRR := by
  refine calG_of D scLRR (fun vs H Q E h => ?_) (fun _ _ _ _ _ _ us hl => match us, hl with | [_], _ => rfl) fun f cdv A outer s H vs Q E gA hr h => ⟨_, PSs.nox (pss_cons (ps_set (i := 1) scLRR.nd rfl (Or.inl rfl) (pe_cal G1 (hr.mono (by decide)) (by rfl) pass0 (pa_cons (pv 0) (pa_cons pe_int pa_nil))))
    (pss_cons (ps_set (i := 2) scLRR.nd rfl (Or.inl rfl) (pe_tup (pa_cons pe_str (pa_cons pe_non pa_nil))))
    (pss_cons (ps_if ((pw_and (pt_cmpR op_notN (pv 1) pe_non (nomark _)) (pw_and (pt_cmpR op_eq (pe_ix ix_tup (pv 1) pe_int (fun _ _ => rfl)) (pe_callB call_len (by rfl) F.b_len boot_len (pa_cons (pv 0) pa_nil)) (nomark _))
        (pw_and1 (pt_val (pe_cal G2 (hr.mono (by decide)) (by rfl) pass0 (pa_cons (pe_ix ix_tup (pv 1) pe_int (fun _ _ => rfl)) (pa_cons pe_int pa_nil))))))).pt)
      (pss_one (ps_set (i := 2) scLRR.nd rfl (Or.inl rfl) (pe_tup (pa_cons pe_str (pa_cons (pe_ix ix_tup (pv 1) pe_int (fun _ _ => rfl)) pa_nil))))) pss_nil)
    (pss_one (ps_ret (pe_cmpR op_eq (pe_callB (call_reprD gA hr.units) (by rfl) F.b_repr (by decide +kernel) (pa_cons (pe_cal G3 hr (by rfl) pass0 (pa_cons (pv 0) pa_nil)) pa_nil)) (pe_callB (call_reprD gA hr.units) (by rfl) F.b_repr (by decide +kernel) (pa_cons (pv 2) pa_nil)) (nomark _))))))), ?_⟩
  · obtain ⟨x, rfl, _⟩ := h
    rfl
  · obtain ⟨x, rfl, hx, hop, hsh, hq⟩ := h
    have hline : x.length ≤ sizeLine := by
      rw [sizeLine_eq]
      omega
    have l0 : lft x 0 = tl x := List.drop_zero
    -- the end: told is the text's, due is shown like it
    have fin : ∀ (u1 : Option V) (p : Addr) (due : PyData) (H1 : Hp), Same H H1 → Tp H1 (.ref p) due → ShT due → (match told (.str x) with | some e => due = .tuple [.str "read", e] | none => due = .tuple [.str "refused", .none]) →
        tRet (tOp rEq (tCB (fun xs H Q => ∃ a d, xs = [V.ref a] ∧ Dp K H (.ref a) d ∧ d.showable = true ∧ d.hasDict = false ∧ d.depth ≤ 62 ∧ d.shown.length ≤ sizeLine ∧ Q (.str d.shown) H) (tCons (tCall spLTold [] E0 (tCons (tVar 0) tNil)) tNil))
          (tCB (fun xs H Q => ∃ a d, xs = [V.ref a] ∧ Dp K H (.ref a) d ∧ d.showable = true ∧ d.hasDict = false ∧ d.depth ≤ 62 ∧ d.shown.length ≤ sizeLine ∧ Q (.str d.shown) H) (tCons (tVar 2) tNil)))
          { nx := fun _ H' => Q .non H', rt := Q } [some (.str x), u1, some (.ref p)] H1 := by
      intro u1 p due H1 sm hp hsd hdue
      have out : ∀ (t : Addr) (H2 : Hp), Same H1 H2 → Tp H2 (.ref t) due → ∃ a d, [V.ref t] = [V.ref a] ∧ Dp K H2 (.ref a) d ∧ d.showable = true ∧ d.hasDict = false ∧ d.depth ≤ 62 ∧ d.shown.length ≤ sizeLine ∧
          tCB (fun xs H Q => ∃ a d, xs = [V.ref a] ∧ Dp K H (.ref a) d ∧ d.showable = true ∧ d.hasDict = false ∧ d.depth ≤ 62 ∧ d.shown.length ≤ sizeLine ∧ Q (.str d.shown) H) (tCons (tVar 2) tNil) [some (.str x), u1, some (.ref p)] H2 (fun y H3 => rEq (.str d.shown) y H3 Q) := by
        intro t H2 s2 ht
        refine ⟨t, due, rfl, ht.dp, hsd.s, hsd.n, hsd.dep, hsd.l, _, rfl, p, due, rfl, (hp.keep s2.tups).dp, hsd.s, hsd.n, hsd.dep, hsd.l, rfl, ?_⟩
        rw [show decide (V.str due.shown = V.str due.shown) = true from decide_eq_true rfl]
        exact hq H2 (sm.trans s2)
      refine ⟨_, rfl, .str x, .str x, rfl, .tp (.str x), fun z hz => by injection hz with hz; rw [← hz]; exact hx, fun e he H2 t v s2 ht hv => ?_, fun hn H2 t s2 ht => ?_⟩
      · rw [he] at hdue
        exact out t H2 s2 (by rw [hdue]; exact .tup ht (.cons (.str _) (.cons hv .nil)))
      · rw [hn] at hdue
        exact out t H2 s2 (by rw [hdue]; exact .tup ht (.cons (.str _) (.cons .non .nil)))
    have refused : told (.str x) = none → ∀ (u1 : Option V) (p : Addr) (H1 : Hp), Same H H1 → H1 p = some (.tup [.str "refused", .non]) → _ := fun hn u1 p H1 sm hp => fin u1 p _ H1 sm (.tup hp (.cons (.str _) (.cons .non .nil))) sht_refused (by rw [hn])
    have lay : ∀ {H1 : Hp} {p : Addr} {o : HO}, H1 p = none → Same H1 (upd H1 p o) := fun {H1 p o} hp b u e => by
      have : b ≠ p := fun z => by rw [z, hp] at e; cases e
      rw [upd_ne this]
      exact e
    refine ⟨_, rfl, x, 0, rfl, Nat.zero_le _, hx, by rw [l0]; exact hop, fun d r hrd H1 t v s1 ht hv => ?_, fun hrd H1 s1 => ?_⟩
    · rw [l0] at hrd
      have hrl : r.length < x.length := by
        have := (read_sfx hrd).lt
        rw [← len_tl] at this
        exact this
      refine ⟨by show 2 ≤ sizeLine; rw [sizeLine_eq]; decide, fun p hp => ?_⟩
      have s2 : Same H1 (upd H1 p (.tup [.str "refused", .non])) := lay hp
      refine ⟨_, rfl, rfl, _, rfl, ?_⟩
      rw [show (!decide (V.ref t = V.non)) = true from rfl]
      refine iteT ⟨_, rfl, t, _, (1 : Int), _, rfl, rfl, SqT.of (s2 _ _ ht), atI_nat (j := 1) rfl, _, rfl, _, x.length, rfl, ⟨hline, rfl⟩, rfl, _, rfl, ?_⟩
      by_cases hr0 : r = []
      · subst hr0
        rw [show decide (V.int ((x.length - ([] : List Nat).length : Nat) : Int) = V.int ((x.length : Nat) : Int)) = true from decide_eq_true rfl]
        refine iteT ⟨_, rfl, t, _, (0 : Int), v, rfl, rfl, SqT.of (s2 _ _ ht), atI_nat (j := 0) rfl, v, d, rfl, .tp (hv.keep s2.tups), read_okS hrd (by rw [← len_tl]; omega), fun H2 s3 => ⟨_, rfl, ?_⟩⟩
        cases hpl : plain 30 d with
        | true =>
          refine iteT ⟨_, rfl, t, _, (0 : Int), v, rfl, rfl, SqT.of (s3 _ _ (s2 _ _ ht)), atI_nat (j := 0) rfl, by show 2 ≤ sizeLine; rw [sizeLine_eq]; decide, fun p2 hp2 => ?_⟩
          have s4 : Same H2 (upd H2 p2 (.tup [.str "read", v])) := lay hp2
          refine fin _ p2 _ _ (s1.trans (s2.trans (s3.trans s4))) (.tup upd_same (.cons (.str _) (.cons (hv.keep (s2.trans (s3.trans s4)).tups) .nil))) (sht_read (hsh d hrd hpl) hpl) ?_
          rw [told_str hrd hpl]
        | false =>
          refine iteF (refused ?_ _ p H2 (s1.trans (s2.trans s3)) (s3 _ _ upd_same))
          rw [told_is, hrd]
          show (if plain 30 d = true then some d else none) = none
          rw [hpl]
          rfl
      · have hpos : 0 < r.length := List.length_pos_iff.mpr hr0
        rw [show decide (V.int ((x.length - r.length : Nat) : Int) = V.int ((x.length : Nat) : Int)) = false from decide_eq_false (fun z => by injection z with z; omega)]
        refine iteF (iteF (refused ?_ _ p _ (s1.trans s2) upd_same))
        rw [told_is, hrd]
        cases r with
        | nil => exact absurd rfl hr0
        | cons _ _ => rfl
    · rw [l0] at hrd
      refine ⟨by show 2 ≤ sizeLine; rw [sizeLine_eq]; decide, fun p hp => ?_⟩
      refine ⟨_, rfl, rfl, _, rfl, ?_⟩
      rw [show (!decide (V.non = V.non)) = false from rfl]
      refine iteF (iteF (refused ?_ _ p _ (s1.trans (lay hp)) upd_same))
      rw [told_is, hrd]
end
end T82

set_option Elab.async false
set_option linter.all false
set_option maxRecDepth 100000
set_option maxHeartbeats 2000000
namespace T82
open PySem PySem.Spec PyProof.Rows L2 TL
/-- repr of data -/
def rReprX (K : PySem.W.Frag) : List V → Hp → VK → Prop := fun xs H Q => ∃ v d, xs = [v] ∧ Dp K H v d ∧ ShT d ∧ Q (.str d.shown) H
theorem call_reprX {X : Cx} (gA : X.A.guards = some []) (hu : X.A.units + 64 < cLine) : CallR X (.builtin "repr") (rReprX X.K) := by
  intro pins s σ H xs us Q I r h
  obtain ⟨v, d, rfl, hd, hs, q⟩ := h
  have r0 := r
  obtain ⟨u, rfl, ru⟩ := vals1 r
  have tuple : ∀ {a : Addr}, Dp X.K H (.ref a) d → Vals [V.ref a] [u] → wpAny (model X.prog X.w) X.A (call (.builtin "repr") [u]) (EP X pins σ Q) X.xe s := fun {a} hd r => call_reprD gA hu pins s σ H [.ref a] [u] Q I r ⟨a, d, rfl, hd, hs.s, hs.n, hs.dep, hs.l, q⟩
  cases hd with
  | non =>
    cases (show u = Value.none from ru)
    rw [PyData.shown] at q
    exact PySem.P.repr_of_none ⟨.str "None", H, I.tok _, ⟨_, rfl⟩, q⟩
  | bl b =>
    cases (show u = Value.bool b from ru)
    rw [PyData.shown] at q
    exact PySem.P.repr_of_bool ⟨.str _, H, I.tok _, ⟨_, rfl⟩, q⟩
  | int i =>
    obtain ⟨t, rfl⟩ := (show ∃ t, u = Value.int i t from ru)
    have h1 := hs.s
    rw [PyData.showable] at h1
    rw [PyData.shown] at q
    exact PySem.P.repr_of_int (of_decide_eq_true h1) ⟨.str _, H, I.tok _, ⟨_, rfl⟩, q⟩
  | str x =>
    obtain ⟨t, rfl⟩ := (show ∃ t, u = Value.str x t from ru)
    have h1 := hs.l
    rw [PyData.shown] at h1 q
    exact PySem.P.repr_of_str ⟨.str _, H, I.tok _, ⟨_, rfl⟩, q⟩ h1
  | lst h k => exact tuple (.lst h k) r0
  | tup h k => exact tuple (.tup h k) r0
mutual
theorem show_small : ∀ (d : PyData) (k : Nat), small k d = true → d.showable = true ∧ d.shown.length ≤ 12 * (txt d).length
  | .none, k, _ => by
    rw [PyData.showable, PyData.shown, txt]
    exact ⟨rfl, by decide⟩
  | .int i, k, h => by
    rw [small] at h
    have h2 := of_decide_eq_true h
    rw [PyData.showable, PyData.shown, txt]
    refine ⟨decide_eq_true (log_of (Nat.lt_of_le_of_lt h2 (Nat.pow_lt_pow_right (by decide) (by decide)))), ?_⟩
    rw [len_tl, tl_int]
    omega
  | .str x, k, h => by
    rw [small, Bool.and_eq_true] at h
    rw [PyData.showable, PyData.shown, txt]
    refine ⟨rfl, Nat.le_trans (str_shown h.2) ?_⟩
    simp only [List.length_cons, List.length_append, List.length_nil]
    rw [← len_tl]
    omega
  | .tuple ds, k, h => by
    rw [small, Bool.and_eq_true, Bool.and_eq_true] at h
    obtain ⟨h1, h2⟩ := showAll_small ds (k - 1) h.2.2
    rw [PyData.showable, PyData.shown, txt]
    refine ⟨h1, Nat.le_trans (tupText_len _) ?_⟩
    have h3 := joinL_sum_le (txtAll ds)
    have h4 := shownAll_len ds
    have h5 : (txtAll ds).length = ds.length := by rw [txtAll_map, List.length_map]
    simp only [List.length_cons, List.length_append, List.length_nil]
    omega
  | .bool _, k, h => by rw [small] at h; cases h
  | .list _, k, h => by rw [small] at h; cases h
  | .dict _, k, h => by rw [small] at h; cases h
theorem showAll_small : ∀ (ds : List PyData) (k : Nat), smallAll k ds = true → PyData.showableAll ds = true ∧ ((PyData.shownAll ds).map Str.length).sum ≤ 12 * ((txtAll ds).map List.length).sum
  | [], k, _ => by
    rw [PyData.showableAll, PyData.shownAll, txtAll]
    exact ⟨rfl, by simp⟩
  | d :: ds, k, h => by
    rw [smallAll, Bool.and_eq_true] at h
    obtain ⟨h1, h2⟩ := show_small d k h.1
    obtain ⟨h3, h4⟩ := showAll_small ds k h.2
    rw [PyData.showableAll, PyData.shownAll, txtAll, h1, h3]
    refine ⟨rfl, ?_⟩
    rw [List.map_cons, List.sum_cons, List.map_cons, List.sum_cons]
    omega
end
theorem sht_small {d : PyData} (h : small 4 d = true) : ShT d := by
  have hp := plain_small d 4 30 h (by decide)
  have hd := depth_plain d 30 hp
  obtain ⟨h1, h2⟩ := show_small d 4 h
  have h3 := len_small d 4 h
  rw [bnd4] at h3
  exact ⟨h1, nodict_plain d 30 hp, by omega, by rw [sizeLine_eq]; omega⟩
theorem sh_got {x : List Nat} {d : PyData} {r : List Nat} (hr : run 129 x) (hx : x.length ≤ 20000) (h : read x = some (d, r)) : Sh d := by
  have g := read_got hr h
  have := g.len
  exact ⟨g.show_, by omega⟩
mutual
theorem okS_small : ∀ (d : PyData) (k : Nat), small k d = true → okS d = true
  | .none, k, _ => by rw [okS]
  | .int i, k, h => by rw [okS]
  | .str x, k, h => by
    rw [small, Bool.and_eq_true] at h
    rw [okS]
    have := of_decide_eq_true h.1
    exact decide_eq_true (by omega)
  | .tuple ds, k, h => by
    rw [small, Bool.and_eq_true, Bool.and_eq_true] at h
    have := of_decide_eq_true h.2.1
    rw [okS, okSAll_small ds (k - 1) h.2.2, Bool.and_true]
    exact decide_eq_true (by omega)
  | .bool _, k, h => by rw [okS]
  | .list _, k, h => by rw [okS]
  | .dict _, k, h => by rw [okS]
theorem okSAll_small : ∀ (ds : List PyData) (k : Nat), smallAll k ds = true → okSAll ds = true
  | [], k, _ => by rw [okSAll]
  | d :: ds, k, h => by
    rw [smallAll, Bool.and_eq_true] at h
    rw [okSAll, okS_small d k h.1, okSAll_small ds k h.2]
    rfl
end
end T82

set_option Elab.async false
set_option linter.all false
set_option maxRecDepth 100000
set_option maxHeartbeats 2000000
namespace T82
open PySem PySem.Spec PyProof.Rows L2 TL
theorem tl_to {x : Str} {i : Nat} (hi : i ≤ x.length) : tl (cutS x none (some (i : Int))) = (tl x).take i := by
  unfold cutS
  rw [HT.sIx_nat, HT.sIx_none, Nat.min_eq_left hi]
  show ((tl x).drop 0).take (i - 0) = _
  rw [List.drop_zero, Nat.sub_zero]
theorem tl_from {x : Str} {i : Nat} : tl (cutS x (some (i : Int)) none) = (tl x).drop i := by
  unfold cutS
  rw [HT.sIx_nat, HT.sIx_none]
  show ((tl x).drop (min i x.length)).take (x.length - min i x.length) = _
  by_cases h : i ≤ x.length
  · rw [Nat.min_eq_left h]
    exact List.take_of_length_le (by rw [List.length_drop, ← len_tl]; omega)
  · rw [Nat.min_eq_right (by omega)]
    rw [List.drop_eq_nil_of_le (by rw [← len_tl]; omega), List.drop_eq_nil_of_le (by rw [← len_tl]; omega)]
    simp
theorem op_drop (s : List Nat) (i : Nat) : op (s.take i) + op (s.drop i) = op s := by
  rw [← op_app, List.take_append_drop]
theorem op_drop1 (s : List Nat) (i : Nat) : op (s.drop (i + 1)) ≤ op (s.drop i) := by
  rw [← List.drop_drop]
  cases s.drop i with
  | nil => exact Nat.le_refl _
  | cons c r =>
    show op r ≤ _
    rw [op_cons]
    exact Nat.le_add_right _ _
theorem op_one (c : Nat) : op [c] ≤ 1 := by
  rw [op_cons]
  show 0 + _ ≤ 1
  split <;> omega
/-- a text of these may be asked for -/
structure Bent (z : Str) : Prop where
  len : z.length ≤ 20000
  op : op (tl z) ≤ 45
  run : run 129 (tl z)
theorem bent3 {x : Str} (hl : x.length ≤ 5465) (ho : op (tl x) ≤ 40) (hr : run 64 (tl x)) {i : Nat} (hi : i ≤ x.length) (c : Nat) :
    Bent (cutS x none (some (i : Int)) ++ (⟨#[c]⟩ : Str) ++ cutS x (some (i : Int)) none) ∧ Bent (cutS x none (some (i : Int)) ++ cutS x (some ((i : Int) + 1)) none) ∧ Bent (cutS x none (some (i : Int)) ++ (⟨#[c]⟩ : Str) ++ cutS x (some ((i : Int) + 1)) none) := by
  have e1 := tl_to (x := x) hi
  have e2 := tl_from (x := x) (i := i)
  have e3 : tl (cutS x (some ((i : Int) + 1)) none) = (tl x).drop (i + 1) := tl_from (x := x) (i := i + 1)
  have ec : tl (⟨#[c]⟩ : Str) = [c] := rfl
  have hx := len_tl x
  have o1 := op_drop (tl x) i
  have o2 := op_drop1 (tl x) i
  have oc := op_one c
  refine ⟨⟨?_, ?_, ?_⟩, ⟨?_, ?_, ?_⟩, ⟨?_, ?_, ?_⟩⟩
  · rw [len_tl, tl_append, tl_append, e1, e2, ec, List.length_append, List.length_append, List.length_take, List.length_drop]
    show min i _ + 1 + _ ≤ _
    omega
  · rw [tl_append, tl_append, e1, e2, ec, op_app, op_app]
    omega
  · rw [tl_append, tl_append, e1, e2, ec]
    exact run_bent hr i i c
  · rw [len_tl, tl_append, e1, e3, List.length_append, List.length_take, List.length_drop]
    omega
  · rw [tl_append, e1, e3, op_app]
    omega
  · rw [tl_append, e1, e3]
    exact run_cut hr i (i + 1)
  · rw [len_tl, tl_append, tl_append, e1, e3, ec, List.length_append, List.length_append, List.length_take, List.length_drop]
    show min i _ + 1 + _ ≤ _
    omega
  · rw [tl_append, tl_append, e1, e3, ec, op_app, op_app]
    omega
  · rw [tl_append, tl_append, e1, e3, ec]
    exact run_bent hr i (i + 1) c
end T82

set_option Elab.async false
set_option linter.all false
set_option maxRecDepth 100000
set_option maxHeartbeats 2000000
namespace T82
open PySem PySem.Spec PyProof.Rows L2 TL
section
variable {P : Program} {w : World} {K : PySem.W.Frag} {mg : Str → Option Value} {base : Heap}
abbrev sLRight : Stmt := top 31
abbrev nLRight : List Str := ["bowl", "value", "text", "turn", "at", "sign", "some"]
theorem scLRight : FnScope nLRight ["bowl"] (defScope sLRight) := ⟨rfl, rfl, rfl, by decide +kernel, rfl, by decide +kernel, by decide +kernel⟩
def spLRight : Sp := fun vs H Q _ => ∃ l, vs = [.ref l] ∧ Bowl H l ∧ ∀ H', KeepE l H H' → Bowl H' l → Q (.bl true) H'
theorem Bowl.put {H : Hp} {l a : Addr} {o : HO} (h : Bowl H l) (ha : H a = none) : Bowl (upd H a o) l ∧ a ≠ l ∧ ∀ H0, KeepE l H0 H → KeepE l H0 (upd H a o) := by
  have hne : a ≠ l := fun z => h.ne (by rw [← z]; exact ha)
  obtain ⟨x, y, z, e⟩ := h
  refine ⟨⟨x, y, z, by rw [upd_ne (Ne.symm hne)]; exact e⟩, hne, fun H0 k b u hb q => ?_⟩
  have q' := k b u hb q
  have : b ≠ a := fun z => by rw [z, ha] at q'; cases q'
  rw [upd_ne this]
  exact q'
theorem ok_law_right (F : Fx K mg) (D : At K mg "_law_right" sLRight) (G1 : Cal P w K mg base CX0 1 "_law_scoop" ["bowl", "total"] spScoop) (G2 : Cal P w K mg base CX0 2 "_law_one_of" ["bowl", "items"] spOneOf) (G3 : Cal P w K mg base CX0 7 "_law_value" ["bowl", "deep"] (spLValue 4)) (G4 : Cal P w K mg base CX0 32 "_law_text" ["value"] (spTextIn 30))
    (G5 : Cal P w K mg base CX0 34 "is_plain" ["value"] spIsPlain) (G6 : Cal P w K mg base (L2.CX P w) 35 "value_text" ["value"] (spValueText K)) (G7 : Cal P w K mg base (L2.CX P w) 67 "read_value" ["value"] (spReadValue K)) (G8 : CalG P w K mg base CX0 69 "_law_read_right" ["text"] spLRR) :
    CalG P w K mg base CX0 70 "_law_right" ["bowl"] spLRight := by
  refine calG_of D scLRight (fun vs H Q E h => ?_) (fun _ _ _ _ _ _ us hl => match us, hl with | [_], _ => rfl) fun f cdv A outer s H vs Q E gA hr h => ⟨_, PSs.nox (pss_cons (ps_set (i := 1) scLRight.nd rfl (Or.inl rfl) (pe_cal G3 (hr.mono (by decide)) (by rfl) pass0 (pa_cons (pv 0) (pa_cons pe_int pa_nil))))
    (pss_cons (ps_set (i := 2) scLRight.nd rfl (Or.inl rfl) (pe_cal G4 (hr.mono (by decide)) (by rfl) pass0 (pa_cons (pv 1) pa_nil)))
    (pss_cons (ps_if ((pw_or (pt_cmpR op_isnot_bl (pe_cal G5 (hr.mono (by decide)) (by rfl) pass0 (pa_cons (pv 1) pa_nil)) pe_bl (nomark _)) (pw_or (pt_cmpR op_ne (pe_cal G6 (hr.mono (by decide)) (by rfl) passL (pa_cons (pv 1) pa_nil)) (pv 2) (nomark _))
        (pw_or1 (pt_cmpR op_ne (pe_callB (call_reprX gA hr.units) (by rfl) F.b_repr (by decide +kernel) (pa_cons (pe_cal G7 (hr.mono (by decide)) (by rfl) passL (pa_cons (pv 2) pa_nil)) pa_nil)) (pe_callB (call_reprX gA hr.units) (by rfl) F.b_repr (by decide +kernel) (pa_cons (pv 1) pa_nil)) (nomark _))))).pt) (pss_one (ps_ret pe_bl)) pss_nil)
    (pss_cons (ps_for PassesOwn.never rfl (pi_range1 rfl F.b_range (pa_cons pe_int pa_nil)) (pg_name (i := 3) scLRight.nd rfl (Or.inl rfl))
      (pss_cons (ps_par (by rfl) scLRight.nd (i := 4) (j := 5) rfl rfl (by decide) rfl rfl (pa_cons (pe_cal G1 (hr.mono (by decide)) (by rfl) pass0 (pa_cons (pv 0) (pa_cons (pe_op op_add (pe_callB call_len (by rfl) F.b_len boot_len (pa_cons (pv 2) pa_nil)) pe_int) pa_nil))) (pa_cons (pe_cal G2 (hr.mono (by decide)) (by rfl) pass0 (pa_cons (pv 0) (pa_cons pe_str pa_nil))) pa_nil)) (by rfl))
      (pss_cons (ps_set (i := 6) scLRight.nd rfl (Or.inl rfl) (pe_lst
          (pa_cons (pe_op op_add_str (pe_op op_add_str (pe_slice sl_str (pv 2) po_none (po_some (pv 4))) (pv 5)) (pe_slice sl_str (pv 2) (po_some (pv 4)) po_none))
          (pa_cons (pe_op op_add_str (pe_slice sl_str (pv 2) po_none (po_some (pv 4))) (pe_slice sl_str (pv 2) (po_some (pe_op op_add (pv 4) pe_int)) po_none))
          (pa_cons (pe_op op_add_str (pe_op op_add_str (pe_slice sl_str (pv 2) po_none (po_some (pv 4))) (pv 5)) (pe_slice sl_str (pv 2) (po_some (pe_op op_add (pv 4) pe_int)) po_none)) pa_nil)))))
      (pss_one (ps_if (pt_not (pt_val (pe_calG G8 gA hr (by rfl) (pa_cons (pe_cal G2 (hr.mono (by decide)) (by rfl) pass0 (pa_cons (pv 0) (pa_cons (pv 6) pa_nil))) pa_nil)))) (pss_one (ps_ret pe_bl)) pss_nil)))))
    (pss_one (ps_ret pe_bl)))))), ?_⟩
  · obtain ⟨l, rfl, _⟩ := h
    rfl
  · obtain ⟨l, rfl, hB, hq⟩ := h
    refine ⟨_, rfl, l, rfl, hB, fun H1 v d k1 hB1 hv hsm => ?_⟩
    have hp30 := plain_small d 4 30 hsm (by decide)
    have hlen := len_small d 4 hsm
    rw [bnd4] at hlen
    have hops := op_small d 4 hsm
    rw [obnd4] at hops
    have hruns := run_small d 4 hsm
    have hback := read_back hp30
    refine ⟨_, rfl, v, d, rfl, hv, hp30, by omega, fun H2 x s2 hx => ?_⟩
    have hxl : x.length ≤ 5465 := by rw [len_tl, hx]; exact hlen
    have hxo : op (tl x) ≤ 40 := by rw [hx]; exact hops
    have hxr : run 64 (tl x) := by rw [hx]; exact hruns
    have hline : x.length ≤ sizeLine := by
      rw [sizeLine_eq]
      omega
    have hB2 := hB1.same s2
    have k2 : KeepE l H H2 := k1.trans fun b o _ e => s2 b o e
    refine ⟨_, rfl, v, d, rfl, .tp (hv.keep s2.tups), okS_small d 4 hsm, fun H3 s3 => ⟨_, _, rfl, rfl, _, rfl, ?_⟩⟩
    rw [hp30]
    refine iteF ⟨_, rfl, v, d, rfl, .tp (hv.keep (s2.trans s3).tups), okS_small d 4 hsm, fun _ => ⟨by omega, fun H4 y s4 hy => ⟨_, rfl, rfl, _, rfl, ?_⟩⟩, fun z => by rw [hp30] at z; cases z⟩
    have eyx : y = x := ext_tl (hy.trans hx.symm)
    subst eyx
    rw [show (!decide (V.str y = V.str y)) = false from by rw [decide_eq_true rfl]; rfl]
    refine iteF ⟨_, rfl, .str y, .str y, rfl, .tp (.str y), fun z hz => ?_, fun hbad => ?_⟩
    rotate_left
    · have := hbad y d rfl (by rw [hx]; exact hback)
      rw [hp30] at this
      cases this
    injection hz with hz
    subst hz
    refine ⟨by omega, fun e hre hpe H5 v5 s5 hv5 => ?_⟩
    rw [hx, hback] at hre
    injection hre with hre
    injection hre with hre _
    subst hre
    have st := sht_small hsm
    have s25 : Same H2 H5 := s3.trans (s4.trans s5)
    refine ⟨v5, d, rfl, hv5.dp, st, _, rfl, v, d, rfl, (hv.keep (s2.trans s25).tups).dp, st, rfl, _, rfl, ?_⟩
    rw [show (!decide (V.str d.shown = V.str d.shown)) = false from by rw [decide_eq_true rfl]; rfl]
    have hB5 := hB2.same s25
    have k5 : KeepE l H H5 := k2.trans fun b o _ e => s25 b o e
    refine iteF ⟨12, rfl, by decide, by decide, for_range (n := 12) (fun t σ H' => KeepE l H H' ∧ Bowl H' l ∧ ∃ u3 u4 u5 u6 : Option V, σ = [some (.ref l), some v, some (.str y), u3, u4, u5, u6]) ⟨k5, hB5, none, none, none, none, rfl⟩ ?_ ?_⟩
    · rintro t σ H6 ht ⟨k6, hB6, u3, u4, u5, u6, rfl⟩
      refine ⟨_, rfl, _, rfl, _, y.length, rfl, ⟨hline, rfl⟩, _, _, rfl, rfl, l, y.length + 1, rfl, Nat.succ_pos _, by omega, hB6, fun i H7 hi k7 hB7 => ?_⟩
      refine ⟨_, rfl, l, _, rfl, hB7, .inl ⟨_, rfl, by decide, by decide, fun c H8 hc k8 hB8 => ⟨_, _, rfl, ?_⟩⟩⟩
      have hi' : i ≤ y.length := by omega
      obtain ⟨b1, b2, b3⟩ := bent3 hxl hxo hxr hi' c
      have lc : (⟨#[c]⟩ : Str).length = 1 := rfl
      have la : (cutS y none (some (i : Int))).length ≤ y.length := cutS_length _ _ _
      have lb : (cutS y (some (i : Int)) none).length ≤ y.length := cutS_length _ _ _
      have ld : (cutS y (some ((i : Int) + 1)) none).length ≤ y.length := cutS_length _ _ _
      have lac : (cutS y none (some (i : Int)) ++ (⟨#[c]⟩ : Str)).length = (cutS y none (some (i : Int))).length + 1 := by rw [strLen_append, lc]
      refine ⟨_, rfl, _, rfl, _, rfl, y, rfl, hline, _, rfl, _, _, rfl, rfl, by rw [sizeLine_eq, lc]; omega, _, rfl, _, rfl, _, rfl, y, rfl, hline, _, _, rfl, rfl, by rw [sizeLine_eq, lac]; omega, ?_⟩
      refine ⟨_, rfl, _, rfl, _, rfl, y, rfl, hline, _, rfl, _, rfl, _, _, rfl, rfl, _, rfl, y, rfl, hline, _, _, rfl, rfl, by rw [sizeLine_eq]; omega, ?_⟩
      refine ⟨_, rfl, _, rfl, _, rfl, y, rfl, hline, _, rfl, _, _, rfl, rfl, by rw [sizeLine_eq, lc]; omega, _, rfl, _, rfl, _, _, rfl, rfl, _, rfl, y, rfl, hline, _, _, rfl, rfl, by rw [sizeLine_eq, lac]; omega, ?_⟩
      refine ⟨by show 3 ≤ sizeLine; rw [sizeLine_eq]; decide, fun a ha => ?_⟩
      obtain ⟨hB9, hne, hk9⟩ := hB8.put (o := .lst ([cutS y none (some (i : Int)) ++ (⟨#[c]⟩ : Str) ++ cutS y (some (i : Int)) none, cutS y none (some (i : Int)) ++ cutS y (some ((i : Int) + 1)) none, cutS y none (some (i : Int)) ++ (⟨#[c]⟩ : Str) ++ cutS y (some ((i : Int) + 1)) none].map V.str)) ha
      have k9 := hk9 H ((k6.trans k7).trans k8)
      refine ⟨_, rfl, _, rfl, l, _, rfl, hB9, .inr ⟨a, [cutS y none (some (i : Int)) ++ (⟨#[c]⟩ : Str) ++ cutS y (some (i : Int)) none, cutS y none (some (i : Int)) ++ cutS y (some ((i : Int) + 1)) none, cutS y none (some (i : Int)) ++ (⟨#[c]⟩ : Str) ++ cutS y (some ((i : Int) + 1)) none], rfl, upd_same, hne, (show 0 < 3 by decide), (show 3 ≤ 1000 by decide), fun z H10 hz k10 hB10 => ?_⟩⟩
      have hbz : Bent z := by
        rcases List.mem_cons.mp hz with e | hz
        · rw [e]; exact b1
        rcases List.mem_cons.mp hz with e | hz
        · rw [e]; exact b2
        rw [List.mem_singleton.mp hz]
        exact b3
      refine ⟨z, rfl, hbz.len, hbz.op, fun d' hrd _ => sh_got hbz.run (by rw [← len_tl]; exact hbz.len) hrd, fun H11 s11 => ⟨_, rfl, iteF ⟨(k9.trans k10).trans fun b o _ e => s11 b o e, hB10.same s11, _, _, _, _, rfl⟩⟩⟩
    · rintro σ H6 ⟨k6, hB6, u3, u4, u5, u6, rfl⟩
      exact hq H6 k6 hB6
end
end T82

set_option Elab.async false
set_option linter.all false
set_option maxRecDepth 100000
set_option maxHeartbeats 2000000
namespace T82
open PySem PySem.Spec PyProof.Rows L2 TL
/-- a text times a number -/
theorem op_mulS {X : Cx} : OpR X (binaryOp .Mult) (fun x y H Q => ∃ z n, x = .str z ∧ y = .int n ∧ MulOk z n ∧ Q (.str (Txt.mul z n)) H) := by
  intro pins s σ H x y v u Q I rx ry h
  obtain ⟨z, n, rfl, rfl, hok, q⟩ := h
  obtain ⟨t, rfl⟩ := rx
  obtain ⟨t', rfl⟩ := ry
  exact PySem.SB.mul hok fun t2 k => ⟨.str _, H, I.tok k, ⟨t2, rfl⟩, q⟩
theorem fold_rep (c : Nat) : ∀ (n : Nat) (a : Array Nat), ((List.replicate n #[c]).foldl (· ++ ·) a).toList = a.toList ++ List.replicate n c
  | 0, a => by simp
  | n + 1, a => by
    rw [List.replicate_succ, List.foldl_cons, fold_rep c n (a ++ #[c]), Array.toList_append, List.replicate_succ]
    simp
theorem tl_mul {c n : Nat} (h : 2 ≤ n) : tl (Txt.mul ⟨#[c]⟩ (n : Int)) = List.replicate n c := by
  unfold Txt.mul
  rw [if_neg (by omega), if_neg]
  · show ((List.replicate (n : Int).toNat #[c]).foldl (· ++ ·) #[]).toList = _
    rw [fold_rep, Int.toNat_natCast]
    rfl
  · have e1 : ((n : Int) == 1) = false := by
      rw [beq_eq_false_iff_ne]
      omega
    have e2 : ((⟨#[c]⟩ : Str).length == 0) = false := rfl
    rw [e1, e2]
    decide
theorem a_str : ("a" : Str) = ⟨#[97]⟩ := by decide +kernel
theorem nine_str : ("9" : Str) = ⟨#[57]⟩ := by decide +kernel
theorem ok_a4000 : MulOk "a" 4000 := by unfold MulOk; decide +kernel
theorem ok_a4001 : MulOk "a" 4001 := by unfold MulOk; decide +kernel
theorem ok_9 : MulOk "9" 4001 := by unfold MulOk; decide +kernel
theorem rep_all (p : Nat → Bool) (c : Nat) (h : p c = true) : ∀ n, (List.replicate n c).all p = true
  | 0 => rfl
  | n + 1 => by rw [List.replicate_succ, List.all_cons, h, rep_all p c h n]; rfl
/-! ### the ground values -/
def deepN : Nat → PyData
  | 0 => .tuple []
  | k + 1 => .tuple [deepN k]
theorem deep_plain : ∀ k n, plain n (deepN k) = decide (k < n)
  | 0, n => by
    rw [deepN, plain, plainAll, Bool.and_true]
  | k + 1, n => by
    rw [deepN, plain, plainAll, plainAll, Bool.and_true, deep_plain k (n - 1)]
    apply Bool.eq_iff_iff.mpr
    rw [Bool.and_eq_true, decide_eq_true_iff, decide_eq_true_iff, decide_eq_true_iff]
    omega
theorem deep_len : ∀ k, (txt (deepN k)).length = 2 * (k + 1)
  | 0 => by
    rw [deepN, txt, txtAll]
    rfl
  | k + 1 => by
    rw [deepN, txt, txtAll, txtAll]
    show (40 :: (txt (deepN k) ++ [41])).length = _
    rw [List.length_cons, List.length_append, deep_len k]
    show 2 * (k + 1) + 1 + 1 = _
    omega
theorem deep_ok : ∀ k, okS (deepN k) = true
  | 0 => by
    rw [deepN, okS, okSAll]
    rfl
  | k + 1 => by
    rw [deepN, okS, okSAll, okSAll, deep_ok k]
    rfl
/-- a value of the list: what the law asks of it -/
structure Val1 (H : Hp) (v : V) : Prop where
  ex : ∃ d, Dv H v d ∧ okS d = true ∧ (plain 30 d = true → (txt d).length ≤ 20000)
theorem Val1.same {H H' : Hp} {v : V} (h : Val1 H v) (k : Same H H') : Val1 H' v := by
  obtain ⟨d, h1, h2, h3⟩ := h.ex
  exact ⟨d, h1.same k, h2, h3⟩
theorem val_int (H : Hp) (i : Int) : Val1 H (.int i) := ⟨.int i, .tp (.int i), by rw [okS], fun h => by
  rw [plain] at h
  rw [txt]
  have := intT_len (i := i) (k := 4000) (by decide) (of_decide_eq_true h)
  omega⟩
theorem val_str (H : Hp) (z : Str) (hz : z.length ≤ 10000) : Val1 H (.str z) := ⟨.str z, .tp (.str z), by rw [okS]; exact decide_eq_true (by omega), fun h => by
  rw [txt]
  simp only [List.length_cons, List.length_append, List.length_nil]
  rw [← len_tl]
  omega⟩
theorem val_bl (H : Hp) (b : Bool) : Val1 H (.bl b) := ⟨.bool b, .tp (.bl b), by rw [okS], fun h => by rw [plain] at h; cases h⟩
theorem val_lst {H : Hp} {a : Addr} {xs : List V} (h : H a = some (.lst xs)) : Val1 H (.ref a) := ⟨.list [], .lst h, by rw [okS], fun h => by rw [plain] at h; cases h⟩
theorem val_emp {H : Hp} {a : Addr} (h : H a = some (.dK [])) : Val1 H (.ref a) := ⟨.dict [], .emp h, by rw [okS], fun h => by rw [plain] at h; cases h⟩
theorem val_deep {H : Hp} {v : V} {k : Nat} (hk : k ≤ 40) (h : Tp H v (deepN k)) : Val1 H v := ⟨deepN k, .tp h, deep_ok k, fun _ => by rw [deep_len]; omega⟩
/-! ### the ground texts -/
structure Text1 (z : Str) : Prop where
  len : z.length ≤ 20000
  op : op (tl z) ≤ 45
  sh : ∀ d, read (tl z) = some (d, []) → plain 30 d = true → Sh d
theorem text_short {z : Str} (h : z.length ≤ 100) (ho : op (tl z) ≤ 45) : Text1 z := ⟨by omega, ho, fun d hr _ => sh_got (run_mono (run_len (tl z)) (by rw [← len_tl]; omega)) (by rw [← len_tl]; omega) hr⟩
theorem pre_none57 (n : Nat) : pre noneT (List.replicate (n + 1) 57) = false := by
  rw [List.replicate_succ]
  exact pre_no (by decide)
theorem read_nines : read (List.replicate 4001 57) = none := by
  rw [read_eq, pre_none57 4000]
  have hh : (List.replicate 4001 57).head? = some 57 := rfl
  rw [hh, if_neg (by decide), if_neg (by decide), if_neg (by decide)]
  unfold readWhole
  rw [hh]
  have hw : (List.replicate 4001 57).takeWhile isDig = List.replicate 4001 57 := by
    have := (takeW_app isDig (a := List.replicate 4001 57) (b := []) (rep_all isDig 57 (by decide) 4001) (fun c h => by cases h)).1
    rw [List.append_nil] at this
    exact this
  show (if goodDigs false ((List.replicate 4001 57).takeWhile isDig) = true then _ else none) = none
  rw [hw]
  have hg : goodDigs false (List.replicate 4001 57) = false := by
    unfold goodDigs
    rw [List.length_replicate, show decide (4001 ≤ 4000) = false from rfl]
    simp
  rw [hg]
  rfl
theorem text_nines : Text1 (Txt.mul "9" 4001) := by
  have e : tl (Txt.mul "9" 4001) = List.replicate 4001 57 := by
    rw [nine_str]
    exact tl_mul (n := 4001) (by decide)
  refine ⟨by rw [len_tl, e, List.length_replicate]; omega, ?_, fun d hr _ => ?_⟩
  · rw [e]
    have : op (List.replicate 4001 57) = 0 := op_none fun c hc => by
      rw [List.eq_of_mem_replicate hc]
      decide
    omega
  · rw [e, read_nines] at hr
    cases hr
end T82

set_option Elab.async false
set_option linter.all false
set_option maxRecDepth 100000
set_option maxHeartbeats 4000000
namespace T82
open PySem PySem.Spec PyProof.Rows L2 TL
def refR : PyData := .tuple [.str "refused", .none]
theorem told_all {K : PySem.W.Frag} {H : Hp} : ∀ ys : List V, (∀ (i : Nat) y, ys[i]? = some y → ∃ t, y = V.ref t ∧ H t = some (.tup [.str "refused", .non])) → DpAll K H ys (List.replicate ys.length refR)
  | [], _ => .nil
  | y :: ys, h => by
    obtain ⟨t, rfl, ht⟩ := h 0 y rfl
    exact .cons (.tup (SqT.of ht) (.cons (.str _) (.cons .non .nil))) (told_all ys fun i y h' => h (i + 1) y h')
theorem sht_bool (b : Bool) : ShT (.bool b) := by
  refine ⟨by rw [PyData.showable], by rw [PyData.hasDict], by rw [PyData.depth]; exact Nat.zero_le _, ?_⟩
  rw [PyData.shown, sizeLine_eq]
  cases b <;> decide
theorem sht_pair : ShT (.tuple [.int 30, .int 4000]) := by
  refine ⟨?_, ?_, ?_, ?_⟩
  · rw [PyData.showable, PyData.showableAll, PyData.showableAll, PyData.showableAll, PyData.showable, PyData.showable]
    decide +kernel
  · rw [PyData.hasDict, PyData.hasDictAll, PyData.hasDictAll, PyData.hasDictAll, PyData.hasDict, PyData.hasDict]
    rfl
  · rw [PyData.depth, PyData.depthAll, PyData.depthAll, PyData.depthAll, PyData.depth, PyData.depth]
    decide
  · rw [PyData.shown, PyData.shownAll, PyData.shownAll, PyData.shownAll, PyData.shown, PyData.shown, sizeLine_eq]
    refine Nat.le_trans (tupText_len _) ?_
    decide +kernel
theorem shaped5 : SeqAt.shaped (.list (List.replicate 5 refR)) = true := by decide +kernel
theorem eqv5 : PyData.eqv (.list (List.replicate 5 refR)) (.list (List.replicate 5 refR)) = true := SeqAt.eqv_refl _ (SeqAt.canLay_of_shaped shaped5)
theorem lay_new {H : Hp} {p : Addr} {o : HO} (hp : H p = none) : Same H (upd H p o) := fun b u e => by
  have : b ≠ p := fun z => by rw [z, hp] at e; cases e
  rw [upd_ne this]
  exact e
theorem shaped_plain {d : PyData} (h : plain 30 d = true) : SeqAt.shaped d = true := by
  unfold SeqAt.shaped
  have := depth_plain d 30 h
  rw [lay_plain d 30 h, Bool.true_and]
  exact decide_eq_true (by omega)
section
variable {P : Program} {w : World} {K : PySem.W.Frag} {mg : Str → Option Value} {base : Heap}
abbrev sLaw : Stmt := top 32
abbrev nLaw : List Str := ["script", "spot", "bowl", "turn", "deep", "long", "some", "value", "text", "told"]
theorem scLaw : FnScope nLaw ["script"] (defScope sLaw) := ⟨rfl, rfl, rfl, by decide +kernel, rfl, by decide +kernel, by decide +kernel⟩
def spLaw (K : PySem.W.Frag) : Sp := fun vs H Q _ => ∃ (a : Addr) (ns : List Int), vs = [.ref a] ∧ SqL K H a (ns.map V.int) ∧ ∀ H', Q (.bl true) H'
theorem ok_law (F : Fx K mg) (E0 : Fe P K mg) (D : At K mg "law" sLaw) (G1 : Cal P w K mg base CX0 1 "_law_bowl" ["script", "spot"] (spBowl K)) (G2 : CalG P w K mg base CX0 70 "_law_right" ["bowl"] spLRight) (G3 : Cal P w K mg base CX0 34 "is_plain" ["value"] spIsPlain) (G4 : Cal P w K mg base CX0 32 "_law_is_plain" ["value", "deep"] (spPlainIn 30))
    (G5 : Cal P w K mg base (L2.CX P w) 35 "value_text" ["value"] (spValueText K)) (G6 : Cal P w K mg base (L2.CX P w) 67 "read_value" ["value"] (spReadValue K)) (G7 : CalG P w K mg base CX0 69 "_law_read_right" ["text"] spLRR) (G8 : Cal P w K mg base CX0 68 "_law_told" ["text"] spLTold) :
    CalG P w K mg base CX0 71 "law" ["script"] (spLaw K) := by
  refine calG_of D scLaw (fun vs H Q E h => ?_) (fun _ _ _ _ _ _ us hl => match us, hl with | [_], _ => rfl) fun f cdv A outer s H vs Q E gA hr h => ⟨_, PSs.nox (pss_cons (ps_for PassesOwn.never rfl (pi_range1 rfl F.b_range (pa_cons (pe_callB (call_max2 rfl) (by rfl) F.b_max (by decide +kernel) (pa_cons pe_int (pa_cons (pe_callB (call_min2 rfl) (by rfl) F.b_min (by decide +kernel) (pa_cons pe_int (pa_cons (pe_callB call_len (by rfl) F.b_len boot_len (pa_cons (pv 0) pa_nil)) pa_nil))) pa_nil))) pa_nil)) (pg_name (i := 1) scLaw.nd rfl (Or.inl rfl))
      (pss_cons (ps_set (i := 2) scLaw.nd rfl (Or.inl rfl) (pe_cal G1 (hr.mono (by decide)) (by rfl) pass0 (pa_cons (pv 0) (pa_cons (pv 1) pa_nil))))
      (pss_one (ps_for PassesOwn.never rfl (pi_range1 rfl F.b_range (pa_cons pe_int pa_nil)) (pg_name (i := 3) scLaw.nd rfl (Or.inl rfl)) (pss_one (ps_if (pt_not (pt_val (pe_calG G2 gA hr (by rfl) (pa_cons (pv 2) pa_nil)))) (pss_one (ps_ret pe_bl)) pss_nil))))))
    (pss_cons (ps_asg (pe_tup (pa_cons (pe_tup pa_nil) (pa_cons pe_int pa_nil))) (pg_tup rfl (pgs_cons (pg_name (i := 4) scLaw.nd rfl (Or.inl rfl)) (pgs_cons (pg_name (i := 5) scLaw.nd rfl (Or.inl rfl)) pgs_nil))))
    (pss_cons (ps_for PassesOwn.never rfl (pi_range1 rfl F.b_range (pa_cons pe_int pa_nil)) (pg_name (i := 3) scLaw.nd rfl (Or.inl rfl)) (pss_one (ps_set (i := 4) scLaw.nd rfl (Or.inl rfl) (pe_tup (pa_cons (pv 4) pa_nil)))))
    (pss_cons (ps_for PassesOwn.never rfl (pi_range1 rfl F.b_range (pa_cons pe_int pa_nil)) (pg_name (i := 3) scLaw.nd rfl (Or.inl rfl)) (pss_one (ps_set (i := 5) scLaw.nd rfl (Or.inl rfl) (pe_op op_mulW (pv 5) (pe_op op_pow pe_int pe_int)))))
    (pss_cons (ps_set (i := 5) scLaw.nd rfl (Or.inl rfl) (pe_op op_sub (pe_op op_mulW (pv 5) (pe_op op_pow pe_int pe_int)) pe_int))
    (pss_cons (ps_set (i := 6) scLaw.nd rfl (Or.inl rfl) (pe_lst (pa_cons (pv 4) (pa_cons (pe_tup (pa_cons (pv 4) pa_nil)) (pa_cons (pv 5) (pa_cons (pe_op op_add (pv 5) pe_int) (pa_cons (pe_op op_sub pe_int (pv 5)) (pa_cons (pe_op op_sub (pe_op op_sub pe_int (pv 5)) pe_int)
        (pa_cons (pe_op op_mulS pe_str pe_int) (pa_cons (pe_op op_mulS pe_str pe_int) (pa_cons pe_bl (pa_cons pe_dnewK (pa_cons (pe_lst (pa_cons pe_int pa_nil)) (pa_cons pe_str (pa_cons pe_str pa_nil)))))))))))))))
    (pss_cons (ps_for PassesOwn.never rfl (pi_list (pv 6)) (pg_name (i := 7) scLaw.nd rfl (Or.inl rfl))
      (pss_cons (ps_if (pt_cmpR op_ne (pe_callB (call_reprX gA hr.units) (by rfl) F.b_repr (by decide +kernel) (pa_cons (pe_cal G3 (hr.mono (by decide)) (by rfl) pass0 (pa_cons (pv 7) pa_nil)) pa_nil)) (pe_callB (call_reprX gA hr.units) (by rfl) F.b_repr (by decide +kernel) (pa_cons (pe_cal G4 (hr.mono (by decide)) (by rfl) pass0 (pa_cons (pv 7) (pa_cons pe_int pa_nil))) pa_nil)) (nomark _)) (pss_one (ps_ret pe_bl)) pss_nil)
      (pss_cons (ps_if (pt_not (pt_val (pe_cal G4 (hr.mono (by decide)) (by rfl) pass0 (pa_cons (pv 7) (pa_cons pe_int pa_nil)))))
        (pss_cons (ps_try_only rfl rfl ⟨rfl, by decide, .inl E0.gI⟩ takes0 (fun W pn xe tk _ => pss_one (ps_expr (pe_calS tk G5 (hr.mono (by decide)) (by rfl) (pa_cons (pv 7) pa_nil)))) (fun a oe cls d pn hz hf => pss_one ps_continue)) (pss_one (ps_ret pe_bl))) pss_nil)
      (pss_one (ps_if (pt_cmpR (op_neD hr.units) (pe_cal G6 (hr.mono (by decide)) (by rfl) passL (pa_cons (pe_cal G5 (hr.mono (by decide)) (by rfl) passL (pa_cons (pv 7) pa_nil)) pa_nil)) (pv 7) (nomark _)) (pss_one (ps_ret pe_bl)) pss_nil)))))
    (pss_cons (ps_set (i := 6) scLaw.nd rfl (Or.inl rfl) (pe_lst (pa_cons pe_str (pa_cons pe_str (pa_cons pe_str (pa_cons pe_str (pa_cons pe_str (pa_cons pe_str (pa_cons pe_str (pa_cons pe_str (pa_cons pe_str (pa_cons pe_str (pa_cons pe_str (pa_cons (pe_op op_mulS pe_str pe_int) (pa_cons pe_str (pa_cons pe_str pa_nil))))))))))))))))
    (pss_cons (ps_for PassesOwn.never rfl (pi_list (pv 6)) (pg_name (i := 8) scLaw.nd rfl (Or.inl rfl)) (pss_one (ps_if (pt_not (pt_val (pe_calG G7 gA (hr.mono (by decide)) (by rfl) (pa_cons (pv 8) pa_nil)))) (pss_one (ps_ret pe_bl)) pss_nil)))
    (pss_cons (ps_setLc (i := 9) (own := [("value", 7)]) (g := gName 7) (tt := tYes) rfl scLaw.nd rfl rfl (sw_true rfl rfl rfl (by decide +kernel)) (pi_tup (pe_tup (pa_cons pe_non (pa_cons pe_int (pa_cons (pe_tup pa_nil) (pa_cons (pe_lst (pa_cons pe_str pa_nil)) (pa_cons pe_dnewK pa_nil)))))))
        (blkOk_by (N := nLaw) (sc := defScope sLaw) (by decide +kernel)) (fun _ _ _ _ _ => pg_name (i := 7) scLaw.nd rfl (Or.inl rfl)) (fun _ _ _ _ _ => pts_nil) (fun _ _ _ _ _ => pe_cal G8 (hr.mono (by decide)) (by rfl) pass0 (pa_cons (pv 7) pa_nil)))
    (pss_one (ps_ret (pe_and (pe_cmpR (op_eqD hr.units) (pv 9) (pe_op op_rep (pe_lst (pa_cons (pe_tup (pa_cons pe_str (pa_cons pe_non pa_nil))) pa_nil)) pe_int) (nomark _))
        (pe_one (pe_cmpR op_eq (pe_callB (call_reprX gA hr.units) (by rfl) F.b_repr (by decide +kernel) (pa_cons (pe_tup (pa_cons (pe_gi F.c_nested) (pa_cons (pe_gi F.c_text) pa_nil))) pa_nil)) (pe_callB (call_reprX gA hr.units) (by rfl) F.b_repr (by decide +kernel) (pa_cons (pe_tup (pa_cons pe_int (pa_cons pe_int pa_nil))) pa_nil)) (nomark _)))))))))))))))), ?_⟩
  · obtain ⟨a, ns, rfl, _⟩ := h
    rfl
  · obtain ⟨a, ns, rfl, hS, hq⟩ := h
    have bnd : ∀ c : Int, 1 ≤ (if (if c < 3 then c else 3) > 1 then (if c < 3 then c else 3) else 1) ∧ (if (if c < 3 then c else 3) > 1 then (if c < 3 then c else 3) else 1) ≤ 3 := fun c => by
      split <;> split <;> omega
    obtain ⟨hb1, hb2⟩ := bnd (((ns.map V.int).length : Nat) : Int)
    refine ⟨_, rfl, _, (ns.map V.int).length, rfl, .inl ⟨_, hS, rfl⟩, _, _, rfl, _, _, rfl, _, rfl, by omega, by omega, ?_⟩
    refine for_range (lo := 0) (fun t σ H' => Same H H' ∧ ∃ u1 u2 u3 : Option V, σ = [some (.ref a), u1, u2, u3, none, none, none, none, none, none]) ⟨Same.refl H, none, none, none, rfl⟩ ?_ ?_
    · rintro t σ H' ht ⟨sm, u1, u2, u3, rfl⟩
      refine ⟨_, rfl, _, rfl, a, ns, t, by show [V.ref a, V.int (0 + (t : Int))] = _; rw [Int.zero_add], sm.seq hS, fun H1 l s1 hl hB => ?_⟩
      refine ⟨4, rfl, by decide, by decide, for_range (n := 4) (fun t2 σ H2 => KeepE l H1 H2 ∧ Bowl H2 l ∧ ∃ u3 : Option V, σ = [some (.ref a), some (.int (0 + (t : Int))), some (.ref l), u3, none, none, none, none, none, none]) ⟨KeepE.refl l H1, hB, _, rfl⟩ ?_ ?_⟩
      · rintro t2 σ H2 ht2 ⟨k2, hB2, u3', rfl⟩
        exact ⟨_, rfl, l, rfl, hB2, fun H3 k3 hB3 => ⟨_, rfl, iteF ⟨k2.trans k3, hB3, _, rfl⟩⟩⟩
      · rintro σ H2 ⟨k2, hB2, u3', rfl⟩
        refine ⟨sm.trans fun b o e => k2 b o (fun z => by rw [z, hl] at e; cases e) (s1 b o e), _, _, _, rfl⟩
    · rintro σ HA ⟨sA, u1, u2, u3, rfl⟩
      refine ⟨by show 0 ≤ sizeLine; exact Nat.zero_le _, fun p0 hp0 => ⟨by show 2 ≤ sizeLine; rw [sizeLine_eq]; decide, fun p1 hp1 => ⟨p1, _, rfl, SqT.of upd_same, rfl, _, _, rfl, _, _, rfl, rfl, ?_⟩⟩⟩
      have tp0 : Tp (upd (upd HA p0 (.tup [])) p1 (.tup [.ref p0, .int 1])) (.ref p0) (deepN 0) := .tup (lay_new hp1 _ _ upd_same) .nil
      -- deep
      refine ⟨29, rfl, by decide, by decide, for_range (n := 29) (fun t σ H' => ∃ (v : V) (u3 : Option V), σ = [some (.ref a), u1, u2, u3, some v, some (.int 1), none, none, none, none] ∧ Tp H' v (deepN t)) ⟨_, _, rfl, tp0⟩ ?_ ?_⟩
      · rintro t σ H' ht ⟨v, u3', rfl, hv⟩
        exact ⟨_, rfl, by show 1 ≤ sizeLine; rw [sizeLine_eq]; decide, fun p hp => ⟨_, _, rfl, .tup upd_same (.cons (hv.keep (lay_new hp).tups) .nil)⟩⟩
      rintro σ HB ⟨v, u3', rfl, hv⟩
      -- long
      refine ⟨66, rfl, by decide, by decide, for_range (n := 66) (fun t σ H' => H' = HB ∧ ∃ u3 : Option V, σ = [some (.ref a), u1, u2, u3, some v, some (.int ((10 ^ (60 * t) : Nat) : Int)), none, none, none, none]) ⟨rfl, _, rfl⟩ ?_ ?_⟩
      · rintro t σ H' ht ⟨rfl, u3'', rfl⟩
        refine ⟨_, rfl, _, _, rfl, rfl, ⟨by decide, by decide, by decide⟩, _, _, rfl, rfl, ?_, rfl, some (.int (0 + (t : Int))), ?_⟩
        · refine wide_mul (a := 240 * t + 1) (b := 200) ?_ ?_ (by omega) (by decide) (by omega)
          · rw [Int.natAbs_natCast]
            exact p60_lt t
          · exact (by decide +kernel : ((10 : Int) ^ (60 : Int).toNat).natAbs < 2 ^ 200)
        · show [some (V.ref a), u1, u2, some (V.int (0 + (t : Int))), some v, some (V.int (((10 ^ (60 * t) : Nat) : Int) * (10 : Int) ^ (60 : Int).toNat)), none, none, none, none] = _
          rw [show ((10 : Int) ^ (60 : Int).toNat) = 10 ^ 60 from rfl, p60]
      rintro σ H' ⟨rfl, u3'', rfl⟩
      refine ⟨_, rfl, _, _, rfl, rfl, ⟨by decide, by decide, by decide⟩, _, _, rfl, rfl, ?_, _, _, rfl, rfl, ?_⟩
      · refine wide_mul (a := 240 * 66 + 1) (b := 200) ?_ ?_ (by omega) (by decide) (by omega)
        · rw [Int.natAbs_natCast]
          exact p60_lt 66
        · exact (by decide +kernel : ((10 : Int) ^ (40 : Int).toNat).natAbs < 2 ^ 200)
      -- the list of values
      refine ⟨_, rfl, _, rfl, by show 1 ≤ sizeLine; rw [sizeLine_eq]; decide, fun pd hpd => ?_⟩
      have td : Tp (upd H' pd (.tup [v])) (.ref pd) (deepN 30) := .tup upd_same (.cons (hv.keep (lay_new hpd).tups) .nil)
      have tv : Tp (upd H' pd (.tup [v])) v (deepN 29) := hv.keep (lay_new hpd).tups
      refine ⟨_, rfl, _, rfl, _, _, rfl, rfl, _, rfl, _, _, rfl, rfl, _, rfl, _, _, rfl, rfl, _, _, rfl, rfl, _, _, rfl, rfl, ok_a4000, _, _, rfl, rfl, ok_a4001, fun dk hdk => ?_⟩
      refine ⟨by show 1 ≤ sizeLine; rw [sizeLine_eq]; decide, fun l1 hl1 => ⟨by show 13 ≤ sizeLine; rw [sizeLine_eq]; decide, fun L hL => ?_⟩⟩
      have sF : ∀ o : HO, Same (upd H' pd (.tup [v])) (upd (upd (upd (upd H' pd (.tup [v])) dk (.dK [])) l1 (.lst [.int 1])) L o) := fun o => (lay_new hdk).trans ((lay_new hl1).trans (lay_new hL))
      have el1 : ∀ o : HO, (upd (upd (upd (upd H' pd (.tup [v])) dk (.dK [])) l1 (.lst [.int 1])) L o) l1 = some (.lst [.int 1]) := fun o => lay_new hL _ _ upd_same
      have edk : ∀ o : HO, (upd (upd (upd (upd H' pd (.tup [v])) dk (.dK [])) l1 (.lst [.int 1])) L o) dk = some (.dK []) := fun o => ((lay_new hl1).trans (lay_new hL)) _ _ upd_same
      have l4000 : (Txt.mul "a" 4000).length ≤ 10000 := by
        rw [len_tl, a_str, show tl (Txt.mul ⟨#[97]⟩ 4000) = List.replicate 4000 97 from tl_mul (n := 4000) (by decide), List.length_replicate]
        decide
      have l4001 : (Txt.mul "a" 4001).length ≤ 10000 := by
        rw [len_tl, a_str, show tl (Txt.mul ⟨#[97]⟩ 4001) = List.replicate 4001 97 from tl_mul (n := 4001) (by decide), List.length_replicate]
        decide
      refine ⟨_, rfl, L, rfl, ⟨_, SqL.of upd_same⟩, for_list (K := K) (a := L) (fun i σ H6 => Same _ H6 ∧ ∃ u6 u7 : Option V, σ = [some (.ref a), u1, u2, u3'', some v, some (.int _), u6, u7, none, none]) ⟨Same.refl _, _, _, rfl⟩ (fun i σ H6 _ ⟨sm, _⟩ => SqL.of (sm _ _ upd_same)) ?_ ?_⟩
      · rintro i x σ H6 hx ⟨sm, u6, u7, rfl⟩
        have hm := List.mem_of_getElem? hx
        have hval : Val1 H6 x := by
          refine Val1.same ?_ sm
          simp only [List.mem_cons, List.not_mem_nil, or_false] at hm
          rcases hm with rfl | rfl | rfl | rfl | rfl | rfl | rfl | rfl | rfl | rfl | rfl | rfl | rfl
          · exact val_deep (k := 29) (by decide) (tv.keep (sF _).tups)
          · exact val_deep (k := 30) (by decide) (td.keep (sF _).tups)
          · exact val_int _ _
          · exact val_int _ _
          · exact val_int _ _
          · exact val_int _ _
          · exact val_str _ _ l4000
          · exact val_str _ _ l4001
          · exact val_bl _ _
          · exact val_emp (edk _)
          · exact val_lst (el1 _)
          · exact val_str _ _ (by decide)
          · exact val_str _ _ (by decide)
        obtain ⟨d, hdv, hok, hlen⟩ := hval.ex
        refine ⟨_, rfl, x, d, rfl, hdv, hok, fun H7 s7 => ⟨_, .bool (plain 30 d), rfl, .bl _, sht_bool _, _, rfl, x, d, rfl, hdv.same s7, hok, fun H8 s8 => ⟨_, .bool (plain 30 d), rfl, .bl _, sht_bool _, rfl, _, rfl, ?_⟩⟩⟩
        rw [show (!decide (V.str (PyData.bool (plain 30 d)).shown = V.str (PyData.bool (plain 30 d)).shown)) = false from by rw [decide_eq_true rfl]; rfl]
        have s68 := s7.trans s8
        refine iteF ⟨_, rfl, x, d, rfl, hdv.same s68, hok, fun H9 s9 => ⟨_, rfl, ?_⟩⟩
        have s69 := s68.trans s9
        cases hp : plain 30 d with
        | false =>
          refine iteT ⟨_, rfl, x, d, rfl, hdv.same s69, hok, (fun z => by rw [hp] at z; cases z), fun _ H10 s10 => ⟨true, E0.eI, fun _ a' _ => ?_, fun z => Bool.noConfusion z⟩⟩
          exact ⟨sm.trans (s69.trans s10), _, _, rfl⟩
        | true =>
          refine iteF ⟨_, rfl, x, d, rfl, hdv.same s69, hok, fun _ => ⟨hlen hp, fun H10 y s10 hy => ?_⟩, (fun z => by rw [hp] at z; cases z)⟩
          have hback := read_back hp
          refine ⟨.str y, .str y, rfl, .tp (.str y), fun z hz => ?_, fun hbad => ?_⟩
          · injection hz with hz
            subst hz
            refine ⟨by rw [len_tl, hy]; exact hlen hp, fun e hre hpe H11 v11 s11 hv11 => ?_⟩
            rw [hy, hback] at hre
            injection hre with hre
            injection hre with hre _
            subst hre
            have sd := shaped_plain hp
            refine ⟨_, rfl, d, d, hv11.dp, (((hdv.same s69).plain_tp hp).keep (s10.trans s11).tups).dp, sd, sd, _, rfl, ?_⟩
            rw [SeqAt.eqv_refl d (SeqAt.canLay_of_shaped sd)]
            exact iteF ⟨sm.trans (s69.trans (s10.trans s11)), _, _, rfl⟩
          · have := hbad y d rfl (by rw [hy]; exact hback)
            rw [hp] at this
            cases this
      · rintro σ H6 ⟨sm, u6, u7, rfl⟩
        -- the texts
        refine ⟨_, _, rfl, rfl, ok_9, by show 14 ≤ sizeLine; rw [sizeLine_eq]; decide, fun L2 hL2 => ?_⟩
        refine ⟨_, rfl, L2, rfl, ⟨_, SqL.of upd_same⟩, for_list (K := K) (a := L2) (fun i σ H7 => Same _ H7 ∧ ∃ u6 u8 : Option V, σ = [some (.ref a), u1, u2, u3'', some v, some (.int _), u6, u7, u8, none]) ⟨Same.refl _, _, _, rfl⟩ (fun i σ H7 _ ⟨sm, _⟩ => SqL.of (sm _ _ upd_same)) ?_ ?_⟩
        · rintro i x σ H7 hx ⟨sm7, u6', u8, rfl⟩
          have hm := List.mem_of_getElem? hx
          have htx : ∃ z, x = V.str z ∧ Text1 z := by
            simp only [List.mem_cons, List.not_mem_nil, or_false] at hm
            rcases hm with rfl | rfl | rfl | rfl | rfl | rfl | rfl | rfl | rfl | rfl | rfl | rfl | rfl | rfl
            · exact ⟨_, rfl, text_short (by decide +kernel) (by decide +kernel)⟩
            · exact ⟨_, rfl, text_short (by decide +kernel) (by decide +kernel)⟩
            · exact ⟨_, rfl, text_short (by decide +kernel) (by decide +kernel)⟩
            · exact ⟨_, rfl, text_short (by decide +kernel) (by decide +kernel)⟩
            · exact ⟨_, rfl, text_short (by decide +kernel) (by decide +kernel)⟩
            · exact ⟨_, rfl, text_short (by decide +kernel) (by decide +kernel)⟩
            · exact ⟨_, rfl, text_short (by decide +kernel) (by decide +kernel)⟩
            · exact ⟨_, rfl, text_short (by decide +kernel) (by decide +kernel)⟩
            · exact ⟨_, rfl, text_short (by decide +kernel) (by decide +kernel)⟩
            · exact ⟨_, rfl, text_short (by decide +kernel) (by decide +kernel)⟩
            · exact ⟨_, rfl, text_short (by decide +kernel) (by decide +kernel)⟩
            · exact ⟨_, rfl, text_nines⟩
            · exact ⟨_, rfl, text_short (by decide +kernel) (by decide +kernel)⟩
            · exact ⟨_, rfl, text_short (by decide +kernel) (by decide +kernel)⟩
          obtain ⟨z, rfl, ht⟩ := htx
          exact ⟨_, rfl, z, rfl, ht.len, ht.op, ht.sh, fun H8 s8 => ⟨_, rfl, iteF ⟨sm7.trans s8, _, _, rfl⟩⟩⟩
        · rintro σ H7 ⟨sm7, u6', u8, rfl⟩
          -- told
          refine ⟨by show 0 ≤ sizeLine; exact Nat.zero_le _, fun q0 hq0 => ⟨by show 1 ≤ sizeLine; rw [sizeLine_eq]; decide, fun q1 hq1 => fun q2 hq2 => ⟨by show 5 ≤ sizeLine; rw [sizeLine_eq]; decide, fun q3 hq3 => ?_⟩⟩⟩
          refine ⟨q3, rfl, ⟨_, SqT.of upd_same⟩, fun DD hDD => ?_⟩
          have e0 : ∀ o : HO, (upd (upd (upd (upd H7 q0 (.tup [])) q1 (.lst [.str "none"])) q2 (.dK [])) q3 o) q0 = some (.tup []) := fun o => ((lay_new hq1).trans ((lay_new hq2).trans (lay_new hq3))) _ _ upd_same
          have e1 : ∀ o : HO, (upd (upd (upd (upd H7 q0 (.tup [])) q1 (.lst [.str "none"])) q2 (.dK [])) q3 o) q1 = some (.lst [.str "none"]) := fun o => ((lay_new hq2).trans (lay_new hq3)) _ _ upd_same
          have e2 : ∀ o : HO, (upd (upd (upd (upd H7 q0 (.tup [])) q1 (.lst [.str "none"])) q2 (.dK [])) q3 o) q2 = some (.dK []) := fun o => lay_new hq3 _ _ upd_same
          refine lc_mapT (K := K) (a := q3) (fun i y H' => ∃ t, y = V.ref t ∧ H' t = some (.tup [.str "refused", .non])) upd_same hDD (by show 5 ≤ sizeLine; rw [sizeLine_eq]; decide) (fun i y H' H'' tk ⟨t, h1, h2⟩ => ⟨t, h1, tk _ _ h2⟩) (fun i x H8 k hx sm8 hk => ⟨rfl, lc_yes ?_⟩) (fun H8 ys hy hr' hD8 sm8 => ?_)
          · have hm := List.mem_of_getElem? hx
            have hd : ∃ d, Dv H8 x d ∧ told d = none ∧ ∀ z, d ≠ .str z := by
              simp only [List.mem_cons, List.not_mem_nil, or_false] at hm
              rcases hm with rfl | rfl | rfl | rfl | rfl
              · exact ⟨.none, .tp .non, rfl, fun z h => by cases h⟩
              · exact ⟨.int 5, .tp (.int 5), rfl, fun z h => by cases h⟩
              · exact ⟨.tuple [], .tp (.tup (sm8 _ _ (e0 _)) .nil), rfl, fun z h => by cases h⟩
              · exact ⟨.list [], .lst (sm8 _ _ (e1 _)), rfl, fun z h => by cases h⟩
              · exact ⟨.dict [], .emp (sm8 _ _ (e2 _)), rfl, fun z h => by cases h⟩
            obtain ⟨d, hd1, hd2, hd3⟩ := hd
            exact ⟨_, rfl, x, d, rfl, hd1, fun z hz => absurd hz (hd3 z), (fun e he => by rw [hd2] at he; cases he), fun _ H9 t s9 ht => hk _ H9 s9 ⟨t, rfl, ht⟩⟩
          · refine ⟨_, rfl, by show 2 ≤ sizeLine; rw [sizeLine_eq]; decide, fun t ht => ⟨by show 1 ≤ sizeLine; rw [sizeLine_eq]; decide, fun l hl => ⟨l, 5, [.ref t], rfl, rfl, upd_same, by decide, by decide, by show 1 * 5 ≤ sizeLine; rw [sizeLine_eq]; decide, fun p2 hp2 => ?_⟩⟩⟩
            have s89 : Same H8 (upd (upd (upd H8 t (.tup [.str "refused", .non])) l (.lst [.ref t])) p2 (.lst (List.replicate (5 : Int).toNat [V.ref t]).flatten)) := (lay_new ht).trans ((lay_new hl).trans (lay_new hp2))
            have et : (upd (upd (upd H8 t (.tup [.str "refused", .non])) l (.lst [.ref t])) p2 (.lst (List.replicate (5 : Int).toNat [V.ref t]).flatten)) t = some (.tup [.str "refused", .non]) := ((lay_new hl).trans (lay_new hp2)) _ _ upd_same
            have a1 := told_all (K := K) (H := upd (upd (upd H8 t (.tup [.str "refused", .non])) l (.lst [.ref t])) p2 (.lst (List.replicate (5 : Int).toNat [V.ref t]).flatten)) ys (fun i y h => by
              obtain ⟨t', h1, h2⟩ := hr' i y h
              exact ⟨t', h1, s89 _ _ h2⟩)
            have a2 := told_all (K := K) (H := upd (upd (upd H8 t (.tup [.str "refused", .non])) l (.lst [.ref t])) p2 (.lst (List.replicate (5 : Int).toNat [V.ref t]).flatten)) [.ref t, .ref t, .ref t, .ref t, .ref t] (fun i y h => by
              have hm := List.mem_of_getElem? h
              simp only [List.mem_cons, List.not_mem_nil, or_false, or_self] at hm
              exact ⟨t, hm, et⟩)
            rw [show ys.length = 5 from hy] at a1
            refine ⟨.list (List.replicate 5 refR), .list (List.replicate 5 refR), .lst (SqL.of (s89 _ _ hD8)) a1, .lst (SqL.of upd_same) a2, shaped5, shaped5, _, rfl, ?_⟩
            rw [eqv5]
            refine iteT ⟨by show 2 ≤ sizeLine; rw [sizeLine_eq]; decide, fun b1 hb1' => ⟨.ref b1, .tuple [.int 30, .int 4000], rfl, .tup (SqT.of upd_same) (.cons (.int _) (.cons (.int _) .nil)), sht_pair, by show 2 ≤ sizeLine; rw [sizeLine_eq]; decide, fun b2 hb2' => ⟨.ref b2, .tuple [.int 30, .int 4000], rfl, .tup (SqT.of upd_same) (.cons (.int _) (.cons (.int _) .nil)), sht_pair, rfl, ?_⟩⟩⟩
            rw [show decide (V.str (PyData.tuple [.int 30, .int 4000]).shown = V.str (PyData.tuple [.int 30, .int 4000]).shown) = true from decide_eq_true rfl]
            exact hq _
end
end T82

set_option Elab.async false
set_option linter.all false
set_option maxRecDepth 100000
set_option maxHeartbeats 0
namespace T82
open PySem PySem.Spec PyProof.Rows L2
abbrev LAW : PySem.W.OpenLaw := PySem.Challenge.rw_bestchance_k82_texts_of_plain_values
abbrev PG : Program := LAW.prog
/-- what is looked at: the defs, Reading's methods, its property's getter -/
def mkD (x : Str) (i : Nat) : He5.DefA := { at_ := fun K => He.ga K x, name := x, qual := x, params := defArgs (top i), body := defBody (top i), scope := defScope (top i) }
def mkM (m : Str) (q : Str) (j : Nat) : He5.DefA := { at_ := fun K => He.ma K (He.ga K "Reading") m, name := m, qual := q, params := defArgs (inClass (top 17) j), body := defBody (inClass (top 17) j), scope := defScope (inClass (top 17) j) }
/-- the property's object, its getter -/
def aPr (K : PySem.W.Frag) : Addr := He.ma K (aR K) "is_over"
def aGt (K : PySem.W.Frag) : Addr := match PySem.W.recIn K (aPr K) "property" with
  | some (.ref g :: _) => g
  | _ => 0
def mkP : He5.DefA := { at_ := aGt, name := "is_over", qual := "Reading.is_over", params := defArgs (inClass (top 17) 1), body := defBody (inClass (top 17) 1), scope := defScope (inClass (top 17) 1) }
def defs : List He5.DefA := [mkD "is_whole" 5, mkD "is_short_whole" 14, mkD "is_plain_in" 15, mkD "text_in" 16, mkD "is_plain" 18, mkD "value_text" 19, mkD "read_value" 20,
  mkD "_law_bowl" 22, mkD "_law_scoop" 23, mkD "_law_one_of" 24, mkD "_law_is_plain" 25, mkD "_law_text" 26, mkD "_law_read" 27, mkD "_law_value" 28, mkD "_law_told" 29, mkD "_law_read_right" 30, mkD "_law_right" 31, mkD "law" 32]
def meths : List He5.DefA := [mkM "__init__" "Reading.__init__" 0, mkM "has" "Reading.has" 2, mkM "take" "Reading.take" 3, mkM "row_of" "Reading.row_of" 4, mkM "value" "Reading.value" 5,
  mkM "string" "Reading.string" 6, mkM "members" "Reading.members" 7, mkM "whole" "Reading.whole" 8, mkP]
def fn : List He5.DefA := defs ++ meths
def frees : List Str := ["len", "abs", "str", "int", "bool", "tuple", "isinstance", "all", "sum", "max", "min", "range", "repr", "super"]
def fa : List He.Fa := (fn.take 18).map (fun d => .glo d.name) ++ frees.map .free ++ [.int "MOST_NESTED" 30, .int "MOST_TEXT" 4000, .int "FARTHEST" (10 ^ 64), .str "SIGNS" "abcdefghijklmnopqrstuvwxyz ", .str "DIGITS" "0123456789", .str "NONE" "none", .str "QUOTE" "\"",
  .glo "Reading", .glo "ParseError", .glo "InvalidOperation", .cls "Reading", .mkr "Reading", .noat "Reading" "own_text", .noat "Reading" "own_at",
  .meth "Reading" "has", .meth "Reading" "take", .meth "Reading" "row_of", .meth "Reading" "value", .meth "Reading" "string", .meth "Reading" "members", .meth "Reading" "whole", .exc "InvalidOperation", .exm "InvalidOperation" "InvalidOperation" true, .exm "ParseError" "ParseError" true]
/-- an own class over ValueError's -/
def excB (K : PySem.W.Frag) (C : Addr) : Bool := match K.lookup C with
  | some ⟨.type t, _, .cls cd, sl⟩ => t == "type" && (match cd.mro, sl.toList with
    | .ref C' :: bm, [_, _, _, _, some (.builtin n), _] => C' == C && (n == "ValueError.__new__" && (cd.hasDict && (!cd.hasDel && PySem.HandSPX.refsVE bm)))
    | _, _ => false)
  | _ => false
theorem excB_ok {K : PySem.W.Frag} {C : Addr} (h : excB K C = true) : ∃ nm q N bs bm sn sub ab col dd k0 k1 k2 k3 k5, K.lookup C = some (excClassObj nm q C N bs bm true sn sub ab col dd k0 k1 k2 k3 k5 "ValueError.__new__") ∧ PySem.HandSPX.refsVE bm = true := by
  unfold excB at h
  split at h
  · rename_i t dd cd sl e
    simp only [Bool.and_eq_true] at h
    obtain ⟨h1, h⟩ := h
    obtain ⟨nm, bs, mro, ns, qn, hd, sn, sb, ab, col, del⟩ := cd
    obtain ⟨sl⟩ := sl
    split at h
    · rename_i C' bm k0 k1 k2 k3 n k5 em es
      simp only [Bool.and_eq_true, beq_iff_eq, Bool.not_eq_true'] at h h1
      obtain ⟨rfl, rfl, rfl, rfl, hv⟩ := h
      dsimp only at em es
      subst em es h1
      exact ⟨nm, qn, ns, bs, bm, sn, sb, ab, col, dd, k0, k1, k2, k3, k5, e, hv⟩
    · cases h
  · cases h
/-- the cells that ParseError.__init__ closes over -/
def celP (K : PySem.W.Frag) : List Addr := match K.lookup (fP K) with
  | some ⟨_, _, .func fd, _⟩ => fd.closure.map (·.2)
  | _ => []
abbrev FnZ : Type := Option (Str × Str × Arguments × FuncBody × Scope × Addr × Value × Addr)
def fnZ (K : PySem.W.Frag) (a : Addr) : FnZ := match K.lookup a with
  | some ⟨_, _, .func fd, _⟩ => some (fd.name, fd.qualname, fd.params, fd.body, fd.scope, fd.globals, fd.defaults, fd.builtins)
  | _ => none
abbrev sPI : Stmt := inClass (top 3) 0
def valZ : FnZ := some ("__init__", "ParseError.__init__", defArgs sPI, .stmts (defBody sPI), defScope sPI, mainGlobals, .none, builtinsNs)
def closeB (K : PySem.W.Frag) : Bool := match K.lookup (fP K) with
  | some ⟨_, _, .func fd, _⟩ => (match fd.closure with
    | [(n, c)] => n == ("__class__" : Str) && (match K.lookup c with
      | some ⟨_, _, .cell (some (.ref D)), _⟩ => D == aP K
      | _ => false)
    | _ => false) && ((match fd.code with
    | .ref cda => (match K.lookup cda with
      | some ⟨_, _, .fields vs, _⟩ => (match vs.toList with
        | _ :: _ :: .str file _ :: _ => (PG.main.file : Str) == file
        | _ => false)
      | _ => false)
    | _ => false) && PySem.W.codeIn K fd.code "ParseError.__init__")
  | _ => false
def xB (K : PySem.W.Frag) : List Bool := [excB K (aP K), He.eqO (PySem.W.findIn K (.ref (aP K)) "__setattr__") (some (some (.builtin "object.__setattr__"))),
  decide (PySem.W.subIn K (.ref (aP K)) (.type "BaseException") = some true), decide (PySem.W.typeIn K (.ref (aP K)) = some (.type "type")), PySem.W.keepIn K (.ref (aP K)),
  He.eqO (PySem.W.findIn K (.ref (aP K)) "__init__") (some (some (.ref (fP K)))), decide (PySem.W.typeIn K (.ref (fP K)) = some (.type "function")),
  He.eqO (PySem.W.findIn K (.ref (aP K)) "__getattribute__") (some (some (.builtin "BaseException.__getattribute__"))), He.eqO (PySem.W.findIn K (.ref (aP K)) "__getattr__") (some none), PySem.W.hasDictIn K (aP K),
  He.eqO (PySem.W.findIn K (.ref (aP K)) "spot") (some none), decide (PySem.W.subIn K (.ref (aP K)) (.type "ValueError") = some true), decide (PySem.W.mroIn K (aP K) (.ref (aP K)) = some true), (PySem.W.clsIn K (aP K)).isSome, PySem.W.nsOkIn K cStatics,
  decide (PySem.W.ks_superIn K (aP K) (aP K) "__init__" = some (some (.builtin "ValueError.__init__"))), He.eqO (PySem.W.nsIn K cStatics "thirdparty.any") (some none), He.eqO (PySem.W.nsIn K cStatics "sys.int_max_str_digits") (some none),
  He.eqO (PySem.W.findIn K (.ref (aR K)) "is_over") (some (some (.ref (aPr K)))), He.eqO (PySem.W.specialIn K (.ref (aPr K)) "__get__") (some (some (.builtin "property.__get__"))), decide (PySem.W.takesIn K (.ref (aPr K)) = some true),
  (match PySem.W.recIn K (aPr K) "property" with | some (.ref _ :: _) => true | _ => false), closeB K]
abbrev AlZ : Type := He.AlD × Bool × FnZ
def obsZ (K : PySem.W.Frag) : AlZ := (He5.obsA fa fn K, (xB K).all id, fnZ K (fP K))
def vZ : AlZ := (He5.valA fn, true, valZ)
def asZ (g : Addr → Option Obj) : List Addr := He5.asA g 5 ++ celP (He.frG g (He5.asA g 5))
def obsZG (g : Addr → Option Obj) : AlZ := obsZ (He.frG g (asZ g))
def hk : PySem.W.Hook where
  α := AlZ
  obs := fun s => obsZG s.heap.get?
  val := fun _ => vZ
  says := fun _ h => ∃ K : PySem.W.Frag, K.In h ∧ obsZ K = vZ
  of := fun _ _ e => ⟨_, He.frG_in, e⟩
  keeps := fun _ _ _ ⟨K, hK, c⟩ k => ⟨K, PySem.W.Frag.In.keeps hK k, c⟩
abbrev R : PySem.W.OpenRow := PySem.W.OpenLaw.row LAW
def ob (s : PySem.W.SharedT) : AlZ := obsZG (HandSHeadRun.getT s)
theorem ob_eq (s : PySem.W.SharedT) : ob s = hk.obs s.abs := by
  have e : HandSHeadRun.getT s = s.abs.heap.get? := funext fun a => HandSHeadRun.getT_eq s a
  show obsZG (HandSHeadRun.getT s) = obsZG s.abs.heap.get?
  rw [e]
def loose : List Str := ["ChanceError", "InvalidOperation", "ParseError", "is_whole", "MOST_NESTED", "MOST_TEXT", "FARTHEST", "SIGNS", "DIGITS", "NONE", "QUOTE", "is_short_whole", "is_plain_in", "text_in", "Reading", "is_plain", "value_text", "read_value", "_law_bowl", "_law_scoop", "_law_one_of", "_law_is_plain", "_law_text", "_law_read", "_law_value", "_law_told", "_law_read_right", "_law_right"]
theorem runZ (w : World) : HandSHeadRun.RunEq R (PySem.W.view R.prog [32]) hk ob 4000 loose w := by
  intro os
  kernel_rfl
end T82

set_option Elab.async false
set_option linter.all false
set_option maxRecDepth 100000
set_option maxHeartbeats 2000000
namespace T82
open PySem PySem.Spec PyProof.Rows L2
section
variable {K : PySem.W.Frag} {h : Heap} {mg : Str → Option Value}
theorem z_says (c : obsZ K = vZ) : He5.SaysA fa fn K := congrArg (fun z : AlZ => z.1) c
theorem z_xb (c : obsZ K = vZ) (i : Nat) {b : Bool} (e : (xB K)[i]? = some b) : b = true := by
  have h1 : (xB K).all id = true := congrArg (fun z : AlZ => z.2.1) c
  exact List.all_eq_true.mp h1 b (List.mem_of_getElem? e)
theorem z_fn (c : obsZ K = vZ) : fnZ K (fP K) = valZ := congrArg (fun z : AlZ => z.2.2) c
theorem z_dig (c : obsZ K = vZ) : ∀ h : Heap, K.In h → h.NoDigits := fun h X =>
  ⟨_, .of_isNs (PySem.W.isNs_of_in X (z_xb c 14 rfl)), PySem.W.nsMap_none_of_in X (z_xb c 14 rfl) (He.eqO_ok (z_xb c 17 rfl))⟩
theorem z_fx (X : K.In h) (G : h.Ns mainGlobals mg) (c : obsZ K = vZ) : Fx K mg where
  b_len := He.free_ok X G ((z_says c).fact 18 rfl)
  b_abs := He.free_ok X G ((z_says c).fact 19 rfl)
  b_str := He.free_ok X G ((z_says c).fact 20 rfl)
  b_int := He.free_ok X G ((z_says c).fact 21 rfl)
  b_bool := He.free_ok X G ((z_says c).fact 22 rfl)
  b_tuple := He.free_ok X G ((z_says c).fact 23 rfl)
  b_isinstance := He.free_ok X G ((z_says c).fact 24 rfl)
  b_all := He.free_ok X G ((z_says c).fact 25 rfl)
  b_sum := He.free_ok X G ((z_says c).fact 26 rfl)
  b_max := He.free_ok X G ((z_says c).fact 27 rfl)
  b_min := He.free_ok X G ((z_says c).fact 28 rfl)
  b_range := He.free_ok X G ((z_says c).fact 29 rfl)
  b_repr := He.free_ok X G ((z_says c).fact 30 rfl)
  c_nested := He.int_ok X G ((z_says c).fact 32 rfl)
  c_text := He.int_ok X G ((z_says c).fact 33 rfl)
  c_far := He.int_ok X G ((z_says c).fact 34 rfl)
  c_signs := He.str_ok X G ((z_says c).fact 35 rfl)
  c_digits := He.str_ok X G ((z_says c).fact 36 rfl)
  c_none := He.str_ok X G ((z_says c).fact 37 rfl)
  c_quote := He.str_ok X G ((z_says c).fact 38 rfl)
  dig := z_dig c
theorem z_at (X : K.In h) (G : h.Ns mainGlobals mg) (c : obsZ K = vZ) (x : Str) (n i : Nat) (e1 : fa[i]? = some (.glo x) := by rfl) (e2 : fn[i]? = some (mkD x n) := by rfl) : At K mg x (top n) := by
  obtain ⟨fd, F⟩ := (z_says c).def_ i (d := mkD x n) e2
  exact ⟨He.ga K x, fd, He.glo_ok X G ((z_says c).fact i e1), F⟩
theorem z_mat (c : obsZ K = vZ) (m q : Str) (i j k : Nat) (e1 : fa[i]? = some (.meth "Reading" m) := by rfl) (e2 : fn[j]? = some (mkM m q k) := by rfl) : MAt K m q k := by
  obtain ⟨fd, F⟩ := (z_says c).def_ j (d := mkM m q k) e2
  exact ⟨He.ma K (aR K) m, fd, He.meth_ok ((z_says c).fact i e1), F⟩
theorem z_gt (c : obsZ K = vZ) : PropOf K (aR K) "is_over" (aPr K) (aGt K) where
  at_ := He.eqO_ok (z_xb c 18 rfl)
  get := He.eqO_ok (z_xb c 19 rfl)
  tak := of_decide_eq_true (z_xb c 20 rfl)
  rec_ := by
    have e := z_xb c 21 rfl
    unfold aGt
    split at e
    · rename_i g r q
      exact ⟨r, by rw [q]⟩
    · cases e
theorem z_fr (X : K.In h) (G : h.Ns mainGlobals mg) (c : obsZ K = vZ) : Fr K mg where
  cl := He.cls_ok ((z_says c).fact 42 (f := .cls "Reading") rfl)
  n1 := He.noat_ok ((z_says c).fact 44 (f := .noat "Reading" "own_text") rfl)
  n2 := He.noat_ok ((z_says c).fact 45 (f := .noat "Reading" "own_at") rfl)
  gR := He.glo_ok X G ((z_says c).fact 39 (f := .glo "Reading") rfl)
  mkr := by
    obtain ⟨fd, F⟩ := (z_says c).def_ 18 (d := mkM "__init__" "Reading.__init__" 0) rfl
    exact ⟨_, fd, He.mkr_ok ((z_says c).fact 43 (f := .mkr "Reading") rfl), F⟩
  pr := by
    obtain ⟨fd, F⟩ := (z_says c).def_ 26 (d := mkP) rfl
    exact ⟨_, _, fd, z_gt c, F⟩
  has := z_mat c _ _ 46 19 _
  take := z_mat c _ _ 47 20 _
  row := z_mat c _ _ 48 21 _
  value := z_mat c _ _ 49 22 _
  string := z_mat c _ _ 50 23 _
  members := z_mat c _ _ 51 24 _
  whole := z_mat c _ _ 52 25 _
end
end T82

set_option Elab.async false
set_option linter.all false
set_option maxRecDepth 100000
set_option maxHeartbeats 2000000
namespace T82
open PySem PySem.Spec PyProof.Rows L2
section
variable {K : PySem.W.Frag} {h : Heap} {mg : Str → Option Value}
theorem closeB_ok (hb : closeB K = true) (hf : fnZ K (fP K) = valZ) : ∃ (oc : Value) (od : Option Addr) (osl : Array (Option Value)) (kV doc pm ct : Value) (an : Option Addr) (cc cda : Addr),
    K.lookup (fP K) = some ⟨oc, od, .func (PySem.W.fnX "__init__" "ParseError.__init__" (defArgs sPI) (defBody sPI) (defScope sPI) [("__class__", cc)] .none kV doc pm an (.ref cda) ct), osl⟩ ∧ PySem.W.codeIn K (.ref cda) "ParseError.__init__" = true ∧
    (∃ cl cld csl, K.lookup cc = some ⟨cl, cld, .cell (some (.ref (aP K))), csl⟩) ∧ (∃ kl kd vs ksl file tf, K.lookup cda = some ⟨kl, kd, .fields vs, ksl⟩ ∧ vs[2]? = some (.str file tf) ∧ ((PG.main.file : Str) == file) = true) := by
  unfold closeB at hb
  unfold fnZ at hf
  split at hb
  · rename_i oc od fd osl e
    rw [e] at hf
    obtain ⟨n1, n2, n3, n4, n5, n6, n7, n8, n9, n10, n11, n12, n13, n14, n15⟩ := fd
    have hf2 : (some (n1, n2, n3, n4, n5, n6, n8, n15) : FnZ) = some (Str.ofString "__init__", Str.ofString "ParseError.__init__", defArgs sPI, FuncBody.stmts (defBody sPI), defScope sPI, mainGlobals, Value.none, builtinsNs) := hf
    simp only [Option.some.injEq, Prod.mk.injEq] at hf2
    obtain ⟨h1, h2, h3, h4, h5, h6, h7, h8⟩ := hf2
    subst h1 h2 h3 h4 h5 h6 h7 h8
    obtain ⟨b1, b2⟩ := He.ba hb
    obtain ⟨b3, b4⟩ := He.ba b2
    dsimp only at b1 b3 b4
    split at b1
    · rename_i n cc
      obtain ⟨b5, b6⟩ := He.ba b1
      rw [beq_iff_eq.mp b5] at e
      split at b6
      · rename_i cl cld D csl e2
        rw [beq_iff_eq.mp b6] at e2
        split at b3
        · rename_i cda
          split at b3
          · rename_i kl kd vs ksl e3
            split at b3
            · rename_i v0 v1 file tf r ev
              refine ⟨oc, od, osl, n9, n10, n11, n14, n12, cc, cda, e, b4, ⟨cl, cld, csl, e2⟩, ⟨kl, kd, vs, ksl, file, tf, e3, ?_, b3⟩⟩
              rw [← Array.getElem?_toList, ev]
              rfl
            · cases b3
          · cases b3
        · cases b3
      · cases b6
    · cases b1
  · cases hb
theorem z_fe (X : K.In h) (G : h.Ns mainGlobals mg) (c : obsZ K = vZ) : Fe PG K mg := by
  obtain ⟨x1, x2, x3, x4⟩ := He.exc_ok ((z_says c).fact 53 (f := .exc "InvalidOperation") rfl)
  obtain ⟨oc, od, osl, kV, doc, pm, ct, an, cc, cda, l1, l2, l3, l4⟩ := closeB_ok (z_xb c 22 rfl) (z_fn c)
  exact {
    gI := He.glo_ok X G ((z_says c).fact 41 (f := .glo "InvalidOperation") rfl)
    xI := x1
    kI := x2
    bI := x3
    tI := x4
    eI := He.exm_ok ((z_says c).fact 54 (f := .exm "InvalidOperation" "InvalidOperation" true) rfl)
    gP := He.glo_ok X G ((z_says c).fact 40 (f := .glo "ParseError") rfl)
    iP := He.eqO_ok (z_xb c 5 rfl)
    tP := of_decide_eq_true (z_xb c 6 rfl)
    eP := He.exm_ok ((z_says c).fact 55 (f := .exm "ParseError" "ParseError" true) rfl)
    gaP := He.eqO_ok (z_xb c 7 rfl)
    ggP := He.eqO_ok (z_xb c 8 rfl)
    hdP := z_xb c 9 rfl
    fd := by
      refine ⟨_, ⟨⟨oc, od, osl, "ParseError.__init__", _, ⟨_, _, _, _, _, _, _, _, _, _, _, _⟩, kV, doc, pm, ct, an, cc, cda, rfl, l1, l2, l3, l4, ?_⟩, ⟨by decide, by decide, by decide, by decide⟩, z_xb c 13 rfl, of_decide_eq_true (z_xb c 12 rfl), by decide +kernel, He.free_ok X G ((z_says c).fact 31 (f := .free "super") rfl),
        He.eqO_ok (z_xb c 16 rfl), of_decide_eq_true (z_xb c 15 rfl), of_decide_eq_true (z_xb c 11 rfl), ⟨excB_ok (z_xb c 0 rfl), He.eqO_ok (z_xb c 1 rfl), of_decide_eq_true (z_xb c 2 rfl), of_decide_eq_true (z_xb c 3 rfl), z_xb c 4 rfl⟩, He.eqO_ok (z_xb c 10 rfl)⟩, ?_⟩
      · decide +kernel
      · exact .all fun us hl => match us, hl with | [_, _], _ => rfl }
end
end T82

set_option Elab.async false
set_option linter.all false
set_option maxRecDepth 100000
set_option maxHeartbeats 0
namespace T82
open PySem PySem.Spec PyProof.Rows L2
theorem z_law {w : World} {K : PySem.W.Frag} {h : Heap} {mg : Str → Option Value} (X : K.In h) (G : h.Ns mainGlobals mg) (c : obsZ K = vZ) (base : Heap) : CalG PG w K mg base CX0 71 "law" ["script"] (spLaw K) := by
  have F := z_fx X G c
  have E0 := z_fe X G c
  have T := z_fr X G c
  have a1 := ok_is_whole (P := PG) (w := w) (base := base) F (z_at X G c "is_whole" 5 0)
  have a2 := ok_short F (z_at X G c "is_short_whole" 14 1) a1
  have a3 := ok_plain_in F (z_at X G c "is_plain_in" 15 2) a2 30
  have a4 := ok_is_plain F (z_at X G c "is_plain" 18 4) a3
  have a5 := ok_text_in (P := PG) (w := w) (base := base) F (z_at X G c "text_in" 16 3) 30
  have a6 := ok_value_text F E0 (z_at X G c "value_text" 19 5) a4 a5
  have a7 := ok_value (P := PG) (w := w) (base := base) F T E0 30 (by decide)
  have a8 := ok_read_value F T E0 (z_at X G c "read_value" 20 6) a7
  have b1 := ok_bowl (P := PG) (w := w) (base := base) F (z_at X G c "_law_bowl" 22 7)
  have b2 := ok_scoop (P := PG) (w := w) (base := base) F (z_at X G c "_law_scoop" 23 8)
  have b3 := ok_one_of F (z_at X G c "_law_one_of" 24 9) b2
  have b4 := ok_law_plain (P := PG) (w := w) (base := base) F (z_at X G c "_law_is_plain" 25 10) 30
  have b5 := ok_law_text (P := PG) (w := w) (base := base) F (z_at X G c "_law_text" 26 11) 30
  have b6 := ok_law_read (P := PG) (w := w) (base := base) F (z_at X G c "_law_read" 27 12) 45 (by decide)
  have b7 := ok_law_value F (z_at X G c "_law_value" 28 13) b2 b3 4
  have b8 := ok_law_told F E0 (z_at X G c "_law_told" 29 14) a8
  have c1 := ok_law_rr F (z_at X G c "_law_read_right" 30 15) b6 b4 b8
  have c2 := ok_law_right F (z_at X G c "_law_right" 31 16) b2 b3 b7 b5 a4 a6 a8 c1
  exact ok_law F E0 (z_at X G c "law" 32 17) b1 c2 a4 b4 a6 a8 c1 b8
theorem facts {w : World} {K : PySem.W.Frag} {h : Heap} {mg : Str → Option Value} {f : Addr} (X : K.In h) (G : h.Ns mainGlobals mg) (hfa : mg ("law" : Str) = some (.ref f)) (c : obsZ K = vZ) :
    ∃ fd : FuncData, (∀ (s : Shared) (v : Value), BindsTo s fd ⟨[v], []⟩ [("script", v)]) ∧ ∀ base : Heap, K.In base → base.Ns mainGlobals mg → FnG PG w K mg base CX0 71 f fd ["script"] (spLaw K) := by
  obtain ⟨fd, D⟩ := (z_says c).def_ 17 (d := mkD "law" 32) rfl
  have e := hfa.symm.trans (He.glo_ok X G ((z_says c).fact 17 (f := .glo "law") rfl))
  cases e
  have b := FunD.bindsA (ps := ["script"]) D fun _ _ _ _ _ _ us hl => match us, hl with | [_], _ => rfl
  refine ⟨fd, fun s v => b s [v] rfl, fun base Xb Gb => ?_⟩
  obtain ⟨oc, od, dV, kV, doc, pm, an, cdv, ct, osl, e1, l1, _⟩ := D.ex
  exact (z_law (w := w) X G c base).own _ fd hfa ⟨oc, od, osl, l1⟩
end T82
open PySem PySem.W PySem.Calls PyProof.Rows
theorem PySem.Challenge.cw_bestchance_k82_texts_of_plain_values_holds : PySem.Challenge.rw_bestchance_k82_texts_of_plain_values.Holds := by
  w_on; o_law
  refine HandSHeadRun.head_any (r := OpenLaw.row PySem.Challenge.rw_bestchance_k82_texts_of_plain_values) (q := view (OpenLaw.row PySem.Challenge.rw_bestchance_k82_texts_of_plain_values).prog [32]) (H := T82.hk) (ob := T82.ob) (M := 4000) (loose := T82.loose) (d := HandSHeadRun.topDef (OpenLaw.row PySem.Challenge.rw_bestchance_k82_texts_of_plain_values).prog 32) (kwd := []) T82.ob_eq
    (by kernel_rfl) (fun s => by kernel_rfl) T82.runZ (by kernel_rfl) (by kernel_rfl) (by kernel_rfl) (by rfl) (by first | assumption | decide +kernel) (by decide +kernel) ⟨rfl, rfl, rfl, rfl, rfl, by decide +kernel⟩ ?hw ?hc
  case hw => w_witness2
  case hc =>
    refine T82.walk_ofG (l := PySem.Challenge.rw_bestchance_k82_texts_of_plain_values) (n := 63) (k := 71) (x := "script") rfl (by decide) (by kernel_rfl) ⟨rfl, by decide, by decide⟩ ?F
    intro w mg fa h Y G hmg0
    obtain ⟨K, KX, c⟩ := Y
    have hmg : mg ("law" : PySem.Str) = some (.ref fa) := by
      have e : (HandSHeadRun.topDef (OpenLaw.row PySem.Challenge.rw_bestchance_k82_texts_of_plain_values).prog 32).name = ("law" : PySem.Str) := by kernel_rfl
      rw [← e]
      exact hmg0
    obtain ⟨fd, hb, hF⟩ := T82.facts (w := w) KX G hmg c
    exact ⟨K, fd, T82.spLaw K, KX, hb, fun H a ns _ hS => ⟨a, ns, rfl, hS, fun _ => rfl⟩, hF⟩

