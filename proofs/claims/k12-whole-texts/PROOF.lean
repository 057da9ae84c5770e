import PyProof.Rows.All
import HandS.Text
import Wide.All
import OpenK.AllK
import Wide.FinOn
import KE.KStateDown
import KE.KSortTupG
import KE.KExcSuper
import KE.KExcIs
import KE.KIsAll
import KE.KLam
import HandS.ForMost
import HandS.ForExc
import HandS.WordsExc
import HandS.More
import HandS.Flow
import HandS.Style
import HandS.Star
import HandS.MethStar
import HandS.CallLocal
import HandS.Codes
import HandS.Defaults
import HandS.MakeKw
import HandS.MakeKwOnly
import HandS.ExcInit
import HandS.ExcIs
import HandS.ExcField
import HandS.IsInst
import HandS.RaiseMore
import HandS.DictComp
import HandS.DictTup
import HandS.TupLe
import HandS.TupAny
import HandS.Zip
import HandS.FStr
import HandS.Property
import HandS.ClsMeth
import HandS.Conv
import HandS.Small
import HandS.Wide
import HandS.Lambda
import HandS.EndTab
import HandS.HeadWalk
import HandS.Head2
import HandS.HeadHook4
import PySem.Challenge.RW_unbooked_k12_whole_texts_there_and_back
import HandS.HeadNt
import HandS.Head0
import HandS.Head1
import HandS.HeadEnd
import HandS.Walk
import KE.SortData
import KE.LtData
import HandS.SortKw
import KE.GoesEnum
import KE.GoesMore
import HandS.Flt
set_option Elab.async false
set_option linter.all false
set_option maxRecDepth 100000
set_option maxHeartbeats 4000000
/-! The mirror: texts of rows and books, read and written, in plain Lean. -/
namespace K12
open PySem

def nl : Str := ⟨#[10]⟩
def sp : Str := ⟨#[32]⟩
def sPlace : Str := ⟨#[112, 108, 97, 99, 101]⟩
def sWay : Str := ⟨#[119, 97, 121]⟩
def sSlip : Str := ⟨#[115, 108, 105, 112]⟩
def sMove : Str := ⟨#[109, 111, 118, 101]⟩
def sCount : Str := ⟨#[99, 111, 117, 110, 116]⟩
def sOut : Str := ⟨#[111, 117, 116]⟩
def sDash : Str := ⟨#[45]⟩
def sZero : Str := ⟨#[48]⟩
def letL : List Nat := [97, 98, 99, 100, 101, 102, 103, 104, 105, 106, 107, 108, 109, 110, 111, 112, 113, 114, 115, 116, 117, 118, 119, 120, 121, 122]
def digL : List Nat := [48, 49, 50, 51, 52, 53, 54, 55, 56, 57]
theorem sPlace_is : ("place" : Str) = sPlace := by decide +kernel
theorem sWay_is : ("way" : Str) = sWay := by decide +kernel
theorem sSlip_is : ("slip" : Str) = sSlip := by decide +kernel
theorem sMove_is : ("move" : Str) = sMove := by decide +kernel
theorem sCount_is : ("count" : Str) = sCount := by decide +kernel
theorem sOut_is : ("out" : Str) = sOut := by decide +kernel
theorem sDash_is : ("-" : Str) = sDash := by decide +kernel
theorem sZero_is : ("0" : Str) = sZero := by decide +kernel
theorem nl_is : ("\n" : Str) = nl := by decide +kernel
theorem sp_is : (" " : Str) = sp := by decide +kernel
theorem let_is : ("abcdefghijklmnopqrstuvwxyz" : Str).cps.toList = letL := by decide +kernel
theorem dig_is : ("0123456789" : Str).cps.toList = digL := by decide +kernel

/-! ### signs -/
theorem ext_l {a b : Str} (h : a.cps.toList = b.cps.toList) : a = b := by
  obtain ⟨a⟩ := a
  obtain ⟨b⟩ := b
  exact congrArg Str.mk (Array.toList_inj.mp h)
theorem len_l (a : Str) : a.length = a.cps.toList.length := by simp [Str.length]
theorem app_l (a b : Str) : (a ++ b).cps.toList = a.cps.toList ++ b.cps.toList := by
  rw [Str.cps_append, Array.toList_append]

/-! ### numbers and names -/
def numS (n : Nat) : Str := Str.ofString (toString (n : Int))
theorem numS_l (n : Nat) : (numS n).cps.toList = TL.numL n := TL.tl_num n
def isNum (w : Str) : Bool := decide (1 ≤ w.length ∧ w.length ≤ 60) && w.cps.toList.all (fun c => decide (c ∈ digL)) && (decide (w = sZero) || decide (w.cps.toList.head? ≠ some 48))
def numV (w : Str) : Nat := NumText.digitsVal w.cps.toList
def num? (w : Str) : Option Nat := if isNum w = true then some (numV w) else none
def isName (w : Str) : Bool := decide (1 ≤ w.length ∧ w.length ≤ 8) && w.cps.toList.all (fun c => decide (c ∈ letL))
def isPName (w : Str) : Bool := isName w && decide (w ≠ sOut)

theorem mem_dig {c : Nat} : c ∈ digL ↔ 48 ≤ c ∧ c ≤ 57 := by
  simp only [digL, List.mem_cons, List.not_mem_nil, or_false]
  omega
theorem mem_let {c : Nat} : c ∈ letL ↔ 97 ≤ c ∧ c ≤ 122 := by
  simp only [letL, List.mem_cons, List.not_mem_nil, or_false]
  omega
theorem isNum_digits {w : Str} (h : isNum w = true) : NumText.AllDigits w.cps.toList := by
  simp only [isNum, Bool.and_eq_true, List.all_eq_true, decide_eq_true_eq] at h
  exact fun c hc => mem_dig.mp (h.1.2 c hc)
theorem isNum_len {w : Str} (h : isNum w = true) : 1 ≤ w.length ∧ w.length ≤ 60 := by
  simp only [isNum, Bool.and_eq_true, decide_eq_true_eq] at h
  exact h.1.1
theorem isNum_lead {w : Str} (h : isNum w = true) : w = sZero ∨ w.cps.toList.head? ≠ some 48 := by
  simp only [isNum, Bool.and_eq_true, Bool.or_eq_true, decide_eq_true_eq] at h
  exact h.2
theorem val_snoc (l : List Nat) (c : Nat) : NumText.digitsVal (l ++ [c]) = NumText.digitsVal l * 10 + (c - 48) := by
  simp [NumText.digitsVal]
theorem val_lt : ∀ (n : Nat) (l : List Nat), l.length = n → NumText.AllDigits l → NumText.digitsVal l < 10 ^ n
  | 0, [], _, _ => by decide
  | n + 1, l, hl, hd => by
    have hne : l ≠ [] := by
      intro e
      rw [e] at hl
      cases hl
    have e := (List.dropLast_concat_getLast hne).symm
    rw [e, val_snoc]
    have h1 : l.dropLast.length = n := by
      rw [List.length_dropLast, hl]
      rfl
    have ih := val_lt n l.dropLast h1 fun c hc => hd c (List.dropLast_subset _ hc)
    have h2 := hd _ (List.getLast_mem hne)
    rw [Nat.pow_succ]
    omega
theorem val_pos {l : List Nat} (hd : NumText.AllDigits l) (hne : l ≠ []) (h0 : l.head? ≠ some 48) : 1 ≤ NumText.digitsVal l := by
  have key : ∀ (r : List Nat) (a : Nat), 1 ≤ a → 1 ≤ r.foldl (fun acc c => acc * 10 + (c - 48)) a := by
    intro r
    induction r with
    | nil =>
      intro a h
      exact h
    | cons c r ih =>
      intro a h
      exact ih (a * 10 + (c - 48)) (by omega)
  cases l with
  | nil => exact absurd rfl hne
  | cons c r =>
    have hc := hd c List.mem_cons_self
    have h1 : c ≠ 48 := by
      intro e
      exact h0 (by rw [e]; rfl)
    exact key r (0 * 10 + (c - 48)) (by omega)
theorem num_back : ∀ (n : Nat) (l : List Nat), l.length = n → NumText.AllDigits l → l ≠ [] → (l = [48] ∨ l.head? ≠ some 48) → TL.numL (NumText.digitsVal l) = l
  | 0, l, hl, _, hne, _ => absurd (List.length_eq_zero_iff.mp hl) hne
  | n + 1, l, hl, hd, hne, h0 => by
    by_cases hs : l.dropLast = []
    · have e := (List.dropLast_concat_getLast hne).symm
      rw [hs, List.nil_append] at e
      have h2 := hd _ (List.getLast_mem hne)
      generalize l.getLast hne = c at e h2
      subst e
      have : NumText.digitsVal [c] = c - 48 := by simp [NumText.digitsVal]
      rw [this, TL.numL_lt (by omega)]
      congr 1
      omega
    · have e := (List.dropLast_concat_getLast hne).symm
      have h1 : l.dropLast.length = n := by
        rw [List.length_dropLast, hl]
        rfl
      have hd1 : NumText.AllDigits l.dropLast := fun c hc => hd c (List.dropLast_subset _ hc)
      have hh : l.dropLast.head? = l.head? := by
        cases l with
        | nil => exact absurd rfl hne
        | cons a r =>
          cases r with
          | nil => exact absurd rfl hs
          | cons b r => rfl
      have h48 : l.head? ≠ some 48 := by
        rcases h0 with z | z
        · rw [z] at hs
          exact absurd rfl hs
        · exact z
      have hp := val_pos hd1 hs (by rw [hh]; exact h48)
      have ih := num_back n l.dropLast h1 hd1 hs (.inr (by rw [hh]; exact h48))
      have h2 := hd _ (List.getLast_mem hne)
      rw [e, val_snoc]
      rw [TL.numL_step (by omega)]
      have q1 : (NumText.digitsVal l.dropLast * 10 + (l.getLast hne - 48)) / 10 = NumText.digitsVal l.dropLast := by omega
      have q2 : (NumText.digitsVal l.dropLast * 10 + (l.getLast hne - 48)) % 10 = l.getLast hne - 48 := by omega
      rw [q1, q2, ih]
      congr 2
      omega
theorem num_text {w : Str} {n : Nat} (h : num? w = some n) : w = numS n := by
  unfold num? at h
  by_cases hw : isNum w = true
  · rw [if_pos hw] at h
    cases h
    apply ext_l
    rw [numS_l]
    have hl := isNum_len hw
    rw [len_l] at hl
    refine (num_back _ _ rfl (isNum_digits hw) ?_ ?_).symm
    · intro e
      rw [e] at hl
      exact absurd hl.1 (by decide)
    · rcases isNum_lead hw with e | e
      · left
        rw [e]
        rfl
      · exact .inr e
  · rw [if_neg hw] at h
    cases h
def small : Nat := 10 ^ 60
theorem num_small {w : Str} {n : Nat} (h : num? w = some n) : n < small := by
  unfold num? at h
  by_cases hw : isNum w = true
  · rw [if_pos hw] at h
    cases h
    have hl := (isNum_len hw).2
    rw [len_l] at hl
    exact Nat.lt_of_lt_of_le (val_lt _ _ rfl (isNum_digits hw)) (Nat.pow_le_pow_right (by decide) hl)
  · rw [if_neg hw] at h
    cases h
theorem numL_head {n : Nat} (h : 0 < n) : (TL.numL n).head? ≠ some 48 := by
  induction n using Nat.strongRecOn with
  | ind n ih =>
    by_cases hn : n < 10
    · rw [TL.numL_lt hn]
      intro e
      have z : 48 + n = 48 := Option.some.inj e
      omega
    · rw [TL.numL_step (by omega)]
      have q := ih (n / 10) (by omega) (by omega)
      have ne := TL.numL_ne (n / 10)
      cases hl : TL.numL (n / 10) with
      | nil => exact absurd hl ne
      | cons a r =>
        rw [hl] at q
        exact q
theorem numS_is {n : Nat} (h : n < small) : num? (numS n) = some n := by
  have hd := TL.numL_digits n
  have hl : (TL.numL n).length ≤ 60 := TL.numL_len (by decide) h
  have h1 : 1 ≤ (TL.numL n).length := by
    have := TL.numL_ne n
    cases e : TL.numL n with
    | nil => exact absurd e this
    | cons a r => exact Nat.succ_le_succ (Nat.zero_le _)
  have q : isNum (numS n) = true := by
    simp only [isNum, Bool.and_eq_true, Bool.or_eq_true, decide_eq_true_eq, List.all_eq_true]
    rw [len_l, numS_l]
    refine ⟨⟨⟨h1, hl⟩, fun c hc => mem_dig.mpr (hd c hc)⟩, ?_⟩
    by_cases h0 : n = 0
    · left
      apply ext_l
      rw [numS_l, h0, TL.numL_lt (by decide)]
      rfl
    · exact .inr (numL_head (by omega))
  unfold num?
  rw [if_pos q]
  unfold numV
  rw [numS_l, TL.numL_val]
theorem numS_len {n : Nat} (h : n < small) : (numS n).length ≤ 60 := by
  rw [len_l, numS_l]
  exact TL.numL_len (by decide) h

/-! ### free of a sign -/
def Free (c : Nat) (w : Str) : Prop := c ∉ w.cps.toList
theorem free_name {c : Nat} {w : Str} (h : isName w = true) (hc : c < 97) : Free c w := by
  simp only [isName, Bool.and_eq_true, List.all_eq_true, decide_eq_true_eq] at h
  intro hm
  have := mem_let.mp (h.2 c hm)
  omega
theorem free_num (c n : Nat) (hc : c < 48) : Free c (numS n) := by
  unfold Free
  rw [numS_l]
  exact TL.numL_free (.inl hc)

/-! ### split and join by one sign -/
theorem join_cons (s x : Str) (r : List Str) (h : r ≠ []) : Str.join s (x :: r) = x ++ s ++ Str.join s r := by
  cases r with
  | nil => exact absurd rfl h
  | cons y r => rfl
theorem join_txt (s : Str) (l : List Str) : Txt.join s l = Str.join s l := StrLaws.glued_eq_join s l
/-- cut at each c -/
theorem cut_one {c : Nat} : ∀ {a b r1 r2 : List Nat}, c ∉ a → c ∉ b → a ++ c :: r1 = b ++ c :: r2 → a = b ∧ r1 = r2
  | [], [], _, _, _, _, h => ⟨rfl, (List.cons.inj h).2⟩
  | [], y :: b, _, _, _, hb, h => absurd ((List.cons.inj h).1 ▸ List.mem_cons_self) hb
  | x :: a, [], _, _, ha, _, h => absurd ((List.cons.inj h).1.symm ▸ List.mem_cons_self) ha
  | x :: a, y :: b, r1, r2, ha, hb, h => by
    obtain ⟨h1, h2⟩ := List.cons.inj h
    obtain ⟨h3, h4⟩ := cut_one (fun z => ha (List.mem_cons_of_mem _ z)) (fun z => hb (List.mem_cons_of_mem _ z)) h2
    exact ⟨by rw [h1, h3], h4⟩
theorem join_inj {c : Nat} : ∀ {l m : List Str}, l ≠ [] → m ≠ [] → (∀ w ∈ l, Free c w) → (∀ w ∈ m, Free c w) → Str.join ⟨#[c]⟩ l = Str.join ⟨#[c]⟩ m → l = m
  | [x], [y], _, _, _, _, h => by rw [show x = y from h]
  | [x], y :: z :: r, _, _, hl, hm, h => by
    have h1 : x = y ++ ⟨#[c]⟩ ++ Str.join ⟨#[c]⟩ (z :: r) := h
    refine absurd ?_ (hl x List.mem_cons_self)
    rw [h1, app_l, app_l]
    simp
  | x :: z :: r, [y], _, _, hl, hm, h => by
    have h1 : x ++ ⟨#[c]⟩ ++ Str.join ⟨#[c]⟩ (z :: r) = y := h
    refine absurd ?_ (hm y List.mem_cons_self)
    rw [← h1, app_l, app_l]
    simp
  | x :: z :: r, y :: z' :: r', _, _, hl, hm, h => by
    have h1 : x ++ ⟨#[c]⟩ ++ Str.join ⟨#[c]⟩ (z :: r) = y ++ ⟨#[c]⟩ ++ Str.join ⟨#[c]⟩ (z' :: r') := h
    have h2 := congrArg (fun s : Str => s.cps.toList) h1
    simp only [app_l, List.append_assoc] at h2
    obtain ⟨h3, h4⟩ := cut_one (hl x List.mem_cons_self) (hm y List.mem_cons_self) h2
    have ih := join_inj (l := z :: r) (m := z' :: r') (by simp) (by simp) (fun w hw => hl w (List.mem_cons_of_mem _ hw)) (fun w hw => hm w (List.mem_cons_of_mem _ hw)) (ext_l h4)
    rw [ext_l h3, ih]
def cut (c : Nat) (t : Str) : List Str := Txt.split t ⟨#[c]⟩
theorem cut_ne (c : Nat) (t : Str) : cut c t ≠ [] := by
  intro e
  have h := PyProof.Rows.split_pos t ⟨#[c]⟩
  unfold cut at e
  rw [e] at h
  exact absurd h (by decide)
theorem cut_join (c : Nat) (t : Str) : Str.join ⟨#[c]⟩ (cut c t) = t := StrLaws.join_split t ⟨#[c]⟩
theorem cut_free (c : Nat) (t : Str) : ∀ w ∈ cut c t, Free c w := StrLaws.split_free t c
theorem join_cut {c : Nat} {l : List Str} (h : l ≠ []) (hf : ∀ w ∈ l, Free c w) : cut c (Str.join ⟨#[c]⟩ l) = l :=
  join_inj (cut_ne _ _) h (cut_free _ _) hf (cut_join _ _)
end K12

namespace K12
open PySem

/-! ### rows, lines, books -/
abbrev Pl := Str × Nat × Nat
abbrev Wy := Str × Str × Nat
inductive Rw where
  | move (a b : Str) (n : Nat)
  | count (a : Str) (n : Nat)
  deriving DecidableEq
inductive Item where
  | place (p : Pl)
  | way (w : Wy)
  | slip (s : Option Nat)
  | row (r : Rw)
structure Bk where
  places : List Pl
  ways : List Wy
  slip : Option Nat
  rows : List Rw
def wPl (p : Pl) : List Str := [sPlace, p.1, numS p.2.1, numS p.2.2]
def wWy (w : Wy) : List Str := [sWay, w.1, w.2.1, numS w.2.2]
def slipS : Option Nat → Str
  | none => sDash
  | some n => numS n
def wSl (s : Option Nat) : List Str := [sSlip, slipS s]
def wRw : Rw → List Str
  | .move a b n => [sMove, a, b, numS n]
  | .count a n => [sCount, a, numS n]
def wIt : Item → List Str
  | .place p => wPl p
  | .way w => wWy w
  | .slip s => wSl s
  | .row r => wRw r
def Item.key : Item → Str
  | .place _ => sPlace
  | .way _ => sWay
  | .slip _ => sSlip
  | .row (.move _ _ _) => sMove
  | .row (.count _ _) => sCount
theorem wIt_cons (it : Item) : ∃ r, wIt it = it.key :: r := by
  cases it with
  | row r => cases r <;> exact ⟨_, rfl⟩
  | _ => exact ⟨_, rfl⟩

/-! ### by form -/
def OkPl (p : Pl) : Prop := isPName p.1 = true ∧ p.2.1 ≤ p.2.2 ∧ p.2.2 < small
def OkWy (w : Wy) : Prop := isName w.1 = true ∧ isName w.2.1 = true ∧ w.1 ≠ w.2.1 ∧ 0 < w.2.2 ∧ w.2.2 < small
def OkSl (s : Option Nat) : Prop := ∀ n, s = some n → 0 < n ∧ n < small
def OkRw : Rw → Prop
  | .move a b n => isName a = true ∧ isName b = true ∧ a ≠ b ∧ 0 < n ∧ n < small
  | .count a n => isPName a = true ∧ n < small
def OkIt : Item → Prop
  | .place p => OkPl p
  | .way w => OkWy w
  | .slip s => OkSl s
  | .row r => OkRw r

/-! ### the reader -/
def tk {α : Type} (ws : List Str) (i : Nat) (f : Str → Option α) : Except Nat α := match ws[i]? with
  | none => .error i
  | some w => (match f w with
    | none => .error i
    | some a => .ok a)
def rName (w : Str) : Option Str := if isName w = true then some w else none
def rPName (w : Str) : Option Str := if isPName w = true then some w else none
def rOther (one w : Str) : Option Str := if isName w = true ∧ w ≠ one then some w else none
def rNum (least : Nat) (w : Str) : Option Nat := match num? w with
  | none => none
  | some n => if least ≤ n then some n else none
def rSlip (w : Str) : Option (Option Nat) := if w = sDash then some none else match num? w with
  | none => none
  | some n => if 0 < n then some (some n) else none
def rFirst (allowed : List Str) (w : Str) : Option Str := if w ∈ allowed then some w else none
def fin {α : Type} (ws : List Str) (k : Nat) (x : α) : Except Nat α := if k < ws.length then .error k else .ok x
def rPlace (ws : List Str) : Except Nat Pl := match tk ws 1 rPName with
  | .error e => .error e
  | .ok n => (match tk ws 2 (rNum 0) with
    | .error e => .error e
    | .ok s => (match tk ws 3 (rNum s) with
      | .error e => .error e
      | .ok c => .ok (n, s, c)))
def rWay (ws : List Str) : Except Nat Wy := match tk ws 1 rName with
  | .error e => .error e
  | .ok a => (match tk ws 2 (rOther a) with
    | .error e => .error e
    | .ok b => (match tk ws 3 (rNum 1) with
      | .error e => .error e
      | .ok c => .ok (a, b, c)))
def rCnt (ws : List Str) : Except Nat Rw := match tk ws 1 rPName with
  | .error e => .error e
  | .ok a => (match tk ws 2 (rNum 0) with
    | .error e => .error e
    | .ok n => .ok (.count a n))
def thenF {α : Type} (x : Except Nat α) (ws : List Str) (k : Nat) (g : α → Item) : Except Nat Item := match x with
  | .error e => .error e
  | .ok a => fin ws k (g a)
def rRest (h : Str) (ws : List Str) : Except Nat Item :=
  if h = sPlace then thenF (rPlace ws) ws 4 .place
  else if h = sWay then thenF (rWay ws) ws 4 .way
  else if h = sSlip then thenF (tk ws 1 rSlip) ws 2 .slip
  else if h = sMove then thenF (rWay ws) ws 4 fun w => .row (.move w.1 w.2.1 w.2.2)
  else thenF (rCnt ws) ws 3 .row
def rLine (allowed : List Str) (ws : List Str) : Except Nat Item := match tk ws 0 (rFirst allowed) with
  | .error e => .error e
  | .ok h => rRest h ws
def rowW : List Str := [sMove, sCount]
def behind (h : Str) : List Str := if h = sPlace then [sPlace, sWay, sSlip] else if h = sWay then [sWay, sSlip] else rowW
def rLines : Nat → List Str → List (List Str) → Except (Nat × Nat) (List Item × List Str)
  | _, al, [] => .ok ([], al)
  | k, al, ws :: r => match rLine al ws with
    | .error f => .error (k, f)
    | .ok it => (match rLines (k + 1) (behind it.key) r with
      | .error e => .error e
      | .ok (its, al') => .ok (it :: its, al'))
def plOf : Item → Option Pl
  | .place p => some p
  | _ => none
def wyOf : Item → Option Wy
  | .way w => some w
  | _ => none
def slOf : Item → Option (Option Nat)
  | .slip s => some s
  | _ => none
def rwOf : Item → Option Rw
  | .row r => some r
  | _ => none
def linesOf (t : Str) : List Str := cut 10 t
def wordsOf (l : Str) : List Str := cut 32 l
def rBook (t : Str) : Except (Nat × Nat) Bk := match rLines 0 [sPlace] ((linesOf t).map wordsOf) with
  | .error e => .error e
  | .ok (its, al) => if al = rowW then .ok ⟨its.filterMap plOf, its.filterMap wyOf, ((its.filterMap slOf).head?).getD none, its.filterMap rwOf⟩ else .error ((linesOf t).length, 0)

/-! ### the writer -/
def lineS (ws : List Str) : Str := Str.join sp ws
def itsOf (b : Bk) : List Item := b.places.map .place ++ (b.ways.map .way ++ (.slip b.slip :: b.rows.map .row))
def bkLines (b : Bk) : List Str := (itsOf b).map fun it => lineS (wIt it)
def bkText (b : Bk) : Str := Str.join nl (bkLines b)

/-! ### taking -/
theorem tk_ok {α : Type} {ws : List Str} {i : Nat} {f : Str → Option α} {a : α} (h : tk ws i f = .ok a) : ∃ w, ws[i]? = some w ∧ f w = some a := by
  unfold tk at h
  cases e : ws[i]? with
  | none =>
    rw [e] at h
    cases h
  | some w =>
    rw [e] at h
    have h2 : (match f w with | none => (.error i : Except Nat α) | some a => .ok a) = .ok a := h
    cases e2 : f w with
    | none =>
      rw [e2] at h2
      cases h2
    | some b =>
      rw [e2] at h2
      cases h2
      exact ⟨w, rfl, e2⟩
theorem tk_err {α : Type} {ws : List Str} {i e : Nat} {f : Str → Option α} (h : tk ws i f = .error e) : e = i ∧ (ws[i]? = none ∨ ∃ w, ws[i]? = some w ∧ f w = none) := by
  unfold tk at h
  cases e1 : ws[i]? with
  | none =>
    rw [e1] at h
    cases h
    exact ⟨rfl, .inl rfl⟩
  | some w =>
    rw [e1] at h
    have h2 : (match f w with | none => (.error i : Except Nat α) | some a => .ok a) = .error e := h
    cases e2 : f w with
    | none =>
      rw [e2] at h2
      cases h2
      exact ⟨rfl, .inr ⟨w, rfl, e2⟩⟩
    | some b =>
      rw [e2] at h2
      cases h2
theorem tk_is {α : Type} {ws : List Str} {i : Nat} {f : Str → Option α} {w : Str} {a : α} (h : ws[i]? = some w) (h2 : f w = some a) : tk ws i f = .ok a := by
  unfold tk
  rw [h]
  show (match f w with | none => (.error i : Except Nat α) | some a => .ok a) = .ok a
  rw [h2]
theorem tk_no {α : Type} {ws : List Str} {i : Nat} {f : Str → Option α} (h : ws[i]? = none) : tk ws i f = .error i := by
  unfold tk
  rw [h]
theorem tk_bad {α : Type} {ws : List Str} {i : Nat} {f : Str → Option α} {w : Str} (h : ws[i]? = some w) (h2 : f w = none) : tk ws i f = .error i := by
  unfold tk
  rw [h]
  show (match f w with | none => (.error i : Except Nat α) | some a => .ok a) = .error i
  rw [h2]
theorem rName_ok {w a : Str} (h : rName w = some a) : a = w ∧ isName w = true := by
  unfold rName at h
  split at h
  · rename_i q
    cases h
    exact ⟨rfl, q⟩
  · cases h
theorem rPName_ok {w a : Str} (h : rPName w = some a) : a = w ∧ isPName w = true := by
  unfold rPName at h
  split at h
  · rename_i q
    cases h
    exact ⟨rfl, q⟩
  · cases h
theorem rOther_ok {o w a : Str} (h : rOther o w = some a) : a = w ∧ isName w = true ∧ w ≠ o := by
  unfold rOther at h
  split at h
  · rename_i q
    cases h
    exact ⟨rfl, q⟩
  · cases h
theorem rNum_ok {l n : Nat} {w : Str} (h : rNum l w = some n) : w = numS n ∧ n < small ∧ l ≤ n := by
  unfold rNum at h
  cases e : num? w with
  | none =>
    rw [e] at h
    cases h
  | some m =>
    rw [e] at h
    have h2 : (if l ≤ m then some m else none) = some n := h
    by_cases c : l ≤ m
    · rw [if_pos c] at h2
      cases h2
      exact ⟨num_text e, num_small e, c⟩
    · rw [if_neg c] at h2
      cases h2
theorem rNum_is {l n : Nat} (hs : n < small) (hl : l ≤ n) : rNum l (numS n) = some n := by
  unfold rNum
  rw [numS_is hs]
  exact if_pos hl
theorem dash_not_num : num? sDash = none := by decide +kernel
theorem rSlip_ok {w : Str} {s : Option Nat} (h : rSlip w = some s) : w = slipS s ∧ OkSl s := by
  unfold rSlip at h
  split at h
  · rename_i q
    cases h
    exact ⟨q, fun n e => by cases e⟩
  · cases e : num? w with
    | none =>
      rw [e] at h
      cases h
    | some m =>
      rw [e] at h
      have h2 : (if 0 < m then some (some m) else none) = some s := h
      by_cases c : 0 < m
      · rw [if_pos c] at h2
        cases h2
        exact ⟨num_text e, fun n e2 => by
          cases e2
          exact ⟨c, num_small e⟩⟩
      · rw [if_neg c] at h2
        cases h2
theorem rSlip_is {s : Option Nat} (h : OkSl s) : rSlip (slipS s) = some s := by
  cases s with
  | none => exact if_pos rfl
  | some n =>
    obtain ⟨h1, h2⟩ := h n rfl
    have q := numS_is h2
    have ne : numS n ≠ sDash := by
      intro e
      rw [e, dash_not_num] at q
      cases q
    unfold rSlip
    rw [show slipS (some n) = numS n from rfl, if_neg ne, q]
    exact if_pos h1
theorem rFirst_ok {al : List Str} {w a : Str} (h : rFirst al w = some a) : a = w ∧ w ∈ al := by
  unfold rFirst at h
  split at h
  · rename_i q
    cases h
    exact ⟨rfl, q⟩
  · cases h
theorem fin_ok {α : Type} {ws : List Str} {k : Nat} {x y : α} (h : fin ws k x = .ok y) : x = y ∧ ws.length ≤ k := by
  unfold fin at h
  split at h
  · cases h
  · rename_i q
    cases h
    exact ⟨rfl, by omega⟩
theorem fin_err {α : Type} {ws : List Str} {k e : Nat} {x : α} (h : fin ws k x = .error e) : e = k ∧ k < ws.length := by
  unfold fin at h
  split at h
  · rename_i q
    cases h
    exact ⟨rfl, q⟩
  · cases h
theorem fin_is {α : Type} {ws : List Str} {k : Nat} {x : α} (h : ws.length ≤ k) : fin ws k x = .ok x := if_neg (by omega)
theorem thenF_ok {α : Type} {x : Except Nat α} {ws : List Str} {k : Nat} {g : α → Item} {it : Item} (h : thenF x ws k g = .ok it) : ∃ a, x = .ok a ∧ it = g a ∧ ws.length ≤ k := by
  cases x with
  | error e => cases h
  | ok a =>
    obtain ⟨h1, h2⟩ := fin_ok (show fin ws k (g a) = .ok it from h)
    exact ⟨a, rfl, h1.symm, h2⟩

/-- the words are these four -/
theorem four {ws : List Str} {a b c d : Str} (h0 : ws[0]? = some a) (h1 : ws[1]? = some b) (h2 : ws[2]? = some c) (h3 : ws[3]? = some d) (hl : ws.length ≤ 4) : ws = [a, b, c, d] := by
  match ws, h0, h1, h2, h3, hl with
  | [a', b', c', d'], h0, h1, h2, h3, _ =>
    simp at h0 h1 h2 h3
    rw [h0, h1, h2, h3]
theorem three {ws : List Str} {a b c : Str} (h0 : ws[0]? = some a) (h1 : ws[1]? = some b) (h2 : ws[2]? = some c) (hl : ws.length ≤ 3) : ws = [a, b, c] := by
  match ws, h0, h1, h2, hl with
  | [a', b', c'], h0, h1, h2, _ =>
    simp at h0 h1 h2
    rw [h0, h1, h2]
theorem two {ws : List Str} {a b : Str} (h0 : ws[0]? = some a) (h1 : ws[1]? = some b) (hl : ws.length ≤ 2) : ws = [a, b] := by
  match ws, h0, h1, hl with
  | [a', b'], h0, h1, _ =>
    simp at h0 h1
    rw [h0, h1]
theorem rPlace_ok {ws : List Str} {p : Pl} (h : rPlace ws = .ok p) : ws[1]? = some p.1 ∧ ws[2]? = some (numS p.2.1) ∧ ws[3]? = some (numS p.2.2) ∧ OkPl p := by
  unfold rPlace at h
  cases e1 : tk ws 1 rPName with
  | error e =>
    rw [e1] at h
    cases h
  | ok n =>
    rw [e1] at h
    dsimp only at h
    cases e2 : tk ws 2 (rNum 0) with
    | error e =>
      rw [e2] at h
      cases h
    | ok s =>
      rw [e2] at h
      dsimp only at h
      cases e3 : tk ws 3 (rNum s) with
      | error e =>
        rw [e3] at h
        cases h
      | ok c =>
        rw [e3] at h
        cases h
        obtain ⟨w1, a1, b1⟩ := tk_ok e1
        obtain ⟨w2, a2, b2⟩ := tk_ok e2
        obtain ⟨w3, a3, b3⟩ := tk_ok e3
        obtain ⟨c1, d1⟩ := rPName_ok b1
        obtain ⟨c2, d2, _⟩ := rNum_ok b2
        obtain ⟨c3, d3, f3⟩ := rNum_ok b3
        refine ⟨by rw [a1, c1], by rw [a2, c2], by rw [a3, c3], ?_, f3, d3⟩
        show isPName n = true
        rw [c1]
        exact d1
theorem rWay_ok {ws : List Str} {p : Wy} (h : rWay ws = .ok p) : ws[1]? = some p.1 ∧ ws[2]? = some p.2.1 ∧ ws[3]? = some (numS p.2.2) ∧ OkWy p := by
  unfold rWay at h
  cases e1 : tk ws 1 rName with
  | error e =>
    rw [e1] at h
    cases h
  | ok n =>
    rw [e1] at h
    dsimp only at h
    cases e2 : tk ws 2 (rOther n) with
    | error e =>
      rw [e2] at h
      cases h
    | ok s =>
      rw [e2] at h
      dsimp only at h
      cases e3 : tk ws 3 (rNum 1) with
      | error e =>
        rw [e3] at h
        cases h
      | ok c =>
        rw [e3] at h
        cases h
        obtain ⟨w1, a1, b1⟩ := tk_ok e1
        obtain ⟨w2, a2, b2⟩ := tk_ok e2
        obtain ⟨w3, a3, b3⟩ := tk_ok e3
        obtain ⟨c1, d1⟩ := rName_ok b1
        obtain ⟨c2, d2, g2⟩ := rOther_ok b2
        obtain ⟨c3, d3, f3⟩ := rNum_ok b3
        refine ⟨by rw [a1, c1], by rw [a2, c2], by rw [a3, c3], ?_, ?_, ?_, f3, d3⟩
        · show isName n = true
          rw [c1]
          exact d1
        · show isName s = true
          rw [c2]
          exact d2
        · show n ≠ s
          rw [c2]
          exact fun z => g2 z.symm
theorem rCnt_ok {ws : List Str} {p : Rw} (h : rCnt ws = .ok p) : ∃ a n, p = .count a n ∧ ws[1]? = some a ∧ ws[2]? = some (numS n) ∧ OkRw p := by
  unfold rCnt at h
  cases e1 : tk ws 1 rPName with
  | error e =>
    rw [e1] at h
    cases h
  | ok n =>
    rw [e1] at h
    dsimp only at h
    cases e2 : tk ws 2 (rNum 0) with
    | error e =>
      rw [e2] at h
      cases h
    | ok s =>
      rw [e2] at h
      cases h
      obtain ⟨w1, a1, b1⟩ := tk_ok e1
      obtain ⟨w2, a2, b2⟩ := tk_ok e2
      obtain ⟨c1, d1⟩ := rPName_ok b1
      obtain ⟨c2, d2, _⟩ := rNum_ok b2
      refine ⟨n, s, rfl, by rw [a1, c1], by rw [a2, c2], ?_, d2⟩
      show isPName n = true
      rw [c1]
      exact d1
/-- what is read is written as these words, and is by form -/
theorem rLine_ok {al ws : List Str} {it : Item} (h : rLine al ws = .ok it) (hal : ∀ w ∈ al, w = sPlace ∨ w = sWay ∨ w = sSlip ∨ w = sMove ∨ w = sCount) : ws = wIt it ∧ OkIt it ∧ it.key ∈ al := by
  unfold rLine at h
  cases e0 : tk ws 0 (rFirst al) with
  | error e =>
    rw [e0] at h
    cases h
  | ok w0 =>
    rw [e0] at h
    have h2 : rRest w0 ws = .ok it := h
    obtain ⟨w, a0, b0⟩ := tk_ok e0
    obtain ⟨rfl, hm⟩ := rFirst_ok b0
    unfold rRest at h2
    split at h2
    · rename_i q
      obtain ⟨p, e1, rfl, hl⟩ := thenF_ok h2
      obtain ⟨h1, h2, h3, hk⟩ := rPlace_ok e1
      rw [q] at a0 hm
      exact ⟨four a0 h1 h2 h3 hl, hk, hm⟩
    split at h2
    · rename_i q
      obtain ⟨p, e1, rfl, hl⟩ := thenF_ok h2
      obtain ⟨h1, h2, h3, hk⟩ := rWay_ok e1
      rw [q] at a0 hm
      exact ⟨four a0 h1 h2 h3 hl, hk, hm⟩
    split at h2
    · rename_i q
      obtain ⟨s, e1, rfl, hl⟩ := thenF_ok h2
      obtain ⟨w1, a1, b1⟩ := tk_ok e1
      obtain ⟨c1, d1⟩ := rSlip_ok b1
      rw [q] at a0 hm
      exact ⟨two a0 (by rw [a1, c1]) hl, d1, hm⟩
    split at h2
    · rename_i q
      obtain ⟨p, e1, rfl, hl⟩ := thenF_ok h2
      obtain ⟨h1, h2, h3, hk⟩ := rWay_ok e1
      rw [q] at a0 hm
      exact ⟨four a0 h1 h2 h3 hl, hk, hm⟩
    · rename_i n1 n2 n3 n4
      obtain ⟨p, e1, rfl, hl⟩ := thenF_ok h2
      obtain ⟨a, n, rfl, h1, h3, hk⟩ := rCnt_ok e1
      have q : w0 = sCount := by
        rcases hal _ hm with z | z | z | z | z
        · exact absurd z n1
        · exact absurd z n2
        · exact absurd z n3
        · exact absurd z n4
        · exact z
      rw [q] at a0 hm
      exact ⟨three a0 h1 h3 hl, hk, hm⟩
theorem key_ne : sPlace ≠ sWay ∧ sPlace ≠ sSlip ∧ sPlace ≠ sMove ∧ sWay ≠ sSlip ∧ sWay ≠ sMove ∧ sSlip ≠ sMove ∧ sCount ≠ sPlace ∧ sCount ≠ sWay ∧ sCount ≠ sSlip ∧ sCount ≠ sMove ∧ sWay ≠ sPlace ∧ sSlip ≠ sPlace ∧ sSlip ≠ sWay ∧ sMove ≠ sPlace ∧ sMove ≠ sWay ∧ sMove ≠ sSlip := by decide +kernel
theorem rPName_is {w : Str} (h : isPName w = true) : rPName w = some w := if_pos h
theorem rName_is {w : Str} (h : isName w = true) : rName w = some w := if_pos h
theorem rWay_is {k a b : Str} {n : Nat} (h : OkWy (a, b, n)) : rWay [k, a, b, numS n] = .ok (a, b, n) := by
  obtain ⟨h1, h2, h3, h4, h5⟩ := h
  unfold rWay
  rw [tk_is (i := 1) (w := a) (a := a) rfl (rName_is h1)]
  dsimp only
  rw [tk_is (i := 2) (w := b) (a := b) rfl (if_pos ⟨h2, fun z => h3 z.symm⟩)]
  dsimp only
  rw [tk_is (i := 3) (w := numS n) (a := n) rfl (rNum_is h5 h4)]
/-- what is written is read -/
theorem rLine_is {al : List Str} {it : Item} (h : OkIt it) (hm : it.key ∈ al) : rLine al (wIt it) = .ok it := by
  obtain ⟨k1, k2, k3, k4, k5, k6, k7, k8, k9, k10, k11, k12, k13, k14, k15, k16⟩ := key_ne
  have head : tk (wIt it) 0 (rFirst al) = .ok it.key := by
    obtain ⟨r, e⟩ := wIt_cons it
    rw [e]
    exact tk_is rfl (if_pos hm)
  unfold rLine
  rw [head]
  show rRest it.key (wIt it) = .ok it
  cases it with
  | place p =>
    show rRest sPlace (wIt (.place p)) = _
    unfold rRest
    rw [if_pos rfl]
    obtain ⟨n, s, c⟩ := p
    obtain ⟨h1, h2, h3⟩ := h
    have q : rPlace [sPlace, n, numS s, numS c] = .ok (n, s, c) := by
      unfold rPlace
      rw [tk_is (i := 1) (w := n) (a := n) rfl (rPName_is h1)]
      dsimp only
      rw [tk_is (i := 2) (w := numS s) (a := s) rfl (rNum_is (Nat.lt_of_le_of_lt h2 h3) (Nat.zero_le _))]
      dsimp only
      rw [tk_is (i := 3) (w := numS c) (a := c) rfl (rNum_is h3 h2)]
    show thenF (rPlace [sPlace, n, numS s, numS c]) _ 4 Item.place = _
    rw [q]
    exact fin_is (Nat.le_refl _)
  | way w =>
    obtain ⟨a, b, n⟩ := w
    show rRest sWay (wIt (.way (a, b, n))) = _
    unfold rRest
    rw [if_neg k11, if_pos rfl]
    show thenF (rWay [sWay, a, b, numS n]) _ 4 Item.way = _
    rw [rWay_is h]
    exact fin_is (Nat.le_refl _)
  | slip s =>
    show rRest sSlip (wIt (.slip s)) = _
    unfold rRest
    rw [if_neg k12, if_neg k13, if_pos rfl]
    show thenF (tk [sSlip, slipS s] 1 rSlip) _ 2 Item.slip = _
    rw [tk_is (i := 1) (w := slipS s) (a := s) rfl (rSlip_is h)]
    exact fin_is (Nat.le_refl _)
  | row r =>
    cases r with
    | move a b n =>
      show rRest sMove (wIt (.row (.move a b n))) = _
      unfold rRest
      rw [if_neg k14, if_neg k15, if_neg k16, if_pos rfl]
      show thenF (rWay [sMove, a, b, numS n]) _ 4 _ = _
      rw [rWay_is h]
      exact fin_is (Nat.le_refl _)
    | count a n =>
      show rRest sCount (wIt (.row (.count a n))) = _
      unfold rRest
      rw [if_neg k7, if_neg k8, if_neg k9, if_neg k10]
      have q : rCnt [sCount, a, numS n] = .ok (.count a n) := by
        unfold rCnt
        rw [tk_is (i := 1) (w := a) (a := a) rfl (rPName_is h.1)]
        dsimp only
        rw [tk_is (i := 2) (w := numS n) (a := n) rfl (rNum_is h.2 (Nat.zero_le _))]
      show thenF (rCnt [sCount, a, numS n]) _ 3 Item.row = _
      rw [q]
      exact fin_is (Nat.le_refl _)
end K12

namespace K12
open PySem

/-! ### lines, one after another -/
def chain : List Str → List Item → Prop
  | _, [] => True
  | al, it :: r => it.key ∈ al ∧ OkIt it ∧ chain (behind it.key) r
def alEnd : List Str → List Item → List Str
  | al, [] => al
  | _, it :: r => alEnd (behind it.key) r
def okAl (al : List Str) : Prop := ∀ w ∈ al, w = sPlace ∨ w = sWay ∨ w = sSlip ∨ w = sMove ∨ w = sCount
theorem ok_behind (h : Str) : okAl (behind h) := by
  unfold behind
  split
  · intro w hw
    simp at hw
    rcases hw with e | e | e <;> simp [e]
  · split
    · intro w hw
      simp at hw
      rcases hw with e | e <;> simp [e]
    · intro w hw
      simp [rowW] at hw
      rcases hw with e | e <;> simp [e]
theorem ok_place : okAl [sPlace] := fun w hw => .inl (by simpa using hw)
theorem rLines_ok : ∀ {L : List (List Str)} {k : Nat} {al al' : List Str} {its : List Item}, okAl al → rLines k al L = .ok (its, al') → L = its.map wIt ∧ chain al its ∧ al' = alEnd al its
  | [], k, al, al', its, _, h => by
    cases h
    exact ⟨rfl, trivial, rfl⟩
  | ws :: r, k, al, al', its, ho, h => by
    unfold rLines at h
    cases e : rLine al ws with
    | error f =>
      rw [e] at h
      cases h
    | ok it =>
      rw [e] at h
      dsimp only at h
      cases e2 : rLines (k + 1) (behind it.key) r with
      | error f =>
        rw [e2] at h
        cases h
      | ok p =>
        obtain ⟨its2, al2⟩ := p
        rw [e2] at h
        cases h
        obtain ⟨h1, h2, h3⟩ := rLines_ok (ok_behind _) e2
        obtain ⟨w1, w2, w3⟩ := rLine_ok e ho
        exact ⟨by rw [h1, w1]; rfl, ⟨w3, w2, h2⟩, h3⟩
def comb (its : List Item) (x : Except (Nat × Nat) (List Item × List Str)) : Except (Nat × Nat) (List Item × List Str) := match x with
  | .error e => .error e
  | .ok p => .ok (its ++ p.1, p.2)
theorem rLines_app : ∀ {its : List Item} {k : Nat} {al : List Str} {L : List (List Str)}, chain al its → rLines k al (its.map wIt ++ L) = comb its (rLines (k + its.length) (alEnd al its) L)
  | [], k, al, L, _ => by
    show rLines k al L = comb [] (rLines k al L)
    cases rLines k al L <;> rfl
  | it :: r, k, al, L, ⟨h1, h2, h3⟩ => by
    have e := rLine_is h2 h1
    have ih := rLines_app (k := k + 1) (L := L) h3
    have ek : k + 1 + r.length = k + (it :: r).length := by
      rw [List.length_cons]
      omega
    rw [ek] at ih
    show rLines k al (wIt it :: (r.map wIt ++ L)) = comb (it :: r) (rLines (k + (it :: r).length) (alEnd (behind it.key) r) L)
    rw [rLines, e]
    dsimp only
    rw [ih]
    cases rLines (k + (it :: r).length) (alEnd (behind it.key) r) L <;> rfl
theorem rLines_is {its : List Item} {k : Nat} {al : List Str} (h : chain al its) : rLines k al (its.map wIt) = .ok (its, alEnd al its) := by
  have e := rLines_app (k := k) (L := []) h
  rw [List.append_nil] at e
  rw [e]
  show Except.ok (its ++ [], _) = _
  rw [List.append_nil]
/-- an error names a line and a word of it, or how many it has -/
theorem tk_le {α : Type} {ws : List Str} {i e : Nat} {f : Str → Option α} (h : tk ws i f = .error e) (hi : i ≤ ws.length) : e ≤ ws.length := by
  rw [(tk_err h).1]
  exact hi
theorem tk_lt {α : Type} {ws : List Str} {i : Nat} {f : Str → Option α} {a : α} (h : tk ws i f = .ok a) : i < ws.length := by
  obtain ⟨w, e, _⟩ := tk_ok h
  exact (List.getElem?_eq_some_iff.mp e).1
theorem thenF_le {α : Type} {x : Except Nat α} {ws : List Str} {k e : Nat} {g : α → Item} (h : thenF x ws k g = .error e) (hx : ∀ f, x = .error f → f ≤ ws.length) : e ≤ ws.length := by
  cases x with
  | error f =>
    cases h
    exact hx _ rfl
  | ok a =>
    have q := fin_err (show fin ws k (g a) = .error e from h)
    omega
theorem rPlace_le {ws : List Str} {e : Nat} (h : rPlace ws = .error e) (h0 : 1 ≤ ws.length) : e ≤ ws.length := by
  unfold rPlace at h
  cases e1 : tk ws 1 rPName with
  | error f =>
    rw [e1] at h
    cases h
    exact tk_le e1 h0
  | ok n =>
    rw [e1] at h
    dsimp only at h
    have l1 := tk_lt e1
    cases e2 : tk ws 2 (rNum 0) with
    | error f =>
      rw [e2] at h
      cases h
      exact tk_le e2 l1
    | ok s =>
      rw [e2] at h
      dsimp only at h
      have l2 := tk_lt e2
      cases e3 : tk ws 3 (rNum s) with
      | error f =>
        rw [e3] at h
        cases h
        exact tk_le e3 l2
      | ok c =>
        rw [e3] at h
        cases h
theorem rWay_le {ws : List Str} {e : Nat} (h : rWay ws = .error e) (h0 : 1 ≤ ws.length) : e ≤ ws.length := by
  unfold rWay at h
  cases e1 : tk ws 1 rName with
  | error f =>
    rw [e1] at h
    cases h
    exact tk_le e1 h0
  | ok n =>
    rw [e1] at h
    dsimp only at h
    have l1 := tk_lt e1
    cases e2 : tk ws 2 (rOther n) with
    | error f =>
      rw [e2] at h
      cases h
      exact tk_le e2 l1
    | ok s =>
      rw [e2] at h
      dsimp only at h
      have l2 := tk_lt e2
      cases e3 : tk ws 3 (rNum 1) with
      | error f =>
        rw [e3] at h
        cases h
        exact tk_le e3 l2
      | ok c =>
        rw [e3] at h
        cases h
theorem rCnt_le {ws : List Str} {e : Nat} (h : rCnt ws = .error e) (h0 : 1 ≤ ws.length) : e ≤ ws.length := by
  unfold rCnt at h
  cases e1 : tk ws 1 rPName with
  | error f =>
    rw [e1] at h
    cases h
    exact tk_le e1 h0
  | ok n =>
    rw [e1] at h
    dsimp only at h
    have l1 := tk_lt e1
    cases e2 : tk ws 2 (rNum 0) with
    | error f =>
      rw [e2] at h
      cases h
      exact tk_le e2 l1
    | ok s =>
      rw [e2] at h
      cases h
theorem rLine_le {al ws : List Str} {e : Nat} (h : rLine al ws = .error e) : e ≤ ws.length := by
  unfold rLine at h
  cases e0 : tk ws 0 (rFirst al) with
  | error f =>
    rw [e0] at h
    cases h
    exact tk_le e0 (Nat.zero_le _)
  | ok w0 =>
    rw [e0] at h
    have h2 : rRest w0 ws = .error e := h
    have l0 : 1 ≤ ws.length := tk_lt e0
    unfold rRest at h2
    split at h2
    · exact thenF_le h2 fun f q => rPlace_le q l0
    split at h2
    · exact thenF_le h2 fun f q => rWay_le q l0
    split at h2
    · exact thenF_le h2 fun f q => tk_le q l0
    split at h2
    · exact thenF_le h2 fun f q => rWay_le q l0
    · exact thenF_le h2 fun f q => rCnt_le q l0
theorem rLines_err : ∀ {L : List (List Str)} {k : Nat} {al : List Str} {l f : Nat}, rLines k al L = .error (l, f) → k ≤ l ∧ ∃ ws, L[l - k]? = some ws ∧ f ≤ ws.length
  | [], k, al, l, f, h => by cases h
  | ws :: r, k, al, l, f, h => by
    unfold rLines at h
    cases e : rLine al ws with
    | error g =>
      rw [e] at h
      cases h
      exact ⟨Nat.le_refl _, ws, by rw [Nat.sub_self]; rfl, rLine_le e⟩
    | ok it =>
      rw [e] at h
      dsimp only at h
      cases e2 : rLines (k + 1) (behind it.key) r with
      | error g =>
        rw [e2] at h
        cases h
        obtain ⟨h1, ws2, h2, h3⟩ := rLines_err e2
        refine ⟨by omega, ws2, ?_, h3⟩
        rw [show l - k = (l - (k + 1)) + 1 by omega, List.getElem?_cons_succ]
        exact h2
      | ok p =>
        obtain ⟨its2, al2⟩ := p
        rw [e2] at h
        cases h

/-! ### the order of the lines -/
theorem bPlace : behind sPlace = [sPlace, sWay, sSlip] := by decide +kernel
theorem bWay : behind sWay = [sWay, sSlip] := by decide +kernel
theorem bSlip : behind sSlip = rowW := by decide +kernel
theorem bMove : behind sMove = rowW := by decide +kernel
theorem bCount : behind sCount = rowW := by decide +kernel
theorem bRow (r : Rw) : behind (Item.row r).key = rowW := by
  cases r
  · exact bMove
  · exact bCount
theorem row_of_key {it : Item} (h : it.key ∈ rowW) : ∃ r, it = .row r := by
  cases it with
  | row r => exact ⟨r, rfl⟩
  | place p => exact absurd (show sPlace ∈ rowW from h) (by decide +kernel)
  | way p => exact absurd (show sWay ∈ rowW from h) (by decide +kernel)
  | slip p => exact absurd (show sSlip ∈ rowW from h) (by decide +kernel)
theorem key_row (r : Rw) : (Item.row r).key ∈ rowW := by
  cases r
  · exact List.mem_cons_self
  · exact List.mem_cons_of_mem _ List.mem_cons_self
theorem shape3 : ∀ {its : List Item}, chain rowW its → ∃ rs : List Rw, its = rs.map .row ∧ (∀ r ∈ rs, OkRw r) ∧ alEnd rowW its = rowW
  | [], _ => ⟨[], rfl, (fun _ h => by cases h), rfl⟩
  | it :: r, ⟨h1, h2, h3⟩ => by
    obtain ⟨q, rfl⟩ := row_of_key h1
    rw [bRow] at h3
    obtain ⟨rs, e, ok, ee⟩ := shape3 h3
    refine ⟨q :: rs, by rw [e]; rfl, fun z hz => ?_, ?_⟩
    · rcases List.mem_cons.mp hz with rfl | hz
      · exact h2
      · exact ok z hz
    · show alEnd (behind (Item.row q).key) r = rowW
      rw [bRow]
      exact ee
theorem n2 : [sWay, sSlip] ≠ rowW := by decide +kernel
theorem n1 : [sPlace, sWay, sSlip] ≠ rowW := by decide +kernel
theorem n0 : [sPlace] ≠ rowW := by decide +kernel
theorem shape2 : ∀ {its : List Item}, chain [sWay, sSlip] its → alEnd [sWay, sSlip] its = rowW → ∃ (ws : List Wy) (s : Option Nat) (rs : List Rw), its = ws.map .way ++ .slip s :: rs.map .row ∧ (∀ w ∈ ws, OkWy w) ∧ OkSl s ∧ ∀ r ∈ rs, OkRw r
  | [], _, e => absurd e n2
  | .way w :: r, ⟨_, h2, h3⟩, e => by
    have h3' : chain (behind sWay) r := h3
    have e' : alEnd (behind sWay) r = rowW := e
    rw [bWay] at h3' e'
    obtain ⟨ws, s, rs, e1, o1, o2, o3⟩ := shape2 h3' e'
    refine ⟨w :: ws, s, rs, by rw [e1]; rfl, fun z hz => ?_, o2, o3⟩
    rcases List.mem_cons.mp hz with rfl | hz
    · exact h2
    · exact o1 z hz
  | .slip s :: r, ⟨_, h2, h3⟩, e => by
    have h3' : chain (behind sSlip) r := h3
    rw [bSlip] at h3'
    obtain ⟨rs, e1, o, _⟩ := shape3 h3'
    exact ⟨[], s, rs, by rw [e1]; rfl, (fun _ h => by cases h), h2, o⟩
  | .place p :: r, ⟨h1, _, _⟩, _ => absurd (show sPlace ∈ [sWay, sSlip] from h1) (by decide +kernel)
  | .row (.move _ _ _) :: r, ⟨h1, _, _⟩, _ => absurd (show sMove ∈ [sWay, sSlip] from h1) (by decide +kernel)
  | .row (.count _ _) :: r, ⟨h1, _, _⟩, _ => absurd (show sCount ∈ [sWay, sSlip] from h1) (by decide +kernel)
theorem shape1 : ∀ {its : List Item}, chain [sPlace, sWay, sSlip] its → alEnd [sPlace, sWay, sSlip] its = rowW → ∃ (ps : List Pl) (ws : List Wy) (s : Option Nat) (rs : List Rw), its = ps.map .place ++ (ws.map .way ++ .slip s :: rs.map .row) ∧ (∀ p ∈ ps, OkPl p) ∧ (∀ w ∈ ws, OkWy w) ∧ OkSl s ∧ ∀ r ∈ rs, OkRw r
  | [], _, e => absurd e n1
  | .place p :: r, ⟨_, h2, h3⟩, e => by
    have h3' : chain (behind sPlace) r := h3
    have e' : alEnd (behind sPlace) r = rowW := e
    rw [bPlace] at h3' e'
    obtain ⟨ps, ws, s, rs, e1, o0, o1, o2, o3⟩ := shape1 h3' e'
    refine ⟨p :: ps, ws, s, rs, by rw [e1]; rfl, fun z hz => ?_, o1, o2, o3⟩
    rcases List.mem_cons.mp hz with rfl | hz
    · exact h2
    · exact o0 z hz
  | .way w :: r, ⟨_, h2, h3⟩, e => by
    have h3' : chain (behind sWay) r := h3
    have e' : alEnd (behind sWay) r = rowW := e
    rw [bWay] at h3' e'
    obtain ⟨ws, s, rs, e1, o1, o2, o3⟩ := shape2 h3' e'
    refine ⟨[], w :: ws, s, rs, by rw [e1]; rfl, (fun _ h => by cases h), fun z hz => ?_, o2, o3⟩
    rcases List.mem_cons.mp hz with rfl | hz
    · exact h2
    · exact o1 z hz
  | .slip s :: r, ⟨_, h2, h3⟩, e => by
    have h3' : chain (behind sSlip) r := h3
    rw [bSlip] at h3'
    obtain ⟨rs, e1, o, _⟩ := shape3 h3'
    exact ⟨[], [], s, rs, by rw [e1]; rfl, (fun _ h => by cases h), (fun _ h => by cases h), h2, o⟩
  | .row (.move _ _ _) :: r, ⟨h1, _, _⟩, _ => absurd (show sMove ∈ [sPlace, sWay, sSlip] from h1) (by decide +kernel)
  | .row (.count _ _) :: r, ⟨h1, _, _⟩, _ => absurd (show sCount ∈ [sPlace, sWay, sSlip] from h1) (by decide +kernel)
/-- a book by form, with a place -/
structure OkBk (b : Bk) : Prop where
  ne : b.places ≠ []
  pl : ∀ p ∈ b.places, OkPl p
  wy : ∀ w ∈ b.ways, OkWy w
  sl : OkSl b.slip
  rw' : ∀ r ∈ b.rows, OkRw r
theorem shape0 {its : List Item} (h : chain [sPlace] its) (e : alEnd [sPlace] its = rowW) : ∃ b, OkBk b ∧ its = itsOf b := by
  match its, h, e with
  | [], _, e => exact absurd e n0
  | .place p :: r, ⟨_, h2, h3⟩, e =>
    have h3' : chain (behind sPlace) r := h3
    have e' : alEnd (behind sPlace) r = rowW := e
    rw [bPlace] at h3' e'
    obtain ⟨ps, ws, s, rs, e1, o0, o1, o2, o3⟩ := shape1 h3' e'
    refine ⟨⟨p :: ps, ws, s, rs⟩, ⟨by simp, fun z hz => ?_, o1, o2, o3⟩, by rw [e1]; rfl⟩
    rcases List.mem_cons.mp hz with rfl | hz
    · exact h2
    · exact o0 z hz
  | .way w :: r, ⟨h1, _, _⟩, _ => exact absurd (show sWay ∈ [sPlace] from h1) (by decide +kernel)
  | .slip w :: r, ⟨h1, _, _⟩, _ => exact absurd (show sSlip ∈ [sPlace] from h1) (by decide +kernel)
  | .row (.move _ _ _) :: r, ⟨h1, _, _⟩, _ => exact absurd (show sMove ∈ [sPlace] from h1) (by decide +kernel)
  | .row (.count _ _) :: r, ⟨h1, _, _⟩, _ => exact absurd (show sCount ∈ [sPlace] from h1) (by decide +kernel)
/-- what is picked out again -/
theorem fm_none {α β γ : Type} {f : β → Option γ} {g : α → β} (h : ∀ a, f (g a) = none) : ∀ l : List α, (l.map g).filterMap f = []
  | [] => rfl
  | a :: r => by
    rw [List.map_cons, List.filterMap_cons, h a]
    exact fm_none h r
theorem fm_some {α β : Type} {f : β → Option α} {g : α → β} (h : ∀ a, f (g a) = some a) : ∀ l : List α, (l.map g).filterMap f = l
  | [] => rfl
  | a :: r => by
    rw [List.map_cons, List.filterMap_cons, h a]
    show a :: (r.map g).filterMap f = a :: r
    rw [fm_some h r]
theorem pick_pl (b : Bk) : (itsOf b).filterMap plOf = b.places := by
  unfold itsOf
  rw [List.filterMap_append, List.filterMap_append, fm_some (f := plOf) (g := Item.place) (fun _ => rfl), fm_none (fun _ => rfl), List.filterMap_cons]
  show b.places ++ ([] ++ (b.rows.map Item.row).filterMap plOf) = _
  rw [fm_none (fun _ => rfl)]
  simp
theorem pick_wy (b : Bk) : (itsOf b).filterMap wyOf = b.ways := by
  unfold itsOf
  rw [List.filterMap_append, List.filterMap_append, fm_some (f := wyOf) (g := Item.way) (fun _ => rfl), fm_none (fun _ => rfl), List.filterMap_cons]
  show [] ++ (b.ways ++ (b.rows.map Item.row).filterMap wyOf) = _
  rw [fm_none (fun _ => rfl)]
  simp
theorem pick_sl (b : Bk) : (itsOf b).filterMap slOf = [b.slip] := by
  unfold itsOf
  rw [List.filterMap_append, List.filterMap_append, fm_none (fun _ => rfl), fm_none (fun _ => rfl), List.filterMap_cons]
  show [] ++ ([] ++ b.slip :: (b.rows.map Item.row).filterMap slOf) = _
  rw [fm_none (fun _ => rfl)]
  rfl
theorem pick_rw (b : Bk) : (itsOf b).filterMap rwOf = b.rows := by
  unfold itsOf
  rw [List.filterMap_append, List.filterMap_append, fm_none (fun _ => rfl), fm_none (fun _ => rfl), List.filterMap_cons]
  show [] ++ ([] ++ (b.rows.map Item.row).filterMap rwOf) = _
  rw [fm_some (f := rwOf) (g := Item.row) (fun _ => rfl)]
  rfl

/-! ### the text of a line, of a book, cut again -/
theorem free_key : ∀ c, c < 45 → Free c sPlace ∧ Free c sWay ∧ Free c sSlip ∧ Free c sMove ∧ Free c sCount ∧ Free c sDash := by
  intro c hc
  refine ⟨?_, ?_, ?_, ?_, ?_, ?_⟩ <;> (unfold Free; simp [sPlace, sWay, sSlip, sMove, sCount, sDash]; omega)
theorem isName_of {w : Str} (h : isPName w = true) : isName w = true := (Bool.and_eq_true_iff.mp h).1
theorem free_slip {c : Nat} (s : Option Nat) (hc : c < 45) : Free c (slipS s) := by
  cases s with
  | none => exact (free_key c hc).2.2.2.2.2
  | some n => exact free_num c n (by omega)
theorem words_free {c : Nat} {it : Item} (h : OkIt it) (hc : c < 45) : ∀ w ∈ wIt it, Free c w := by
  obtain ⟨k1, k2, k3, k4, k5, k6⟩ := free_key c hc
  cases it with
  | place p =>
    intro w hw
    simp [wIt, wPl] at hw
    rcases hw with rfl | rfl | rfl | rfl
    · exact k1
    · exact free_name (isName_of h.1) (by omega)
    · exact free_num c _ (by omega)
    · exact free_num c _ (by omega)
  | way p =>
    intro w hw
    simp [wIt, wWy] at hw
    rcases hw with rfl | rfl | rfl | rfl
    · exact k2
    · exact free_name h.1 (by omega)
    · exact free_name h.2.1 (by omega)
    · exact free_num c _ (by omega)
  | slip s =>
    intro w hw
    simp [wIt, wSl] at hw
    rcases hw with rfl | rfl
    · exact k3
    · exact free_slip s hc
  | row r =>
    cases r with
    | move a b n =>
      intro w hw
      simp [wIt, wRw] at hw
      rcases hw with rfl | rfl | rfl | rfl
      · exact k4
      · exact free_name h.1 (by omega)
      · exact free_name h.2.1 (by omega)
      · exact free_num c _ (by omega)
    | count a n =>
      intro w hw
      simp [wIt, wRw] at hw
      rcases hw with rfl | rfl | rfl
      · exact k5
      · exact free_name (isName_of h.1) (by omega)
      · exact free_num c _ (by omega)
theorem free_join {c : Nat} {s : Str} (hs : Free c s) : ∀ {l : List Str}, (∀ w ∈ l, Free c w) → Free c (Str.join s l)
  | [], _ => by
    unfold Free
    simp [Str.join, Str.empty]
  | [x], h => h x List.mem_cons_self
  | x :: y :: r, h => by
    have ih := free_join hs (l := y :: r) fun w hw => h w (List.mem_cons_of_mem _ hw)
    have hx := h x List.mem_cons_self
    show Free c (x ++ s ++ Str.join s (y :: r))
    unfold Free at *
    rw [app_l, app_l]
    simp only [List.mem_append, not_or]
    exact ⟨⟨hx, hs⟩, ih⟩
theorem wIt_ne (it : Item) : wIt it ≠ [] := by
  obtain ⟨r, e⟩ := wIt_cons it
  rw [e]
  simp
theorem words_line {it : Item} (h : OkIt it) : wordsOf (lineS (wIt it)) = wIt it := join_cut (wIt_ne it) (words_free h (by decide))
theorem line_words (l : Str) : lineS (wordsOf l) = l := cut_join 32 l
theorem line_free {it : Item} (h : OkIt it) : Free 10 (lineS (wIt it)) := free_join (by unfold Free sp; decide) (words_free h (by decide))
def Oks (its : List Item) : Prop := ∀ it ∈ its, OkIt it
theorem lines_text {its : List Item} (h : Oks its) (hne : its ≠ []) : linesOf (Str.join nl (its.map fun it => lineS (wIt it))) = its.map fun it => lineS (wIt it) := by
  refine join_cut (by simpa using hne) fun w hw => ?_
  obtain ⟨it, hi, rfl⟩ := List.mem_map.mp hw
  exact line_free (h it hi)
theorem words_text {its : List Item} (h : Oks its) : (its.map fun it => lineS (wIt it)).map wordsOf = its.map wIt := by
  rw [List.map_map]
  exact List.map_congr_left fun it hi => words_line (h it hi)
theorem chain_oks : ∀ {al : List Str} {its : List Item}, chain al its → Oks its
  | _, [], _ => (fun _ h => by cases h)
  | _, it :: r, ⟨_, h2, h3⟩ => fun z hz => by
    rcases List.mem_cons.mp hz with rfl | hz
    · exact h2
    · exact chain_oks h3 z hz
theorem itsOf_ne (b : Bk) : itsOf b ≠ [] := by
  unfold itsOf
  simp

/-! ### the chain of a book -/
theorem chain3 : ∀ {rs : List Rw}, (∀ r ∈ rs, OkRw r) → chain rowW (rs.map .row) ∧ alEnd rowW (rs.map .row) = rowW
  | [], _ => ⟨trivial, rfl⟩
  | r :: rs, h => by
    obtain ⟨h1, h2⟩ := chain3 (rs := rs) fun z hz => h z (List.mem_cons_of_mem _ hz)
    refine ⟨⟨key_row r, h r List.mem_cons_self, ?_⟩, ?_⟩
    · rw [bRow]
      exact h1
    · show alEnd (behind (Item.row r).key) (rs.map .row) = rowW
      rw [bRow]
      exact h2
theorem chain_app : ∀ {l m : List Item} {al : List Str}, chain al l → chain (alEnd al l) m → chain al (l ++ m)
  | [], _, _, _, h => h
  | _ :: _, _, _, ⟨h1, h2, h3⟩, h => ⟨h1, h2, chain_app h3 h⟩
theorem alEnd_app : ∀ {l m : List Item} {al : List Str}, alEnd al (l ++ m) = alEnd (alEnd al l) m
  | [], _, _ => rfl
  | it :: l, m, _ => alEnd_app (l := l)
theorem chainW : ∀ {ws : List Wy} {al : List Str}, sWay ∈ al → (∀ w ∈ ws, OkWy w) → chain al (ws.map .way) ∧ ((ws = [] ∧ alEnd al (ws.map .way) = al) ∨ alEnd al (ws.map .way) = [sWay, sSlip])
  | [], al, _, _ => ⟨trivial, .inl ⟨rfl, rfl⟩⟩
  | w :: ws, al, hm, h => by
    obtain ⟨h1, h2⟩ := chainW (ws := ws) (al := [sWay, sSlip]) List.mem_cons_self fun z hz => h z (List.mem_cons_of_mem _ hz)
    refine ⟨⟨hm, h w List.mem_cons_self, ?_⟩, .inr ?_⟩
    · show chain (behind sWay) _
      rw [bWay]
      exact h1
    · show alEnd (behind sWay) _ = _
      rw [bWay]
      rcases h2 with ⟨_, e⟩ | e <;> exact e
theorem chainP : ∀ {ps : List Pl} {al : List Str}, sPlace ∈ al → (∀ w ∈ ps, OkPl w) → chain al (ps.map .place) ∧ ((ps = [] ∧ alEnd al (ps.map .place) = al) ∨ alEnd al (ps.map .place) = [sPlace, sWay, sSlip])
  | [], al, _, _ => ⟨trivial, .inl ⟨rfl, rfl⟩⟩
  | w :: ws, al, hm, h => by
    obtain ⟨h1, h2⟩ := chainP (ps := ws) (al := [sPlace, sWay, sSlip]) List.mem_cons_self fun z hz => h z (List.mem_cons_of_mem _ hz)
    refine ⟨⟨hm, h w List.mem_cons_self, ?_⟩, .inr ?_⟩
    · show chain (behind sPlace) _
      rw [bPlace]
      exact h1
    · show alEnd (behind sPlace) _ = _
      rw [bPlace]
      rcases h2 with ⟨_, e⟩ | e <;> exact e
theorem chainPW {ps : List Pl} {ws : List Wy} (hne : ps ≠ []) (hp : ∀ p ∈ ps, OkPl p) (hw : ∀ w ∈ ws, OkWy w) : chain [sPlace] (ps.map .place ++ ws.map .way) ∧
    (alEnd [sPlace] (ps.map .place ++ ws.map .way) = [sPlace, sWay, sSlip] ∨ alEnd [sPlace] (ps.map .place ++ ws.map .way) = [sWay, sSlip]) := by
  obtain ⟨h1, h2⟩ := chainP (ps := ps) (al := [sPlace]) List.mem_cons_self hp
  have e : alEnd [sPlace] (ps.map .place) = [sPlace, sWay, sSlip] := by
    rcases h2 with ⟨e, _⟩ | e
    · exact absurd e hne
    · exact e
  obtain ⟨h3, h4⟩ := chainW (ws := ws) (al := [sPlace, sWay, sSlip]) (by simp) hw
  refine ⟨chain_app h1 (by rw [e]; exact h3), ?_⟩
  rw [alEnd_app, e]
  rcases h4 with ⟨_, q⟩ | q
  · exact .inl q
  · exact .inr q
theorem chain_bk {b : Bk} (h : OkBk b) : chain [sPlace] (itsOf b) ∧ alEnd [sPlace] (itsOf b) = rowW := by
  obtain ⟨h1, h2⟩ := chainPW h.ne h.pl h.wy
  obtain ⟨h3, h4⟩ := chain3 h.rw'
  have e : itsOf b = (b.places.map .place ++ b.ways.map .way) ++ (.slip b.slip :: b.rows.map .row) := by
    unfold itsOf
    rw [List.append_assoc]
  have hs : sSlip ∈ alEnd [sPlace] (b.places.map .place ++ b.ways.map .way) := by
    rcases h2 with q | q <;> rw [q] <;> simp
  rw [e]
  refine ⟨chain_app h1 ⟨hs, h.sl, ?_⟩, ?_⟩
  · show chain (behind sSlip) _
    rw [bSlip]
    exact h3
  · rw [alEnd_app]
    show alEnd (behind sSlip) _ = _
    rw [bSlip]
    exact h4
end K12

namespace K12
open PySem

/-! ### what a book's reading says -/
theorem bkLines_ne (b : Bk) : bkLines b ≠ [] := by
  unfold bkLines
  simpa using itsOf_ne b
theorem oks_bk {b : Bk} (h : OkBk b) : Oks (itsOf b) := chain_oks (chain_bk h).1
theorem lines_bk {b : Bk} (h : OkBk b) : linesOf (bkText b) = bkLines b := lines_text (oks_bk h) (itsOf_ne b)
theorem length_bk (b : Bk) : (bkLines b).length = 1 + b.places.length + b.ways.length + b.rows.length := by
  unfold bkLines itsOf
  simp
  omega
theorem rBook_of {t : Str} {its : List Item} {al : List Str} (h : rLines 0 [sPlace] ((linesOf t).map wordsOf) = .ok (its, al)) : rBook t = if al = rowW then .ok ⟨its.filterMap plOf, its.filterMap wyOf, ((its.filterMap slOf).head?).getD none, its.filterMap rwOf⟩ else .error ((linesOf t).length, 0) := by
  unfold rBook
  rw [h]
theorem rBook_ok {t : Str} {b : Bk} (h : rBook t = .ok b) : OkBk b ∧ bkText b = t ∧ linesOf t = bkLines b := by
  unfold rBook at h
  cases e : rLines 0 [sPlace] ((linesOf t).map wordsOf) with
  | error q =>
    rw [e] at h
    cases h
  | ok p =>
    obtain ⟨its, al⟩ := p
    rw [e] at h
    dsimp only at h
    by_cases c : al = rowW
    · rw [if_pos c] at h
      obtain ⟨h1, h2, h3⟩ := rLines_ok ok_place e
      obtain ⟨b2, ok2, ei⟩ := shape0 h2 (h3.symm.trans c)
      have eb : b = b2 := by
        cases h
        rw [ei, pick_pl, pick_wy, pick_sl, pick_rw]
        cases b2
        rfl
      subst eb
      have el : linesOf t = bkLines b := by
        have q : ((linesOf t).map wordsOf).map lineS = (its.map wIt).map lineS := by rw [h1]
        rw [List.map_map, List.map_map] at q
        have q2 : (linesOf t).map (lineS ∘ wordsOf) = linesOf t := by
          have q3 : (linesOf t).map (lineS ∘ wordsOf) = (linesOf t).map id := List.map_congr_left fun l _ => line_words l
          rw [q3]
          exact List.map_id _
        rw [q2, ei] at q
        exact q
      refine ⟨ok2, ?_, el⟩
      unfold bkText
      rw [← el]
      exact cut_join 10 t
    · rw [if_neg c] at h
      cases h
theorem rBook_is {b : Bk} (h : OkBk b) : rBook (bkText b) = .ok b := by
  obtain ⟨h1, h2⟩ := chain_bk h
  have e : rLines 0 [sPlace] ((linesOf (bkText b)).map wordsOf) = .ok (itsOf b, alEnd [sPlace] (itsOf b)) := by
    rw [lines_bk h]
    show rLines 0 [sPlace] (((itsOf b).map fun it => lineS (wIt it)).map wordsOf) = _
    rw [words_text (oks_bk h)]
    exact rLines_is h1
  rw [rBook_of e, if_pos h2, pick_pl, pick_wy, pick_sl, pick_rw]
  cases b
  rfl
theorem rBook_err {t : Str} {l f : Nat} (h : rBook t = .error (l, f)) : (l = (linesOf t).length ∧ f = 0) ∨ ∃ line, (linesOf t)[l]? = some line ∧ f ≤ (wordsOf line).length := by
  unfold rBook at h
  cases e : rLines 0 [sPlace] ((linesOf t).map wordsOf) with
  | error q =>
    rw [e] at h
    cases h
    obtain ⟨_, ws, h2, h3⟩ := rLines_err e
    rw [Nat.sub_zero, List.getElem?_map] at h2
    cases e2 : (linesOf t)[l]? with
    | none =>
      rw [e2] at h2
      cases h2
    | some line =>
      rw [e2] at h2
      cases h2
      exact .inr ⟨line, rfl, h3⟩
  | ok p =>
    obtain ⟨its, al⟩ := p
    rw [e] at h
    dsimp only at h
    by_cases c : al = rowW
    · rw [if_pos c] at h
      cases h
    · rw [if_neg c] at h
      cases h
      exact .inl ⟨rfl, rfl⟩

/-! ### a line left out, a text cut, something more behind -/
def headN (b : Bk) : Nat := 1 + b.places.length + b.ways.length
def dropR (b : Bk) (k : Nat) : Bk := { b with rows := b.rows.take k ++ b.rows.drop (k + 1) }
theorem its_len (b : Bk) : (b.places.map Item.place ++ (b.ways.map Item.way ++ [Item.slip b.slip])).length = headN b := by
  unfold headN
  simp
  omega
theorem its_eq (b : Bk) : itsOf b = (b.places.map Item.place ++ (b.ways.map Item.way ++ [Item.slip b.slip])) ++ b.rows.map Item.row := by
  unfold itsOf
  simp
theorem drop_bk {b : Bk} (h : OkBk b) (k : Nat) : OkBk (dropR b k) := ⟨h.ne, h.pl, h.wy, h.sl, fun r hr => by
  rcases List.mem_append.mp hr with q | q
  · exact h.rw' r (List.mem_of_mem_take q)
  · exact h.rw' r (List.mem_of_mem_drop q)⟩
theorem drop_lines (b : Bk) (k : Nat) : (bkLines b).take (headN b + k) ++ (bkLines b).drop (headN b + k + 1) = bkLines (dropR b k) := by
  unfold bkLines
  rw [its_eq b, its_eq (dropR b k)]
  have e4 : (dropR b k).places.map Item.place ++ ((dropR b k).ways.map Item.way ++ [Item.slip (dropR b k).slip]) = b.places.map Item.place ++ (b.ways.map Item.way ++ [Item.slip b.slip]) := rfl
  rw [e4]
  generalize hm : (b.places.map Item.place ++ (b.ways.map Item.way ++ [Item.slip b.slip])) = m
  have hl : (m.map fun it => lineS (wIt it)).length = headN b := by
    rw [List.length_map, ← hm]
    exact its_len b
  rw [List.map_append, List.map_append, List.take_append, List.drop_append, hl]
  have e1 : headN b + k - headN b = k := by omega
  have e2 : headN b + k + 1 - headN b = k + 1 := by omega
  rw [e1, e2, List.take_of_length_le (by rw [hl]; omega), List.drop_eq_nil_of_le (by rw [hl]; omega)]
  show _ ++ _ ++ ([] ++ _) = _
  have e3 : (dropR b k).rows = b.rows.take k ++ b.rows.drop (k + 1) := rfl
  rw [List.nil_append, e3, List.map_append, List.map_append, List.map_take, List.map_drop, List.map_take, List.map_drop, List.append_assoc]
theorem head_lines (b : Bk) : (bkLines b).drop (headN b) = b.rows.map fun r => lineS (wRw r) := by
  unfold bkLines
  rw [its_eq b, List.map_append, List.drop_append, List.length_map, its_len, Nat.sub_self, List.drop_zero, List.drop_eq_nil_of_le (by rw [List.length_map, its_len]; exact Nat.le_refl _), List.nil_append, List.map_map]
  rfl
/-- cut ahead of slip: the next line is lacking -/
theorem cut_bk {b : Bk} (h : OkBk b) {j : Nat} (h1 : 1 ≤ j) (h2 : j < headN b) : rBook (Str.join nl ((bkLines b).take j)) = .error (j, 0) := by
  have ePW : itsOf b = (b.places.map Item.place ++ b.ways.map Item.way) ++ (Item.slip b.slip :: b.rows.map Item.row) := by
    unfold itsOf
    rw [List.append_assoc]
  have lPW : (b.places.map Item.place ++ b.ways.map Item.way).length = b.places.length + b.ways.length := by simp
  have hj : j ≤ b.places.length + b.ways.length := by
    unfold headN at h2
    omega
  have e1 : (itsOf b).take j = (b.places.take j).map Item.place ++ (b.ways.take (j - b.places.length)).map Item.way := by
    rw [ePW, List.take_append_of_le_length (by rw [lPW]; exact hj), List.take_append, List.length_map, List.map_take, List.map_take]
  have ne : b.places.take j ≠ [] := by
    have hp := h.ne
    cases e : b.places with
    | nil => exact absurd e hp
    | cons p r =>
      cases j with
      | zero => omega
      | succ j =>
        intro z
        cases z
  obtain ⟨c1, c2⟩ := chainPW ne (fun p hp => h.pl p (List.mem_of_mem_take hp)) (ws := b.ways.take (j - b.places.length)) fun p hp => h.wy p (List.mem_of_mem_take hp)
  rw [← e1] at c1 c2
  have oks := chain_oks c1
  have neI : (itsOf b).take j ≠ [] := by
    rw [e1]
    simp only [ne_eq, List.append_eq_nil_iff, List.map_eq_nil_iff, not_and]
    exact fun z => absurd z ne
  have el : (bkLines b).take j = ((itsOf b).take j).map fun it => lineS (wIt it) := by
    unfold bkLines
    rw [List.map_take]
  have e : rLines 0 [sPlace] ((linesOf (Str.join nl ((bkLines b).take j))).map wordsOf) = .ok ((itsOf b).take j, alEnd [sPlace] ((itsOf b).take j)) := by
    rw [el, lines_text oks neI, words_text oks]
    exact rLines_is c1
  rw [rBook_of e, if_neg (by rcases c2 with q | q <;> rw [q]; exact n1; exact n2), el, lines_text oks neI, List.length_map, List.length_take]
  have hlen : j ≤ (itsOf b).length := by
    rw [ePW, List.length_append, lPW]
    omega
  rw [Nat.min_eq_left hlen]
theorem join_snoc (s x : Str) : ∀ {l : List Str}, l ≠ [] → Str.join s (l ++ [x]) = Str.join s l ++ s ++ x
  | [], h => absurd rfl h
  | [a], _ => rfl
  | a :: b :: r, _ => by
    have ih := join_snoc s x (l := b :: r) (by simp)
    show a ++ s ++ Str.join s ((b :: r) ++ [x]) = (a ++ s ++ Str.join s (b :: r)) ++ s ++ x
    rw [ih]
    apply ext_l
    simp only [app_l, List.append_assoc]
theorem more_bk {b : Bk} (h : OkBk b) {x : Str} (hx : Free 10 x) {w : Str} {r : List Str} (hw : wordsOf x = w :: r) (hn : w ∉ rowW) : rBook (bkText b ++ nl ++ x) = .error ((bkLines b).length, 0) := by
  have et : bkText b ++ nl ++ x = Str.join nl (bkLines b ++ [x]) := (join_snoc nl x (bkLines_ne b)).symm
  have el : linesOf (bkText b ++ nl ++ x) = bkLines b ++ [x] := by
    rw [et]
    refine join_cut (by simp) fun v hv => ?_
    rcases List.mem_append.mp hv with q | q
    · obtain ⟨it, hi, rfl⟩ := List.mem_map.mp q
      exact line_free (oks_bk h it hi)
    · rw [List.mem_singleton.mp q]
      exact hx
  obtain ⟨c1, c2⟩ := chain_bk h
  have e : rLines 0 [sPlace] ((linesOf (bkText b ++ nl ++ x)).map wordsOf) = .error ((bkLines b).length, 0) := by
    rw [el, List.map_append]
    show rLines 0 [sPlace] (((itsOf b).map fun it => lineS (wIt it)).map wordsOf ++ [wordsOf x]) = _
    rw [words_text (oks_bk h), rLines_app c1, c2, hw, rLines]
    have eh : rLine rowW (w :: r) = .error 0 := by
      unfold rLine
      rw [tk_bad (i := 0) (w := w) rfl (if_neg hn)]
    rw [eh]
    show Except.error (0 + (itsOf b).length, 0) = _
    unfold bkLines
    rw [Nat.zero_add, List.length_map]
  unfold rBook
  rw [e]
theorem words_empty : wordsOf Str.empty = [Str.empty] := by decide +kernel
theorem more_empty {b : Bk} (h : OkBk b) : rBook (bkText b ++ nl) = .error ((bkLines b).length, 0) := by
  have e := more_bk h (x := Str.empty) (by unfold Free; simp [Str.empty]) words_empty (by decide +kernel)
  have q : bkText b ++ nl ++ Str.empty = bkText b ++ nl := by
    apply ext_l
    rw [app_l]
    simp [Str.empty]
  rw [q] at e
  exact e
theorem more_slip {b : Bk} (h : OkBk b) : rBook (bkText b ++ ("\nslip 1" : Str)) = .error ((bkLines b).length, 0) := by
  have e := more_bk h (x := ("slip 1" : Str)) (w := sSlip) (r := [("1" : Str)]) (by unfold Free; decide +kernel) (by decide +kernel) (by decide +kernel)
  have q : bkText b ++ nl ++ ("slip 1" : Str) = bkText b ++ ("\nslip 1" : Str) := by
    have z : ("\nslip 1" : Str) = nl ++ ("slip 1" : Str) := by decide +kernel
    rw [z]
    apply ext_l
    simp only [app_l, List.append_assoc]
  rw [q] at e
  exact e

/-! ### one row -/
def rRow (ws : List Str) : Except Nat Rw := match rLine rowW ws with
  | .error e => .error e
  | .ok (.row r) => .ok r
  | .ok _ => .error 0
theorem ok_row : okAl rowW := fun w hw => by
  simp [rowW] at hw
  rcases hw with e | e <;> simp [e]
theorem rRow_ok {ws : List Str} {r : Rw} (h : rRow ws = .ok r) : ws = wRw r ∧ OkRw r := by
  unfold rRow at h
  cases e : rLine rowW ws with
  | error f =>
    rw [e] at h
    cases h
  | ok it =>
    obtain ⟨h1, h2, h3⟩ := rLine_ok e ok_row
    obtain ⟨q, rfl⟩ := row_of_key h3
    rw [e] at h
    cases h
    exact ⟨h1, h2⟩
theorem rRow_line {ws : List Str} {it : Item} (h : rLine rowW ws = .ok it) : ∃ r, it = .row r ∧ rRow ws = .ok r := by
  obtain ⟨h1, h2, h3⟩ := rLine_ok h ok_row
  obtain ⟨q, rfl⟩ := row_of_key h3
  refine ⟨q, rfl, ?_⟩
  unfold rRow
  rw [h]
theorem rRow_err {ws : List Str} {f : Nat} (h : rLine rowW ws = .error f) : rRow ws = .error f := by
  unfold rRow
  rw [h]
theorem rRow_le {ws : List Str} {f : Nat} (h : rRow ws = .error f) : f ≤ ws.length := by
  unfold rRow at h
  cases e : rLine rowW ws with
  | error g =>
    rw [e] at h
    cases h
    exact rLine_le e
  | ok it =>
    obtain ⟨_, _, h3⟩ := rLine_ok e ok_row
    obtain ⟨q, rfl⟩ := row_of_key h3
    rw [e] at h
    cases h
theorem rRow_is {r : Rw} (h : OkRw r) : rRow (wRw r) = .ok r := by
  have e : rLine rowW (wIt (.row r)) = .ok (.row r) := rLine_is h (key_row r)
  unfold rRow
  rw [show wRw r = wIt (.row r) from rfl, e]
def one' : Str := ⟨#[49]⟩
/-- a word more -/
theorem rRow_more {r : Rw} (h : OkRw r) (x : Str) : rRow (wRw r ++ [x]) = .error (wRw r).length := by
  obtain ⟨k1, k2, k3, k4, k5, k6, k7, k8, k9, k10, k11, k12, k13, k14, k15, k16⟩ := key_ne
  refine rRow_err ?_
  unfold rLine
  cases r with
  | move a b n =>
    have e0 : tk (wRw (.move a b n) ++ [x]) 0 (rFirst rowW) = .ok sMove := tk_is (w := sMove) rfl (if_pos List.mem_cons_self)
    rw [e0]
    show rRest sMove _ = _
    unfold rRest
    rw [if_neg k14, if_neg k15, if_neg k16, if_pos rfl]
    obtain ⟨h1, h2, h3, h4, h5⟩ := h
    have e1 : rWay (wRw (.move a b n) ++ [x]) = .ok (a, b, n) := by
      unfold rWay
      rw [tk_is (i := 1) (w := a) (a := a) rfl (rName_is h1)]
      dsimp only
      rw [tk_is (i := 2) (w := b) (a := b) rfl (if_pos ⟨h2, fun z => h3 z.symm⟩)]
      dsimp only
      rw [tk_is (i := 3) (w := numS n) (a := n) rfl (rNum_is h5 h4)]
    rw [e1]
    rfl
  | count a n =>
    have e0 : tk (wRw (.count a n) ++ [x]) 0 (rFirst rowW) = .ok sCount := tk_is (w := sCount) rfl (if_pos (List.mem_cons_of_mem _ List.mem_cons_self))
    rw [e0]
    show rRest sCount _ = _
    unfold rRest
    rw [if_neg k7, if_neg k8, if_neg k9, if_neg k10]
    have e1 : rCnt (wRw (.count a n) ++ [x]) = .ok (.count a n) := by
      unfold rCnt
      rw [tk_is (i := 1) (w := a) (a := a) rfl (rPName_is h.1)]
      dsimp only
      rw [tk_is (i := 2) (w := numS n) (a := n) rfl (rNum_is h.2 (Nat.zero_le _))]
    rw [e1]
    rfl
/-- the last word left out -/
theorem rRow_less {r : Rw} (h : OkRw r) : rRow ((wRw r).dropLast) = .error ((wRw r).length - 1) := by
  obtain ⟨k1, k2, k3, k4, k5, k6, k7, k8, k9, k10, k11, k12, k13, k14, k15, k16⟩ := key_ne
  refine rRow_err ?_
  unfold rLine
  cases r with
  | move a b n =>
    have e0 : tk [sMove, a, b] 0 (rFirst rowW) = .ok sMove := tk_is (w := sMove) rfl (if_pos List.mem_cons_self)
    show (match tk [sMove, a, b] 0 (rFirst rowW) with | .error e => Except.error e | .ok h => rRest h [sMove, a, b]) = _
    rw [e0]
    show rRest sMove [sMove, a, b] = _
    unfold rRest
    rw [if_neg k14, if_neg k15, if_neg k16, if_pos rfl]
    obtain ⟨h1, h2, h3, h4, h5⟩ := h
    have e1 : rWay [sMove, a, b] = .error 3 := by
      unfold rWay
      rw [tk_is (i := 1) (w := a) (a := a) rfl (rName_is h1)]
      dsimp only
      rw [tk_is (i := 2) (w := b) (a := b) rfl (if_pos ⟨h2, fun z => h3 z.symm⟩)]
      dsimp only
      rw [tk_no rfl]
    rw [e1]
    rfl
  | count a n =>
    have e0 : tk [sCount, a] 0 (rFirst rowW) = .ok sCount := tk_is (w := sCount) rfl (if_pos (List.mem_cons_of_mem _ List.mem_cons_self))
    show (match tk [sCount, a] 0 (rFirst rowW) with | .error e => Except.error e | .ok h => rRest h [sCount, a]) = _
    rw [e0]
    show rRest sCount [sCount, a] = _
    unfold rRest
    rw [if_neg k7, if_neg k8, if_neg k9, if_neg k10]
    have e1 : rCnt [sCount, a] = .error 2 := by
      unfold rCnt
      rw [tk_is (i := 1) (w := a) (a := a) rfl (rPName_is h.1)]
      dsimp only
      rw [tk_no rfl]
    rw [e1]
    rfl
theorem wRw_len (r : Rw) : 3 ≤ (wRw r).length := by
  cases r <;> simp [wRw]
theorem words_more {t : Str} : wordsOf (t ++ (" 1" : Str)) = wordsOf t ++ [one'] := by
  have e : (" 1" : Str) = sp ++ one' := by decide +kernel
  have q : t ++ (" 1" : Str) = Str.join sp (wordsOf t ++ [one']) := by
    rw [join_snoc sp one' (l := wordsOf t) (cut_ne 32 t), e]
    show t ++ (sp ++ one') = lineS (wordsOf t) ++ sp ++ one'
    rw [line_words]
    apply ext_l
    simp only [app_l, List.append_assoc]
  rw [q]
  refine join_cut (by simp) fun w hw => ?_
  rcases List.mem_append.mp hw with z | z
  · exact cut_free 32 t w z
  · rw [List.mem_singleton.mp z]
    unfold Free one'
    decide
theorem words_less {t : Str} (h : 2 ≤ (wordsOf t).length) : wordsOf (Str.join sp (wordsOf t).dropLast) = (wordsOf t).dropLast := by
  refine join_cut ?_ fun w hw => cut_free 32 t w (List.dropLast_subset _ hw)
  intro z
  have := congrArg List.length z
  rw [List.length_dropLast] at this
  simp at this
  omega
end K12

/-! Own rules over the hand layer: calls by bundles, match over texts, a starred target, min of three. -/
namespace K12
open PySem PySem.Spec PyProof.Rows L2

/-! ### what stays -/
theorem Same.tup {K : PySem.W.Frag} {H H' : Hp} {a : Addr} {xs : List V} (e : Same H H') (h : SqT K H a xs) : SqT K H' a xs := by
  rcases h with (h | ⟨o, h⟩) | h
  · exact .inl (.inl (e _ _ h))
  · exact .inl (.inr ⟨o, e _ _ h⟩)
  · exact .inr h
theorem Same.new {H : Hp} {a : Addr} {o : HO} (h : H a = none) : Same H (upd H a o) := fun b u e => by
  rw [upd_ne (ne_of_none e h)]
  exact e
mutual
theorem Dp.same {K : PySem.W.Frag} {H H' : Hp} (e : Same H H') : ∀ {v : V} {d : PyData}, Dp K H v d → Dp K H' v d
  | _, _, .non => .non
  | _, _, .bl b => .bl b
  | _, _, .int i => .int i
  | _, _, .str x => .str x
  | _, _, .lst h hs => .lst (e.seq h) (DpAll.same e hs)
  | _, _, .tup h hs => .tup (Same.tup e h) (DpAll.same e hs)
theorem DpAll.same {K : PySem.W.Frag} {H H' : Hp} (e : Same H H') : ∀ {vs : List V} {ds : List PyData}, DpAll K H vs ds → DpAll K H' vs ds
  | _, _, .nil => .nil
  | _, _, .cons h hs => .cons (Dp.same e h) (DpAll.same e hs)
end
theorem DpAll.length {K : PySem.W.Frag} {H : Hp} : ∀ {vs : List V} {ds : List PyData}, DpAll K H vs ds → vs.length = ds.length
  | _, _, .nil => rfl
  | _, _, .cons _ hs => congrArg Nat.succ (DpAll.length hs)
theorem DpAll.get {K : PySem.W.Frag} {H : Hp} : ∀ {vs : List V} {ds : List PyData} {i : Nat} {d : PyData}, DpAll K H vs ds → ds[i]? = some d → ∃ v, vs[i]? = some v ∧ Dp K H v d
  | _, _, i, _, .nil, e => by simp at e
  | _, _, 0, _, .cons h _, e => by
    simp at e
    subst e
    exact ⟨_, rfl, h⟩
  | _, _, i + 1, d, .cons _ hs, e => by
    obtain ⟨v, h1, h2⟩ := DpAll.get (i := i) (d := d) hs (by simpa using e)
    exact ⟨v, by simpa using h1, h2⟩
theorem DpAll.getV {K : PySem.W.Frag} {H : Hp} : ∀ {vs : List V} {ds : List PyData} {i : Nat} {v : V}, DpAll K H vs ds → vs[i]? = some v → ∃ d, ds[i]? = some d ∧ Dp K H v d
  | _, _, i, _, .nil, e => by simp at e
  | _, _, 0, _, .cons h _, e => by
    simp at e
    subst e
    exact ⟨_, rfl, h⟩
  | _, _, i + 1, d, .cons _ hs, e => by
    obtain ⟨v, h1, h2⟩ := DpAll.getV (i := i) (v := d) hs (by simpa using e)
    exact ⟨v, by simpa using h1, h2⟩
theorem DpAll.app {K : PySem.W.Frag} {H : Hp} : ∀ {vs ws : List V} {ds es : List PyData}, DpAll K H vs ds → DpAll K H ws es → DpAll K H (vs ++ ws) (ds ++ es)
  | _, _, _, _, .nil, h => h
  | _, _, _, _, .cons h hs, h2 => .cons h (DpAll.app hs h2)
theorem DpAll.take {K : PySem.W.Frag} {H : Hp} : ∀ {vs : List V} {ds : List PyData} (n : Nat), DpAll K H vs ds → DpAll K H (vs.take n) (ds.take n)
  | _, _, 0, _ => .nil
  | _, _, _ + 1, .nil => .nil
  | _, _, n + 1, .cons h hs => .cons h (DpAll.take n hs)
theorem DpAll.drop {K : PySem.W.Frag} {H : Hp} : ∀ {vs : List V} {ds : List PyData} (n : Nat), DpAll K H vs ds → DpAll K H (vs.drop n) (ds.drop n)
  | _, _, 0, h => h
  | _, _, _ + 1, .nil => .nil
  | _, _, n + 1, .cons _ hs => DpAll.drop n hs
theorem Dp.strs {K : PySem.W.Frag} {H : Hp} : ∀ (l : List Str), DpAll K H (l.map V.str) (l.map PyData.str)
  | [] => .nil
  | x :: r => .cons (.str x) (Dp.strs r)
theorem DpAll.strs {K : PySem.W.Frag} {H : Hp} : ∀ {l : List Str} {vs : List V}, DpAll K H vs (l.map PyData.str) → vs = l.map V.str
  | [], _, .nil => rfl
  | x :: r, _, .cons (.str _) hs => by
    rw [DpAll.strs hs]
    rfl

/-! ### exceptions pass -/
section
variable {P : Program} {w : World} {K : PySem.W.Frag} {mg : Str → Option Value} {base : Heap}
/-- in a def's body: what a callee raises is raised -/
theorem passB {N : List Str} {qual : Str} {sc : Scope} {f : Addr} {cd : Value} {A : Around} {outer : List Env} {s : Shared} {H : Hp} {E : XK} : Passes (L2.CX P w) (cxOf (L2.CX P w) P w K mg base N qual sc f cd A outer s H E) E :=
  passes_call (X := cxOf (L2.CX P w) P w K mg base N qual sc f cd A outer s H E) (W := fun c d _ H' => E c d H') (takes_of rfl rfl rfl rfl) fun _ _ _ _ z => z
theorem FnOk.up {k : Nat} {f : Addr} {fd : FuncData} {ps : List Str} {sp : Sp} (F : FnOk P w K mg base CX0 k f fd ps sp) : FnOk P w K mg base (L2.CX P w) k f fd ps sp :=
  ⟨F.len, fun A outer s H args us vs Q E hr e0 hb r h => codeAny_mono (F.run A outer s H args us vs Q E hr e0 hb r h) fun q s' z => by
    cases q with
    | ok fl => cases fl <;> exact z
    | error e => exact (show False from z).elim⟩
end
/-- a def of the module as its callers see it -/
def Cal (P : Program) (w : World) (K : PySem.W.Frag) (mg : Str → Option Value) (base : Heap) (k : Nat) (x : Str) (ps : List Str) (sp : Sp) : Prop :=
  ∃ (f : Addr) (fd : FuncData), FnOk P w K mg base (L2.CX P w) k f fd ps sp ∧ mg x = some (.ref f) ∧ PySem.W.keepIn K (.ref f) = true ∧ Binds K fd ps []
/-- a def with a star parameter -/
def CalS (P : Program) (w : World) (K : PySem.W.Frag) (mg : Str → Option Value) (base : Heap) (k : Nat) (x : Str) (sp : Sp) : Prop :=
  ∃ f : Addr, FnR P w K mg base (L2.CX P w) k f sp ∧ mg x = some (.ref f) ∧ PySem.W.keepIn K (.ref f) = true
/-- a method of the class at C -/
def Mtd (P : Program) (w : World) (K : PySem.W.Frag) (mg : Str → Option Value) (base : Heap) (k : Nat) (C : Addr) (m : Str) (ps : List Str) (sp : Sp) : Prop :=
  ∃ (f : Addr) (fd : FuncData), FnOk P w K mg base (L2.CX P w) k f fd ps sp ∧ Meth K C m f ∧ Binds K fd ps []
section
variable {X : Cx} {k j : Nat} {x m : Str} {ps : List Str} {sp : Sp} {E : XK} {e o : Expr} {es : List Expr} {t : TA} {te ta : TE} {p pos apos sp_ : Pos} {C : Addr}
theorem pc (c : Cal X.prog X.w X.K X.mg X.base k x ps sp) (hr : Room j X.A) (hx : Passes (L2.CX X.prog X.w) X E) (ha : PA X (e :: es) t) (hk : k ≤ j := by decide) (hg : Gl X x := by rfl) (hdb : (x == ("__debug__" : Str)) = false := by decide)
    (he : starEach (e :: es) X.env = (false, eval e X.env) :: starEach es X.env := by rfl) (hpl : (backTo pos (starEach es X.env)).any (·.1) = false := by rfl) : PE X (.Call (.Name x p) (e :: es) [] pos) (tCall sp [] E t) := by
  obtain ⟨f, fd, F, hm, hkp, hb⟩ := c
  exact pe_call (F.mono hk) hr hg hm hkp hb .nil hx ha hdb he hpl
theorem pcS2 (c : CalS X.prog X.w X.K X.mg X.base k x sp) (hr : Room k X.A) (hx : Passes (L2.CX X.prog X.w) X E) (ha : PA X (e :: es) t) (hg : Gl X x := by rfl) (hdb : (x == ("__debug__" : Str)) = false := by decide)
    (he : starEach (e :: es) X.env = (false, eval e X.env) :: starEach es X.env := by rfl) (hst : (backTo pos (starEach es X.env)).any (·.1) = true := by rfl) : PE X (.Call (.Name x p) (e :: es) [] pos) (fun σ H Q => t σ H fun vs H1 => sp vs H1 Q E) := by
  obtain ⟨f, F, hm, hkp⟩ := c
  exact StX.pe_callS2 F hr hkp hg hm hx ha hdb he hst
theorem pcS1 (c : CalS X.prog X.w X.K X.mg X.base k x sp) (hr : Room k X.A) (hx : Passes (L2.CX X.prog X.w) X E) (ha : PE X e te) (hg : Gl X x := by rfl) (hdb : (x == ("__debug__" : Str)) = false := by decide) (hst : starEach [.Starred e sp_] X.env = [(true, eval e X.env)] := by rfl) :
    PE X (.Call (.Name x p) [.Starred e sp_] [] pos) (fun σ H Q => te σ H fun y H1 => ∃ a xs, y = V.ref a ∧ (SqT X.K H1 a xs ∨ SqL X.K H1 a xs) ∧ sp xs H1 Q E) := by
  obtain ⟨f, F, hm, hkp⟩ := c
  exact StX.pe_callS1 F hr hkp hg hm hx ha hdb hst
/-- the same without a star in the call -/
theorem pcS0 (c : CalS X.prog X.w X.K X.mg X.base k x sp) (hr : Room k X.A) (hx : Passes (L2.CX X.prog X.w) X E) (ha : PA X (e :: es) t) (hg : Gl X x := by rfl) (hdb : (x == ("__debug__" : Str)) = false := by decide)
    (he : starEach (e :: es) X.env = (false, eval e X.env) :: starEach es X.env := by rfl) (hpl : (backTo pos (starEach es X.env)).any (·.1) = false := by rfl) : PE X (.Call (.Name x p) (e :: es) [] pos) (tCall sp [] E t) := by
  obtain ⟨f, F, hm, hkp⟩ := c
  refine ⟨fun pins s σ H Q I h => ?_⟩
  refine wpAny_Call_Name_kw (ld_glob I hg hm ?_ hdb)
  refine PySem.W.callWith_K (h₀ := X.base) I.ok.mod.kin hkp (thn (ha.run pos pins s σ H _ I h) fun us s1 ⟨vs, H1, I1, r, q⟩ => ⟨I1.kIn, ?_⟩) he hpl
  have q' : sp vs H1 Q E := by
    rw [← List.append_nil vs]
    exact q
  exact wpAny_call (run_fnR F hr hx I1 r q')
theorem pm (he : PE X o ta) (c : Cls X.K C) (c2 : Mtd X.prog X.w X.K X.mg X.base k C m ps sp) (hr : Room j X.A) (hx : Passes (L2.CX X.prog X.w) X E) (ha : PA X (e :: es) t) {pl : Sem Bool} (hk : k ≤ j := by decide)
    (hc : eval (.Call (.Attribute o m apos) (e :: es) [] pos) X.env = (do
      let ov ← eval o X.env
      standAt apos.atName
      let (f, first) ← holding [ov] (getMethod ov m pl)
      callWith pos f first (backTo pos (starEach (e :: es) X.env)) (backToKw pos (keywordEach [] X.env))) := by rfl)
    (hs : starEach (e :: es) X.env = (false, eval e X.env) :: starEach es X.env := by rfl) (hpl : (backTo pos (starEach es X.env)).any (·.1) = false := by rfl) :
    PE X (.Call (.Attribute o m apos) (e :: es) [] pos) (tMeth C m sp [] E ta t) := by
  obtain ⟨f, fd, F, hm, hb⟩ := c2
  exact pe_meth he c hm (F.mono hk) hr hb .nil hx ha hs hpl hc
theorem pm0 (he : PE X o ta) (c : Cls X.K C) (c2 : Mtd X.prog X.w X.K X.mg X.base k C m ps sp) (hr : Room j X.A) (hx : Passes (L2.CX X.prog X.w) X E) {pl : Sem Bool} (hk : k ≤ j := by decide)
    (hc : eval (.Call (.Attribute o m apos) [] [] pos) X.env = (do
      let ov ← eval o X.env
      standAt apos.atName
      let (f, first) ← holding [ov] (getMethod ov m pl)
      callWith pos f first (backTo pos (starEach [] X.env)) (backToKw pos (keywordEach [] X.env))) := by rfl) : PE X (.Call (.Attribute o m apos) [] [] pos) (tMeth C m sp [] E ta tNil) := by
  obtain ⟨f, fd, F, hm, hb⟩ := c2
  exact pe_meth0 he c hm (F.mono hk) hr hb .nil hx hc
end

/-! ### match over a text -/
structure PM (X : Cx) (cs : List MatchCase) (t : Str → TS) : Prop where
  run : ∀ (pins : List (Addr × Obj)) (s : Shared) (σ : L2.St) (H : Hp) (D : Ends) (z : Str) (tk : Tok) (first : Bool), Inv X pins σ H s → t z D σ H → wpAny (model X.prog X.w) X.A (matchCases cs X.env (.str z tk) first) (SP X pins D) X.xe s
section
variable {X : Cx} {cs : List MatchCase} {body : List Stmt} {tr : Str → TS} {tb : TS} {e : Expr} {te : TE} {c : Str} {j : Nat} {p1 p2 pos : Pos}
theorem pm_nil : PM X [] (fun _ => tNext) := ⟨fun _ _ σ H _ _ _ _ I h => wpAny_matchCases_nil ⟨σ, H, I, h⟩⟩
theorem pm_any (hb : PSs X body tb) : PM X (⟨.MatchAs none none p1, none, body⟩ :: cs) (fun _ => tb) := by
  refine ⟨fun pins s σ H D z tk first I h => ?_⟩
  refine wpAny_matchCases_cons (wpAny_matchPattern_Capture ?_)
  exact wpAny_assignInOrder_none (hb.run pins s σ H D I h)
theorem pm_str (hb : PSs X body tb) (hr : PM X cs tr) : PM X (⟨.MatchValue (.Constant (.str c) j p1) p2, none, body⟩ :: cs) (fun z D σ H => if z = c then tb D σ H else tr z D σ H) := by
  refine ⟨fun pins s σ H D z tk first I h => ?_⟩
  refine wpAny_matchCases_cons (wpAny_matchPattern_Value ?_)
  refine Calls.Constant_str ?_
  refine PyProof.Rows.eq_str ?_
  refine wpAny_truthy_bool ?_
  have I1 := I.tok (s.toks + 1)
  by_cases hz : z = c
  · rw [if_pos hz] at h
    rw [beq_iff_eq.mpr hz]
    show wpAny _ _ (assignInOrder [] []) _ _ _
    exact wpAny_assignInOrder_none (hb.run pins _ σ H D I1 h)
  · rw [if_neg hz] at h
    rw [beq_eq_false_iff_ne.mpr hz]
    exact hr.run pins _ σ H D z tk false I1 h
theorem ps_match (he : PE X e te) (hm : PM X cs tr) : PS X (.Match e cs pos) (fun D σ H => te σ H fun v H1 => ∃ z, v = .str z ∧ tr z D σ H1) := by
  refine ⟨fun pins s σ H D I h => ?_⟩
  refine wpAny_Match (thn (he.run pins s σ H _ I h) fun u s1 ⟨v, H1, I1, r1, z, ev, q⟩ => ?_)
  subst ev
  obtain ⟨tk, rfl⟩ := r1
  exact hm.run pins s1 σ H1 D z tk true I1 q
end
end K12

/-! Where each def stands, and what the top leaves (written by gen_top.py). -/
namespace K12
open PySem PySem.Spec PyProof.Rows L2
def top (i : Nat) : Stmt := PySem.Challenge.pw_unbooked_k12_whole_texts_there_and_back.main.body.getD i (.Pass ⟨0, 0, 0, 0⟩)
abbrev s_words_text : Stmt := top 3
abbrev s_row_text : Stmt := top 4
abbrev s_book_text : Stmt := top 5
abbrev s_is_integer : Stmt := top 21
abbrev s_is_number : Stmt := top 22
abbrev s_is_amount : Stmt := top 23
abbrev s_is_name : Stmt := top 24
abbrev s_is_place_name : Stmt := top 25
abbrev s_are_two_names : Stmt := top 26
abbrev s_is_place : Stmt := top 27
abbrev s_is_cost : Stmt := top 28
abbrev s_is_row : Stmt := top 29
abbrev s_are_places : Stmt := top 30
abbrev s_are_costs : Stmt := top 31
abbrev s_are_rows : Stmt := top 32
abbrev s_are_ascending : Stmt := top 33
abbrev s_number_or_none : Stmt := top 38
abbrev s_LineReader_init : Stmt := inClass (top 39) 0
abbrev s_LineReader_refuse : Stmt := inClass (top 39) 1
abbrev s_LineReader_present : Stmt := inClass (top 39) 2
abbrev s_LineReader_kept : Stmt := inClass (top 39) 3
abbrev s_LineReader_first : Stmt := inClass (top 39) 4
abbrev s_LineReader_name : Stmt := inClass (top 39) 5
abbrev s_LineReader_place_name : Stmt := inClass (top 39) 6
abbrev s_LineReader_other_name : Stmt := inClass (top 39) 7
abbrev s_LineReader_number : Stmt := inClass (top 39) 8
abbrev s_LineReader_slip_value : Stmt := inClass (top 39) 9
abbrev s_LineReader_finish : Stmt := inClass (top 39) 10
abbrev s_place_taken : Stmt := top 40
abbrev s_way_taken : Stmt := top 41
abbrev s_line_taken : Stmt := top 42
abbrev s_words_behind : Stmt := top 43
abbrev s_row_read : Stmt := top 44
abbrev s_told_by : Stmt := top 45
abbrev s_book_read : Stmt := top 46
abbrev s_require : Stmt := top 48
abbrev s_has_book_shape : Stmt := top 49
abbrev s_caps_of : Stmt := top 50
abbrev s_names_in : Stmt := top 51
abbrev s_lets_book : Stmt := top 52
abbrev s_least_costs : Stmt := top 61
abbrev s_sorted_places : Stmt := top 64
abbrev s_Book_init : Stmt := inClass (top 65) 0
abbrev s_Book_of : Stmt := inClass (top 65) 1
abbrev s_Book_read : Stmt := inClass (top 65) 2
abbrev s_Book_form : Stmt := inClass (top 65) 3
abbrev s_Book_str : Stmt := inClass (top 65) 19
abbrev s_law_feed : Stmt := top 68
abbrev s_law_draw : Stmt := top 69
abbrev s_law_book : Stmt := top 70
abbrev s_law_heard : Stmt := top 71
abbrev s_law_spoilt : Stmt := top 72
abbrev s_law_any_line : Stmt := top 73
abbrev s_law_any_page : Stmt := top 74
abbrev s_law_book_right : Stmt := top 75
abbrev s_law : Stmt := top 76
def d_words_text : He.DefD := ⟨("words_text", none), "words_text", "words_text", defArgs s_words_text, defBody s_words_text, defScope s_words_text, [], []⟩
def d_row_text : He.DefD := ⟨("row_text", none), "row_text", "row_text", defArgs s_row_text, defBody s_row_text, defScope s_row_text, [], []⟩
def d_book_text : He.DefD := ⟨("book_text", none), "book_text", "book_text", defArgs s_book_text, defBody s_book_text, defScope s_book_text, [], []⟩
def d_is_integer : He.DefD := ⟨("is_integer", none), "is_integer", "is_integer", defArgs s_is_integer, defBody s_is_integer, defScope s_is_integer, [], []⟩
def d_is_number : He.DefD := ⟨("is_number", none), "is_number", "is_number", defArgs s_is_number, defBody s_is_number, defScope s_is_number, [], []⟩
def d_is_amount : He.DefD := ⟨("is_amount", none), "is_amount", "is_amount", defArgs s_is_amount, defBody s_is_amount, defScope s_is_amount, [], []⟩
def d_is_name : He.DefD := ⟨("is_name", none), "is_name", "is_name", defArgs s_is_name, defBody s_is_name, defScope s_is_name, [], []⟩
def d_is_place_name : He.DefD := ⟨("is_place_name", none), "is_place_name", "is_place_name", defArgs s_is_place_name, defBody s_is_place_name, defScope s_is_place_name, [], []⟩
def d_are_two_names : He.DefD := ⟨("are_two_names", none), "are_two_names", "are_two_names", defArgs s_are_two_names, defBody s_are_two_names, defScope s_are_two_names, [], []⟩
def d_is_place : He.DefD := ⟨("is_place", none), "is_place", "is_place", defArgs s_is_place, defBody s_is_place, defScope s_is_place, [], []⟩
def d_is_cost : He.DefD := ⟨("is_cost", none), "is_cost", "is_cost", defArgs s_is_cost, defBody s_is_cost, defScope s_is_cost, [], []⟩
def d_is_row : He.DefD := ⟨("is_row", none), "is_row", "is_row", defArgs s_is_row, defBody s_is_row, defScope s_is_row, [], []⟩
def d_are_places : He.DefD := ⟨("are_places", none), "are_places", "are_places", defArgs s_are_places, defBody s_are_places, defScope s_are_places, [], []⟩
def d_are_costs : He.DefD := ⟨("are_costs", none), "are_costs", "are_costs", defArgs s_are_costs, defBody s_are_costs, defScope s_are_costs, [], []⟩
def d_are_rows : He.DefD := ⟨("are_rows", none), "are_rows", "are_rows", defArgs s_are_rows, defBody s_are_rows, defScope s_are_rows, [], []⟩
def d_are_ascending : He.DefD := ⟨("are_ascending", none), "are_ascending", "are_ascending", defArgs s_are_ascending, defBody s_are_ascending, defScope s_are_ascending, [], []⟩
def d_number_or_none : He.DefD := ⟨("number_or_none", none), "number_or_none", "number_or_none", defArgs s_number_or_none, defBody s_number_or_none, defScope s_number_or_none, [], []⟩
def d_LineReader_init : He.DefD := ⟨("LineReader", some "__init__"), "__init__", "LineReader.__init__", defArgs s_LineReader_init, defBody s_LineReader_init, defScope s_LineReader_init, [], []⟩
def d_LineReader_refuse : He.DefD := ⟨("LineReader", some "refuse"), "refuse", "LineReader.refuse", defArgs s_LineReader_refuse, defBody s_LineReader_refuse, defScope s_LineReader_refuse, [], []⟩
def d_LineReader_present : He.DefD := ⟨("LineReader", some "present"), "present", "LineReader.present", defArgs s_LineReader_present, defBody s_LineReader_present, defScope s_LineReader_present, [], []⟩
def d_LineReader_kept : He.DefD := ⟨("LineReader", some "kept"), "kept", "LineReader.kept", defArgs s_LineReader_kept, defBody s_LineReader_kept, defScope s_LineReader_kept, [], []⟩
def d_LineReader_first : He.DefD := ⟨("LineReader", some "first"), "first", "LineReader.first", defArgs s_LineReader_first, defBody s_LineReader_first, defScope s_LineReader_first, [], []⟩
def d_LineReader_name : He.DefD := ⟨("LineReader", some "name"), "name", "LineReader.name", defArgs s_LineReader_name, defBody s_LineReader_name, defScope s_LineReader_name, [], []⟩
def d_LineReader_place_name : He.DefD := ⟨("LineReader", some "place_name"), "place_name", "LineReader.place_name", defArgs s_LineReader_place_name, defBody s_LineReader_place_name, defScope s_LineReader_place_name, [], []⟩
def d_LineReader_other_name : He.DefD := ⟨("LineReader", some "other_name"), "other_name", "LineReader.other_name", defArgs s_LineReader_other_name, defBody s_LineReader_other_name, defScope s_LineReader_other_name, [], []⟩
def d_LineReader_number : He.DefD := ⟨("LineReader", some "number"), "number", "LineReader.number", defArgs s_LineReader_number, defBody s_LineReader_number, defScope s_LineReader_number, [], []⟩
def d_LineReader_slip_value : He.DefD := ⟨("LineReader", some "slip_value"), "slip_value", "LineReader.slip_value", defArgs s_LineReader_slip_value, defBody s_LineReader_slip_value, defScope s_LineReader_slip_value, [], []⟩
def d_LineReader_finish : He.DefD := ⟨("LineReader", some "finish"), "finish", "LineReader.finish", defArgs s_LineReader_finish, defBody s_LineReader_finish, defScope s_LineReader_finish, [], []⟩
def d_place_taken : He.DefD := ⟨("place_taken", none), "place_taken", "place_taken", defArgs s_place_taken, defBody s_place_taken, defScope s_place_taken, [], []⟩
def d_way_taken : He.DefD := ⟨("way_taken", none), "way_taken", "way_taken", defArgs s_way_taken, defBody s_way_taken, defScope s_way_taken, [], []⟩
def d_line_taken : He.DefD := ⟨("line_taken", none), "line_taken", "line_taken", defArgs s_line_taken, defBody s_line_taken, defScope s_line_taken, [], []⟩
def d_words_behind : He.DefD := ⟨("words_behind", none), "words_behind", "words_behind", defArgs s_words_behind, defBody s_words_behind, defScope s_words_behind, [], []⟩
def d_row_read : He.DefD := ⟨("row_read", none), "row_read", "row_read", defArgs s_row_read, defBody s_row_read, defScope s_row_read, [], [("line", .int 0), ("field", .int 0)]⟩
def d_told_by : He.DefD := ⟨("told_by", none), "told_by", "told_by", defArgs s_told_by, defBody s_told_by, defScope s_told_by, [], []⟩
def d_book_read : He.DefD := ⟨("book_read", none), "book_read", "book_read", defArgs s_book_read, defBody s_book_read, defScope s_book_read, [], []⟩
def d_require : He.DefD := ⟨("require", none), "require", "require", defArgs s_require, defBody s_require, defScope s_require, [], []⟩
def d_has_book_shape : He.DefD := ⟨("has_book_shape", none), "has_book_shape", "has_book_shape", defArgs s_has_book_shape, defBody s_has_book_shape, defScope s_has_book_shape, [], []⟩
def d_caps_of : He.DefD := ⟨("caps_of", none), "caps_of", "caps_of", defArgs s_caps_of, defBody s_caps_of, defScope s_caps_of, [], []⟩
def d_names_in : He.DefD := ⟨("names_in", none), "names_in", "names_in", defArgs s_names_in, defBody s_names_in, defScope s_names_in, [], []⟩
def d_lets_book : He.DefD := ⟨("lets_book", none), "lets_book", "lets_book", defArgs s_lets_book, defBody s_lets_book, defScope s_lets_book, [], []⟩
def d_least_costs : He.DefD := ⟨("least_costs", none), "least_costs", "least_costs", defArgs s_least_costs, defBody s_least_costs, defScope s_least_costs, [], []⟩
def d_sorted_places : He.DefD := ⟨("sorted_places", none), "sorted_places", "sorted_places", defArgs s_sorted_places, defBody s_sorted_places, defScope s_sorted_places, [], []⟩
def d_Book_init : He.DefD := ⟨("Book", some "__init__"), "__init__", "Book.__init__", defArgs s_Book_init, defBody s_Book_init, defScope s_Book_init, [], []⟩
def d_Book_str : He.DefD := ⟨("Book", some "__str__"), "__str__", "Book.__str__", defArgs s_Book_str, defBody s_Book_str, defScope s_Book_str, [], []⟩
def d_law_feed : He.DefD := ⟨("_law_feed", none), "_law_feed", "_law_feed", defArgs s_law_feed, defBody s_law_feed, defScope s_law_feed, [], []⟩
def d_law_draw : He.DefD := ⟨("_law_draw", none), "_law_draw", "_law_draw", defArgs s_law_draw, defBody s_law_draw, defScope s_law_draw, [], []⟩
def d_law_book : He.DefD := ⟨("_law_book", none), "_law_book", "_law_book", defArgs s_law_book, defBody s_law_book, defScope s_law_book, [], []⟩
def d_law_heard : He.DefD := ⟨("_law_heard", none), "_law_heard", "_law_heard", defArgs s_law_heard, defBody s_law_heard, defScope s_law_heard, [], []⟩
def d_law_spoilt : He.DefD := ⟨("_law_spoilt", none), "_law_spoilt", "_law_spoilt", defArgs s_law_spoilt, defBody s_law_spoilt, defScope s_law_spoilt, [], []⟩
def d_law_any_line : He.DefD := ⟨("_law_any_line", none), "_law_any_line", "_law_any_line", defArgs s_law_any_line, defBody s_law_any_line, defScope s_law_any_line, [], []⟩
def d_law_any_page : He.DefD := ⟨("_law_any_page", none), "_law_any_page", "_law_any_page", defArgs s_law_any_page, defBody s_law_any_page, defScope s_law_any_page, [], []⟩
def d_law_book_right : He.DefD := ⟨("_law_book_right", none), "_law_book_right", "_law_book_right", defArgs s_law_book_right, defBody s_law_book_right, defScope s_law_book_right, [], []⟩
def d_law : He.DefD := ⟨("law", none), "law", "law", defArgs s_law, defBody s_law, defScope s_law, [], []⟩
def fnAll : List He.DefD := [d_words_text, d_row_text, d_book_text, d_is_integer, d_is_number, d_is_amount, d_is_name, d_is_place_name, d_are_two_names, d_is_place, d_is_cost, d_is_row, d_are_places, d_are_costs, d_are_rows, d_are_ascending, d_number_or_none, d_LineReader_init, d_LineReader_refuse, d_LineReader_present, d_LineReader_kept, d_LineReader_first, d_LineReader_name, d_LineReader_place_name, d_LineReader_other_name, d_LineReader_number, d_LineReader_slip_value, d_LineReader_finish, d_place_taken, d_way_taken, d_line_taken, d_words_behind, d_row_read, d_told_by, d_book_read, d_require, d_has_book_shape, d_caps_of, d_names_in, d_lets_book, d_least_costs, d_sorted_places, d_Book_init, d_Book_str, d_law_feed, d_law_draw, d_law_book, d_law_heard, d_law_spoilt, d_law_any_line, d_law_any_page, d_law_book_right, d_law]
def i_words_text : Nat := 0
def i_row_text : Nat := 1
def i_book_text : Nat := 2
def i_is_integer : Nat := 3
def i_is_number : Nat := 4
def i_is_amount : Nat := 5
def i_is_name : Nat := 6
def i_is_place_name : Nat := 7
def i_are_two_names : Nat := 8
def i_is_place : Nat := 9
def i_is_cost : Nat := 10
def i_is_row : Nat := 11
def i_are_places : Nat := 12
def i_are_costs : Nat := 13
def i_are_rows : Nat := 14
def i_are_ascending : Nat := 15
def i_number_or_none : Nat := 16
def i_LineReader_init : Nat := 17
def i_LineReader_refuse : Nat := 18
def i_LineReader_present : Nat := 19
def i_LineReader_kept : Nat := 20
def i_LineReader_first : Nat := 21
def i_LineReader_name : Nat := 22
def i_LineReader_place_name : Nat := 23
def i_LineReader_other_name : Nat := 24
def i_LineReader_number : Nat := 25
def i_LineReader_slip_value : Nat := 26
def i_LineReader_finish : Nat := 27
def i_place_taken : Nat := 28
def i_way_taken : Nat := 29
def i_line_taken : Nat := 30
def i_words_behind : Nat := 31
def i_row_read : Nat := 32
def i_told_by : Nat := 33
def i_book_read : Nat := 34
def i_require : Nat := 35
def i_has_book_shape : Nat := 36
def i_caps_of : Nat := 37
def i_names_in : Nat := 38
def i_lets_book : Nat := 39
def i_least_costs : Nat := 40
def i_sorted_places : Nat := 41
def i_Book_init : Nat := 42
def i_Book_str : Nat := 43
def i_law_feed : Nat := 44
def i_law_draw : Nat := 45
def i_law_book : Nat := 46
def i_law_heard : Nat := 47
def i_law_spoilt : Nat := 48
def i_law_any_line : Nat := 49
def i_law_any_page : Nat := 50
def i_law_book_right : Nat := 51
def i_law : Nat := 52
def gloN : List Str := (["words_text", "row_text", "book_text", "is_integer", "is_number", "is_amount", "is_name", "is_place_name", "are_two_names", "is_place", "is_cost", "is_row", "are_places", "are_costs", "are_rows", "are_ascending", "number_or_none", "place_taken", "way_taken", "line_taken"] : List Str) ++ (["words_behind", "row_read", "told_by", "book_read", "require", "has_book_shape", "caps_of", "names_in", "lets_book", "least_costs", "sorted_places", "_law_feed", "_law_draw", "_law_book", "_law_heard", "_law_spoilt", "_law_any_line", "_law_any_page", "_law_book_right", "law"] : List Str) ++ (["LineReader", "Book", "UnbookedError", "PaperError", "BookError", "StoreError", "TextError", "InvalidPaper", "NotUsable", "NoTale", "InvalidText", "InvalidRow"] : List Str)
def keepN : List Str := (["words_text", "row_text", "book_text", "is_integer", "is_number", "is_amount", "is_name", "is_place_name", "are_two_names", "is_place", "is_cost", "is_row", "are_places", "are_costs", "are_rows", "are_ascending", "number_or_none", "place_taken", "way_taken", "line_taken"] : List Str) ++ (["words_behind", "row_read", "told_by", "book_read", "require", "has_book_shape", "caps_of", "names_in", "lets_book", "least_costs", "sorted_places", "_law_feed", "_law_draw", "_law_book", "_law_heard", "_law_spoilt", "_law_any_line", "_law_any_page", "_law_book_right", "law"] : List Str) ++ (["LineReader", "Book"] : List Str)
def freeN : List Str := (["len", "isinstance", "int", "bool", "str", "all", "tuple", "zip", "enumerate", "sorted", "super", "list", "dict", "range", "min", "repr"] : List Str)
def faMore : List He.Fa := [.str "NO_SLIP" "-", .str "LETTERS" "abcdefghijklmnopqrstuvwxyz", .int "LONGEST" 8, .str "OUTSIDE" "out", .str "DIGITS" "0123456789", .int "MOST_DIGITS" 60, .cls "LineReader", .cls "Book", .mkr "LineReader", .mkr "Book", .meth "LineReader" "__init__", .meth "LineReader" "refuse", .meth "LineReader" "present", .meth "LineReader" "kept", .meth "LineReader" "first", .meth "LineReader" "name", .meth "LineReader" "place_name", .meth "LineReader" "other_name", .meth "LineReader" "number", .meth "LineReader" "slip_value", .meth "LineReader" "finish", .noat "LineReader" "parts", .noat "LineReader" "line_now", .noat "LineReader" "field_first", .noat "LineReader" "taken", .noat "Book" "own_places", .noat "Book" "own_table", .noat "Book" "own_slip", .noat "Book" "own_rows"]
-- faMore 0 .str "NO_SLIP" "-"
-- faMore 1 .str "LETTERS" "abcdefghijklmnopqrstuvwxyz"
-- faMore 2 .int "LONGEST" 8
-- faMore 3 .str "OUTSIDE" "out"
-- faMore 4 .str "DIGITS" "0123456789"
-- faMore 5 .int "MOST_DIGITS" 60
-- faMore 6 .cls "LineReader"
-- faMore 7 .cls "Book"
-- faMore 8 .mkr "LineReader"
-- faMore 9 .mkr "Book"
-- faMore 10 .meth "LineReader" "__init__"
-- faMore 11 .meth "LineReader" "refuse"
-- faMore 12 .meth "LineReader" "present"
-- faMore 13 .meth "LineReader" "kept"
-- faMore 14 .meth "LineReader" "first"
-- faMore 15 .meth "LineReader" "name"
-- faMore 16 .meth "LineReader" "place_name"
-- faMore 17 .meth "LineReader" "other_name"
-- faMore 18 .meth "LineReader" "number"
-- faMore 19 .meth "LineReader" "slip_value"
-- faMore 20 .meth "LineReader" "finish"
-- faMore 21 .noat "LineReader" "parts"
-- faMore 22 .noat "LineReader" "line_now"
-- faMore 23 .noat "LineReader" "field_first"
-- faMore 24 .noat "LineReader" "taken"
-- faMore 25 .noat "Book" "own_places"
-- faMore 26 .noat "Book" "own_table"
-- faMore 27 .noat "Book" "own_slip"
-- faMore 28 .noat "Book" "own_rows"
def faAll : List He.Fa := gloN.map He.Fa.glo ++ (keepN.map He.Fa.keep ++ (freeN.map He.Fa.free ++ faMore))
/-- what the top has left -/
structure TX (K : PySem.W.Frag) (mg : Str → Option Value) : Prop where
  at_ : ∃ h : Heap, K.In h ∧ h.Ns mainGlobals mg
  fa : ∀ f ∈ faAll, He.Fa.ok K f = true
  fn : ∀ (i : Nat) (d : He.DefD), fnAll[i]? = some d → ∃ fd, FunD K d.name d.qual d.params d.body d.scope (d.dvs K) (d.kws K) (He.fAd K d.at_) fd
  rows : He.tupB K "ROW_WORDS" [.str "move", .str "count"] = true
section
variable {K : PySem.W.Frag} {mg : Str → Option Value}
theorem TX.glo (T : TX K mg) {x : Str} (h : x ∈ gloN := by decide +kernel) : mg x = some (.ref (He.ga K x)) := by
  obtain ⟨hp, X, G⟩ := T.at_
  exact He.glo_ok X G (T.fa _ (List.mem_append_left _ (List.mem_map.mpr ⟨x, h, rfl⟩)))
theorem TX.keep (T : TX K mg) {x : Str} (h : x ∈ keepN := by decide +kernel) : PySem.W.keepIn K (.ref (He.ga K x)) = true :=
  He.keep_ok (T.fa _ (List.mem_append_right _ (List.mem_append_left _ (List.mem_map.mpr ⟨x, h, rfl⟩))))
theorem TX.free (T : TX K mg) {x : Str} (h : x ∈ freeN := by decide +kernel) : mg x = none := by
  obtain ⟨hp, X, G⟩ := T.at_
  exact He.free_ok X G (T.fa _ (List.mem_append_right _ (List.mem_append_right _ (List.mem_append_left _ (List.mem_map.mpr ⟨x, h, rfl⟩)))))
theorem TX.more (T : TX K mg) (i : Nat) {f : He.Fa} (h : faMore[i]? = some f := by rfl) : He.Fa.ok K f = true :=
  T.fa _ (List.mem_append_right _ (List.mem_append_right _ (List.mem_append_right _ (List.mem_of_getElem? h))))
theorem TX.strK (T : TX K mg) (i : Nat) {x z : Str} (h : faMore[i]? = some (.str x z) := by rfl) : ∃ t, mg x = some (.str z t) := by
  obtain ⟨hp, X, G⟩ := T.at_
  exact He.str_ok X G (T.more i h)
theorem TX.intK (T : TX K mg) (i : Nat) {x : Str} {z : Int} (h : faMore[i]? = some (.int x z) := by rfl) : ∃ t, mg x = some (.int z t) := by
  obtain ⟨hp, X, G⟩ := T.at_
  exact He.int_ok X G (T.more i h)
/-- a def of the module, by its body -/
theorem TX.def_ {P : Program} {w : World} {base : Heap} {k : Nat} {x : Str} {N ps : List Str} {sp : Sp} (T : TX K mg) (i : Nat) {d : He.DefD} (hi : fnAll[i]? = some d) (hx : d.at_ = (x, none)) (S : FnScope N ps d.scope)
    (hb : ∀ (kV doc pm : Value) (an : Option Addr) (cdv ct : Value) (us : List Value), us.length = ps.length → bindArgs (PySem.W.fnOf d.name d.qual d.params d.body d.scope .none kV doc pm an cdv ct) ⟨us, []⟩ = pure (ps.zip us))
    (len : ∀ vs H Q E, sp vs H Q E → vs.length = ps.length)
    (hbody : ∀ (f : Addr) (cdv : Value) (A : Around) (outer : List Env) (s : Shared) (H : Hp) (vs : List V) (Q : VK) (E : XK), Room k (A.deeper (envOfC d.qual d.scope s.heap.objs.size f cdv)) → sp vs H Q E →
      ∃ t, PSs (cxOf (L2.CX P w) P w K mg base N d.qual d.scope f cdv A outer s H E) d.body t ∧ t { nx := fun _ H' => Q .non H', rt := Q } (L2.start N vs) H)
    (hd : d.dfl = [] := by rfl) (hg : x ∈ gloN := by decide +kernel) (hk : x ∈ keepN := by decide +kernel) : Cal P w K mg base (k + 1) x ps sp := by
  obtain ⟨fd, F⟩ := T.fn i d hi
  have e : He.fAd K d.at_ = He.ga K x := by
    rw [hx]
    rfl
  have e2 : d.dvs K = [] := by
    unfold He.DefD.dvs
    rw [hd]
    rfl
  rw [e, e2] at F
  exact ⟨_, fd, F.ok S len fun cdv A outer s H vs Q E hr h => hbody _ cdv A outer s H vs Q E hr h, T.glo hg, T.keep hk, F.bindsN hb⟩
/-- a method -/
theorem TX.mtd {P : Program} {w : World} {base : Heap} {k : Nat} {C m : Str} {N ps : List Str} {sp : Sp} (T : TX K mg) (i j : Nat) {d : He.DefD} (hi : fnAll[i]? = some d) (hx : d.at_ = (C, some m)) (hj : faMore[j]? = some (.meth C m)) (S : FnScope N ps d.scope)
    (hb : ∀ (kV doc pm : Value) (an : Option Addr) (cdv ct : Value) (us : List Value), us.length = ps.length → bindArgs (PySem.W.fnOf d.name d.qual d.params d.body d.scope .none kV doc pm an cdv ct) ⟨us, []⟩ = pure (ps.zip us))
    (len : ∀ vs H Q E, sp vs H Q E → vs.length = ps.length)
    (hbody : ∀ (f : Addr) (cdv : Value) (A : Around) (outer : List Env) (s : Shared) (H : Hp) (vs : List V) (Q : VK) (E : XK), Room k (A.deeper (envOfC d.qual d.scope s.heap.objs.size f cdv)) → sp vs H Q E →
      ∃ t, PSs (cxOf (L2.CX P w) P w K mg base N d.qual d.scope f cdv A outer s H E) d.body t ∧ t { nx := fun _ H' => Q .non H', rt := Q } (L2.start N vs) H)
    (hd : d.dfl = [] := by rfl) : Mtd P w K mg base (k + 1) (He.ga K C) m ps sp := by
  obtain ⟨fd, F⟩ := T.fn i d hi
  have e : He.fAd K d.at_ = He.ma K (He.ga K C) m := by
    rw [hx]
    rfl
  have e2 : d.dvs K = [] := by
    unfold He.DefD.dvs
    rw [hd]
    rfl
  rw [e, e2] at F
  exact ⟨_, fd, F.ok S len fun cdv A outer s H vs Q E hr h => hbody _ cdv A outer s H vs Q E hr h, He.meth_ok (T.more j hj), F.bindsN hb⟩
end
end K12

/-! What the head's run looks at. -/
namespace K12
open PySem PySem.Spec PyProof.Rows L2
abbrev s_InvalidPaper_init : Stmt := inClass (top 12) 0
abbrev s_InvalidText_init : Stmt := inClass (top 15) 0
def cTx (K : PySem.W.Frag) : Addr := He.ga K "InvalidText"
def cPa (K : PySem.W.Frag) : Addr := He.ga K "InvalidPaper"
def cBk (K : PySem.W.Frag) : Addr := He.ga K "Book"
abbrev lamN : List Str := ["_law_any_line", "_law_any_page", "_law_book_right"]
def fileN : Str := "/claim/cut.py"
def oexB (K : PySem.W.Frag) (C : Addr) : Bool := (match K.lookup C with
  | some ⟨.type t, _, .cls cd, sl⟩ => decide (t = "type") && (match cd.mro, sl.toList with
    | .ref D :: bm, [_, _, _, _, some (.builtin n), _] => decide (D = C) && (decide (n = "ValueError.__new__") && (!cd.hasDel && (cd.hasDict && PySem.HandSPX.refsVE bm)))
    | _, _ => false)
  | _ => false) && (He.eqO (PySem.W.findIn K (.ref C) "__setattr__") (some (some (.builtin "object.__setattr__"))) && (decide (PySem.W.subIn K (.ref C) (.type "BaseException") = some true) && (decide (PySem.W.typeIn K (.ref C) = some (.type "type")) && PySem.W.keepIn K (.ref C))))
abbrev SupW : Type := Option (Str × Str × Arguments × FuncBody × Scope × Addr × List Str × Addr)
def supW (K : PySem.W.Frag) (f : Addr) : SupW := match K.lookup f with
  | some ⟨_, _, .func fd, _⟩ => some (fd.name, fd.qualname, fd.params, fd.body, fd.scope, fd.globals, fd.closure.map (·.1), fd.builtins)
  | _ => none
def supV (q : Str) (st : Stmt) : SupW := some ("__init__", q, defArgs st, .stmts (defBody st), defScope st, mainGlobals, ["__class__"], builtinsNs)
def cellB (K : PySem.W.Frag) (C cc : Addr) : Bool := match K.lookup cc with
  | some ⟨_, _, .cell (some (.ref D)), _⟩ => decide (D = C)
  | _ => false
def fileB (K : PySem.W.Frag) (cda : Addr) : Bool := match K.lookup cda with
  | some ⟨_, _, .fields vs, _⟩ => (match (vs[2]? : Option Value) with
    | some (.str z _) => decide (z = fileN)
    | _ => false)
  | _ => false
def supB (K : PySem.W.Frag) (C : Addr) (q : Str) : Bool := (match K.lookup (He.ma K C "__init__") with
  | some ⟨_, _, .func fd, _⟩ => (match fd.closure, fd.defaults, fd.code with
    | [(_, cc)], .none, .ref cda => PySem.W.codeIn K (.ref cda) q && (cellB K C cc && fileB K cda)
    | _, _, _ => false)
  | _ => false) && (He.eqO (PySem.W.findIn K (.ref C) "__init__") (some (some (.ref (He.ma K C "__init__")))) && (decide (PySem.W.typeIn K (.ref (He.ma K C "__init__")) = some (.type "function")) && (decide (PySem.W.ks_superIn K C C "__init__" = some (some (.builtin "ValueError.__init__"))) &&
  (decide (PySem.W.subIn K (.ref C) (.type "ValueError") = some true) && (decide (PySem.W.subIn K (.ref C) (.ref C) = some true) && (decide (PySem.W.nsIn K cStatics "thirdparty.any" = some none) && oexB K C))))))
def excCB (K : PySem.W.Frag) (D : Addr) : Bool := He.eqO (PySem.W.findIn K (.ref D) "__getattribute__") (some (some (.builtin "BaseException.__getattribute__"))) && (He.eqO (PySem.W.findIn K (.ref D) "__getattr__") (some none) && (decide (PySem.W.subIn K (.ref D) (.type "BaseException") = some true) && (PySem.W.hasDictIn K D &&
  (He.eqO (PySem.W.findIn K (.ref D) "__class__") (some (some (.builtin "object.__class__"))) && (He.eqO (PySem.W.specialIn K (.builtin "object.__class__") "__get__") (some (some (.builtin "getset_descriptor.__get__"))) && (decide (PySem.W.takesIn K (.builtin "object.__class__") = some true) && decide (PySem.W.mroIn K D (.type "object") = some true)))))))
def kitT : List (Str × Bool) := [("PaperError", false), ("BookError", false), ("StoreError", false), ("TextError", true), ("InvalidPaper", false), ("InvalidText", true), ("InvalidRow", false)]
def kitP : List (Str × Bool) := [("PaperError", true), ("BookError", false), ("StoreError", false), ("TextError", false), ("InvalidPaper", true)]
def kitB (K : PySem.W.Frag) (D : Addr) (l : List (Str × Bool)) : Bool := l.all fun p => decide (PySem.W.kitOne K (.ref D) (.ref (He.ga K p.1)) = some p.2)
def propB (K : PySem.W.Frag) (C : Addr) (m : Str) : Bool := He.eqO (PySem.W.findIn K (.ref C) m) (some (some (.ref (He.ma K C m)))) && (He.eqO (PySem.W.specialIn K (.ref (He.ma K C m)) "__get__") (some (some (.builtin "property.__get__"))) && (decide (PySem.W.takesIn K (.ref (He.ma K C m)) = some true) && (match PySem.W.recIn K (He.ma K C m) "property" with
  | some (.ref _ :: _) => true
  | _ => false)))
def dOf : He5.DefA := { at_ := fun K => He5.wf K (cBk K) "classmethod" "of", name := "of", qual := "Book.of", params := defArgs s_Book_of, body := defBody s_Book_of, scope := defScope s_Book_of }
def dRead : He5.DefA := { at_ := fun K => He5.wf K (cBk K) "classmethod" "read", name := "read", qual := "Book.read", params := defArgs s_Book_read, body := defBody s_Book_read, scope := defScope s_Book_read }
def dForm : He5.DefA := { at_ := fun K => He5.wf K (cBk K) "property" "form", name := "form", qual := "Book.form", params := defArgs s_Book_form, body := defBody s_Book_form, scope := defScope s_Book_form }
def dA : List He5.DefA := [dOf, dRead, dForm]
def bookB (K : PySem.W.Frag) : Bool := PySem.W.readsIn K (cBk K) (.type "type") && (He.eqO (PySem.W.specialIn K (.ref (cBk K)) "__getattribute__") (some (some (.builtin "type.__getattribute__"))) && (He5.wrapB K (cBk K) "classmethod" "classmethod.__get__" "of" && (He5.wrapB K (cBk K) "classmethod" "classmethod.__get__" "read" &&
  (PySem.W.fnIn K (He5.wf K (cBk K) "classmethod" "of") && (PySem.W.fnIn K (He5.wf K (cBk K) "classmethod" "read") && (propB K (cBk K) "form" && (He.eqO (PySem.W.findIn K (.ref (cBk K)) "__str__") (some (some (.ref (He.ma K (cBk K) "__str__")))) && PySem.W.isFn K (.ref (He.ma K (cBk K) "__str__")))))))))
def faK : List He.Fa := faAll ++ [.glo "ROW_WORDS", .noat "InvalidText" "line", .noat "InvalidText" "field", .noat "InvalidPaper" "word", .noat "InvalidPaper" "at", .exm "InvalidText" "UnbookedError" true, .exm "InvalidPaper" "UnbookedError" true]
def tfK : List He.Defn := lamN.map fun x => (x, none)
def exK (K : PySem.W.Frag) : Bool := supB K (cTx K) "InvalidText.__init__" && (supB K (cPa K) "InvalidPaper.__init__" && (excCB K (cTx K) && (excCB K (cPa K) && (xfB K (cTx K) && (xfB K (cPa K) && (kitB K (cTx K) kitT && (kitB K (cPa K) kitP && (bookB K && (He.tupB K "ROW_WORDS" [.str "move", .str "count"] &&
  (decide (lamN.map fun x => (He.cT K (x, none)).2).Nodup && dA.all fun d => d.ok K))))))))))
abbrev AlK : Type := He.AlD × (List He.FnW × (SupW × (SupW × Bool)))
def obK (g : Addr → Option Obj) (K : PySem.W.Frag) : AlK := (He.obsD faK fnAll K, (dA.map (fun d => He5.fnA K (d.at_ K)), (supW K (He.ma K (cTx K) "__init__"), (supW K (He.ma K (cPa K) "__init__"), exK K && He.tabsB g tfK K))))
def vlK : AlK := (He.valD fnAll, (dA.map He5.DefA.val, (supV "InvalidText.__init__" s_InvalidText_init, (supV "InvalidPaper.__init__" s_InvalidPaper_init, true))))
/-- where the classes, the defs and their code objects stand once the top has run -/
def asK : List Addr := ([3, 48, 61, 73, 85, 97, 118, 139, 160, 181, 202, 376, 673, 47, 60, 72, 84, 96, 117, 138, 159, 180, 201, 375, 405, 519, 534, 536, 544, 546, 672, 21, 26, 33, 38, 115, 136, 157, 178, 199] : List Addr) ++ ([211, 218, 225, 230, 237, 244, 251, 258, 263, 268, 273, 278, 283, 289, 303, 310, 317, 324, 331, 338, 345, 352, 359, 366, 373, 387, 394, 399, 404, 412, 417, 424, 431, 438, 443, 448, 453, 458, 465, 472] : List Addr) ++ ([479, 484, 491, 496, 503, 510, 526, 533, 543, 553, 561, 569, 577, 585, 593, 600, 607, 614, 621, 628, 635, 642, 649, 656, 663, 670, 684, 691, 698, 703, 710, 717, 724, 729, 734, 739, 284, 20, 25, 32] : List Addr) ++ ([37, 49, 114, 135, 156, 177, 198, 210, 217, 224, 229, 236, 243, 250, 257, 262, 267, 272, 277, 282, 288, 302, 309, 316, 323, 330, 337, 344, 351, 358, 365, 372, 377, 378, 386, 393, 398, 403, 411, 416] : List Addr) ++ ([423, 430, 437, 442, 447, 452, 457, 464, 471, 478, 483, 490, 495, 502, 509, 525, 532, 535, 542, 545, 552, 554, 560, 562, 568, 570, 576, 578, 584, 586, 592, 599, 606, 613, 620, 627, 634, 641, 648, 655] : List Addr) ++ ([662, 669, 674, 675, 683, 690, 697, 702, 709, 716, 723, 728, 733, 738, 103, 124, 145, 166, 187, 2] : List Addr)
/-- the written part -/
def frK (g : Addr → Option Obj) : PySem.W.Frag := He.frT g asK
structure SaysK (h : Heap) (K : PySem.W.Frag) : Prop where
  d : He.SaysD faK fnAll K
  a : dA.map (fun d => He5.fnA K (d.at_ K)) = dA.map He5.DefA.val
  sT : supW K (He.ma K (cTx K) "__init__") = supV "InvalidText.__init__" s_InvalidText_init
  sP : supW K (He.ma K (cPa K) "__init__") = supV "InvalidPaper.__init__" s_InvalidPaper_init
  ex : exK K = true
  hd : ∀ p ∈ tfK, PySem.W.codeHdIn K (He.cT K p).1 (He.cT K p).2 = true
  out : ∀ p ∈ tfK, K.lookup (He.cT K p).2 = none
  empty : ∀ p ∈ tfK, h.get? (He.cT K p).2 = some { cls := .none, data := .fields #[] }
theorem saysK_of {h : Heap} {K : PySem.W.Frag} (e : obK h.get? K = vlK) (hK : ∀ P o, h.get? P = some o → He.emptyTab o = true → K.lookup P = none) : SaysK h K := by
  have e1 : He.obsD faK fnAll K = He.valD fnAll := congrArg (fun z : AlK => z.1) e
  have e2 : dA.map (fun d => He5.fnA K (d.at_ K)) = dA.map He5.DefA.val := congrArg (fun z : AlK => z.2.1) e
  have e3 : supW K (He.ma K (cTx K) "__init__") = supV "InvalidText.__init__" s_InvalidText_init := congrArg (fun z : AlK => z.2.2.1) e
  have e4 : supW K (He.ma K (cPa K) "__init__") = supV "InvalidPaper.__init__" s_InvalidPaper_init := congrArg (fun z : AlK => z.2.2.2.1) e
  have e5 : (exK K && He.tabsB h.get? tfK K) = true := congrArg (fun z : AlK => z.2.2.2.2) e
  obtain ⟨h1, h2⟩ := He.ba e5
  have tb : ∀ p ∈ tfK, PySem.W.codeHdIn K (He.cT K p).1 (He.cT K p).2 = true ∧ ∃ o, h.get? (He.cT K p).2 = some o ∧ He.emptyTab o = true := fun p hp => by
    obtain ⟨h3, h4⟩ := He.ba (List.all_eq_true.mp h2 p hp)
    refine ⟨h3, ?_⟩
    split at h4
    · rename_i o eo
      exact ⟨o, eo, h4⟩
    · cases h4
  refine ⟨e1, e2, e3, e4, h1, fun p hp => (tb p hp).1, fun p hp => ?_, fun p hp => ?_⟩
  · obtain ⟨_, o, eo, z⟩ := tb p hp
    exact hK _ o eo z
  · obtain ⟨_, o, eo, z⟩ := tb p hp
    rw [eo, He.emptyTab_eq z]
def hookK : PySem.W.Hook where
  α := AlK
  obs := fun s => obK s.heap.get? (frK s.heap.get?)
  val := fun _ => vlK
  says := fun _ h => ∃ K : PySem.W.Frag, K.In h ∧ SaysK h K
  of := fun _ s e => ⟨frK s.heap.get?, He.frT_in, saysK_of e fun _ _ h1 h2 => He.frT_none h1 h2⟩
  keeps := fun _ _ _ ⟨K, hK, c⟩ k => ⟨K, PySem.W.Frag.In.keeps hK k, ⟨c.d, c.a, c.sT, c.sP, c.ex, c.hd, c.out, fun p hp => k _ _ (c.empty p hp)⟩⟩
end K12

/-! The head: one run of the kernel. -/
namespace K12
open PySem PySem.Spec PyProof.Rows L2
abbrev RW : PySem.W.OpenLaw := PySem.Challenge.rw_unbooked_k12_whole_texts_there_and_back
abbrev RR : PySem.W.OpenRow := PySem.W.OpenLaw.row RW
def loose1 : List Str := ["_wall", "NO_SLIP", "words_text", "row_text", "book_text", "UnbookedError", "PaperError", "BookError", "StoreError", "TextError", "InvalidPaper", "NotUsable", "NoTale", "InvalidText", "InvalidRow", "LETTERS", "LONGEST", "OUTSIDE", "is_integer", "is_number", "is_amount", "is_name", "is_place_name", "are_two_names", "is_place", "is_cost"]
def loose2 : List Str := ["is_row", "are_places", "are_costs", "are_rows", "are_ascending", "DIGITS", "MOST_DIGITS", "ROW_WORDS", "number_or_none", "LineReader", "place_taken", "way_taken", "line_taken", "words_behind", "row_read", "told_by", "book_read", "require", "has_book_shape", "caps_of", "names_in", "lets_book", "require_place", "require_row", "require_gap", "row_change", "level_behind", "booked_level"]
def loose3 : List Str := ["least_costs", "without_count", "sorted_places", "Book", "book_of", "_law_feed", "_law_draw", "_law_book", "_law_heard", "_law_spoilt", "_law_any_line", "_law_any_page", "_law_book_right"]
def looseK : List Str := loose1 ++ loose2 ++ loose3
def ob (s : PySem.W.SharedT) : AlK := obK (HandSHeadRun.getT s) (frK (HandSHeadRun.getT s))
theorem ob_eq (s : PySem.W.SharedT) : ob s = hookK.obs s.abs := by
  have e : HandSHeadRun.getT s = s.abs.heap.get? := funext (HandSHeadRun.getT_eq s)
  unfold ob
  rw [e]
  rfl
set_option maxHeartbeats 0 in
theorem run (w : World) : HandSHeadRun.RunEq RR (PySem.W.view RR.prog [76]) hookK ob 20000 looseK w := by
  intro os
  kernel_rfl
end K12

/-! Books as data, promises over data, and the comprehension of data. -/
namespace K12
open PySem PySem.Spec PyProof.Rows L2

/-! ### data of books -/
def dPl (p : Pl) : PyData := .tuple [.str p.1, .int p.2.1, .int p.2.2]
def dWy (w : Wy) : PyData := .tuple [.str w.1, .str w.2.1, .int w.2.2]
def dSl : Option Nat → PyData
  | none => .none
  | some n => .int n
def dRw : Rw → PyData
  | .move a b n => .tuple [.str sMove, .str a, .str b, .int n]
  | .count a n => .tuple [.str sCount, .str a, .int n]
def dIt : Item → PyData
  | .place p => dPl p
  | .way w => dWy w
  | .slip s => dSl s
  | .row r => dRw r
def dFound (it : Item) : PyData := .tuple [.str it.key, dIt it]
def dBk (b : Bk) : PyData := .tuple [.tuple (b.places.map dPl), .tuple (b.ways.map dWy), dSl b.slip, .tuple (b.rows.map dRw)]
def vSl : Option Nat → V
  | none => .non
  | some n => .int n
def vRw : Rw → List V
  | .move a b n => [.str sMove, .str a, .str b, .int n]
  | .count a n => [.str sCount, .str a, .int n]
section
variable {K : PySem.W.Frag} {H : Hp} {v : V}
theorem _root_.L2.Dp.tupI {ds : List PyData} (h : Dp K H v (.tuple ds)) : ∃ a xs, v = .ref a ∧ SqT K H a xs ∧ DpAll K H xs ds := by
  cases h with
  | tup h1 h2 => exact ⟨_, _, rfl, h1, h2⟩
theorem _root_.L2.Dp.lstI {ds : List PyData} (h : Dp K H v (.list ds)) : ∃ a xs, v = .ref a ∧ SqL K H a xs ∧ DpAll K H xs ds := by
  cases h with
  | lst h1 h2 => exact ⟨_, _, rfl, h1, h2⟩
theorem _root_.L2.Dp.intI {i : Int} (h : Dp K H v (.int i)) : v = .int i := by cases h; rfl
theorem _root_.L2.Dp.strI {z : Str} (h : Dp K H v (.str z)) : v = .str z := by cases h; rfl
theorem _root_.L2.Dp.blI {b : Bool} (h : Dp K H v (.bool b)) : v = .bl b := by cases h; rfl
theorem _root_.L2.Dp.noI (h : Dp K H v .none) : v = .non := by cases h; rfl
theorem dpB {a b : Bool} (h : a = b) : Dp K H (.bl a) (.bool b) := by subst h; exact .bl _
theorem _root_.L2.Dp.slI {s : Option Nat} (h : Dp K H v (dSl s)) : v = vSl s := by
  cases s with
  | none => exact h.noI
  | some n => exact h.intI
theorem _root_.L2.Dp.slM {s : Option Nat} : Dp K H (vSl s) (dSl s) := by
  cases s with
  | none => exact .non
  | some n => exact .int _
theorem _root_.L2.DpAll.two {vs : List V} {a b : PyData} (h : DpAll K H vs [a, b]) : ∃ x y, vs = [x, y] ∧ Dp K H x a ∧ Dp K H y b := by
  cases h with | cons h1 h => cases h with | cons h2 h => cases h; exact ⟨_, _, rfl, h1, h2⟩
theorem _root_.L2.DpAll.one {vs : List V} {a : PyData} (h : DpAll K H vs [a]) : ∃ x, vs = [x] ∧ Dp K H x a := by
  cases h with | cons h1 h => cases h; exact ⟨_, rfl, h1⟩
theorem _root_.L2.DpAll.three {vs : List V} {a b c : PyData} (h : DpAll K H vs [a, b, c]) : ∃ x y z, vs = [x, y, z] ∧ Dp K H x a ∧ Dp K H y b ∧ Dp K H z c := by
  cases h with | cons h1 h => obtain ⟨y, z, rfl, h2, h3⟩ := h.two; exact ⟨_, _, _, rfl, h1, h2, h3⟩
theorem _root_.L2.DpAll.four {vs : List V} {a b c d : PyData} (h : DpAll K H vs [a, b, c, d]) : ∃ x y z w, vs = [x, y, z, w] ∧ Dp K H x a ∧ Dp K H y b ∧ Dp K H z c ∧ Dp K H w d := by
  cases h with | cons h1 h => obtain ⟨y, z, w, rfl, h2, h3, h4⟩ := h.three; exact ⟨_, _, _, _, rfl, h1, h2, h3, h4⟩
theorem _root_.L2.Dp.plI {p : Pl} (h : Dp K H v (dPl p)) : ∃ a, v = .ref a ∧ SqT K H a [.str p.1, .int p.2.1, .int p.2.2] := by
  obtain ⟨a, xs, rfl, hq, hx⟩ := h.tupI
  obtain ⟨x, y, z, rfl, h1, h2, h3⟩ := hx.three
  rw [h1.strI, h2.intI, h3.intI] at hq
  exact ⟨a, rfl, hq⟩
theorem _root_.L2.Dp.wyI {p : Wy} (h : Dp K H v (dWy p)) : ∃ a, v = .ref a ∧ SqT K H a [.str p.1, .str p.2.1, .int p.2.2] := by
  obtain ⟨a, xs, rfl, hq, hx⟩ := h.tupI
  obtain ⟨x, y, z, rfl, h1, h2, h3⟩ := hx.three
  rw [h1.strI, h2.strI, h3.intI] at hq
  exact ⟨a, rfl, hq⟩
theorem _root_.L2.Dp.rwI {r : Rw} (h : Dp K H v (dRw r)) : ∃ a, v = .ref a ∧ SqT K H a (vRw r) := by
  cases r with
  | move a b n =>
    obtain ⟨a, xs, rfl, hq, hx⟩ := h.tupI
    obtain ⟨x, y, z, w, rfl, h1, h2, h3, h4⟩ := hx.four
    rw [h1.strI, h2.strI, h3.strI, h4.intI] at hq
    exact ⟨a, rfl, hq⟩
  | count a n =>
    obtain ⟨a, xs, rfl, hq, hx⟩ := h.tupI
    obtain ⟨x, y, z, rfl, h1, h2, h3⟩ := hx.three
    rw [h1.strI, h2.strI, h3.intI] at hq
    exact ⟨a, rfl, hq⟩
theorem _root_.L2.Dp.plM {p : Pl} {a : Addr} (h : SqT K H a [.str p.1, .int p.2.1, .int p.2.2]) : Dp K H (.ref a) (dPl p) := .tup h (.cons (.str _) (.cons (.int _) (.cons (.int _) .nil)))
theorem _root_.L2.Dp.wyM {p : Wy} {a : Addr} (h : SqT K H a [.str p.1, .str p.2.1, .int p.2.2]) : Dp K H (.ref a) (dWy p) := .tup h (.cons (.str _) (.cons (.str _) (.cons (.int _) .nil)))
theorem _root_.L2.Dp.rwM {r : Rw} {a : Addr} (h : SqT K H a (vRw r)) : Dp K H (.ref a) (dRw r) := by
  cases r with
  | move a b n => exact .tup h (.cons (.str _) (.cons (.str _) (.cons (.str _) (.cons (.int _) .nil))))
  | count a n => exact .tup h (.cons (.str _) (.cons (.str _) (.cons (.int _) .nil)))
theorem _root_.L2.Dp.bkI {b : Bk} (h : Dp K H v (dBk b)) : ∃ a p w r ps ws rs, v = .ref a ∧ SqT K H a [.ref p, .ref w, vSl b.slip, .ref r] ∧ SqT K H p ps ∧ DpAll K H ps (b.places.map dPl) ∧ SqT K H w ws ∧ DpAll K H ws (b.ways.map dWy) ∧ SqT K H r rs ∧ DpAll K H rs (b.rows.map dRw) := by
  obtain ⟨a, xs, rfl, hq, hx⟩ := h.tupI
  obtain ⟨x, y, z, w, rfl, h1, h2, h3, h4⟩ := hx.four
  obtain ⟨p, ps, rfl, q1, r1⟩ := h1.tupI
  obtain ⟨wa, ws, rfl, q2, r2⟩ := h2.tupI
  obtain ⟨ra, rs, rfl, q3, r3⟩ := h4.tupI
  rw [h3.slI] at hq
  exact ⟨_, _, _, _, _, _, _, rfl, hq, q1, r1, q2, r2, q3, r3⟩
theorem _root_.L2.Dp.bkM {b : Bk} {a p w r : Addr} {ps ws rs : List V} (h : SqT K H a [.ref p, .ref w, vSl b.slip, .ref r]) (q1 : SqT K H p ps) (r1 : DpAll K H ps (b.places.map dPl)) (q2 : SqT K H w ws) (r2 : DpAll K H ws (b.ways.map dWy)) (q3 : SqT K H r rs) (r3 : DpAll K H rs (b.rows.map dRw)) : Dp K H (.ref a) (dBk b) :=
  .tup h (.cons (.tup q1 r1) (.cons (.tup q2 r2) (.cons Dp.slM (.cons (.tup q3 r3) .nil))))
theorem atI_D {ds : List PyData} {xs : List V} {i : Nat} {d : PyData} (h : DpAll K H xs ds) (e : ds[i]? = some d) : ∃ x, atI xs (i : Int) = some x ∧ Dp K H x d := by
  obtain ⟨x, h1, h2⟩ := DpAll.get h e
  exact ⟨x, atI_nat h1, h2⟩
end

/-! ### no list within -/
mutual
def noLst : PyData → Bool
  | .none | .bool _ | .int _ | .str _ => true
  | .tuple ds => noLsts ds
  | _ => false
def noLsts : List PyData → Bool
  | [] => true
  | d :: r => noLst d && noLsts r
end
section
variable {K : PySem.W.Frag} {H : Hp} {D : Addr} {l m : List V}
theorem SqT.updL {a : Addr} {xs : List V} (hD : H D = some (.lst l)) (h : SqT K H a xs) : SqT K (upd H D (.lst m)) a xs := by
  rcases h with (h | ⟨o, h⟩) | h
  · exact .inl (.inl (by rw [upd_ne (ne_of h hD (by intro z; cases z))]; exact h))
  · exact .inl (.inr ⟨o, by rw [upd_ne (ne_of h hD (by intro z; cases z))]; exact h⟩)
  · exact .inr h
mutual
theorem Dp.updL (hD : H D = some (.lst l)) : ∀ {v : V} {d : PyData}, noLst d = true → Dp K H v d → Dp K (upd H D (.lst m)) v d
  | _, _, _, .non => .non
  | _, _, _, .bl b => .bl b
  | _, _, _, .int i => .int i
  | _, _, _, .str x => .str x
  | _, _, n, .lst _ _ => by simp [noLst] at n
  | _, _, n, .tup h hs => .tup (SqT.updL hD h) (DpAll.updL hD (by simpa [noLst] using n) hs)
theorem DpAll.updL (hD : H D = some (.lst l)) : ∀ {vs : List V} {ds : List PyData}, noLsts ds = true → DpAll K H vs ds → DpAll K (upd H D (.lst m)) vs ds
  | _, _, _, .nil => .nil
  | _, _, n, .cons h hs => .cons (Dp.updL hD (by simp [noLsts] at n; exact n.1) h) (DpAll.updL hD (by simp [noLsts] at n; exact n.2) hs)
end
end
theorem noLsts_app : ∀ {a b : List PyData}, noLsts a = true → noLsts b = true → noLsts (a ++ b) = true
  | [], _, _, h => h
  | x :: r, b, h, h2 => by
    simp [noLsts] at h ⊢
    exact ⟨h.1, noLsts_app h.2 h2⟩
theorem noLsts_map {α : Type} (f : α → PyData) (h : ∀ a, noLst (f a) = true) : ∀ l : List α, noLsts (l.map f) = true
  | [] => rfl
  | x :: r => by simp [noLsts, h x, noLsts_map f h r]
theorem noLsts_take : ∀ {l : List PyData} (n : Nat), noLsts l = true → noLsts (l.take n) = true
  | [], n, _ => by simp [noLsts]
  | x :: r, 0, _ => rfl
  | x :: r, n + 1, h => by
    simp [noLsts] at h ⊢
    exact ⟨h.1, noLsts_take n h.2⟩
theorem nl_pl (p : Pl) : noLst (dPl p) = true := rfl
theorem nl_wy (p : Wy) : noLst (dWy p) = true := rfl
theorem nl_sl (s : Option Nat) : noLst (dSl s) = true := by cases s <;> rfl
theorem nl_rw (r : Rw) : noLst (dRw r) = true := by cases r <;> rfl
theorem nl_it (r : Item) : noLst (dIt r) = true := by cases r <;> simp [dIt, nl_pl, nl_wy, nl_sl, nl_rw]
theorem nl_found (it : Item) : noLst (dFound it) = true := by
  unfold dFound
  simp [noLst, noLsts, nl_it]

/-! ### a comprehension that makes data -/
section
variable {J : It} {n : Nat} {G : Hp → Prop} {Y : Nat → Hp → V → Hp → Prop} {K : PySem.W.Frag}
theorem lc_dat (w : Walk J n G Y) {g : TG} {tt : TT} {te : TE} {vs : List Nat} {σ : L2.St} {H0 : Hp} {D : Addr} {Qd : Hp → Prop} (A : Nat → List PyData) (hA0 : A 0 = []) (hA : ∀ i, i < n → A (i + 1) = A i ∨ ∃ d, noLst d = true ∧ A (i + 1) = A i ++ [d]) (hn : n < sizeLine) (hD : H0 D = none)
    (hG : ∀ H, Same H0 H → G H)
    (turn : ∀ i H x H' (Nx : Hp → Prop), i < n → Same H0 H → Y i H x H' → (∀ y H4 d, Same H H4 → Dp K H4 y d → A (i + 1) = A i ++ [d] → ∃ acc, H4 D = some (.lst acc) ∧ acc.length < sizeLine ∧ Nx (upd H4 D (.lst (acc ++ [y])))) → (∀ H3, Same H H3 → A (i + 1) = A i → Nx H3) →
      g x (wipe σ vs) H' fun σ2 H2 => wipe σ2 vs = wipe σ vs ∧ tt σ2 H2 fun b H3 => if b = true then te σ2 H3 fun y H4 => ∃ acc, H4 D = some (.lst acc) ∧ acc.length < sizeLine ∧ Nx (upd H4 D (.lst (acc ++ [y]))) else Nx H3)
    (done : ∀ H acc, Same H0 H → H D = some (.lst acc) → DpAll K H acc (A n) → Qd H) :
    ∃ W : Nat → Nat → Hp → Prop, (∃ m, W 0 m (upd H0 D (.lst []))) ∧ ∀ i m H, W i m H →
      (J.stop i H ∧ Qd H) ∨ (J.go i H ∧ ∃ Nx : Hp → Prop, (∀ H', Nx H' → ∃ m', m' < m ∧ W (i + 1) m' H') ∧ ∀ x H', J.yld i H x H' → g x (wipe σ vs) H' fun σ2 H2 => wipe σ2 vs = wipe σ vs ∧ tt σ2 H2 fun b H3 =>
        if b = true then te σ2 H3 fun y H4 => ∃ acc, H4 D = some (.lst acc) ∧ acc.length < sizeLine ∧ Nx (upd H4 D (.lst (acc ++ [y]))) else Nx H3) := by
  have hno : ∀ i, i ≤ n → noLsts (A i) = true ∧ (A i).length ≤ i := by
    intro i
    induction i with
    | zero => intro _; rw [hA0]; exact ⟨rfl, Nat.le_refl _⟩
    | succ i ih =>
      intro hi
      obtain ⟨h1, h2⟩ := ih (by omega)
      rcases hA i (by omega) with e | ⟨d, hd, e⟩
      · rw [e]; exact ⟨h1, by omega⟩
      · rw [e]; exact ⟨noLsts_app h1 (by simp [noLsts, hd]), by simp; omega⟩
  have hne : ∀ {H : Hp} {u : List V}, Same H0 H → Same H0 (upd H D (.lst u)) := fun {H u} e b o h => by
    rw [upd_ne (ne_of_none h hD)]
    exact e b o h
  refine lc_it w (fun i H => Same H0 H ∧ ∃ acc, H D = some (.lst acc) ∧ DpAll K H acc (A i)) ⟨hne (Same.refl _), [], upd_same, ?_⟩ (fun i H _ z => hG H z.1) (fun i x H H' hi z y => ?_) (fun H z => ?_)
  · rw [hA0]; exact .nil
  · obtain ⟨e, acc, h1, h2⟩ := z
    refine turn i H x H' _ hi e y (fun y H4 d e4 h4 ea => ⟨acc, e4 _ _ h1, ?_, hne (e.trans e4), acc ++ [y], upd_same, ?_⟩) (fun H3 e3 ea => ⟨e.trans e3, acc, e3 _ _ h1, ?_⟩)
    · rw [DpAll.length h2]
      have := (hno i (by omega)).2
      omega
    · rw [ea]
      have hq := (hno (i + 1) (by omega)).1
      rw [ea] at hq
      exact DpAll.updL (e4 _ _ h1) hq (DpAll.app (DpAll.same e4 h2) (.cons h4 .nil))
    · rw [ea]; exact DpAll.same e3 h2
  · obtain ⟨e, acc, h1, h2⟩ := z
    exact done H acc e h1 h2
/-- one item for each turn -/
theorem lc_map (w : Walk J n G Y) {g : TG} {tt : TT} {te : TE} {vs : List Nat} {σ : L2.St} {H0 : Hp} {D : Addr} {Qd : Hp → Prop} (ds : List PyData) (hl : ds.length = n) (hnl : noLsts ds = true) (hn : n < sizeLine) (hD : H0 D = none)
    (hG : ∀ H, Same H0 H → G H)
    (turn : ∀ i H x H' (Nx : Hp → Prop), i < n → Same H0 H → Y i H x H' → (∀ y H4 d, ds[i]? = some d → Same H H4 → Dp K H4 y d → ∃ acc, H4 D = some (.lst acc) ∧ acc.length < sizeLine ∧ Nx (upd H4 D (.lst (acc ++ [y])))) →
      g x (wipe σ vs) H' fun σ2 H2 => wipe σ2 vs = wipe σ vs ∧ tt σ2 H2 fun b H3 => if b = true then te σ2 H3 fun y H4 => ∃ acc, H4 D = some (.lst acc) ∧ acc.length < sizeLine ∧ Nx (upd H4 D (.lst (acc ++ [y]))) else Nx H3)
    (done : ∀ H acc, Same H0 H → H D = some (.lst acc) → DpAll K H acc ds → Qd H) :
    ∃ W : Nat → Nat → Hp → Prop, (∃ m, W 0 m (upd H0 D (.lst []))) ∧ ∀ i m H, W i m H →
      (J.stop i H ∧ Qd H) ∨ (J.go i H ∧ ∃ Nx : Hp → Prop, (∀ H', Nx H' → ∃ m', m' < m ∧ W (i + 1) m' H') ∧ ∀ x H', J.yld i H x H' → g x (wipe σ vs) H' fun σ2 H2 => wipe σ2 vs = wipe σ vs ∧ tt σ2 H2 fun b H3 =>
        if b = true then te σ2 H3 fun y H4 => ∃ acc, H4 D = some (.lst acc) ∧ acc.length < sizeLine ∧ Nx (upd H4 D (.lst (acc ++ [y]))) else Nx H3) := by
  have hnl2 : ∀ {l : List PyData} {i : Nat} {d : PyData}, noLsts l = true → l[i]? = some d → noLst d = true := by
    intro l
    induction l with
    | nil => intro i d _ e; simp at e
    | cons x r ih =>
      intro i d h e
      simp [noLsts] at h
      cases i with
      | zero => simp at e; subst e; exact h.1
      | succ i => exact ih h.2 (by simpa using e)
  refine lc_dat w (fun i => ds.take i) rfl (fun i hi => .inr ?_) hn hD hG (fun i H x H' Nx hi e y k1 k0 => turn i H x H' Nx hi e y fun v H4 d hd e4 h4 => k1 v H4 d e4 h4 ?_) (fun H acc e h3 h4 => done H acc e h3 ?_)
  · have hi2 : i < ds.length := by omega
    exact ⟨ds[i], hnl2 hnl (List.getElem?_eq_getElem hi2), by rw [List.take_succ_eq_append_getElem hi2]⟩
  · have hi2 : i < ds.length := by omega
    rw [List.getElem?_eq_getElem hi2] at hd
    cases hd
    simp
  · rw [← hl, List.take_length] at h4
    exact h4
end

/-! ### promises -/
/-- hands back the datum that f tells of its arguments -/
def Pur (K : PySem.W.Frag) (f : List PyData → PyData → Prop) : Sp := fun vs H Q _ => ∃ ds d, DpAll K H vs ds ∧ f ds d ∧ ∀ v H', Same H H' → Dp K H' v d → Q v H'
theorem pur_len {K : PySem.W.Frag} {f : List PyData → PyData → Prop} {n : Nat} (hf : ∀ ds d, f ds d → ds.length = n) : ∀ vs H Q E, Pur K f vs H Q E → vs.length = n := by
  rintro vs H Q E ⟨ds, d, h, hh, _⟩
  rw [DpAll.length h]
  exact hf _ _ hh
end K12

/-! The defs of kinds. -/
namespace K12
open PySem PySem.Spec PyProof.Rows L2

/-! ### isinstance -/
section
variable {K : PySem.W.Frag} {H : Hp} {Q : VK}
theorem ty_int {i : Int} : TyX K H (.int i) (.type "int") := .base (.int i)
theorem ty_non : TyX K H .non (.type "NoneType") := .base .non
theorem ty_str {x : Str} : TyX K H (.str x) (.type "str") := .base (.str x)
theorem ty_tup {a : Addr} {xs : List V} (h : SqT K H a xs) : TyX K H (.ref a) (.type "tuple") := by
  rcases h with (h | ⟨o, h⟩) | ⟨o, its, n, h, c, _⟩
  · exact .base (.tup h)
  · exact .fTuple h
  · exact .kTuple h c
theorem rI_int {i : Int} (q : Q (.bl true) H) : rIsi K [.int i, .ty "int"] H Q := ⟨V.int i, .ty "int", .type "int", .type "int", true, rfl, .ty _, ty_int, kit_ty (by decide +kernel), q⟩
theorem rI_intb {i : Int} (q : Q (.bl false) H) : rIsi K [.int i, .ty "bool"] H Q := ⟨V.int i, .ty "bool", .type "int", .type "bool", false, rfl, .ty _, ty_int, kit_ty (by decide +kernel), q⟩
theorem rI_non (q : Q (.bl false) H) : rIsi K [.non, .ty "int"] H Q := ⟨V.non, .ty "int", .type "NoneType", .type "int", false, rfl, .ty _, ty_non, kit_ty (by decide +kernel), q⟩
theorem rI_str {x : Str} (q : Q (.bl true) H) : rIsi K [.str x, .ty "str"] H Q := ⟨V.str x, .ty "str", .type "str", .type "str", true, rfl, .ty _, ty_str, kit_ty (by decide +kernel), q⟩
theorem rI_tup {a : Addr} {xs : List V} (h : SqT K H a xs) (q : Q (.bl true) H) : rIsi K [.ref a, .ty "tuple"] H Q := ⟨V.ref a, .ty "tuple", .type "tuple", .type "tuple", true, rfl, .ty _, ty_tup h, kit_ty (by decide +kernel), q⟩
end
section
variable {X : Cx} {te : TE} {e : Expr}
theorem pInt (hm : X.mg "int" = none) (hg : Gl X "int" := by rfl) {pos : Pos} : PE X (.Name "int" pos) (tC (.ty "int")) := pe_bltn hg hm (by decide +kernel) rfl
theorem pBool (hm : X.mg "bool" = none) (hg : Gl X "bool" := by rfl) {pos : Pos} : PE X (.Name "bool" pos) (tC (.ty "bool")) := pe_bltn hg hm (by decide +kernel) rfl
theorem pStrT (hm : X.mg "str" = none) (hg : Gl X "str" := by rfl) {pos : Pos} : PE X (.Name "str" pos) (tC (.ty "str")) := pe_bltn hg hm (by decide +kernel) rfl
theorem pTupT (hm : X.mg "tuple" = none) (hg : Gl X "tuple" := by rfl) {pos : Pos} : PE X (.Name "tuple" pos) (tC (.ty "tuple")) := pe_bltn hg hm (by decide +kernel) rfl
theorem boot_isi : bootBuiltins "isinstance" = some (.builtin "isinstance") := by decide +kernel
theorem boot_all : bootBuiltins "all" = some (.builtin "all") := by decide +kernel
/-- isinstance(e, T) -/
def tIsi (K : PySem.W.Frag) (te : TE) (n : String) : TE := fun σ H Q => te σ H fun x H1 => rIsi K [x, .ty n] H1 Q
theorem pIsi {pos p : Pos} {c : Expr} {n : String} (ha : PA X [e, c] (tCons te (tCons (tC (.ty n)) tNil))) (hm : X.mg "isinstance" = none) (hg : Gl X "isinstance" := by rfl) (hst : starEach [e, c] X.env = (false, eval e X.env) :: starEach [c] X.env := by rfl)
    (hpl : (backTo pos (starEach [c] X.env)).any (·.1) = false := by rfl) : PE X (.Call (.Name "isinstance" p) [e, c] [] pos) (tIsi X.K te n) :=
  ⟨fun pins s σ H Q I h => (pe_callB call_isi hg hm boot_isi ha (by decide) (by decide) hst hpl).run pins s σ H Q I h⟩
/-- the text written c -/
theorem pS {c z : Str} (h : c = z) {j : Nat} {pos : Pos} : PE X (.Constant (.str c) j pos) (tC (.str z)) := by
  subst h
  exact pe_str
end
def rL (f : List PyData → PyData → Prop) (n : Nat) : Prop := ∀ ds d, f ds d → ds.length = n

/-! ### promises over one value -/
def fInteger : List PyData → PyData → Prop := fun ds d => (∃ i, ds = [.int i] ∧ d = .bool true) ∨ (ds = [.none] ∧ d = .bool false)
def fNumber : List PyData → PyData → Prop := fun ds d => (∃ i, ds = [.int i] ∧ d = .bool (decide (0 ≤ i))) ∨ (ds = [.none] ∧ d = .bool false)
def fAmount : List PyData → PyData → Prop := fun ds d => (∃ i, ds = [.int i] ∧ d = .bool (decide (0 < i))) ∨ (ds = [.none] ∧ d = .bool false)
def fName : List PyData → PyData → Prop := fun ds d => ∃ z : Str, ds = [.str z] ∧ z.length ≤ sizeLine ∧ d = .bool (isName z)
def fPName : List PyData → PyData → Prop := fun ds d => ∃ z : Str, ds = [.str z] ∧ z.length ≤ sizeLine ∧ d = .bool (isPName z)
def fTwo : List PyData → PyData → Prop := fun ds d => ∃ a b : Str, ds = [.str a, .str b] ∧ isName a = true ∧ isName b = true ∧ a ≠ b ∧ d = .bool true
def fPlace : List PyData → PyData → Prop := fun ds d => ∃ p, OkPl p ∧ ds = [dPl p] ∧ d = .bool true
def fCost : List PyData → PyData → Prop := fun ds d => ∃ p, OkWy p ∧ ds = [dWy p] ∧ d = .bool true
def fRow : List PyData → PyData → Prop := fun ds d => ∃ p, OkRw p ∧ ds = [dRw p] ∧ d = .bool true
def fPlaces : List PyData → PyData → Prop := fun ds d => ∃ l : List Pl, (∀ p ∈ l, OkPl p) ∧ l.length < sizeLine ∧ ds = [.tuple (l.map dPl)] ∧ d = .bool true
def fCosts : List PyData → PyData → Prop := fun ds d => ∃ l : List Wy, (∀ p ∈ l, OkWy p) ∧ l.length < sizeLine ∧ ds = [.tuple (l.map dWy)] ∧ d = .bool true
def fRows : List PyData → PyData → Prop := fun ds d => ∃ l : List Rw, (∀ p ∈ l, OkRw p) ∧ l.length < sizeLine ∧ ds = [.tuple (l.map dRw)] ∧ d = .bool true
theorem one_len {α β : Prop} {ds : List PyData} {a b : PyData} (h : (ds = [a] ∧ α) ∨ (ds = [b] ∧ β)) : ds.length = 1 := by
  rcases h with ⟨rfl, _⟩ | ⟨rfl, _⟩ <;> rfl
section
variable {P : Program} {w : World} {K : PySem.W.Frag} {mg : Str → Option Value} {base : Heap}
theorem sc_is_integer : FnScope ["thing"] ["thing"] (defScope s_is_integer) := ⟨rfl, rfl, rfl, by decide +kernel, rfl, by decide +kernel, by decide +kernel⟩
theorem ok_is_integer (T : TX K mg) : Cal P w K mg base 1 "is_integer" ["thing"] (Pur K fInteger) := by
  refine T.def_ i_is_integer (d := d_is_integer) rfl rfl sc_is_integer (fun _ _ _ _ _ _ us hl => match us, hl with | [_], _ => rfl) (pur_len fun ds d h => ?_) (fun f cdv A outer s H vs Q E hr h => ?_)
  · rcases h with ⟨i, rfl, _⟩ | ⟨rfl, _⟩ <;> rfl
  obtain ⟨ds, d, hds, hf, q⟩ := h
  refine ⟨_, pss_one (ps_ret (pe_and (pIsi (pa_cons (pv 0) (pa_cons (pInt T.free) pa_nil)) T.free) (pe_one (pe_not (pIsi (pa_cons (pv 0) (pa_cons (pBool T.free) pa_nil)) T.free))))), ?_⟩
  rcases hf with ⟨i, rfl, rfl⟩ | ⟨rfl, rfl⟩
  · obtain ⟨v, rfl, hv⟩ := hds.one
    cases hv.intI
    exact ⟨_, rfl, rI_int ⟨_, rfl, iteT ⟨_, rfl, rI_intb ⟨_, rfl, q _ _ (Same.refl _) (.bl _)⟩⟩⟩⟩
  · obtain ⟨v, rfl, hv⟩ := hds.one
    cases hv.noI
    exact ⟨_, rfl, rI_non ⟨_, rfl, iteF (q _ _ (Same.refl _) (.bl _))⟩⟩
theorem sc_is_number : FnScope ["thing"] ["thing"] (defScope s_is_number) := ⟨rfl, rfl, rfl, by decide +kernel, rfl, by decide +kernel, by decide +kernel⟩
theorem ok_is_number (T : TX K mg) : Cal P w K mg base 2 "is_number" ["thing"] (Pur K fNumber) := by
  refine T.def_ i_is_number (d := d_is_number) rfl rfl sc_is_number (fun _ _ _ _ _ _ us hl => match us, hl with | [_], _ => rfl) (pur_len fun ds d h => ?_) (fun f cdv A outer s H vs Q E hr h => ?_)
  · rcases h with ⟨i, rfl, _⟩ | ⟨rfl, _⟩ <;> rfl
  obtain ⟨ds, d, hds, hf, q⟩ := h
  refine ⟨_, pss_one (ps_ret (pe_and (pc (ok_is_integer T) hr passL (pa_cons (pv 0) pa_nil)) (pe_one (pe_cmpR op_ge (pv 0) pe_int (nomark _))))), ?_⟩
  rcases hf with ⟨i, rfl, rfl⟩ | ⟨rfl, rfl⟩
  · obtain ⟨v, rfl, hv⟩ := hds.one
    cases hv.intI
    refine ⟨_, rfl, [.int i], _, .cons (.int i) .nil, .inl ⟨i, rfl, rfl⟩, fun u H1 e hu => ?_⟩
    cases hu.blI
    exact ⟨_, rfl, iteT ⟨_, rfl, _, _, rfl, rfl, q _ _ e (.bl _)⟩⟩
  · obtain ⟨v, rfl, hv⟩ := hds.one
    cases hv.noI
    refine ⟨_, rfl, [.none], _, .cons .non .nil, .inr ⟨rfl, rfl⟩, fun u H1 e hu => ?_⟩
    cases hu.blI
    exact ⟨_, rfl, iteF (q _ _ e (.bl _))⟩
theorem sc_is_amount : FnScope ["thing"] ["thing"] (defScope s_is_amount) := ⟨rfl, rfl, rfl, by decide +kernel, rfl, by decide +kernel, by decide +kernel⟩
theorem ok_is_amount (T : TX K mg) : Cal P w K mg base 3 "is_amount" ["thing"] (Pur K fAmount) := by
  refine T.def_ i_is_amount (d := d_is_amount) rfl rfl sc_is_amount (fun _ _ _ _ _ _ us hl => match us, hl with | [_], _ => rfl) (pur_len fun ds d h => ?_) (fun f cdv A outer s H vs Q E hr h => ?_)
  · rcases h with ⟨i, rfl, _⟩ | ⟨rfl, _⟩ <;> rfl
  obtain ⟨ds, d, hds, hf, q⟩ := h
  refine ⟨_, pss_one (ps_ret (pe_and (pc (ok_is_number T) hr passL (pa_cons (pv 0) pa_nil)) (pe_one (pe_cmpR op_gt (pv 0) pe_int (nomark _))))), ?_⟩
  rcases hf with ⟨i, rfl, rfl⟩ | ⟨rfl, rfl⟩
  · obtain ⟨v, rfl, hv⟩ := hds.one
    cases hv.intI
    refine ⟨_, rfl, [.int i], _, .cons (.int i) .nil, .inl ⟨i, rfl, rfl⟩, fun u H1 e hu => ?_⟩
    cases hu.blI
    refine ⟨_, rfl, ite2 (fun hp => ⟨_, rfl, _, _, rfl, rfl, q _ _ e (.bl _)⟩) fun hp => q _ _ e ?_⟩
    have : decide (0 < i) = false := decide_eq_false (by simp at hp; omega)
    rw [this]
    exact .bl _
  · obtain ⟨v, rfl, hv⟩ := hds.one
    cases hv.noI
    refine ⟨_, rfl, [.none], _, .cons .non .nil, .inr ⟨rfl, rfl⟩, fun u H1 e hu => ?_⟩
    cases hu.blI
    exact ⟨_, rfl, iteF (q _ _ e (.bl _))⟩
end
end K12

/-! The defs of kinds, further. -/
namespace K12
open PySem PySem.Spec PyProof.Rows L2
theorem name_line {z : Str} (h : isName z = true) : z.length ≤ sizeLine := by
  unfold isName at h
  simp at h
  unfold sizeLine
  omega
theorem iteP {c A B : Prop} [Decidable c] (hc : c) (h : A) : if c then A else B := by
  rw [if_pos hc]
  exact h
theorem iteN {c A B : Prop} [Decidable c] (hc : ¬ c) (h : B) : if c then A else B := by
  rw [if_neg hc]
  exact h
theorem Free1 {α : Type} [DecidableEq α] {a b : α} (h : a = b) : decide (a = b) = true := decide_eq_true h
theorem cps_len (z : Str) : z.cps.size = z.length := rfl
theorem map_bool_all {bs : List Bool} : bs.map PyData.bool = bs.map PyData.bool := rfl
theorem DpAll.bls {K : PySem.W.Frag} {H : Hp} : ∀ {l : List Bool} {vs : List V}, DpAll K H vs (l.map PyData.bool) → vs = l.map V.bl
  | [], _, .nil => rfl
  | x :: r, _, .cons (.bl _) hs => by rw [DpAll.bls hs]; rfl
theorem rAll_of {K : PySem.W.Frag} {H : Hp} {D : Addr} {acc : List V} {bs : List Bool} {Q : VK} (h3 : H D = some (.lst acc)) (h4 : DpAll K H acc (bs.map .bool)) (q : Q (.bl (bs.all id)) H) : rAll K [.ref D] H Q := by
  rw [DpAll.bls h4] at h3
  exact ⟨D, bs, rfl, .inl (.inl h3), q⟩
section
variable {X : Cx}
theorem gI {x : Str} {i : Int} {t : Tok} {pos : Pos} (h : X.mg x = some (.int i t)) (hg : Gl X x := by rfl) (hd : (x == ("__debug__" : Str)) = false := by decide) : PE X (.Name x pos) (tC (.int i)) := pe_glob (v := .int i) hg h ⟨t, rfl⟩ hd
theorem gS {x z : Str} {t : Tok} {pos : Pos} (h : X.mg x = some (.str z t)) (hg : Gl X x := by rfl) (hd : (x == ("__debug__" : Str)) = false := by decide) : PE X (.Name x pos) (tC (.str z)) := pe_glob (v := .str z) hg h ⟨t, rfl⟩ hd
end
section
variable {P : Program} {w : World} {K : PySem.W.Frag} {mg : Str → Option Value} {base : Heap}
theorem sc_is_name : FnScope ["thing", "sign"] ["thing"] (defScope s_is_name) := ⟨rfl, rfl, rfl, by decide +kernel, rfl, by decide +kernel, by decide +kernel⟩
theorem ok_is_name (T : TX K mg) : Cal P w K mg base 1 "is_name" ["thing"] (Pur K fName) := by
  refine T.def_ i_is_name (d := d_is_name) rfl rfl sc_is_name (fun _ _ _ _ _ _ us hl => match us, hl with | [_], _ => rfl) (pur_len fun ds d h => by obtain ⟨z, rfl, _⟩ := h; rfl) (fun f cdv A outer s H vs Q E hr h => ?_)
  obtain ⟨ds, d, hds, ⟨z, rfl, hz, rfl⟩, q⟩ := h
  obtain ⟨v, rfl, hv⟩ := hds.one
  cases hv.strI
  obtain ⟨t1, hL⟩ := T.intK 2
  obtain ⟨t2, hS⟩ := T.strK 1
  have nd := sc_is_name.nd
  refine ⟨_, pss_cons (ps_if (PW.pt (pw_or (pt_not (pt_val (pIsi (pa_cons (pv 0) (pa_cons (pStrT T.free) pa_nil)) T.free))) (pw_or1 (pt_not (pt_chain op_le op_le pe_int (pe_callB call_len_str rfl T.free boot_len (pa_cons (pv 0) pa_nil)) (gI hL)))))) (pss_one (ps_ret pe_bl)) pss_nil)
    (pss_one (ps_ret (pe_callB (cr_all rfl) rfl T.free boot_all (pa_cons (pe_lc (own := [("sign", 1)]) (g := gName 1) (tt := tYes) rfl nd (pi_str (pv 0)) (blkOk_by (N := ["thing", "sign"]) (sc := defScope s_is_name) (by decide +kernel)) (fun _ _ _ _ _ => pg_name (i := 1) nd rfl (Or.inl rfl)) (fun _ _ _ _ _ => pts_nil) (fun _ _ _ _ _ => pe_cmpR op_in_sign (pv 1) (gS hS) rfl)) pa_nil)))), ?_⟩
  have hF : ¬ (1 ≤ z.length ∧ z.length ≤ 8) → isName z = false := fun h => by
    unfold isName
    rw [decide_eq_false h]
    rfl
  refine ⟨_, rfl, rI_str ⟨_, rfl, iteF ⟨_, rfl, z, rfl, hz, _, _, rfl, rfl, _, rfl, ite2 (fun h1 => ⟨_, _, rfl, rfl, _, rfl, ite2 (fun h2 => ?_) fun h2 => ?_⟩) fun h1 => ⟨_, rfl, iteT (q _ _ (Same.refl _) ?_)⟩⟩⟩⟩
  · refine q _ _ (Same.refl _) ?_
    rw [hF (by simp at h2; omega)]
    exact .bl _
  · refine ⟨_, rfl, z, rfl, fun D hD => lc_dat (K := K) walk_str (fun i => ((z.cps.toList.take i).map fun c => decide (c ∈ letL)).map PyData.bool) (by simp) (fun i hi => .inr ?_) (by simp at h2; have := cps_len z; unfold sizeLine; omega) hD (fun _ _ => trivial) (fun i H1 x H2 Nx hi e y k1 k0 => ?_) (fun H1 acc e h3 h4 => ?_)⟩
    · have hz2 : i < z.cps.toList.length := by simpa using hi
      refine ⟨.bool (decide (z.cps.toList[i] ∈ letL)), rfl, ?_⟩
      rw [List.take_succ_eq_append_getElem hz2]
      simp
    · obtain ⟨rfl, c, hc, rfl⟩ := y
      refine ⟨rfl, _, rfl, c, _, rfl, rfl, k1 _ _ (.bool (decide (c ∈ letL))) (Same.refl _) ?_ ?_⟩
      · rw [let_is]
        exact .bl _
      · have hz2 : i < z.cps.toList.length := by simpa using hi
        have hc2 : z.cps.toList[i] = c := by
          have : z.cps.toList[i]? = some c := by simpa using hc
          rw [List.getElem?_eq_getElem hz2] at this
          exact Option.some.inj this
        rw [List.take_succ_eq_append_getElem hz2, hc2]
        simp
    · have hn : (z.cps.toList.take z.cps.size) = z.cps.toList := List.take_of_length_le (by simp)
      rw [hn] at h4
      refine rAll_of h3 h4 (q _ _ e ?_)
      have : isName z = (z.cps.toList.map fun c => decide (c ∈ letL)).all id := by
        unfold isName
        rw [decide_eq_true (by simp at h1 h2; omega)]
        simp [List.all_map]
      rw [this]
      exact .bl _
  · rw [hF (by simp at h1; omega)]
    exact .bl _
theorem sc_is_place_name : FnScope ["thing"] ["thing"] (defScope s_is_place_name) := ⟨rfl, rfl, rfl, by decide +kernel, rfl, by decide +kernel, by decide +kernel⟩
theorem ok_is_place_name (T : TX K mg) : Cal P w K mg base 2 "is_place_name" ["thing"] (Pur K fPName) := by
  refine T.def_ i_is_place_name (d := d_is_place_name) rfl rfl sc_is_place_name (fun _ _ _ _ _ _ us hl => match us, hl with | [_], _ => rfl) (pur_len fun ds d h => by obtain ⟨z, rfl, _⟩ := h; rfl) (fun f cdv A outer s H vs Q E hr h => ?_)
  obtain ⟨ds, d, hds, ⟨z, rfl, hz, rfl⟩, q⟩ := h
  obtain ⟨v, rfl, hv⟩ := hds.one
  cases hv.strI
  obtain ⟨t1, hO⟩ := T.strK 3
  refine ⟨_, pss_one (ps_ret (pe_and (pc (ok_is_name T) hr passL (pa_cons (pv 0) pa_nil)) (pe_one (pe_cmpR op_ne (pv 0) (gS hO) (nomark _))))), ?_⟩
  refine ⟨_, rfl, [.str z], _, .cons (.str z) .nil, ⟨z, rfl, hz, rfl⟩, fun u H1 e hu => ?_⟩
  cases hu.blI
  refine ⟨_, rfl, ite2 (fun hn => ⟨_, rfl, rfl, q _ _ e ?_⟩) fun hn => q _ _ e ?_⟩
  · have : isPName z = !decide (V.str z = V.str "out") := by
      unfold isPName
      rw [hn, sOut_is]
      simp
    rw [this]
    exact .bl _
  · have : isPName z = false := by
      unfold isPName
      simp at hn
      rw [hn]
      rfl
    rw [this]
    exact .bl _
theorem sc_are_two_names : FnScope ["one", "other"] ["one", "other"] (defScope s_are_two_names) := ⟨rfl, rfl, rfl, by decide +kernel, rfl, by decide +kernel, by decide +kernel⟩
theorem ok_are_two_names (T : TX K mg) : Cal P w K mg base 2 "are_two_names" ["one", "other"] (Pur K fTwo) := by
  refine T.def_ i_are_two_names (d := d_are_two_names) rfl rfl sc_are_two_names (fun _ _ _ _ _ _ us hl => match us, hl with | [_, _], _ => rfl) (pur_len fun ds d h => by obtain ⟨a, b, rfl, _⟩ := h; rfl) (fun f cdv A outer s H vs Q E hr h => ?_)
  obtain ⟨ds, d, hds, ⟨a, b, rfl, ha, hb, hne, rfl⟩, q⟩ := h
  obtain ⟨v, w', rfl, hv, hw⟩ := hds.two
  cases hv.strI
  cases hw.strI
  refine ⟨_, pss_one (ps_ret (pe_and (pc (ok_is_name T) hr passL (pa_cons (pv 0) pa_nil)) (pe_and (pc (ok_is_name T) hr passL (pa_cons (pv 1) pa_nil)) (pe_one (pe_cmpR op_ne (pv 0) (pv 1) (nomark _)))))), ?_⟩
  refine ⟨_, rfl, [.str a], _, .cons (.str a) .nil, ⟨a, rfl, name_line ha, rfl⟩, fun u H1 e hu => ?_⟩
  cases hu.blI
  rw [ha]
  refine ⟨_, rfl, iteT ⟨_, rfl, [.str b], _, .cons (.str b) .nil, ⟨b, rfl, name_line hb, rfl⟩, fun u H2 e2 hu => ?_⟩⟩
  cases hu.blI
  rw [hb]
  refine ⟨_, rfl, iteT ⟨_, rfl, _, rfl, rfl, q _ _ (e.trans e2) ?_⟩⟩
  have : (!decide (V.str a = V.str b)) = true := by simp [hne]
  rw [this]
  exact .bl _
theorem sc_is_place : FnScope ["thing"] ["thing"] (defScope s_is_place) := ⟨rfl, rfl, rfl, by decide +kernel, rfl, by decide +kernel, by decide +kernel⟩
theorem ok_is_place (T : TX K mg) : Cal P w K mg base 3 "is_place" ["thing"] (Pur K fPlace) := by
  refine T.def_ i_is_place (d := d_is_place) rfl rfl sc_is_place (fun _ _ _ _ _ _ us hl => match us, hl with | [_], _ => rfl) (pur_len fun ds d h => by obtain ⟨p, _, rfl, _⟩ := h; rfl) (fun f cdv A outer s H vs Q E hr h => ?_)
  obtain ⟨ds, d, hds, ⟨p, hp, rfl, rfl⟩, q⟩ := h
  obtain ⟨v, rfl, hv⟩ := hds.one
  obtain ⟨a, rfl, ht⟩ := hv.plI
  refine ⟨_, pss_cons (ps_if (PW.pt (pw_or (pt_not (pt_val (pIsi (pa_cons (pv 0) (pa_cons (pTupT T.free) pa_nil)) T.free))) (pw_or (pt_cmpR op_ne (pe_callB call_len_seq rfl T.free boot_len (pa_cons (pv 0) pa_nil)) pe_int (nomark _)) (pw_or1 (pt_not (pt_val (pc (ok_is_place_name T) hr passL (pa_cons (pe_ix ix_tup (pv 0) pe_int (fun _ _ => rfl)) pa_nil)))))))) (pss_one (ps_ret pe_bl)) pss_nil)
    (pss_one (ps_ret (pe_and (pc (ok_is_number T) hr passL (pa_cons (pe_ix ix_tup (pv 0) pe_int (fun _ _ => rfl)) pa_nil)) (pe_and (pc (ok_is_number T) hr passL (pa_cons (pe_ix ix_tup (pv 0) pe_int (fun _ _ => rfl)) pa_nil)) (pe_one (pe_cmpR op_le (pe_ix ix_tup (pv 0) pe_int (fun _ _ => rfl)) (pe_ix ix_tup (pv 0) pe_int (fun _ _ => rfl)) (nomark _))))))), ?_⟩
  refine ⟨_, rfl, rI_tup ht ⟨_, rfl, iteF ⟨_, rfl, a, _, rfl, .inr ht, rfl, _, rfl, iteF ?_⟩⟩⟩
  refine ⟨_, rfl, a, _, _, _, rfl, rfl, ht, atI_nat (j := 0) rfl, [.str p.1], _, .cons (.str _) .nil, ⟨_, rfl, name_line (isName_of hp.1), rfl⟩, fun u H1 e hu => ?_⟩
  cases hu.blI
  rw [hp.1]
  refine ⟨_, rfl, iteF ⟨_, rfl, a, _, _, _, rfl, rfl, Same.tup e ht, atI_nat (j := 1) rfl, [.int p.2.1], _, .cons (.int _) .nil, .inl ⟨_, rfl, rfl⟩, fun u H2 e2 hu => ?_⟩⟩
  cases hu.blI
  refine ⟨_, rfl, iteP (by simp) ⟨_, rfl, a, _, _, _, rfl, rfl, Same.tup (e.trans e2) ht, atI_nat (j := 2) rfl, [.int p.2.2], _, .cons (.int _) .nil, .inl ⟨_, rfl, rfl⟩, fun u H3 e3 hu => ?_⟩⟩
  cases hu.blI
  have e' := (e.trans e2).trans e3
  refine ⟨_, rfl, iteP (by simp) ⟨_, rfl, a, _, _, _, rfl, rfl, Same.tup e' ht, atI_nat (j := 1) rfl, _, rfl, a, _, _, _, rfl, rfl, Same.tup e' ht, atI_nat (j := 2) rfl, _, _, rfl, rfl, q _ _ e' ?_⟩⟩
  have : decide ((p.2.1 : Int) ≤ (p.2.2 : Int)) = true := decide_eq_true (by have := hp.2.1; omega)
  exact dpB this
theorem sc_is_cost : FnScope ["thing"] ["thing"] (defScope s_is_cost) := ⟨rfl, rfl, rfl, by decide +kernel, rfl, by decide +kernel, by decide +kernel⟩
theorem ok_is_cost (T : TX K mg) : Cal P w K mg base 4 "is_cost" ["thing"] (Pur K fCost) := by
  refine T.def_ i_is_cost (d := d_is_cost) rfl rfl sc_is_cost (fun _ _ _ _ _ _ us hl => match us, hl with | [_], _ => rfl) (pur_len fun ds d h => by obtain ⟨p, _, rfl, _⟩ := h; rfl) (fun f cdv A outer s H vs Q E hr h => ?_)
  obtain ⟨ds, d, hds, ⟨p, hp, rfl, rfl⟩, q⟩ := h
  obtain ⟨v, rfl, hv⟩ := hds.one
  obtain ⟨a, rfl, ht⟩ := hv.wyI
  refine ⟨_, pss_one (ps_ret (pe_and (pIsi (pa_cons (pv 0) (pa_cons (pTupT T.free) pa_nil)) T.free) (pe_and (pe_cmpR op_eq (pe_callB call_len_seq rfl T.free boot_len (pa_cons (pv 0) pa_nil)) pe_int (nomark _)) (pe_and (pc (ok_are_two_names T) hr passL (pa_cons (pe_ix ix_tup (pv 0) pe_int (fun _ _ => rfl)) (pa_cons (pe_ix ix_tup (pv 0) pe_int (fun _ _ => rfl)) pa_nil))) (pe_one (pc (ok_is_amount T) hr passL (pa_cons (pe_ix ix_tup (pv 0) pe_int (fun _ _ => rfl)) pa_nil))))))), ?_⟩
  refine ⟨_, rfl, rI_tup ht ⟨_, rfl, iteT ⟨_, rfl, a, _, rfl, .inr ht, rfl, _, rfl, iteT ?_⟩⟩⟩
  refine ⟨_, rfl, a, _, _, _, rfl, rfl, ht, atI_nat (j := 0) rfl, _, rfl, a, _, _, _, rfl, rfl, ht, atI_nat (j := 1) rfl, [.str p.1, .str p.2.1], _, .cons (.str _) (.cons (.str _) .nil), ⟨_, _, rfl, hp.1, hp.2.1, hp.2.2.1, rfl⟩, fun u H1 e hu => ?_⟩
  cases hu.blI
  refine ⟨_, rfl, iteT ⟨_, rfl, a, _, _, _, rfl, rfl, Same.tup e ht, atI_nat (j := 2) rfl, [.int p.2.2], _, .cons (.int _) .nil, .inl ⟨_, rfl, rfl⟩, fun u H2 e2 hu => ?_⟩⟩
  cases hu.blI
  refine q _ _ (e.trans e2) (dpB ?_)
  have := hp.2.2.2.1
  simp
  omega
theorem sc_is_row : FnScope ["thing"] ["thing"] (defScope s_is_row) := ⟨rfl, rfl, rfl, by decide +kernel, rfl, by decide +kernel, by decide +kernel⟩
theorem ok_is_row (T : TX K mg) : Cal P w K mg base 4 "is_row" ["thing"] (Pur K fRow) := by
  refine T.def_ i_is_row (d := d_is_row) rfl rfl sc_is_row (fun _ _ _ _ _ _ us hl => match us, hl with | [_], _ => rfl) (pur_len fun ds d h => by obtain ⟨p, _, rfl, _⟩ := h; rfl) (fun f cdv A outer s H vs Q E hr h => ?_)
  obtain ⟨ds, d, hds, ⟨p, hp, rfl, rfl⟩, q⟩ := h
  obtain ⟨v, rfl, hv⟩ := hds.one
  obtain ⟨a, rfl, ht⟩ := hv.rwI
  refine ⟨_, pss_cons (ps_if (PW.pt (pw_or (pt_not (pt_val (pIsi (pa_cons (pv 0) (pa_cons (pTupT T.free) pa_nil)) T.free))) (pw_or (pt_cmpR op_eq (pe_callB call_len_seq rfl T.free boot_len (pa_cons (pv 0) pa_nil)) pe_int (nomark _)) (pw_or1 (pt_not (pt_val (pIsi (pa_cons (pe_ix ix_tup (pv 0) pe_int (fun _ _ => rfl)) (pa_cons (pStrT T.free) pa_nil)) T.free))))))) (pss_one (ps_ret pe_bl)) pss_nil)
    (pss_one (ps_match (pe_ix ix_tup (pv 0) pe_int (fun _ _ => rfl)) (pm_str (pss_one (ps_ret (pe_and (pe_cmpR op_eq (pe_callB call_len_seq rfl T.free boot_len (pa_cons (pv 0) pa_nil)) pe_int (nomark _)) (pe_and (pc (ok_are_two_names T) hr passL (pa_cons (pe_ix ix_tup (pv 0) pe_int (fun _ _ => rfl)) (pa_cons (pe_ix ix_tup (pv 0) pe_int (fun _ _ => rfl)) pa_nil))) (pe_one (pc (ok_is_amount T) hr passL (pa_cons (pe_ix ix_tup (pv 0) pe_int (fun _ _ => rfl)) pa_nil)))))))
      (pm_str (pss_one (ps_ret (pe_and (pe_cmpR op_eq (pe_callB call_len_seq rfl T.free boot_len (pa_cons (pv 0) pa_nil)) pe_int (nomark _)) (pe_and (pc (ok_is_place_name T) hr passL (pa_cons (pe_ix ix_tup (pv 0) pe_int (fun _ _ => rfl)) pa_nil)) (pe_one (pc (ok_is_number T) hr passL (pa_cons (pe_ix ix_tup (pv 0) pe_int (fun _ _ => rfl)) pa_nil)))))))
      (pm_any (pss_one (ps_ret pe_bl))))))), ?_⟩
  cases p with
  | move x y n =>
    refine ⟨_, rfl, rI_tup ht ⟨_, rfl, iteF ⟨_, rfl, a, _, rfl, .inr ht, rfl, _, rfl, iteF ⟨_, rfl, a, _, _, _, rfl, rfl, ht, atI_nat (j := 0) rfl, rI_str ⟨_, rfl, iteF ?_⟩⟩⟩⟩⟩
    refine ⟨_, rfl, a, _, _, _, rfl, rfl, ht, atI_nat (j := 0) rfl, sMove, rfl, iteP sMove_is.symm ?_⟩
    refine ⟨_, rfl, a, _, rfl, .inr ht, rfl, _, rfl, iteT ⟨_, rfl, a, _, _, _, rfl, rfl, ht, atI_nat (j := 1) rfl, _, rfl, a, _, _, _, rfl, rfl, ht, atI_nat (j := 2) rfl, [.str x, .str y], _, .cons (.str _) (.cons (.str _) .nil), ⟨_, _, rfl, hp.1, hp.2.1, hp.2.2.1, rfl⟩, fun u H1 e hu => ?_⟩⟩
    cases hu.blI
    refine ⟨_, rfl, iteT ⟨_, rfl, a, _, _, _, rfl, rfl, Same.tup e ht, atI_nat (j := 3) rfl, [.int n], _, .cons (.int _) .nil, .inl ⟨_, rfl, rfl⟩, fun u H2 e2 hu => ?_⟩⟩
    cases hu.blI
    refine q _ _ (e.trans e2) (dpB ?_)
    have := hp.2.2.2.1
    simp at this ⊢
    omega
  | count x n =>
    refine ⟨_, rfl, rI_tup ht ⟨_, rfl, iteF ⟨_, rfl, a, _, rfl, .inr ht, rfl, _, rfl, iteF ⟨_, rfl, a, _, _, _, rfl, rfl, ht, atI_nat (j := 0) rfl, rI_str ⟨_, rfl, iteF ?_⟩⟩⟩⟩⟩
    refine ⟨_, rfl, a, _, _, _, rfl, rfl, ht, atI_nat (j := 0) rfl, sCount, rfl, iteN (by rw [sMove_is]; exact key_ne.2.2.2.2.2.2.2.2.2.1) (iteP sCount_is.symm ?_)⟩
    refine ⟨_, rfl, a, _, rfl, .inr ht, rfl, _, rfl, iteT ⟨_, rfl, a, _, _, _, rfl, rfl, ht, atI_nat (j := 1) rfl, [.str x], _, .cons (.str _) .nil, ⟨_, rfl, name_line (isName_of hp.1), rfl⟩, fun u H1 e hu => ?_⟩⟩
    cases hu.blI
    rw [hp.1]
    refine ⟨_, rfl, iteT ⟨_, rfl, a, _, _, _, rfl, rfl, Same.tup e ht, atI_nat (j := 2) rfl, [.int n], _, .cons (.int _) .nil, .inl ⟨_, rfl, rfl⟩, fun u H2 e2 hu => ?_⟩⟩
    cases hu.blI
    exact q _ _ (e.trans e2) (dpB (by simp))
theorem sc_are_places : FnScope ["thing", "own"] ["thing"] (defScope s_are_places) := ⟨rfl, rfl, rfl, by decide +kernel, rfl, by decide +kernel, by decide +kernel⟩
theorem ok_are_places (T : TX K mg) : Cal P w K mg base 4 "are_places" ["thing"] (Pur K fPlaces) := by
  refine T.def_ i_are_places (d := d_are_places) rfl rfl sc_are_places (fun _ _ _ _ _ _ us hl => match us, hl with | [_], _ => rfl) (pur_len fun ds d h => by obtain ⟨p, _, _, rfl, _⟩ := h; rfl) (fun f cdv A outer s H vs Q E hr h => ?_)
  obtain ⟨ds, d, hds, ⟨l, hp, hn, rfl, rfl⟩, q⟩ := h
  obtain ⟨v, rfl, hv⟩ := hds.one
  obtain ⟨a, xs, rfl, ht, hx⟩ := hv.tupI
  have nd := sc_are_places.nd
  refine ⟨_, pss_one (ps_ret (pe_and (pIsi (pa_cons (pv 0) (pa_cons (pTupT T.free) pa_nil)) T.free) (pe_one (pe_callB (cr_all rfl) rfl T.free boot_all (pa_cons (pe_lc (own := [("own", 1)]) (g := gName 1) (tt := tYes) rfl nd (pi_tup (pv 0)) (blkOk_by (N := ["thing", "own"]) (sc := defScope s_are_places) (by decide +kernel)) (fun _ _ _ _ _ => pg_name (i := 1) nd rfl (Or.inl rfl)) (fun _ _ _ _ _ => pts_nil) (fun _ _ _ _ _ => pc (ok_is_place T) hr passL (pa_cons (pv 1) pa_nil))) pa_nil))))), ?_⟩
  have hlen : xs.length = l.length := by rw [DpAll.length hx, List.length_map]
  refine ⟨_, rfl, rI_tup ht ⟨_, rfl, iteT ⟨_, rfl, a, rfl, ⟨_, ht⟩, fun D hD => lc_map (K := K) walk_tup ((l.map fun _ => true).map .bool) (by simp [hlen]) (noLsts_map _ (fun _ => rfl) _) (by omega) hD (fun H1 e => Same.tup e ht) (fun i H1 x H2 Nx hi e y k1 => ?_) (fun H1 acc e h3 h4 => ?_)⟩⟩⟩
  · obtain ⟨rfl, hx2⟩ := y
    obtain ⟨d, hd, hdp⟩ := DpAll.getV hx hx2
    rw [List.getElem?_map] at hd
    have hil : i < l.length := by omega
    rw [List.getElem?_eq_getElem hil] at hd
    cases hd
    refine ⟨rfl, _, rfl, [dPl l[i]], _, .cons (Dp.same e hdp) .nil, ⟨_, hp _ (List.getElem_mem hil), rfl, rfl⟩, fun u H3 e3 hu => ?_⟩
    exact k1 u H3 _ (by simp [hil]) e3 hu
  · refine rAll_of h3 h4 (q _ _ e (dpB ?_))
    simp
theorem sc_are_costs : FnScope ["thing", "own"] ["thing"] (defScope s_are_costs) := ⟨rfl, rfl, rfl, by decide +kernel, rfl, by decide +kernel, by decide +kernel⟩
theorem ok_are_costs (T : TX K mg) : Cal P w K mg base 5 "are_costs" ["thing"] (Pur K fCosts) := by
  refine T.def_ i_are_costs (d := d_are_costs) rfl rfl sc_are_costs (fun _ _ _ _ _ _ us hl => match us, hl with | [_], _ => rfl) (pur_len fun ds d h => by obtain ⟨p, _, _, rfl, _⟩ := h; rfl) (fun f cdv A outer s H vs Q E hr h => ?_)
  obtain ⟨ds, d, hds, ⟨l, hp, hn, rfl, rfl⟩, q⟩ := h
  obtain ⟨v, rfl, hv⟩ := hds.one
  obtain ⟨a, xs, rfl, ht, hx⟩ := hv.tupI
  have nd := sc_are_costs.nd
  refine ⟨_, pss_one (ps_ret (pe_and (pIsi (pa_cons (pv 0) (pa_cons (pTupT T.free) pa_nil)) T.free) (pe_one (pe_callB (cr_all rfl) rfl T.free boot_all (pa_cons (pe_lc (own := [("own", 1)]) (g := gName 1) (tt := tYes) rfl nd (pi_tup (pv 0)) (blkOk_by (N := ["thing", "own"]) (sc := defScope s_are_costs) (by decide +kernel)) (fun _ _ _ _ _ => pg_name (i := 1) nd rfl (Or.inl rfl)) (fun _ _ _ _ _ => pts_nil) (fun _ _ _ _ _ => pc (ok_is_cost T) hr passL (pa_cons (pv 1) pa_nil))) pa_nil))))), ?_⟩
  have hlen : xs.length = l.length := by rw [DpAll.length hx, List.length_map]
  refine ⟨_, rfl, rI_tup ht ⟨_, rfl, iteT ⟨_, rfl, a, rfl, ⟨_, ht⟩, fun D hD => lc_map (K := K) walk_tup ((l.map fun _ => true).map .bool) (by simp [hlen]) (noLsts_map _ (fun _ => rfl) _) (by omega) hD (fun H1 e => Same.tup e ht) (fun i H1 x H2 Nx hi e y k1 => ?_) (fun H1 acc e h3 h4 => ?_)⟩⟩⟩
  · obtain ⟨rfl, hx2⟩ := y
    obtain ⟨d, hd, hdp⟩ := DpAll.getV hx hx2
    rw [List.getElem?_map] at hd
    have hil : i < l.length := by omega
    rw [List.getElem?_eq_getElem hil] at hd
    cases hd
    refine ⟨rfl, _, rfl, [dWy l[i]], _, .cons (Dp.same e hdp) .nil, ⟨_, hp _ (List.getElem_mem hil), rfl, rfl⟩, fun u H3 e3 hu => ?_⟩
    exact k1 u H3 _ (by simp [hil]) e3 hu
  · refine rAll_of h3 h4 (q _ _ e (dpB ?_))
    simp
theorem sc_are_rows : FnScope ["thing", "own"] ["thing"] (defScope s_are_rows) := ⟨rfl, rfl, rfl, by decide +kernel, rfl, by decide +kernel, by decide +kernel⟩
theorem ok_are_rows (T : TX K mg) : Cal P w K mg base 5 "are_rows" ["thing"] (Pur K fRows) := by
  refine T.def_ i_are_rows (d := d_are_rows) rfl rfl sc_are_rows (fun _ _ _ _ _ _ us hl => match us, hl with | [_], _ => rfl) (pur_len fun ds d h => by obtain ⟨p, _, _, rfl, _⟩ := h; rfl) (fun f cdv A outer s H vs Q E hr h => ?_)
  obtain ⟨ds, d, hds, ⟨l, hp, hn, rfl, rfl⟩, q⟩ := h
  obtain ⟨v, rfl, hv⟩ := hds.one
  obtain ⟨a, xs, rfl, ht, hx⟩ := hv.tupI
  have nd := sc_are_rows.nd
  refine ⟨_, pss_one (ps_ret (pe_and (pIsi (pa_cons (pv 0) (pa_cons (pTupT T.free) pa_nil)) T.free) (pe_one (pe_callB (cr_all rfl) rfl T.free boot_all (pa_cons (pe_lc (own := [("own", 1)]) (g := gName 1) (tt := tYes) rfl nd (pi_tup (pv 0)) (blkOk_by (N := ["thing", "own"]) (sc := defScope s_are_rows) (by decide +kernel)) (fun _ _ _ _ _ => pg_name (i := 1) nd rfl (Or.inl rfl)) (fun _ _ _ _ _ => pts_nil) (fun _ _ _ _ _ => pc (ok_is_row T) hr passL (pa_cons (pv 1) pa_nil))) pa_nil))))), ?_⟩
  have hlen : xs.length = l.length := by rw [DpAll.length hx, List.length_map]
  refine ⟨_, rfl, rI_tup ht ⟨_, rfl, iteT ⟨_, rfl, a, rfl, ⟨_, ht⟩, fun D hD => lc_map (K := K) walk_tup ((l.map fun _ => true).map .bool) (by simp [hlen]) (noLsts_map _ (fun _ => rfl) _) (by omega) hD (fun H1 e => Same.tup e ht) (fun i H1 x H2 Nx hi e y k1 => ?_) (fun H1 acc e h3 h4 => ?_)⟩⟩⟩
  · obtain ⟨rfl, hx2⟩ := y
    obtain ⟨d, hd, hdp⟩ := DpAll.getV hx hx2
    rw [List.getElem?_map] at hd
    have hil : i < l.length := by omega
    rw [List.getElem?_eq_getElem hil] at hd
    cases hd
    refine ⟨rfl, _, rfl, [dRw l[i]], _, .cons (Dp.same e hdp) .nil, ⟨_, hp _ (List.getElem_mem hil), rfl, rfl⟩, fun u H3 e3 hu => ?_⟩
    exact k1 u H3 _ (by simp [hil]) e3 hu
  · refine rAll_of h3 h4 (q _ _ e (dpB ?_))
    simp
end
end K12

/-! Ascending, numbers, the texts of books. -/
namespace K12
open PySem PySem.Spec PyProof.Rows L2
def ascS (l : List Str) : Bool := (l.zip l.tail).all fun p => decide (p.1.cps.toList < p.2.cps.toList)
def fAsc : List PyData → PyData → Prop := fun ds d => ∃ l : List Str, ds = [.list (l.map .str)] ∧ l.length < sizeLine ∧ d = .bool (ascS l)
def fNum : List PyData → PyData → Prop := fun ds d => ∃ z : Str, ds = [.str z] ∧ z.length ≤ sizeLine ∧ d = dSl (num? z)
/-- a word of a line -/
def wv : V → Option Str
  | .str z => some z
  | .int (.ofNat n) => if n < small then some (numS n) else none
  | _ => none
/-- the words' texts, joined -/
def spWords : Sp := fun vs H Q _ => ∃ ts : List Str, vs.map wv = ts.map some ∧ ts.length ≤ 4 ∧ (∀ t ∈ ts, t.length ≤ 60) ∧ ∀ H', Same H H' → Q (.str (lineS ts)) H'
def fRowText : List PyData → PyData → Prop := fun ds d => ∃ r, OkRw r ∧ ds = [dRw r] ∧ d = .str (lineS (wRw r))
def fBookText : List PyData → PyData → Prop := fun ds d => ∃ b, OkBk b ∧ ds = [dBk b] ∧ (bkText b).length < 4000000 ∧ d = .str (bkText b)
theorem sqB {K : PySem.W.Frag} {H : Hp} {D : Addr} {acc : List V} {bs : List Bool} (h3 : H D = some (.lst acc)) (h4 : DpAll K H acc (bs.map .bool)) : SqL K H D (bs.map V.bl) := by
  rw [DpAll.bls h4] at h3
  exact .inl (.inl h3)
theorem cut1 (xs : List V) : cutV xs (some (1 : Int)) none = xs.tail := by
  unfold cutV
  rw [show (some (1 : Int)) = some ((1 : Nat) : Int) from rfl, HT.sIx_nat, HT.sIx_none]
  cases xs with
  | nil => rfl
  | cons x r => simp
theorem zip_getD {l : List Str} {i : Nat} {x y : Str} (h1 : l[i]? = some x) (h2 : l.tail[i]? = some y) : (l.zip l.tail)[i]? = some (x, y) := by
  rw [List.getElem?_zip_eq_some]
  exact ⟨h1, h2⟩
theorem log_small {n : Nat} (h : n < small) : n.log2 < 1920 := by
  by_cases h0 : n = 0
  · subst h0; decide
  have h1 : small ≤ 2 ^ 1920 := by decide +kernel
  exact (Nat.log2_lt h0).mpr (by omega)
theorem num_int {z : Str} {n : Nat} (h : num? z = some n) : PySem.intText? z = some ((n : Nat) : Int) := by
  unfold num? at h
  split at h
  · rename_i hn
    cases h
    refine intText_digits (isNum_digits hn) ?_ ?_
    · have := (isNum_len hn).1
      intro e
      rw [len_l, e] at this
      simp at this
    · have := (isNum_len hn).2
      omega
  · cases h
theorem TX.star {P : Program} {w : World} {K : PySem.W.Frag} {mg : Str → Option Value} {base : Heap} {k : Nat} {x pv : Str} {N : List Str} {sp : Sp} (T : TX K mg) (i : Nat) {d : He.DefD} (hi : fnAll[i]? = some d) (hx : d.at_ = (x, none)) (S : FnScope N [pv] d.scope)
    (hb : ∀ (kV doc pm : Value) (an : Option Addr) (cdv ct : Value) (rest : List Value), bindArgs (PySem.W.fnOf d.name d.qual d.params d.body d.scope .none kV doc pm an cdv ct) ⟨rest, []⟩ = (newTuple rest >>= fun t => pure [(pv, t)]))
    (hbody : ∀ (f : Addr) (cdv : Value) (A : Around) (outer : List Env) (s : Shared) (H : Hp) (vs : List V) (Q : VK) (E : XK), Room k (A.deeper (envOfC d.qual d.scope s.heap.objs.size f cdv)) → sp vs H Q E →
      ∃ t, PSs (cxOf (L2.CX P w) P w K mg base N d.qual d.scope f cdv A outer s H E) d.body t ∧ t { nx := fun _ H' => Q .non H', rt := Q } (L2.start N vs) H)
    (hd : d.dfl = [] := by rfl) (hg : x ∈ gloN := by decide +kernel) (hk : x ∈ keepN := by decide +kernel) :
    CalS P w K mg base (k + 1) x (fun vs H Q E => vs.length ≤ sizeLine ∧ ∀ p, H p = none → sp [.ref p] (upd H p (.tup vs)) Q E) := by
  obtain ⟨fd, F⟩ := T.fn i d hi
  have e : He.fAd K d.at_ = He.ga K x := by
    rw [hx]
    rfl
  have e2 : d.dvs K = [] := by
    unfold He.DefD.dvs
    rw [hd]
    rfl
  rw [e, e2] at F
  obtain ⟨oc, od, dV, kV, doc, pm, an, cdv, ct, osl, rfl, lk, hcd, hdf, _⟩ := F.ex
  rcases hdf with ⟨_, rfl⟩ | ⟨z, _⟩
  · have G := StX.fn_star (P := P) (w := w) (mg := mg) (base := base) (ps := []) (k := k) (sp := sp) lk hcd S StX.cxUp (fun us rest hl => by
      have : us = [] := List.length_eq_zero_iff.mp hl
      subst this
      exact hb kV doc pm an cdv ct rest) (fun A outer s H vs Q E hr h => hbody _ cdv A outer s H vs Q E hr h)
    refine ⟨_, ?_, T.glo hg, T.keep hk⟩
    intro A outer s H us vs Q E hr e0 r h
    exact G A outer s H us vs Q E hr e0 r ⟨[], vs, rfl, rfl, h.1, h.2⟩
  · exact absurd rfl z
section
variable {P : Program} {w : World} {K : PySem.W.Frag} {mg : Str → Option Value} {base : Heap}
theorem sc_are_ascending : FnScope ["values", "one", "other"] ["values"] (defScope s_are_ascending) := ⟨rfl, rfl, rfl, by decide +kernel, rfl, by decide +kernel, by decide +kernel⟩
theorem ok_are_ascending (T : TX K mg) : Cal P w K mg base 1 "are_ascending" ["values"] (Pur K fAsc) := by
  refine T.def_ i_are_ascending (d := d_are_ascending) rfl rfl sc_are_ascending (fun _ _ _ _ _ _ us hl => match us, hl with | [_], _ => rfl) (pur_len fun ds d h => by obtain ⟨p, rfl, _⟩ := h; rfl) (fun f cdv A outer s H vs Q E hr h => ?_)
  obtain ⟨ds, d, hds, ⟨l, rfl, hn, rfl⟩, q⟩ := h
  obtain ⟨v, rfl, hv⟩ := hds.one
  obtain ⟨a, xs, rfl, ht, hx⟩ := hv.lstI
  cases DpAll.strs hx
  have nd := sc_are_ascending.nd
  refine ⟨_, pss_one (ps_ret (pe_callB (cr_all rfl) rfl T.free boot_all (pa_cons (pe_lc (own := [("one", 1), ("other", 2)]) (g := gTup K 2 (gCons (gName 1) (gCons (gName 2) gNil))) (tt := tYes) rfl nd (pi_zip rfl T.free (pa_cons (pv 0) (pa_cons (pe_slice sl_list (pv 0) (po_some pe_int) po_none) pa_nil))) (blkOk_by (N := ["values", "one", "other"]) (sc := defScope s_are_ascending) (by decide +kernel))
    (fun _ _ _ _ _ => pg_tup rfl (pgs_cons (pg_name (i := 1) nd rfl (Or.inl rfl)) (pgs_cons (pg_name (i := 2) nd rfl (Or.inl rfl)) pgs_nil))) (fun _ _ _ _ _ => pts_nil) (fun _ _ _ _ _ => pe_cmpR op_lt_str (pv 1) (pv 2) (nomark _))) pa_nil))), ?_⟩
  refine ⟨_, rfl, _, rfl, 1, rfl, a, _, rfl, ht, fun p np => ?_⟩
  rw [cut1]
  have hq : SqL K (upd H p (.lst (l.map V.str).tail)) a (l.map V.str) := Same.seq (Same.new np) ht
  have hp : SqL K (upd H p (.lst (l.map V.str).tail)) p (l.map V.str).tail := .inl (.inl upd_same)
  refine ⟨a, p, _, _, rfl, hq, hp, fun D hD => lc_map (K := K) (walk_zip rfl) (((l.zip l.tail).map fun p => decide (p.1.cps.toList < p.2.cps.toList)).map .bool) ?_ (noLsts_map _ (fun _ => rfl) _) ?_ hD (fun H1 e => ⟨e.seq hq, e.seq hp⟩) (fun i H1 x H2 Nx hi e y k1 => ?_) (fun H1 acc e h3 h4 => ?_)⟩
  · simp
  · simp
    omega
  · obtain ⟨T', x1, y1, rfl, nT, rfl, h1, h2⟩ := y
    replace h1 : (l.map V.str)[i]? = some x1 := h1
    replace h2 : (l.map V.str).tail[i]? = some y1 := h2
    rw [List.getElem?_map] at h1
    rw [← List.map_tail, List.getElem?_map] at h2
    cases e1 : l[i]? with
    | none => rw [e1] at h1; cases h1
    | some s1 =>
      cases e2 : l.tail[i]? with
      | none => rw [e2] at h2; cases h2
      | some s2 =>
        rw [e1] at h1
        rw [e2] at h2
        cases h1
        cases h2
        refine ⟨T', _, rfl, .inl (.inl upd_same), rfl, _, _, rfl, _, _, rfl, rfl, rfl, _, rfl, _, rfl, _, _, rfl, rfl, k1 _ _ (.bool (decide (s1.cps.toList < s2.cps.toList))) ?_ (Same.new nT) (.bl _)⟩
        rw [List.getElem?_map, List.getElem?_map, zip_getD e1 e2]
        rfl
  · refine rAll_of h3 h4 (q _ _ ((Same.new np).trans e) (dpB ?_))
    unfold ascS
    rw [List.all_map]
    rfl
theorem sc_number_or_none : FnScope ["word", "sign"] ["word"] (defScope s_number_or_none) := ⟨rfl, rfl, rfl, by decide +kernel, rfl, by decide +kernel, by decide +kernel⟩
theorem ok_number_or_none (T : TX K mg) : Cal P w K mg base 1 "number_or_none" ["word"] (Pur K fNum) := by
  refine T.def_ i_number_or_none (d := d_number_or_none) rfl rfl sc_number_or_none (fun _ _ _ _ _ _ us hl => match us, hl with | [_], _ => rfl) (pur_len fun ds d h => by obtain ⟨p, rfl, _⟩ := h; rfl) (fun f cdv A outer s H vs Q E hr h => ?_)
  obtain ⟨ds, d, hds, ⟨z, rfl, hz, rfl⟩, q⟩ := h
  obtain ⟨v, rfl, hv⟩ := hds.one
  cases hv.strI
  obtain ⟨t1, hM⟩ := T.intK 5
  obtain ⟨t2, hS⟩ := T.strK 4
  have nd := sc_number_or_none.nd
  refine ⟨_, pss_cons (ps_if (PW.pt (pw_or (pt_not (pt_chain op_le op_le pe_int (pe_callB call_len_str rfl T.free boot_len (pa_cons (pv 0) pa_nil)) (gI hM))) (pw_or1 (pt_not (pt_val (pe_callB (cr_all rfl) rfl T.free boot_all (pa_cons (pe_lc (own := [("sign", 1)]) (g := gName 1) (tt := tYes) rfl nd (pi_str (pv 0)) (blkOk_by (N := ["word", "sign"]) (sc := defScope s_number_or_none) (by decide +kernel)) (fun _ _ _ _ _ => pg_name (i := 1) nd rfl (Or.inl rfl)) (fun _ _ _ _ _ => pts_nil) (fun _ _ _ _ _ => pe_cmpR op_in_sign (pv 1) (gS hS) rfl)) pa_nil))))))) (pss_one (ps_ret pe_non)) pss_nil)
    (pss_one (ps_ret (pe_ifExp (PW.pt (pw_or (pt_cmpR op_eq (pv 0) pe_str (nomark _)) (pw_or1 (pt_cmpR op_ne (pe_ix ix_str (pv 0) pe_int (fun _ _ => rfl)) pe_str (nomark _))))) (pe_callTy call_int_str rfl T.free boot_int (pa_cons (pv 0) pa_nil)) pe_non))), ?_⟩
  have no : isNum z = false → (dSl (num? z)) = .none := fun h => by
    unfold num?
    rw [h]
    rfl
  have hF : ¬ (1 ≤ z.length ∧ z.length ≤ 60) → isNum z = false := fun h => by
    unfold isNum
    rw [decide_eq_false h]
    rfl
  refine ⟨_, rfl, z, rfl, hz, _, _, rfl, rfl, _, rfl, ite2 (fun h1 => ⟨_, _, rfl, rfl, _, rfl, ite2 (fun h2 => ?_) fun h2 => ?_⟩) fun h1 => ⟨_, rfl, iteT ?_⟩⟩
  · refine q _ _ (Same.refl _) ?_
    rw [no (hF (by simp at h2; omega))]
    exact .non
  · refine ⟨_, rfl, z, rfl, fun D hD => lc_map (K := K) walk_str ((z.cps.toList.map fun c => decide (c ∈ digL)).map .bool) (by simp) (noLsts_map _ (fun _ => rfl) _) (by simp at h2; have := cps_len z; unfold sizeLine; omega) hD (fun _ _ => trivial) (fun i H1 x H2 Nx hi e y k1 => ?_) (fun H1 acc e h3 h4 => ?_)⟩
    · obtain ⟨rfl, c, hc, rfl⟩ := y
      refine ⟨rfl, _, rfl, c, _, rfl, rfl, k1 _ _ (.bool (decide (c ∈ digL))) ?_ (Same.refl _) ?_⟩
      · have hc2 : z.cps.toList[i]? = some c := by simpa using hc
        rw [List.getElem?_map, List.getElem?_map, hc2]
        rfl
      · rw [dig_is]
        exact .bl _
    · refine ⟨D, _, rfl, sqB h3 h4, _, rfl, ite2 (fun h5 => ?_) fun h5 => ?_⟩
      · refine q _ _ e ?_
        rw [no ?_]
        · exact .non
        · unfold isNum
          simp at h5
          obtain ⟨c, hc1, hc2⟩ := h5
          simp
          intro _ _ h6
          exact absurd (h6 c hc1) hc2
      · have hall : z.cps.toList.all (fun c => decide (c ∈ digL)) = true := by
          simp at h5
          simpa using h5
        have hlen : 1 ≤ z.length ∧ z.length ≤ 60 := by simp at h1 h2; omega
        have hI : ∀ n, num? z = some n → dSl (num? z) = .int n := fun n h => by rw [h]; rfl
        have hy : (z = sZero ∨ z.cps.toList.head? ≠ some 48) → num? z = some (numV z) := fun h => by
          unfold num? isNum
          rw [decide_eq_true hlen, hall]
          rcases h with h | h <;> simp [h]
        refine ⟨_, rfl, rfl, _, rfl, ite2 (fun h6 => ?_) fun h6 => ?_⟩
        · have hn := hy (.inl (by simpa [sZero_is] using h6))
          refine ⟨_, rfl, z, _, rfl, num_int hn, by omega, q _ _ e ?_⟩
          rw [hI _ hn]
          exact .int _
        · cases ez : z.cps.toList with
          | nil =>
            have := hlen.1
            rw [len_l, ez] at this
            simp at this
          | cons c r =>
            refine ⟨_, rfl, z, _, c, rfl, rfl, hz, atI_nat (j := 0) (by rw [ez]; rfl), rfl, _, rfl, ite2 (fun h7 => ?_) fun h7 => ?_⟩
            · have hc : c ≠ 48 := by
                intro hc
                subst hc
                simp at h7
                exact h7 (sZero_is.symm)
              have hn := hy (.inr (by rw [ez]; simpa using hc))
              refine ⟨_, rfl, z, _, rfl, num_int hn, by omega, q _ _ e ?_⟩
              rw [hI _ hn]
              exact .int _
            · refine q _ _ e ?_
              rw [no ?_]
              · exact .non
              · have hc : c = 48 := by
                  simp at h7
                  have := congrArg (fun x : Str => x.cps.toList) (h7.trans sZero_is)
                  simpa [sZero] using this
                have hz0 : z ≠ sZero := by
                  intro e0
                  simp [sZero_is] at h6
                  exact h6 e0
                unfold isNum
                rw [ez, hc]
                simp [hz0]
  · refine q _ _ (Same.refl _) ?_
    rw [no (hF (by simp at h1; omega))]
    exact .non
theorem sc_words_text : FnScope ["words", "word"] ["words"] (defScope s_words_text) := ⟨rfl, rfl, rfl, by decide +kernel, rfl, by decide +kernel, by decide +kernel⟩
/-- the promise of words_text, its tuple made -/
def spW1 (K : PySem.W.Frag) : Sp := fun vs H Q _ => ∃ a xs, vs = [.ref a] ∧ SqT K H a xs ∧ ∃ ts : List Str, xs.map wv = ts.map some ∧ ts.length ≤ 4 ∧ (∀ t ∈ ts, t.length ≤ 60) ∧ ∀ H', Same H H' → Q (.str (lineS ts)) H'
theorem ok_words_text (T : TX K mg) : CalS P w K mg base 1 "words_text" spWords := by
  obtain ⟨f, F, h1, h2⟩ := TX.star (P := P) (w := w) (base := base) (k := 0) (sp := spW1 K) T i_words_text (d := d_words_text) rfl rfl sc_words_text (fun kV doc pm an cdv ct rest => match rest with | [] => rfl | _ :: _ => rfl) (fun f cdv A outer s H vs Q E hr h => by
    obtain ⟨a, xs, rfl, hsq, ts, hv, hn, hl, q⟩ := h
    have nd := sc_words_text.nd
    refine ⟨_, pss_one (ps_ret (pe_join pe_str (pe_lc (own := [("word", 1)]) (g := gName 1) (tt := tYes) rfl nd (pi_tup (pv 0)) (blkOk_by (N := ["words", "word"]) (sc := defScope s_words_text) (by decide +kernel)) (fun _ _ _ _ _ => pg_name (i := 1) nd rfl (Or.inl rfl)) (fun _ _ _ _ _ => pts_nil) (fun _ _ _ _ _ => pe_callTy (CallR.or call_str_int SkE.call_str_str) rfl T.free boot_str (pa_cons (pv 1) pa_nil))))), ?_⟩
    have hlen : xs.length = ts.length := by
      have := congrArg List.length hv
      simpa using this
    refine ⟨⟨_, rfl⟩, _, rfl, a, rfl, ⟨_, hsq⟩, fun D hD => lc_map (K := K) walk_tup (ts.map .str) (by simp [hlen]) (noLsts_map _ (fun _ => rfl) _) (by unfold sizeLine; omega) hD (fun H1 e => Same.tup e hsq) (fun i H1 x H2 Nx hi e y k1 => ?_) (fun H1 acc e h3 h4 => ?_)⟩
    · obtain ⟨rfl, hx⟩ := y
      have hi2 : i < ts.length := by omega
      have ex : wv x = some ts[i] := by
        have := congrArg (fun l => l[i]?) hv
        simp [hx, hi2] at this
        exact this
      have hd : (ts.map PyData.str)[i]? = some (.str ts[i]) := by simp [hi2]
      cases x with
      | str z =>
        cases ex
        exact ⟨rfl, _, rfl, .inr ⟨_, rfl, k1 _ _ _ hd (Same.refl _) (.str _)⟩⟩
      | int i2 =>
        cases i2 with
        | ofNat n =>
          replace ex : (if n < small then some (numS n) else none) = some ts[i] := ex
          split at ex
          · rename_i hs
            refine ⟨rfl, _, rfl, .inl ⟨_, rfl, log_small hs, k1 _ _ _ hd (Same.refl _) ?_⟩⟩
            have : (numS n) = ts[i] := Option.some.inj ex
            rw [← this]
            exact .str _
          · cases ex
        | negSucc n => cases ex
      | _ => cases ex
    · have h5 : acc = ts.map V.str := DpAll.strs h4
      subst h5
      refine ⟨_, D, ts, rfl, rfl, .inl (.inl (.inl h3)), ?_, ?_⟩
      · have : (ts.map (·.length)).sum ≤ ts.length * 60 := by
          clear h3 h4 hv hlen q
          induction ts with
          | nil => simp
          | cons t r ih =>
            have h1 := hl t (by simp)
            have h2 := ih (by simp at hn; omega) (fun x hx => hl x (by simp [hx]))
            simp only [List.map_cons, List.sum_cons, List.length_cons]
            omega
        have h6 : (" " : Str).length = 1 := by decide +kernel
        rw [h6]
        omega
      · rw [join_txt, sp_is]
        exact q _ e)
  refine ⟨f, ?_, h1, h2⟩
  intro A outer s H us vs Q E hr e0 r h
  obtain ⟨ts, hv, hn, hl, q⟩ := h
  have hlen : vs.length = ts.length := by
    have := congrArg List.length hv
    simpa using this
  exact F A outer s H us vs Q E hr e0 r ⟨by unfold sizeLine; omega, fun p np => ⟨p, vs, rfl, .inl (.inl upd_same), ts, hv, hn, hl, fun H' e => q H' ((Same.new np).trans e)⟩⟩
end
end K12

/-! row_text, book_text. -/
namespace K12
open PySem PySem.Spec PyProof.Rows L2
section
variable {X : Cx}
/-- the same rules, the fragment named (for a comprehension's block) -/
theorem paS (K : PySem.W.Frag) {e : Expr} {es : List Expr} {te : TE} {t : TA} {p : Pos} (he : PE X e te) (hr : PA X es t) (hK : X.K = K := by rfl) (hs : starEach (.Starred e p :: es) X.env = (true, eval e X.env) :: starEach es X.env := by rfl) : PA X (.Starred e p :: es) (StX.tStar K te t) := by
  subst hK
  exact StX.pa_star he hr hs
def tCs (sp : Sp) (E : XK) (t : TA) : TE := fun σ H Q => t σ H fun vs H1 => sp vs H1 Q E
theorem pw2 {k : Nat} {x : Str} {sp : Sp} {E : XK} {e : Expr} {es : List Expr} {t : TA} {p pos : Pos} (c : CalS X.prog X.w X.K X.mg X.base k x sp) (hr : Room k X.A) (hx : Passes (L2.CX X.prog X.w) X E) (ha : PA X (e :: es) t) (hg : Gl X x := by rfl) (hdb : (x == ("__debug__" : Str)) = false := by decide)
    (he : starEach (e :: es) X.env = (false, eval e X.env) :: starEach es X.env := by rfl) (hst : (backTo pos (starEach es X.env)).any (·.1) = true := by rfl) : PE X (.Call (.Name x p) (e :: es) [] pos) (tCs sp E t) := pcS2 c hr hx ha hg hdb he hst
theorem ixT (K : PySem.W.Frag) (hK : X.K = K := by rfl) : IxR X (rIxT K) := by
  subst hK
  exact ix_tup
theorem ixL (K : PySem.W.Frag) (hK : X.K = K := by rfl) : IxR X (rIxL K) := by
  subst hK
  exact ix_list
theorem inSq (K : PySem.W.Frag) (hK : X.K = K := by rfl) : OpR X (compareOp .In) (rIn K false) := by
  subst hK
  exact op_in_seq
end
theorem wv_num {n : Nat} (h : n < small) : wv (.int (n : Int)) = some (numS n) := if_pos h
theorem rw_words {r : Rw} (h : OkRw r) : (vRw r).map wv = (wRw r).map some ∧ (wRw r).length ≤ 4 ∧ ∀ t ∈ wRw r, t.length ≤ 60 := by
  have nl : ∀ {z : Str}, isName z = true → z.length ≤ 60 := fun {z} h => by
    unfold isName at h
    simp at h
    omega
  cases r with
  | move a b n =>
    have hs : n < small := h.2.2.2.2
    refine ⟨?_, Nat.le_refl _, fun t ht => ?_⟩
    · show [wv _, wv _, wv _, wv _] = [_, _, _, _]
      rw [wv_num hs]
      rfl
    · simp [wRw] at ht
      rcases ht with rfl | rfl | rfl | rfl
      · decide +kernel
      · exact nl h.1
      · exact nl h.2.1
      · exact numS_len hs
  | count a n =>
    have hs : n < small := h.2
    refine ⟨?_, by simp [wRw], fun t ht => ?_⟩
    · show [wv _, wv _, wv _] = [_, _, _]
      rw [wv_num hs]
      rfl
    · simp [wRw] at ht
      rcases ht with rfl | rfl | rfl
      · decide +kernel
      · exact nl (isName_of h.1)
      · exact numS_len hs
theorem pl_words {p : Pl} (h : OkPl p) : [V.str sPlace, .str p.1, .int p.2.1, .int p.2.2].map wv = (wPl p).map some ∧ (wPl p).length ≤ 4 ∧ ∀ t ∈ wPl p, t.length ≤ 60 := by
  have nl : ∀ {z : Str}, isName z = true → z.length ≤ 60 := fun {z} h => by
    unfold isName at h
    simp at h
    omega
  have h1 : p.2.1 < small := by have := h.2.1; have := h.2.2; omega
  refine ⟨?_, Nat.le_refl _, fun t ht => ?_⟩
  · show [wv _, wv _, wv _, wv _] = [_, _, _, _]
    rw [wv_num h1, wv_num h.2.2]
    rfl
  · simp [wPl] at ht
    rcases ht with rfl | rfl | rfl | rfl
    · decide +kernel
    · exact nl (isName_of h.1)
    · exact numS_len h1
    · exact numS_len h.2.2
theorem wy_words {p : Wy} (h : OkWy p) : [V.str sWay, .str p.1, .str p.2.1, .int p.2.2].map wv = (wWy p).map some ∧ (wWy p).length ≤ 4 ∧ ∀ t ∈ wWy p, t.length ≤ 60 := by
  have nl : ∀ {z : Str}, isName z = true → z.length ≤ 60 := fun {z} h => by
    unfold isName at h
    simp at h
    omega
  have h1 : p.2.2 < small := h.2.2.2.2
  refine ⟨?_, Nat.le_refl _, fun t ht => ?_⟩
  · show [wv _, wv _, wv _, wv _] = [_, _, _, _]
    rw [wv_num h1]
    rfl
  · simp [wWy] at ht
    rcases ht with rfl | rfl | rfl | rfl
    · decide +kernel
    · exact nl h.1
    · exact nl h.2.1
    · exact numS_len h1
theorem sl_words {s : Option Nat} (h : OkSl s) : (wSl s).length ≤ 4 ∧ ∀ t ∈ wSl s, t.length ≤ 60 := by
  refine ⟨by unfold wSl; simp, fun t ht => ?_⟩
  simp [wSl] at ht
  rcases ht with rfl | rfl
  · decide +kernel
  · cases s with
    | none => decide +kernel
    | some n => exact numS_len (h n rfl).2
section
variable {P : Program} {w : World} {K : PySem.W.Frag} {mg : Str → Option Value} {base : Heap}
theorem sc_row_text : FnScope ["row"] ["row"] (defScope s_row_text) := ⟨rfl, rfl, rfl, by decide +kernel, rfl, by decide +kernel, by decide +kernel⟩
theorem ok_row_text (T : TX K mg) : Cal P w K mg base 2 "row_text" ["row"] (Pur K fRowText) := by
  refine T.def_ i_row_text (d := d_row_text) rfl rfl sc_row_text (fun _ _ _ _ _ _ us hl => match us, hl with | [_], _ => rfl) (pur_len fun ds d h => by obtain ⟨p, _, rfl, _⟩ := h; rfl) (fun f cdv A outer s H vs Q E hr h => ?_)
  obtain ⟨ds, d, hds, ⟨r, hok, rfl, rfl⟩, q⟩ := h
  obtain ⟨v, rfl, hv⟩ := hds.one
  obtain ⟨a, rfl, ht⟩ := hv.rwI
  refine ⟨_, pss_one (ps_ret (pcS1 (ok_words_text T) hr passL (pv 0))), ?_⟩
  obtain ⟨h1, h2, h3⟩ := rw_words hok
  exact ⟨_, rfl, a, _, rfl, .inl ht, _, h1, h2, h3, fun H' e => q _ _ e (.str _)⟩
theorem join_len (s : Str) : ∀ {l : List Str}, l ≠ [] → (Str.join s l).length + s.length = (l.map (·.length)).sum + l.length * s.length
  | [], h => absurd rfl h
  | [x], _ => by simp [Str.join]
  | x :: y :: r, _ => by
    rw [join_cons _ _ _ (by simp)]
    have := join_len s (l := y :: r) (by simp)
    simp only [len_l, app_l, List.length_append, List.map_cons, List.sum_cons, List.length_cons] at this ⊢
    rw [Nat.add_mul, Nat.add_mul] at *
    omega
theorem sc_book_text : FnScope ["book", "places", "costs", "slip", "rows", "lines", "slip_line", "place", "cost", "row"] ["book"] (defScope s_book_text) := ⟨rfl, rfl, rfl, by decide +kernel, rfl, by decide +kernel, by decide +kernel⟩
theorem ok_book_text (T : TX K mg) : Cal P w K mg base 3 "book_text" ["book"] (Pur K fBookText) := by
  refine T.def_ i_book_text (d := d_book_text) rfl rfl sc_book_text (fun _ _ _ _ _ _ us hl => match us, hl with | [_], _ => rfl) (pur_len fun ds d h => by obtain ⟨p, _, rfl, _⟩ := h; rfl) (fun f cdv A outer s H vs Q E hr h => ?_)
  obtain ⟨ds, d, hds, ⟨b, hok, rfl, hlen, rfl⟩, q⟩ := h
  obtain ⟨v, rfl, hv⟩ := hds.one
  obtain ⟨a, pa, wa, ra, ps, ws, rs, rfl, ht, tp, dp, tw, dw, tr, dr⟩ := hv.bkI
  obtain ⟨t1, hS⟩ := T.strK 0
  have nd := sc_book_text.nd
  refine ⟨_, pss_cons (ps_asg (pv 0) (pg_tup rfl (pgs_cons (pg_name (i := 1) nd rfl (.inl rfl)) (pgs_cons (pg_name (i := 2) nd rfl (.inl rfl)) (pgs_cons (pg_name (i := 3) nd rfl (.inl rfl)) (pgs_cons (pg_name (i := 4) nd rfl (.inl rfl)) pgs_nil))))))
    (pss_cons (ps_set (i := 5) nd rfl (.inl rfl) (pe_op op_cat
      (pe_lc (own := [("place", 7)]) (g := gName 7) (tt := tYes) rfl nd (pi_tup (pv 1)) (blkOk_by (N := ["book", "places", "costs", "slip", "rows", "lines", "slip_line", "place", "cost", "row"]) (sc := defScope s_book_text) (by decide +kernel)) (fun _ _ _ _ _ => pg_name (i := 7) nd rfl (Or.inl rfl)) (fun _ _ _ _ _ => pts_nil) (fun _ _ _ _ _ => pw2 (ok_words_text T) (hr.mono (by decide)) passL (pa_cons (pS sPlace_is) (paS K (pv 7) pa_nil))))
      (pe_lc (own := [("cost", 8)]) (g := gName 8) (tt := tYes) rfl nd (pi_tup (pv 2)) (blkOk_by (N := ["book", "places", "costs", "slip", "rows", "lines", "slip_line", "place", "cost", "row"]) (sc := defScope s_book_text) (by decide +kernel)) (fun _ _ _ _ _ => pg_name (i := 8) nd rfl (Or.inl rfl)) (fun _ _ _ _ _ => pts_nil) (fun _ _ _ _ _ => pw2 (ok_words_text T) (hr.mono (by decide)) passL (pa_cons (pS sWay_is) (paS K (pv 8) pa_nil))))))
    (pss_cons (ps_set (i := 6) nd rfl (.inl rfl) (pcS0 (ok_words_text T) (hr.mono (by decide)) passL (pa_cons (pS sSlip_is) (pa_cons (pe_ifExp (pt_cmp (pc_isN (pv 3))) (gS hS) (pv 3)) pa_nil))))
    (pss_one (ps_ret (pe_join (pS nl_is) (pe_lst (StX.pa_star (pv 5) (pa_cons (pv 6) (StX.pa_star
      (pe_lc (own := [("row", 9)]) (g := gName 9) (tt := tYes) rfl nd (pi_tup (pv 4)) (blkOk_by (N := ["book", "places", "costs", "slip", "rows", "lines", "slip_line", "place", "cost", "row"]) (sc := defScope s_book_text) (by decide +kernel)) (fun _ _ _ _ _ => pg_name (i := 9) nd rfl (Or.inl rfl)) (fun _ _ _ _ _ => pts_nil) (fun _ _ _ _ _ => pc (ok_row_text T) hr passL (pa_cons (pv 9) pa_nil))) pa_nil))))))))), ?_⟩
  have hsum := join_len nl (bkLines_ne b)
  have hL : (bkLines b).length < 4000001 := by
    have h1 : nl.length = 1 := rfl
    have h2 := hsum
    unfold bkText at hlen
    rw [h1] at h2
    omega
  have hL2 := hL
  rw [length_bk] at hL2
  have lp : ps.length = b.places.length := by rw [DpAll.length dp, List.length_map]
  have lw : ws.length = b.ways.length := by rw [DpAll.length dw, List.length_map]
  have lr : rs.length = b.rows.length := by rw [DpAll.length dr, List.length_map]
  refine ⟨_, rfl, a, _, rfl, ht, rfl, _, _, rfl, _, _, rfl, _, _, rfl, _, _, rfl, rfl, _, rfl, pa, rfl, ⟨_, tp⟩, fun D1 hD1 => ?_⟩
  refine lc_map (K := K) walk_tup ((b.places.map fun p => lineS (wPl p)).map .str) (by simp [lp]) (noLsts_map _ (fun _ => rfl) _) (by unfold sizeLine; omega) hD1 (fun H1 e => Same.tup e tp) (fun i H1 x H2 Nx hi e y k1 => ?_) (fun H1 acc1 e1 h3 h4 => ?_)
  · obtain ⟨rfl, hx⟩ := y
    obtain ⟨d, hd, hdp⟩ := DpAll.getV dp hx
    have hil : i < b.places.length := by omega
    rw [List.getElem?_map, List.getElem?_eq_getElem hil] at hd
    cases hd
    obtain ⟨aa, rfl, ht2⟩ := (Dp.same e hdp).plI
    obtain ⟨w1, w2, w3⟩ := pl_words (hok.pl _ (List.getElem_mem hil))
    refine ⟨rfl, _, rfl, aa, _, rfl, .inl ht2, _, w1, w2, w3, fun H' e' => k1 _ _ _ ?_ e' (.str _)⟩
    simp [hil]
  have e1' : Same H H1 := e1
  refine ⟨_, rfl, wa, rfl, ⟨_, Same.tup e1' tw⟩, fun D2 hD2 => ?_⟩
  refine lc_map (K := K) walk_tup ((b.ways.map fun p => lineS (wWy p)).map .str) (by simp [lw]) (noLsts_map _ (fun _ => rfl) _) (by unfold sizeLine; omega) hD2 (fun H2 e => Same.tup (e1'.trans e) tw) (fun i H2 x H3 Nx hi e y k1 => ?_) (fun H2 acc2 e2 h5 h6 => ?_)
  · obtain ⟨rfl, hx⟩ := y
    obtain ⟨d, hd, hdp⟩ := DpAll.getV dw hx
    have hil : i < b.ways.length := by omega
    rw [List.getElem?_map, List.getElem?_eq_getElem hil] at hd
    cases hd
    obtain ⟨aa, rfl, ht2⟩ := (Dp.same (e1'.trans e) hdp).wyI
    obtain ⟨w1, w2, w3⟩ := wy_words (hok.wy _ (List.getElem_mem hil))
    refine ⟨rfl, _, rfl, aa, _, rfl, .inl ht2, _, w1, w2, w3, fun H' e' => k1 _ _ _ ?_ e' (.str _)⟩
    simp [hil]
  have a1 : acc1 = (b.places.map fun p => lineS (wPl p)).map V.str := DpAll.strs h4
  have a2 : acc2 = (b.ways.map fun p => lineS (wWy p)).map V.str := DpAll.strs h6
  subst a1
  subst a2
  refine ⟨D1, D2, _, _, rfl, rfl, e2 _ _ h3, h5, ?_, fun L hL3 => ?_⟩
  · simp
    unfold sizeLine
    omega
  have e3 : Same H (upd H2 L (.lst ((b.places.map fun p => lineS (wPl p)).map V.str ++ (b.ways.map fun p => lineS (wWy p)).map V.str))) := (e1'.trans e2).trans (Same.new hL3)
  obtain ⟨z1, z2⟩ := sl_words hok.sl
  have e4 : ∀ {H' : Hp}, Same (upd H2 L (.lst ((b.places.map fun p => lineS (wPl p)).map V.str ++ (b.ways.map fun p => lineS (wWy p)).map V.str))) H' → H' L = some (.lst ((b.places.map fun p => lineS (wPl p)).map V.str ++ (b.ways.map fun p => lineS (wWy p)).map V.str)) := fun e' => e' _ _ upd_same
  refine ⟨_, rfl, _, rfl, ite2 (fun hs => ⟨wSl b.slip, ?_, z1, z2, fun H4 e5 => ?_⟩) fun hs => ⟨_, rfl, wSl b.slip, ?_, z1, z2, fun H4 e5 => ?_⟩⟩
  · have : b.slip = none := by
      cases h : b.slip with
      | none => rfl
      | some n => rw [h] at hs; simp [vSl] at hs
    rw [this]
    simp [wv, wSl, slipS, sDash_is]
  rotate_left
  · cases h : b.slip with
    | none => rw [h] at hs; simp [vSl] at hs
    | some n =>
      show [wv _, wv _] = [_, _]
      rw [show wv (vSl (some n)) = some (numS n) from wv_num (hok.sl n h).2]
      rfl
  all_goals
    have e6 : Same H H4 := e3.trans e5
    refine ⟨⟨_, rfl⟩, _, rfl, L, _, rfl, .inr (.inl (.inl (e4 e5))), _, rfl, _, rfl, ra, rfl, ⟨_, Same.tup e6 tr⟩, fun D3 hD3 => ?_⟩
    refine lc_map (K := K) walk_tup ((b.rows.map fun p => lineS (wRw p)).map .str) (by simp [lr]) (noLsts_map _ (fun _ => rfl) _) (by unfold sizeLine; omega) hD3 (fun H5 e => Same.tup (e6.trans e) tr) (fun i H5 x H6 Nx hi e y k1 => ?_) (fun H5 acc3 e7 h7 h8 => ?_)
    · obtain ⟨rfl, hx⟩ := y
      obtain ⟨d, hd, hdp⟩ := DpAll.getV dr hx
      have hil : i < b.rows.length := by omega
      rw [List.getElem?_map, List.getElem?_eq_getElem hil] at hd
      cases hd
      refine ⟨rfl, _, rfl, [dRw b.rows[i]], _, .cons (Dp.same (e6.trans e) hdp) .nil, ⟨_, hok.rw' _ (List.getElem_mem hil), rfl, rfl⟩, fun u H' e' hu => ?_⟩
      exact k1 u _ _ (by simp [hil]) e' hu
    · have a3 : acc3 = (b.rows.map fun p => lineS (wRw p)).map V.str := DpAll.strs h8
      subst a3
      have hL3 : ((b.places.map fun p => lineS (wPl p)).map V.str ++ (b.ways.map fun p => lineS (wWy p)).map V.str) ++ (V.str (lineS (wSl b.slip)) :: ((b.rows.map fun p => lineS (wRw p)).map V.str ++ [])) = (bkLines b).map V.str := by
        unfold bkLines itsOf
        simp [List.map_append, List.map_map, Function.comp_def, wIt]
      refine ⟨D3, _, rfl, .inr (.inl (.inl h7)), ?_, fun F hF => ?_⟩
      · rw [hL3, List.length_map]
        unfold sizeLine
        omega
      · rw [hL3]
        refine ⟨_, F, bkLines b, rfl, rfl, .inl (.inl (.inl upd_same)), ?_, ?_⟩
        · have h1 : nl.length = 1 := rfl
          unfold bkText at hlen
          rw [h1] at hsum ⊢
          omega
        · rw [join_txt]
          exact q _ _ ((e6.trans e7).trans (Same.new hF)) (.str _)
end
end K12

/-! A def of an own exception class that begins with super().__init__(..). -/
namespace K12
open PySem PySem.Spec PyProof.Rows L2
theorem look_zip : ∀ {ps : List Str} {us : List Value} {i : Nat} {x : Str} {u : Value}, ps.Nodup → ps.length = us.length → ps[i]? = some x → us[i]? = some u → (ps.zip us).reverse.lookup x = some u
  | [], _, _, _, _, _, _, h, _ => by simp at h
  | _ :: _, [], _, _, _, _, hl, _, _ => by simp at hl
  | p :: ps, v :: us, i, x, u, nd, hl, h1, h2 => by
    rw [List.zip_cons_cons, List.reverse_cons, List.lookup_append]
    obtain ⟨nd1, nd2⟩ := List.nodup_cons.mp nd
    cases i with
    | zero =>
      simp at h1 h2
      subst h1
      subst h2
      have hn : (ps.zip us).reverse.lookup p = none := by
        rw [List.lookup_eq_none_iff]
        intro q hq
        have hm := List.of_mem_zip (List.mem_reverse.mp hq)
        simp
        intro e
        rw [e] at nd1
        exact nd1 hm.1
      rw [hn]
      simp
    | succ i =>
      rw [look_zip (i := i) nd2 (by simpa using hl) (by simpa using h1) (by simpa using h2)]
      rfl
/-- what the written part says of the def and its class -/
structure SupD (K : PySem.W.Frag) (C f cc cda : Addr) (file : Str) (name qual : Str) (params : Arguments) (body : List Stmt) (scope : Scope) (fd : FuncData) : Prop where
  lk : ∃ oc od osl kV doc pm an ct, fd = PySem.W.fnX name qual params body scope [("__class__", cc)] .none kV doc pm an (.ref cda) ct ∧ K.lookup f = some ⟨oc, od, .func fd, osl⟩
  code : PySem.W.codeIn K (.ref cda) qual = true
  at_ : ∃ o vs tf, K.lookup cda = some o ∧ o.data = .fields vs ∧ vs[2]? = some (.str file tf)
  cell : ∃ o, K.lookup cc = some o ∧ o.data = .cell (some (.ref C))
  ini : PySem.W.ks_superIn K C C "__init__" = some (some (.builtin "ValueError.__init__"))
  sub : PySem.W.subIn K (.ref C) (.type "ValueError") = some true
  subS : PySem.W.subIn K (.ref C) (.ref C) = some true
  opq : PySem.W.nsIn K cStatics "thirdparty.any" = some none
  exn : OexC K C
/-- the names of such a def -/
structure SupS (N : List Str) (sc : Scope) : Prop where
  kind : sc.kind = .function
  co : sc.isCoroutine = false
  gen : sc.isGenerator = false
  nd : N.Nodup
  par : ∀ x ∈ N, sc.names.lookup x = some .local
  own : ∀ y ∈ sc.names, y.2 ≠ .cell ∧ (y.2 = .free → y.1 = "__class__")
  sup : sc.names.lookup ("super" : Str) = some .globalImplicit
  cls : sc.names.lookup ("__class__" : Str) = some .free
section
variable {P : Program} {w : World} {K : PySem.W.Frag} {mg : Str → Option Value} {base : Heap}
/-- the context of its body -/
def supCx (P : Program) (w : World) (K : PySem.W.Frag) (mg : Str → Option Value) (base : Heap) (N : List Str) (qual : Str) (scope : Scope) (f cc cda : Addr) (A : Around) (outer : List Env) (s : Shared) (H : Hp) (E : XK) : Cx where
  prog := P
  w := w
  K := K
  mg := mg
  base := base
  A := A.deeper (PySem.W.envX qual scope s.heap.objs.size f (.ref cda) [("__class__", cc)])
  N := N
  s_0 := s
  H_0 := H
  env := PySem.W.envX qual scope s.heap.objs.size f (.ref cda) [("__class__", cc)]
  outer := outer
  stack := PySem.W.envX qual scope s.heap.objs.size f (.ref cda) [("__class__", cc)] :: outer
  ex := []
  fn := fun _ => false
  calm := true
  pn := []
  xe := fun e s' => wpAny (model P w) (A.deeper (PySem.W.envX qual scope s.heap.objs.size f (.ref cda) [("__class__", cc)])) (leaving (PySem.W.envX qual scope s.heap.objs.size f (.ref cda) [("__class__", cc)]) e) (fun _ s'' => L2.CX P w outer H s E e s'') (fun e' s'' => L2.CX P w outer H s E e' s'') s'
theorem cell1 {cc c : Addr} {x : Str} (h : ([("__class__", cc)] : List (Str × Addr)).lookup x = some c) : x = "__class__" ∧ c = cc := by
  by_cases e : x = "__class__"
  · subst e
    simp at h
    exact ⟨rfl, h.symm⟩
  · have : (x == ("__class__" : Str)) = false := by simpa using e
    simp [List.lookup, this] at h
theorem sup_start {N : List Str} {qual : Str} {scope : Scope} {f cc cda : Addr} {A : Around} {outer : List Env} {s : Shared} {H : Hp} {E : XK} {us : List Value} {vs : List V} {h₀ : Heap} {tk : Nat} {oc : Obj} {vc : Value} (S : SupS N scope) (hd : A.handled = none) (e0 : Env0 P w K mg base A outer s H)
    (hc : K.lookup cc = some oc) (hcd : oc.data = .cell (some vc)) (hl : vs.length = N.length) (r : Vals vs us) (hns : h₀.Ns s.heap.objs.size fun x => (N.zip us).reverse.lookup x) (kp : ∀ b o, s.heap.get? b = some o → h₀.get? b = some o) :
    L2.Inv (supCx P w K mg base N qual scope f cc cda A outer s H E) [] (L2.start N vs) H { s with heap := h₀, toks := tk } := by
  have hb := e0.mod.kin _ _ hc
  obtain ⟨hs, hH⟩ := e0.bs _ _ hb
  have noA : ∀ b : Addr, b ∉ (supCx P w K mg base N qual scope f cc cda A outer s H E).ex := fun b z => absurd (show b ∈ ([] : List Addr) from z) (by simp)
  refine ⟨⟨e0.mod, S.kind, rfl, rfl, Nat.le_refl _, fun y z c h1 h2 => (cell1 h1).1.trans (cell1 h2).1.symm, fun y hy => ?_, fun y c z _ => ?_, fun _ => hd, Around.frames_deeper e0.frames, .inr ⟨rfl, rfl⟩, fun b z => absurd z (noA b), e0.bs, e0.bsz, fun b _ _ => noA b, fun b z => absurd z (noA b), e0.funs, e0.frf⟩,
    rfl, e0.bare, Un.kept kp, ⟨_, hns, fun i y v h1 h2 h3 => ?_⟩, fun y c h => ?_, e0.hok.fresh (Nat.le_refl _), fun y c h => ?_, fun p hp => absurd (show p ∈ ([] : List (Addr × Obj)) ++ [] from hp) (by simp), e0.hok.kept kp, ?_⟩
  · rcases hy with hy | hy
    · exact absurd rfl (S.own _ (PySem.mem_of_lookup hy)).1
    · have e : y = "__class__" := (S.own _ (PySem.mem_of_lookup hy)).2 rfl
      subst e
      exact ⟨cc, rfl⟩
  · have z : false = true := z
    cases z
  · have hz : (L2.start N vs)[i]? = some (some v) := h2
    have ha : vs[i]? = some v := by
      unfold L2.start at hz
      by_cases hi : i < vs.length
      · rw [List.getElem?_append_left (by simpa using hi), List.getElem?_map] at hz
        cases e : vs[i]? with
        | none => rw [e] at hz; cases hz
        | some a => rw [e] at hz; cases hz; rfl
      · rw [List.getElem?_append_right (by simpa using hi), List.getElem?_replicate] at hz
        split at hz <;> cases hz
    obtain ⟨u, hu, rv⟩ := r.get ha
    have h1 : N[i]? = some y := h1
    exact ⟨u, rv, .inl ⟨S.par y (List.mem_of_getElem? h1), look_zip S.nd (hl.symm.trans r.length) h1 hu⟩⟩
  · obtain ⟨_, rfl⟩ := cell1 h
    exact ⟨_, oc, kp _ _ hs, hcd⟩
  · obtain ⟨_, rfl⟩ := cell1 h
    exact hH
  · show (L2.start N vs).length = N.length
    unfold L2.start
    simp
    omega
end
/-- the bound __init__ called with arguments -/
theorem mw_with {M : Model} {A : Around} {E : Value → Shared → Prop} {s : Shared} {pos : Pos} {u x : Addr} {env : Env} {e : Expr} {es : List Expr} {Q : Value → Shared → Prop}
    (h : wpAny M A (spliced (backTo pos (starEach (e :: es) env))) (fun us s1 => PySem.W.KxsAt "ValueError.__init__" u x s1.heap ∧ wpAny M A (call (.ref u) us) Q E s1) E s) (h1 : starEach (e :: es) env = (false, eval e env) :: starEach es env) (h2 : (backTo pos (starEach es env)).any (·.1) = false) :
    wpAny M A (callWith pos (.ref u) [] (backTo pos (starEach (e :: es) env)) []) Q E s := by
  rw [h1] at h ⊢
  have h3 : (false || (backTo pos (starEach es env)).any (·.1)) = false := by rw [h2]; rfl
  exact PySem.W.kxs_callWith (i := "ValueError.__init__") (x := x) h3 (PySem.Calls.evalArgs_plain h)
section
variable {prog : Program} {w : World} {A : Around} {E : Value → Shared → Prop} {h : Heap} {g : Array GenState} {d : Drawn} {t : Nat} {os : OsState}
variable {nm q : Str} {C N : Addr} {bs bm : List Value} {hdct : Bool} {sn : List Str} {sub : List Value} {ab : Bool} {col : Option Bool} {dd : Option Addr} {k0 k1 k2 k3 k5 : Option Value}
/-- ValueError.__init__ bound to e, called -/
theorem mw_call {u e t0 : Addr} {rest : List Value} {Q : Value → Shared → Prop} (hC : h.get? C = some (excClassObj nm q C N bs bm hdct sn sub ab col dd k0 k1 k2 k3 k5 "ValueError.__new__")) (he : h.get? e = some (HandSPX.excO C t0)) (hu : h.get? u = some (PySem.W.kxs_mw "ValueError.__init__" e)) (hz : rest.length ≤ sizeLine)
    (fin : ∀ h' t1, (∀ b o, b ≠ e → h.get? b = some o → h'.get? b = some o) → h'.get? e = some (HandSPX.excO C t1) → Q .none ⟨h', g, d, t, os⟩) : wpAny (model prog w) A (call (.ref u) rest) Q E ⟨h, g, d, t, os⟩ := by
  refine wpAny_call (codeAny_of_tree ?_)
  show wpAny _ (Around.in1 A) (callAny (.ref u) ⟨rest, []⟩) _ _ _
  simp only [callAny]
  refine wpAny_bind (wpAny_load hu ?_)
  have e1 : (Value.type "method-wrapper" == Value.type "method" || Value.type "method-wrapper" == Value.type "builtin_function_or_method" || Value.type "method-wrapper" == Value.type "method-wrapper") = true := by decide
  simp only [PySem.W.kxs_mw, e1, if_true]
  refine W.KFB.if_so (by decide) ?_
  refine wpAny_bind (PySem.W.check_bound_init F.excBase_ValueError.toExcCallFacts hC he rfl (wpAny_bind (wpAny_pure (wpAny_pure ⟨plainId_quiet F.excBase_ValueError.init.plain _, codeAny_builtin F.excBase_ValueError.initEntry ?_⟩))))
  exact PySem.W.exc_init_tree (cls := .ref C) (t0 := t0) (dv := none) (c2 := .none) (c3 := .none) (b4 := .bool false) he hz fun h' k e' _ => fin h' _ k e'
end
section
variable {P : Program} {w : World} {K : PySem.W.Frag} {mg : Str → Option Value} {base : Heap}
/-- THE RULE: super().__init__(e, ..) and what stands behind it -/
theorem ok_sup {k : Nat} {C f cc cda : Addr} {name qual file : Str} {params : Arguments} {body rest : List Stmt} {scope : Scope} {fd : FuncData} {N : List Str} {p0 p1 ap cp ep : Pos} {e : Expr} {es : List Expr} {ta : TA} {tr : TS} {ar : Arg}
    (D : SupD K C f cc cda file name qual params body scope fd) (S : SupS N scope) (hm : mg ("super" : Str) = none) (hfile : (P.main.file == file) = true) (htop : (P.main.scope.names.lookup ("super" : Str)).isSome = false)
    (hb0 : body = .Expr (.Call (.Attribute (.Call (.Name "super" p0) [] [] p1) "__init__" ap) (e :: es) [] cp) ep :: rest) (har : (params.posonlyargs ++ params.args).head? = some ar) (hself : N[0]? = some ar.arg) (hdb : (ar.arg == ("__debug__" : Str)) = false)
    (hargs : ∀ (A : Around) (outer : List Env) (s : Shared) (H : Hp) (E : XK), PA (supCx P w K mg base N qual scope f cc cda A outer s H E) (e :: es) ta)
    (hst : ∀ env : Env, starEach (e :: es) env = (false, eval e env) :: starEach es env) (hpl : ∀ env : Env, (backTo cp (starEach es env)).any (·.1) = false)
    (hint : ∀ (A : Around) (outer : List Env) (s : Shared) (H : Hp) (E : XK), interactive (supCx P w K mg base N qual scope f cc cda A outer s H E).env = false)
    (hsw : ∀ (A : Around) (outer : List Env) (s : Shared) (H : Hp) (E : XK), swapsWith (.Call (.Attribute (.Call (.Name "super" p0) [] [] p1) "__init__" ap) (e :: es) [] cp) none ep.line (supCx P w K mg base N qual scope f cc cda A outer s H E).env = pure false)
    (pl : Env → Sem Bool) (hev : ∀ env : Env, eval (.Call (.Attribute (.Call (.Name "super" p0) [] [] p1) "__init__" ap) (e :: es) [] cp) env = (do
      let ov ← attributeBase (.Call (.Name "super" p0) [] [] p1) "__init__" env (eval (.Call (.Name "super" p0) [] [] p1) env)
      standAt ap.atName
      let (f, first) ← holding [ov] (getMethod ov "__init__" (pl env))
      callWith cp f first (backTo cp (starEach (e :: es) env)) []))
    (hrest : ∀ (A : Around) (outer : List Env) (s : Shared) (H : Hp) (E : XK), PSs (supCx P w K mg base N qual scope f cc cda A outer s H E) rest tr) :
    FnOk P w K mg base (L2.CX P w) (k + 1) f fd N (fun vs H Q _ => vs.length = N.length ∧ ∃ a r, vs = .ref a :: r ∧ H a = some (exo a C none) ∧ ta (L2.start N vs) H fun ws H1 => ws.length ≤ 1000 ∧ H1 a = some (exo a C none) ∧ tr { nx := fun _ H' => Q .non H', rt := Q } (L2.start N vs) H1) := by
  refine ⟨fun vs H Q E h => h.1, fun A outer s H args us vs Q E hr e0 hb r hsp => ?_⟩
  obtain ⟨hl, a, vr, rfl, ha, hta⟩ := hsp
  obtain ⟨oc, od, osl, kV, doc, pm, an, ct, rfl, lk⟩ := D.lk
  obtain ⟨ofl, vfl, tf, hfl, hfd, hf2⟩ := D.at_
  obtain ⟨occ, hcc, hccd⟩ := D.cell
  have KX : K.In s.heap := e0.mod.kin.keeps fun b o q => (e0.bs b o q).1
  have lim : s.heap.NoLimit := e0.mod.nolimit.keeps fun b o q => (e0.bs b o q).1
  have hlu : N.length = us.length := hl.symm.trans r.length
  refine ks_codeAny_call_defAt (binds := N.zip us) hr.depth (KX _ _ lk) rfl lim (PySem.W.codeRec_of KX D.code) rfl hb (fun x hx => (S.own x hx).1) (fun x hx => S.par x.1 (List.of_mem_zip hx).1) (fun h₀ hns kp => ?_) S.co S.gen S.kind
  have I : L2.Inv (supCx P w K mg base N qual scope f cc cda A outer s H E) [] (L2.start N (.ref a :: vr)) H { s with heap := h₀, toks := s.toks + (N.zip us).length } := sup_start S hr.hd e0 hcc hccd hl r hns kp
  subst hb0
  show PySem.wpAt (model P w) (supCx P w K mg base N qual scope f cc cda A outer s H E).A (.func _ (supCx P w K mg base N qual scope f cc cda A outer s H E).env) (execs _ (supCx P w K mg base N qual scope f cc cda A outer s H E).env) _ _ _
  refine ks_wpAt_execs_cons (ks_wpAt_Expr_any ?_ (hint A outer s H E) (hsw A outer s H E))
  refine ks_wpAt_MethodCall ?_ (hev _)
  have KI := I.kIn
  refine ks_wpAt_super_base S.sup S.cls (by decide) rfl (KI _ _ lk) rfl har rfl (KI _ _ hfl) hfd hf2 hfile htop ?_
  have hself2 : (supCx P w K mg base N qual scope f cc cda A outer s H E).N[0]? = some ar.arg := hself
  obtain ⟨mL, hnL, hloc⟩ := I.loc
  have hst0 : (L2.start N (.ref a :: vr))[0]? = some (some (.ref a)) := by
    unfold L2.start
    simp
  obtain ⟨u0, hu0, hlook⟩ := hloc 0 ar.arg (.ref a) hself hst0 (.inl (S.par _ (List.mem_of_getElem? hself)))
  obtain rfl : u0 = Value.ref a := hu0
  have hlk : mL ar.arg = some (.ref a) := by
    rcases hlook with ⟨_, z⟩ | ⟨z, _⟩
    · exact z
    · have hk : scope.names.lookup ar.arg = some .local := S.par _ (List.mem_of_getElem? hself)
      rcases z with z | z
      · have z : scope.names.lookup ar.arg = some .cell := z
        rw [hk] at z
        cases z
      · have z : scope.names.lookup ar.arg = some .free := z
        rw [hk] at z
        cases z
  obtain ⟨nm, qn, NN, bs, bm, sn, sub, ab, col, dd, k0, k1, k2, k3, k5, hC, hbm⟩ := D.exn.cls
  obtain ⟨t1, ho⟩ := exo_at I.hok ha
  have hcl : PySem.W.clsIn K C = some { name := nm, bases := bs, mro := .ref C :: bm, ns := NN, qualname := qn, hasDict := true, slotNames := sn, subclasses := sub, abstract := ab, collection := col, hasDel := false } := by unfold PySem.W.clsIn; rw [hC] <;> rfl
  have hne : a ≠ C := by
    intro z
    have hCh := KI _ _ hC
    rw [← z, ho] at hCh
    cases hCh
  have hini : PySem.W.alongIn K "__init__" ((((Value.ref C :: bm) : List Value).dropWhile (· != .ref C)).drop 1) = some (some (.builtin "ValueError.__init__")) := by
    have := D.ini
    unfold PySem.W.ks_superIn at this
    rw [hcl] at this
    exact this
  obtain ⟨mb, hb1, hb2⟩ := I.mod.blt
  have hldS : ∀ {Q' : Value → Shared → Prop} {E' : Value → Shared → Prop}, Q' (.type "super") { s with heap := h₀, toks := s.toks + (N.zip us).length } → wpAny (model P w) (supCx P w K mg base N qual scope f cc cda A outer s H E).A (loadName (supCx P w K mg base N qual scope f cc cda A outer s H E).env "super") Q' E' { s with heap := h₀, toks := s.toks + (N.zip us).length } := fun {Q' E'} q => by
    unfold loadName
    have hkS : (supCx P w K mg base N qual scope f cc cda A outer s H E).env.kindOf "super" = some .globalImplicit := S.sup
    have hkF : (supCx P w K mg base N qual scope f cc cda A outer s H E).env.scope.kind = .function := S.kind
    simp only [Env.blockKind, hkF, hkS, ScopeKind.isAnnotationScope, Bool.false_and, Bool.false_eq_true, if_false]
    exact Calls.loadGlobal_builtin (I.mod.glob.keeps I.bk) hm (hb1.keeps I.bk) ((hb2 _ (by decide)).trans (by decide +kernel)) q
  refine hldS ⟨rfl, ?_⟩
  refine wpAny_loadName_free S.kind S.cls (c := cc) rfl ⟨_, KI _ _ hcc, hccd⟩ ?_
  refine wpAny_loadName_local S.kind (S.par _ (List.mem_of_getElem? hself)) hnL hlk ?_
  have hCd : (excClassObj nm qn C NN bs bm true sn sub ab col dd k0 k1 k2 k3 k5 "ValueError.__new__").data = .cls { name := nm, bases := bs, mro := .ref C :: bm, ns := NN, qualname := qn, hasDict := true, slotNames := sn, subclasses := sub, abstract := ab, collection := col, hasDel := false } := rfl
  refine ks_wpAny_isType_cls (KI _ _ hC) hCd ⟨rfl, ?_⟩
  refine ks_wpAny_call_super (KI _ _ hC) hCd ho rfl (fun c z => nomatch z) (PySem.W.looks_subIn KI D.subS) (fun h1 hso kp1 => ?_)
  have KI1 : K.In h1 := KI.keeps kp1
  refine PySem.W.kxs_getMethod PySem.W.kxs_ValueError hso (PySem.W.looks_opaque KI1 D.opq) (l₀ := .ref C :: bm) ?_ rfl KI1 hini ?_ hne (by decide) ?_
  · exact (PySem.W.looks_clsIn KI1 hcl).andThen .now
  · have I1 : PySem.W.InstAt h1 a (PySem.HandSPX.excO C t1) C none := ⟨kp1 _ _ ho, rfl, rfl, trivial⟩
    exact I1.type.andThen (PySem.W.looks_subIn KI1 D.sub)
  have kp2 : ∀ b o, h₀.get? b = some o → (h1.push (PySem.W.kxs_mw "ValueError.__init__" a)).get? b = some o := fun b o z => Heap.get?_push_of_some _ (kp1 b o z)
  have hu : (h1.push (PySem.W.kxs_mw "ValueError.__init__" a)).get? h1.objs.size = some (PySem.W.kxs_mw "ValueError.__init__" a) := Heap.get?_push_size _ rfl
  have hge : h₀.objs.size ≤ h1.objs.size := by
    have hs1 : h₀.objs.size < h1.objs.size := Heap.lt_size hso
    omega
  have J := I.kept (t' := s.toks + (N.zip us).length + 1) kp2
  have J2 := L2.Inv.pins_of (pins' := [(h1.objs.size, PySem.W.kxs_mw "ValueError.__init__" a)]) J fun p hp => by
    have e : p = (h1.objs.size, PySem.W.kxs_mw "ValueError.__init__" a) := by simpa using hp
    subst e
    refine ⟨hu, I.hok.fresh hge, ?_, fun hf => ?_, fun v z => nomatch z⟩
    · have := I.lt
      exact Nat.ne_of_gt (Nat.lt_of_lt_of_le this hge)
    · obtain ⟨_, o, hoo, _⟩ := I.ok.funs.mem hf
      have z1 : h1.objs.size < s.heap.objs.size := Heap.lt_size hoo
      have z3 : s.heap.objs.size ≤ h₀.objs.size := I.sz
      omega
  refine mw_with (x := a) ?_ (hst _) (hpl _)
  refine thn ((hargs A outer s H E).run cp [(h1.objs.size, PySem.W.kxs_mw "ValueError.__init__" a)] _ _ H _ J2 hta) fun vs2 s2 ⟨ws, H1, I4, r4, hw, ha4, htr⟩ => ?_
  have hpin := (I4.pin _ (List.mem_append_right _ (List.mem_singleton.mpr rfl))).1
  refine ⟨hpin, ?_⟩
  obtain ⟨t4, ho4⟩ := exo_at I4.hok ha4
  obtain ⟨hp4, g4, d4, tk4, os4⟩ := s2
  have hw2 : vs2.length ≤ sizeLine := by
    rw [← Paired.length r4, sizeLine_eq]
    omega
  refine mw_call (I4.kIn _ _ hC) ho4 hpin hw2 fun h5 t5 k5' hx5 => ?_
  have J5 := I4.write (t' := tk4) (x := a) (e := a) (o := exo a C none) (by rw [ha4]; exact True.intro) (.inl rfl) k5' ⟨_, hx5⟩ (exo_ok hx5)
  have eu : upd H1 a (exo a C none) = H1 := by
    funext b
    by_cases hb : b = a
    · rw [hb, upd_same, ha4]
    · rw [upd_ne hb]
  rw [eu] at J5
  have J6 := L2.Inv.pins_of (pins' := []) J5 fun p hp => absurd hp (by simp)
  refine PySem.wpAt_of_wpAny (wpAny_mono ((hrest A outer s H E).run [] _ _ _ _ J6 htr) (fun fl s' hs => ?_) fun e' s' hs => hs)
  have fin : ∀ {σ' : L2.St} {H' : Hp} {v' : V} {u' : Value}, L2.Inv (supCx P w K mg base N qual scope f cc cda A outer s H E) [] σ' H' s' → RelV v' u' → Q v' H' → CE outer P w H s Q u' s' := fun {σ' H' v' u'} Z rv z => ⟨v', H', Z.os, Z.bare, Z.base, Z.hok, rv, z⟩
  cases fl with
  | ret u' =>
    obtain ⟨v', σ', H', Z, rv, z⟩ := hs
    exact fin Z rv z
  | next =>
    obtain ⟨σ', H', Z, z⟩ := hs
    exact fin (v' := V.non) (u' := Value.none) Z rfl z
  | brk =>
    obtain ⟨_, _, _, z⟩ := hs
    exact z.elim
  | cont =>
    obtain ⟨_, _, _, z⟩ := hs
    exact z.elim
end
end K12

/-! InvalidPaper, InvalidText: made and raised. -/
namespace K12
open PySem PySem.Spec PyProof.Rows L2
/-- self, a1, a2 set as fields -/
def spInit (C : Addr) (a1 a2 : Str) : Sp := fun vs H Q _ => ∃ a v1 v2, vs = [.ref a, v1, v2] ∧ H a = some (exo a C none) ∧ ∀ dx, H dx = none → dx ≠ a → Q .non (upd (upd (upd H dx (exd dx [(a1, v1)])) a (exo a C (some dx))) dx (exd dx [(a2, v2), (a1, v1)]))
/-- what the written part says of such a class -/
structure ExcF (K : PySem.W.Frag) (mg : Str → Option Value) (file : Str) (x : Str) (C : Addr) (st : Stmt) (a1 a2 : Str) : Prop where
  mgC : mg x = some (.ref C)
  sup : ∃ f cc cda fd, SupD K C f cc cda file "__init__" (x ++ ".__init__") (defArgs st) (defBody st) (defScope st) fd ∧ PySem.W.findIn K (.ref C) "__init__" = some (some (.ref f)) ∧ PySem.W.typeIn K (.ref f) = some (.type "function")
  no1 : PySem.W.findIn K (.ref C) a1 = some none
  no2 : PySem.W.findIn K (.ref C) a2 = some none
/-- what the text says of the file -/
structure FileF (P : Program) (file : Str) : Prop where
  file : (P.main.file == file) = true
  top : (P.main.scope.names.lookup ("super" : Str)).isSome = false
section
variable {P : Program} {w : World} {K : PySem.W.Frag} {mg : Str → Option Value} {base : Heap} {file : Str}
theorem ok_InvalidText {C : Addr} (F : ExcF K mg file "InvalidText" C s_InvalidText_init "line" "field") (hP : FileF P file) (hm : mg ("super" : Str) = none) :
    ∃ f fd, FnOk P w K mg base (L2.CX P w) 1 f fd ["self", "line", "field"] (spInit C "line" "field") ∧ Binds K fd ["self", "line", "field"] [] ∧ OexC K C ∧ PySem.W.findIn K (.ref C) "__init__" = some (some (.ref f)) ∧ PySem.W.typeIn K (.ref f) = some (.type "function") := by
  obtain ⟨f, cc, cda, fd, D, hi, ht⟩ := F.sup
  have S : SupS ["self", "line", "field"] (defScope s_InvalidText_init) := ⟨rfl, rfl, rfl, by decide +kernel, by decide +kernel, by decide +kernel, by decide +kernel, by decide +kernel⟩
  have G := ok_sup (P := P) (w := w) (mg := mg) (base := base) (k := 0) (N := ["self", "line", "field"]) (ta := tCons (tVar 1) (tCons (tVar 2) tNil)) (tr := tSeq (tOst K "line" (tVar 0) (tVar 1)) (tOst K "field" (tVar 0) (tVar 2))) D S hm hP.file hP.top rfl rfl rfl (by decide)
    (fun A outer s H E => pa_cons (pv 1) (pa_cons (pv 2) pa_nil)) (fun _ => rfl) (fun _ => rfl) (fun _ _ _ _ _ => rfl) (fun _ _ _ _ _ => rfl) _ (fun _ => rfl) (fun A outer s H E => pss_cons (ps_ost (pv 0) (pv 1)) (pss_one (ps_ost (pv 0) (pv 2))))
  refine ⟨f, fd, ⟨fun vs H Q E h => ?_, fun A outer s H args us vs Q E hr e0 hb r hsp => G.run A outer s H args us vs Q E hr e0 hb r ?_⟩, ?_, D.exn, hi, ht⟩
  · obtain ⟨a, v1, v2, rfl, _⟩ := h
    rfl
  · obtain ⟨a, v1, v2, rfl, ha, q⟩ := hsp
    refine ⟨rfl, a, _, rfl, ha, _, rfl, _, rfl, Nat.le_of_ble_eq_true rfl, ha, _, rfl, _, rfl, a, C, rfl, D.exn, F.no1, .inl ⟨ha, fun dx hdx hne => ⟨_, rfl, _, rfl, a, C, rfl, D.exn, F.no2, .inr ⟨dx, _, upd_same, ?_, Nat.le_of_ble_eq_true rfl, q dx hdx hne⟩⟩⟩⟩
    rw [upd_ne hne, upd_same]
  · obtain ⟨oc, od, osl, kV, doc, pm, an, ct, rfl, lk⟩ := D.lk
    exact .all fun us hl => match us, hl with | [_, _, _], _ => rfl
theorem ok_InvalidPaper {C : Addr} (F : ExcF K mg file "InvalidPaper" C s_InvalidPaper_init "word" "at") (hP : FileF P file) (hm : mg ("super" : Str) = none) :
    ∃ f fd, FnOk P w K mg base (L2.CX P w) 1 f fd ["self", "word", "at"] (spInit C "word" "at") ∧ Binds K fd ["self", "word", "at"] [] ∧ OexC K C ∧ PySem.W.findIn K (.ref C) "__init__" = some (some (.ref f)) ∧ PySem.W.typeIn K (.ref f) = some (.type "function") := by
  obtain ⟨f, cc, cda, fd, D, hi, ht⟩ := F.sup
  have S : SupS ["self", "word", "at"] (defScope s_InvalidPaper_init) := ⟨rfl, rfl, rfl, by decide +kernel, by decide +kernel, by decide +kernel, by decide +kernel, by decide +kernel⟩
  have G := ok_sup (P := P) (w := w) (mg := mg) (base := base) (k := 0) (N := ["self", "word", "at"]) (ta := tCons (tVar 1) (tCons (tVar 2) tNil)) (tr := tSeq (tOst K "word" (tVar 0) (tVar 1)) (tOst K "at" (tVar 0) (tVar 2))) D S hm hP.file hP.top rfl rfl rfl (by decide)
    (fun A outer s H E => pa_cons (pv 1) (pa_cons (pv 2) pa_nil)) (fun _ => rfl) (fun _ => rfl) (fun _ _ _ _ _ => rfl) (fun _ _ _ _ _ => rfl) _ (fun _ => rfl) (fun A outer s H E => pss_cons (ps_ost (pv 0) (pv 1)) (pss_one (ps_ost (pv 0) (pv 2))))
  refine ⟨f, fd, ⟨fun vs H Q E h => ?_, fun A outer s H args us vs Q E hr e0 hb r hsp => G.run A outer s H args us vs Q E hr e0 hb r ?_⟩, ?_, D.exn, hi, ht⟩
  · obtain ⟨a, v1, v2, rfl, _⟩ := h
    rfl
  · obtain ⟨a, v1, v2, rfl, ha, q⟩ := hsp
    refine ⟨rfl, a, _, rfl, ha, _, rfl, _, rfl, Nat.le_of_ble_eq_true rfl, ha, _, rfl, _, rfl, a, C, rfl, D.exn, F.no1, .inl ⟨ha, fun dx hdx hne => ⟨_, rfl, _, rfl, a, C, rfl, D.exn, F.no2, .inr ⟨dx, _, upd_same, ?_, Nat.le_of_ble_eq_true rfl, q dx hdx hne⟩⟩⟩⟩
    rw [upd_ne hne, upd_same]
  · obtain ⟨oc, od, osl, kV, doc, pm, an, ct, rfl, lk⟩ := D.lk
    exact .all fun us hl => match us, hl with | [_, _, _], _ => rfl
end
/-- an exception of the class at C stands by its own dict -/
def Rz (C : Addr) (fs : List (Str × V)) (H : Hp) (E : XK) : Prop := ∀ d H3, H d = none → Same H H3 → H3 d = some (.xd fs) → E (.ref C) (some d) H3
section
variable {X : Cx} {file x : Str} {C : Addr} {e : Expr} {es : List Expr} {ta : TA} {p pos pos' : Pos} {W : WX} {a1 a2 : Str}
/-- C(e1, e2) made, to be raised -/
def tRz (C : Addr) (a1 a2 : Str) (ta : TA) (W : WX) : TS := fun D σ H => ta σ H fun vs H1 => ∃ v1 v2, vs = [v1, v2] ∧ Rz C [(a2, v2), (a1, v1)] H1 (fun cls d H' => W cls d σ H')
theorem rz_done {v1 v2 : V} {H1 : Hp} {Q : XK} (h : Rz C [(a2, v2), (a1, v1)] H1 Q) : ∀ a, H1 a = none → spInit C a1 a2 (.ref a :: ([v1, v2] ++ [])) (upd H1 a (exo a C none))
    (fun v H2 => v = .non ∧ ∃ (d : Addr) (fs : List (Str × V)), H2 a = some (exo a C (some d)) ∧ H2 d = some (exd d fs) ∧ H1 d = none ∧ Q (.ref C) (some d) (upd (del H2 a) d (.xd fs))) (fun _ _ _ => False) := fun a na => by
  refine ⟨a, v1, v2, rfl, upd_same, fun dx hdx hne => ⟨rfl, dx, _, ?_, upd_same, ?_, h dx _ ?_ (fun b o hb => ?_) upd_same⟩⟩
  · rw [upd_ne (Ne.symm hne), upd_same]
  · rw [upd_ne hne] at hdx
    exact hdx
  · rw [upd_ne hne] at hdx
    exact hdx
  · rw [upd_ne hne] at hdx
    have h1 : b ≠ dx := ne_of_none hb hdx
    have h2 : b ≠ a := ne_of_none hb na
    rw [upd_ne h1, del_ne h2, upd_ne h1, upd_ne h2, upd_ne h1, upd_ne h2]
    exact hb
theorem ps_rz {k : Nat} {fI : Addr} {fd : FuncData} {ps : List Str} (T : OexC X.K C) (iC : PySem.W.findIn X.K (.ref C) "__init__" = some (some (.ref fI))) (tI : PySem.W.typeIn X.K (.ref fI) = some (.type "function")) (F1 : FnOk X.prog X.w X.K X.mg X.base (L2.CX X.prog X.w) k fI fd ps (spInit C a1 a2)) (hr : Room (k + 1) X.A)
    (hb : Binds X.K fd ps []) (hg : Gl X x) (hm : X.mg x = some (.ref C)) (hc : X.calm = true) (tk : Takes X W) (ha : PA X (e :: es) ta) (mono : ∀ σ H (Q Q' : List V → Hp → Prop), (∀ vs H1, Q vs H1 → Q' vs H1) → ta σ H Q → ta σ H Q')
    (hdb : (x == ("__debug__" : Str)) = false := by decide) (he : starEach (e :: es) X.env = (false, eval e X.env) :: starEach es X.env := by rfl) (hpl : (backTo pos (starEach es X.env)).any (·.1) = false := by rfl) :
    PS X (.Raise (some (.Call (.Name x p) (e :: es) [] pos)) none pos') (tRz C a1 a2 ta W) := by
  refine ⟨fun pins s σ H D I h => ?_⟩
  refine (ps_raise hc tk (pmk_oex T iC tI F1 hr hb .nil passL hg hm ha hdb he hpl)).run pins s σ H D I ?_
  refine mono σ H _ _ (fun vs H1 hv => ?_) h
  obtain ⟨v1, v2, rfl, hz⟩ := hv
  exact ⟨Nat.le_of_ble_eq_true rfl, rz_done hz⟩
theorem mono_2 {t1 t2 : TE} (h1 : ∀ σ H (Q Q' : VK), (∀ v H1, Q v H1 → Q' v H1) → t1 σ H Q → t1 σ H Q') (h2 : ∀ σ H (Q Q' : VK), (∀ v H1, Q v H1 → Q' v H1) → t2 σ H Q → t2 σ H Q') :
    ∀ σ H (Q Q' : List V → Hp → Prop), (∀ vs H1, Q vs H1 → Q' vs H1) → tCons t1 (tCons t2 tNil) σ H Q → tCons t1 (tCons t2 tNil) σ H Q' := fun σ H Q Q' hq h =>
  h1 σ H _ _ (fun v H1 hv => h2 σ H1 _ _ (fun v2 H2 hv2 => hq _ _ hv2) hv) h
theorem mono_var {i : Nat} : ∀ σ H (Q Q' : VK), (∀ v H1, Q v H1 → Q' v H1) → tVar i σ H Q → tVar i σ H Q' := fun σ H Q Q' hq ⟨v, h1, h2⟩ => ⟨v, h1, hq _ _ h2⟩
theorem mono_c {v : V} : ∀ σ H (Q Q' : VK), (∀ v H1, Q v H1 → Q' v H1) → tC v σ H Q → tC v σ H Q' := fun σ H Q Q' hq h => hq _ _ h
end
end K12

/-! The methods of LineReader. -/
namespace K12
open PySem PySem.Spec PyProof.Rows L2
/-- what the top leaves, further -/
structure TY (P : Program) (K : PySem.W.Frag) (mg : Str → Option Value) : Prop where
  tx : TX K mg
  rowsG : mg "ROW_WORDS" = some (.ref (He.ga K "ROW_WORDS"))
  fl : ∃ file, FileF P file ∧ ExcF K mg file "InvalidText" (He.ga K "InvalidText") s_InvalidText_init "line" "field" ∧ ExcF K mg file "InvalidPaper" (He.ga K "InvalidPaper") s_InvalidPaper_init "word" "at"
def cLR (K : PySem.W.Frag) : Addr := He.ga K "LineReader"
/-- an InvalidText with its two fields -/
def RzT (K : PySem.W.Frag) (l f : Int) (H : Hp) (E : XK) : Prop := Rz (cTx K) [("field", .int f), ("line", .int l)] H E
def RzP (K : PySem.W.Frag) (word : Str) (k : Int) (H : Hp) (E : XK) : Prop := Rz (cPa K) [("at", .int k), ("word", .str word)] H E
/-- a reader's fields -/
def rfs (l : Addr) (L F k : Int) : List (Str × V) := [("parts", .ref l), ("line_now", .int L), ("field_first", .int F), ("taken", .int k)]
theorem rfs_put {l : Addr} {L F k j : Int} : putF "taken" (.int j) (rfs l L F k) = rfs l L F j := rfl
/-- a reader stands at r -/
structure Rd' (K : PySem.W.Frag) (H : Hp) (r dx l : Addr) (ws : List Str) (L F : Int) (k : Nat) : Prop where
  at_ : H r = some (.ins (cLR K) dx (rfs l L F k))
  parts : H l = some (.lst (ws.map V.str))
  len : ws.length < sizeLine
theorem Rd'.same {K : PySem.W.Frag} {H H' : Hp} {r dx l : Addr} {ws : List Str} {L F : Int} {k : Nat} (h : Rd' K H r dx l ws L F k) (e : Same H H') : Rd' K H' r dx l ws L F k := ⟨e _ _ h.at_, e _ _ h.parts, h.len⟩
theorem Rd'.nxt {K : PySem.W.Frag} {H : Hp} {r dx l : Addr} {ws : List Str} {L F : Int} {k j : Nat} (h : Rd' K H r dx l ws L F k) : Rd' K (upd H r (.ins (cLR K) dx (rfs l L F j))) r dx l ws L F j :=
  ⟨upd_same, by rw [upd_ne (ne_of h.parts h.at_ (by intro z; cases z))]; exact h.parts, h.len⟩
/-- the heap when k words are taken -/
abbrev tkH (K : PySem.W.Frag) (H : Hp) (r dx l : Addr) (L F : Int) (k : Nat) : Hp := upd H r (.ins (cLR K) dx (rfs l L F k))
def spRefuse (K : PySem.W.Frag) : Sp := fun vs H _ E => ∃ r dx l ws L F k, vs = [.ref r] ∧ Rd' K H r dx l ws L F k ∧ RzT K L (F + (k : Nat)) H E
def spPresent (K : PySem.W.Frag) : Sp := fun vs H Q E => ∃ r dx l ws L F k, vs = [.ref r] ∧ Rd' K H r dx l ws L F k ∧ (∀ w, ws[k]? = some w → Q (.str w) H) ∧ (ws[k]? = none → RzT K L (F + (k : Nat)) H E)
def spKept (K : PySem.W.Frag) : Sp := fun vs H Q E => ∃ r dx l ws L F k v b, vs = [.ref r, v, .bl b] ∧ Rd' K H r dx l ws L F k ∧ (b = true → Q v (tkH K H r dx l L F (k + 1))) ∧ (b = false → RzT K L (F + (k : Nat)) H E)
/-- a word taken by f -/
def TkQ {α : Type} (K : PySem.W.Frag) (f : Str → Option α) (val : α → V) (r dx l : Addr) (ws : List Str) (L F : Int) (k : Nat) (H : Hp) (Q : VK) (E : XK) : Prop :=
  (∀ a, tk ws k f = .ok a → ∀ H', Same (tkH K H r dx l L F (k + 1)) H' → Q (val a) H') ∧ (∀ e, tk ws k f = .error e → RzT K L (F + (k : Nat)) H E)
def spTk0 {α : Type} (K : PySem.W.Frag) (f : Str → Option α) (val : α → V) : Sp := fun vs H Q E => ∃ r dx l ws L F k, vs = [.ref r] ∧ Rd' K H r dx l ws L F k ∧ (∀ w ∈ ws, w.length ≤ sizeLine) ∧ TkQ K f val r dx l ws L F k H Q E
def spFirst (K : PySem.W.Frag) : Sp := fun vs H Q E => ∃ r dx l ws L F k a al, vs = [.ref r, .ref a] ∧ Rd' K H r dx l ws L F k ∧ SqT K H a (al.map V.str) ∧ TkQ K (rFirst al) V.str r dx l ws L F k H Q E
def spOther (K : PySem.W.Frag) : Sp := fun vs H Q E => ∃ r dx l ws L F k one, vs = [.ref r, .str one] ∧ Rd' K H r dx l ws L F k ∧ (∀ w ∈ ws, w.length ≤ sizeLine) ∧ TkQ K (rOther one) V.str r dx l ws L F k H Q E
def spNumber (K : PySem.W.Frag) : Sp := fun vs H Q E => ∃ r dx l ws L F k least, vs = [.ref r, .int ((least : Nat) : Int)] ∧ Rd' K H r dx l ws L F k ∧ (∀ w ∈ ws, w.length ≤ sizeLine) ∧ TkQ K (rNum least) (fun n => V.int ((n : Nat) : Int)) r dx l ws L F k H Q E
def spFinish (K : PySem.W.Frag) : Sp := fun vs H Q E => ∃ r dx l ws L F k, vs = [.ref r] ∧ Rd' K H r dx l ws L F k ∧ (ws.length ≤ k → Q .non H) ∧ (k < ws.length → RzT K L (F + (k : Nat)) H E)
theorem tk_cases {α : Type} {ws : List Str} {k : Nat} {f : Str → Option α} : (ws[k]? = none ∧ tk ws k f = .error k) ∨ (∃ w, ws[k]? = some w ∧ f w = none ∧ tk ws k f = .error k) ∨ ∃ w a, ws[k]? = some w ∧ f w = some a ∧ tk ws k f = .ok a := by
  cases h : ws[k]? with
  | none => exact .inl ⟨rfl, tk_no h⟩
  | some w =>
    cases h2 : f w with
    | none => exact .inr (.inl ⟨w, rfl, h2, tk_bad h h2⟩)
    | some a => exact .inr (.inr ⟨w, a, rfl, h2, tk_is h h2⟩)
section
variable {P : Program} {w : World} {K : PySem.W.Frag} {mg : Str → Option Value} {base : Heap}
theorem TY.rowsT (Y : TY P K mg) (H : Hp) : SqT K H (He.ga K "ROW_WORDS") (rowW.map V.str) := by
  have h := He.tupB_ok Y.tx.rows H
  have e : (([.str "move", .str "count"] : List He.Dv).map (He.Dv.v K)) = rowW.map V.str := by
    show [V.str "move", V.str "count"] = [V.str sMove, V.str sCount]
    rw [sMove_is, sCount_is]
  rw [← e]
  exact h
theorem TY.cls (Y : TY P K mg) : Cls K (cLR K) := He.cls_ok (Y.tx.more 6)
theorem TY.textI (Y : TY P K mg) : ∃ f fd, FnOk P w K mg base (L2.CX P w) 1 f fd ["self", "line", "field"] (spInit (cTx K) "line" "field") ∧ Binds K fd ["self", "line", "field"] [] ∧ OexC K (cTx K) ∧ PySem.W.findIn K (.ref (cTx K)) "__init__" = some (some (.ref f)) ∧ PySem.W.typeIn K (.ref f) = some (.type "function") := by
  obtain ⟨file, hP, h1, _⟩ := Y.fl
  exact ok_InvalidText h1 hP Y.tx.free
theorem TY.paperI (Y : TY P K mg) : ∃ f fd, FnOk P w K mg base (L2.CX P w) 1 f fd ["self", "word", "at"] (spInit (cPa K) "word" "at") ∧ Binds K fd ["self", "word", "at"] [] ∧ OexC K (cPa K) ∧ PySem.W.findIn K (.ref (cPa K)) "__init__" = some (some (.ref f)) ∧ PySem.W.typeIn K (.ref f) = some (.type "function") := by
  obtain ⟨file, hP, _, h1⟩ := Y.fl
  exact ok_InvalidPaper h1 hP Y.tx.free
theorem mono_fld {i : Nat} {K : PySem.W.Frag} {f : Str} : ∀ σ H (Q Q' : VK), (∀ v H1, Q v H1 → Q' v H1) → tFld K (tVar i) f σ H Q → tFld K (tVar i) f σ H Q' := fun σ H Q Q' hq ⟨v, h0, a, C, dx, fs, u, h1, h2, h3, h4, h5, h6⟩ => ⟨v, h0, a, C, dx, fs, u, h1, h2, h3, h4, h5, hq _ _ h6⟩
theorem mono_add {t1 t2 : TE} (h1 : ∀ σ H (Q Q' : VK), (∀ v H1, Q v H1 → Q' v H1) → t1 σ H Q → t1 σ H Q') (h2 : ∀ σ H (Q Q' : VK), (∀ v H1, Q v H1 → Q' v H1) → t2 σ H Q → t2 σ H Q') :
    ∀ σ H (Q Q' : VK), (∀ v H1, Q v H1 → Q' v H1) → tOp (rI0 fun i j => V.int (i + j)) t1 t2 σ H Q → tOp (rI0 fun i j => V.int (i + j)) t1 t2 σ H Q' := fun σ H Q Q' hq h =>
  h1 σ H _ _ (fun v H1 hv => h2 σ H1 _ _ (fun u H2 ⟨i, j, e1, e2, z⟩ => ⟨i, j, e1, e2, hq _ _ z⟩) hv) h
theorem sc_LineReader_refuse : FnScope ["self"] ["self"] (defScope s_LineReader_refuse) := ⟨rfl, rfl, rfl, by decide +kernel, rfl, by decide +kernel, by decide +kernel⟩
theorem ok_LineReader_refuse (Y : TY P K mg) : Mtd P w K mg base 3 (He.ga K "LineReader") "refuse" ["self"] (spRefuse K) := by
  have T := Y.tx
  refine T.mtd i_LineReader_refuse 11 (d := d_LineReader_refuse) rfl rfl rfl sc_LineReader_refuse (fun _ _ _ _ _ _ us hl => match us, hl with | [_], _ => rfl) (by rintro vs H Q E ⟨r, dx, l, ws, L, F, k, rfl, _⟩; rfl) (fun f cdv A outer s H vs Q E hr h => ?_)
  obtain ⟨r, dx, l, ws, L, F, k, rfl, h1, q⟩ := h
  obtain ⟨fI, fd, F1, hb, hX, hi, ht⟩ := Y.textI (w := w) (base := base)
  refine ⟨_, pss_one (ps_rz hX hi ht F1 (hr.mono (by decide)) hb rfl T.glo rfl (takes_of rfl rfl rfl rfl) (pa_cons (pe_fld (pv 0) rfl) (pa_cons (pe_op op_add (pe_fld (pv 0) rfl) (pe_fld (pv 0) rfl)) pa_nil)) (mono_2 mono_fld (mono_add mono_fld mono_fld))), ?_⟩
  exact ⟨_, rfl, r, _, dx, _, .int L, rfl, h1.at_, Y.cls, He.noat_ok (T.more 22), rfl, _, rfl, r, _, dx, _, .int F, rfl, h1.at_, Y.cls, He.noat_ok (T.more 23), rfl, _, rfl, r, _, dx, _, .int k, rfl, h1.at_, Y.cls, He.noat_ok (T.more 24), rfl, F, k, rfl, rfl, _, _, rfl, q⟩
theorem one_ok {ws : List Str} {k : Nat} {z : Str} {A : Str → Prop} {B : Prop} (h : ws[k]? = some z) (q : A z) : (∀ w, ws[k]? = some w → A w) ∧ (ws[k]? = none → B) := ⟨fun w hw => by
  rw [h] at hw
  cases hw
  exact q, fun hn => by
  rw [h] at hn
  cases hn⟩
theorem one_no {ws : List Str} {k : Nat} {A : Str → Prop} {B : Prop} (h : ws[k]? = none) (q : B) : (∀ w, ws[k]? = some w → A w) ∧ (ws[k]? = none → B) := ⟨fun w hw => (by
  rw [h] at hw
  cases hw), fun _ => q⟩
theorem b_ok {b : Bool} {A B : Prop} (h : b = true) (q : A) : (b = true → A) ∧ (b = false → B) := ⟨fun _ => q, fun z => by
  rw [h] at z
  cases z⟩
theorem b_no {b : Bool} {A B : Prop} (h : b = false) (q : B) : (b = true → A) ∧ (b = false → B) := ⟨fun z => (by
  rw [h] at z
  cases z), fun _ => q⟩
theorem sc_LineReader_present : FnScope ["self"] ["self"] (defScope s_LineReader_present) := ⟨rfl, rfl, rfl, by decide +kernel, rfl, by decide +kernel, by decide +kernel⟩
theorem ok_LineReader_present (Y : TY P K mg) : Mtd P w K mg base 4 (He.ga K "LineReader") "present" ["self"] (spPresent K) := by
  have T := Y.tx
  refine T.mtd i_LineReader_present 12 (d := d_LineReader_present) rfl rfl rfl sc_LineReader_present (fun _ _ _ _ _ _ us hl => match us, hl with | [_], _ => rfl) (by rintro vs H Q E ⟨r, dx, l, ws, L, F, k, rfl, _⟩; rfl) (fun f cdv A outer s H vs Q E hr h => ?_)
  obtain ⟨r, dx, l, ws, L, F, k, rfl, h1, q1, q2⟩ := h
  refine ⟨_, pss_cons (ps_if (pt_cmpR op_ge (pe_fld (pv 0) rfl) (pe_callB call_len_seq rfl T.free boot_len (pa_cons (pe_fld (pv 0) rfl) pa_nil)) (nomark _)) (pss_one (ps_expr (pm0 (pv 0) Y.cls (ok_LineReader_refuse Y) hr passB))) pss_nil)
    (pss_one (ps_ret (pe_ix ix_list (pe_fld (pv 0) rfl) (pe_fld (pv 0) rfl) (fun _ _ => rfl)))), ?_⟩
  refine ⟨_, rfl, r, _, dx, _, .int (k : Nat), rfl, h1.at_, Y.cls, He.noat_ok (T.more 24), rfl, _, rfl, r, _, dx, _, .ref l, rfl, h1.at_, Y.cls, He.noat_ok (T.more 21), rfl, l, _, rfl, .inl (.inl (.inl h1.parts)), (k : Nat), _, rfl, rfl, _, rfl, ite2 (fun hk => ?_) fun hk => ?_⟩
  · refine ⟨_, rfl, r, dx, _, rfl, h1.at_, rfl, r, dx, l, ws, L, F, k, rfl, h1, q2 ?_⟩
    rw [List.getElem?_eq_none_iff]
    simp at hk
    omega
  · have hk2 : k < ws.length := by
      simp at hk
      omega
    refine ⟨_, rfl, r, _, dx, _, .ref l, rfl, h1.at_, Y.cls, He.noat_ok (T.more 21), rfl, _, rfl, r, _, dx, _, .int (k : Nat), rfl, h1.at_, Y.cls, He.noat_ok (T.more 24), rfl, l, _, _, .str ws[k], rfl, rfl, .inl (.inl h1.parts), atI_nat (by simp [hk2]), q1 _ (by simp [hk2])⟩
theorem sc_LineReader_kept : FnScope ["self", "value", "stands"] ["self", "value", "stands"] (defScope s_LineReader_kept) := ⟨rfl, rfl, rfl, by decide +kernel, rfl, by decide +kernel, by decide +kernel⟩
theorem ok_LineReader_kept (Y : TY P K mg) : Mtd P w K mg base 4 (He.ga K "LineReader") "kept" ["self", "value", "stands"] (spKept K) := by
  have T := Y.tx
  refine T.mtd i_LineReader_kept 13 (d := d_LineReader_kept) rfl rfl rfl sc_LineReader_kept (fun _ _ _ _ _ _ us hl => match us, hl with | [_, _, _], _ => rfl) (by rintro vs H Q E ⟨r, dx, l, ws, L, F, k, v, b, rfl, _⟩; rfl) (fun f cdv A outer s H vs Q E hr h => ?_)
  obtain ⟨r, dx, l, ws, L, F, k, v, b, rfl, h1, q1, q2⟩ := h
  refine ⟨_, pss_cons (ps_if (pt_not (pt_val (pv 2))) (pss_one (ps_expr (pm0 (pv 0) Y.cls (ok_LineReader_refuse Y) hr passB))) pss_nil)
    (pss_cons (ps_fldaug (pv 0) pe_int in_add) (pss_one (ps_ret (pv 1)))), ?_⟩
  cases b with
  | false => exact ⟨_, rfl, _, rfl, iteT ⟨_, rfl, r, dx, _, rfl, h1.at_, rfl, r, dx, l, ws, L, F, k, rfl, h1, q2 rfl⟩⟩
  | true => exact ⟨_, rfl, _, rfl, iteF ⟨_, rfl, r, _, dx, _, .int (k : Nat), rfl, h1.at_, Y.cls, He.noat_ok (T.more 24), rfl, (k : Nat), 1, rfl, rfl, dx, _, h1.at_, Nat.le_of_ble_eq_true rfl, v, rfl, q1 rfl⟩⟩
theorem inV_str {al : List Str} {z : Str} : inV (.str z) (al.map V.str) = decide (z ∈ al) := by
  unfold inV
  rw [List.any_map]
  induction al with
  | nil => simp
  | cons a r ih =>
    rw [List.any_cons, ih]
    have : ((fun y => eqV y (V.str z)) ∘ V.str) a = decide (a = z) := by
      show (a == z) = decide (a = z)
      by_cases h : a = z <;> simp [h]
    rw [this]
    by_cases h : a = z
    · simp [h]
    · simp [h, Ne.symm h, eq_comm]
theorem flat_strs {al : List Str} : (al.map V.str).all flatV = true := by
  rw [List.all_map]
  simp [flatV]
theorem sc_LineReader_first : FnScope ["self", "allowed"] ["self", "allowed"] (defScope s_LineReader_first) := ⟨rfl, rfl, rfl, by decide +kernel, rfl, by decide +kernel, by decide +kernel⟩
theorem ok_LineReader_first (Y : TY P K mg) : Mtd P w K mg base 5 (He.ga K "LineReader") "first" ["self", "allowed"] (spFirst K) := by
  have T := Y.tx
  refine T.mtd i_LineReader_first 14 (d := d_LineReader_first) rfl rfl rfl sc_LineReader_first (fun _ _ _ _ _ _ us hl => match us, hl with | [_, _], _ => rfl) (by rintro vs H Q E ⟨r, dx, l, ws, L, F, k, a, al, rfl, _⟩; rfl) (fun f cdv A outer s H vs Q E hr h => ?_)
  obtain ⟨r, dx, l, ws, L, F, k, a, al, rfl, h1, hal, q1, q2⟩ := h
  refine ⟨_, pss_one (ps_ret (pm (pv 0) Y.cls (ok_LineReader_kept Y) hr passB (pa_cons (pm0 (pv 0) Y.cls (ok_LineReader_present Y) hr passB) (pa_cons (pe_cmpR op_in_seq (pm0 (pv 0) Y.cls (ok_LineReader_present Y) hr passB) (pv 1) rfl) pa_nil)))), ?_⟩
  rcases tk_cases (ws := ws) (k := k) (f := rFirst al) with ⟨h, he⟩ | ⟨z, h, hf, he⟩ | ⟨z, b, h, hf, he⟩
  · exact ⟨_, rfl, r, dx, _, rfl, h1.at_, rfl, _, rfl, r, dx, _, rfl, h1.at_, rfl, r, dx, l, ws, L, F, k, rfl, h1, one_no h (q2 _ he)⟩
  · refine ⟨_, rfl, r, dx, _, rfl, h1.at_, rfl, _, rfl, r, dx, _, rfl, h1.at_, rfl, r, dx, l, ws, L, F, k, rfl, h1, one_ok h ⟨_, rfl, r, dx, _, rfl, h1.at_, rfl, r, dx, l, ws, L, F, k, rfl, h1, one_ok h ⟨_, rfl, a, _, rfl, .inr hal, rfl, flat_strs, r, dx, l, ws, L, F, k, _, _, rfl, h1, b_no ?_ (q2 _ he)⟩⟩⟩
    show inV _ _ = false
    rw [inV_str]
    unfold rFirst at hf
    split at hf
    · cases hf
    · rename_i hz
      exact decide_eq_false hz
  · obtain ⟨rfl, hm⟩ := rFirst_ok hf
    refine ⟨_, rfl, r, dx, _, rfl, h1.at_, rfl, _, rfl, r, dx, _, rfl, h1.at_, rfl, r, dx, l, ws, L, F, k, rfl, h1, one_ok h ⟨_, rfl, r, dx, _, rfl, h1.at_, rfl, r, dx, l, ws, L, F, k, rfl, h1, one_ok h ⟨_, rfl, a, _, rfl, .inr hal, rfl, flat_strs, r, dx, l, ws, L, F, k, _, _, rfl, h1, b_ok ?_ (q1 _ he _ (Same.refl _))⟩⟩⟩
    show inV _ _ = true
    rw [inV_str]
    exact decide_eq_true hm
theorem Same.put {H H' : Hp} {a : Addr} {o : HO} (e : Same H H') : Same (upd H a o) (upd H' a o) := fun b u h => by
  by_cases hb : b = a
  · subst hb
    rw [upd_same] at h ⊢
    exact h
  · rw [upd_ne hb] at h ⊢
    exact e _ _ h
theorem sc_LineReader_name : FnScope ["self"] ["self"] (defScope s_LineReader_name) := ⟨rfl, rfl, rfl, by decide +kernel, rfl, by decide +kernel, by decide +kernel⟩
theorem ok_LineReader_name (Y : TY P K mg) : Mtd P w K mg base 5 (He.ga K "LineReader") "name" ["self"] (spTk0 K rName V.str) := by
  have T := Y.tx
  refine T.mtd i_LineReader_name 15 (d := d_LineReader_name) rfl rfl rfl sc_LineReader_name (fun _ _ _ _ _ _ us hl => match us, hl with | [_], _ => rfl) (by rintro vs H Q E ⟨r, dx, l, ws, L, F, k, rfl, _⟩; rfl) (fun f cdv A outer s H vs Q E hr h => ?_)
  obtain ⟨r, dx, l, ws, L, F, k, rfl, h1, hsz, q1, q2⟩ := h
  refine ⟨_, pss_one (ps_ret (pm (pv 0) Y.cls (ok_LineReader_kept Y) hr passB (pa_cons (pm0 (pv 0) Y.cls (ok_LineReader_present Y) hr passB) (pa_cons (pc (ok_is_name T) hr passB (pa_cons (pm0 (pv 0) Y.cls (ok_LineReader_present Y) hr passB) pa_nil)) pa_nil)))), ?_⟩
  rcases tk_cases (ws := ws) (k := k) (f := rName) with ⟨h, he⟩ | ⟨z, h, hf, he⟩ | ⟨z, b, h, hf, he⟩
  · exact ⟨_, rfl, r, dx, _, rfl, h1.at_, rfl, _, rfl, r, dx, _, rfl, h1.at_, rfl, r, dx, l, ws, L, F, k, rfl, h1, one_no h (q2 _ he)⟩
  · refine ⟨_, rfl, r, dx, _, rfl, h1.at_, rfl, _, rfl, r, dx, _, rfl, h1.at_, rfl, r, dx, l, ws, L, F, k, rfl, h1, one_ok h ⟨_, rfl, r, dx, _, rfl, h1.at_, rfl, r, dx, l, ws, L, F, k, rfl, h1, one_ok h ⟨[.str z], _, .cons (.str _) .nil, ⟨z, rfl, hsz _ (List.mem_of_getElem? h), rfl⟩, fun u H2 e2 hu => ?_⟩⟩⟩
    cases hu.blI
    have h2 := h1.same e2
    refine ⟨r, dx, l, ws, L, F, k, _, _, rfl, h2, b_no ?_ fun d H3 nd e3 hd => q2 _ he d H3 (e2.free nd) (e2.trans e3) hd⟩
    unfold rName at hf
    split at hf
    · cases hf
    · rename_i hz
      simpa using hz
  · obtain ⟨rfl, hm⟩ := rName_ok hf
    refine ⟨_, rfl, r, dx, _, rfl, h1.at_, rfl, _, rfl, r, dx, _, rfl, h1.at_, rfl, r, dx, l, ws, L, F, k, rfl, h1, one_ok h ⟨_, rfl, r, dx, _, rfl, h1.at_, rfl, r, dx, l, ws, L, F, k, rfl, h1, one_ok h ⟨[.str b], _, .cons (.str _) .nil, ⟨b, rfl, hsz _ (List.mem_of_getElem? h), rfl⟩, fun u H2 e2 hu => ?_⟩⟩⟩
    cases hu.blI
    have h2 := h1.same e2
    exact ⟨r, dx, l, ws, L, F, k, _, _, rfl, h2, b_ok hm (q1 _ he _ (Same.put e2))⟩
theorem sc_LineReader_place_name : FnScope ["self"] ["self"] (defScope s_LineReader_place_name) := ⟨rfl, rfl, rfl, by decide +kernel, rfl, by decide +kernel, by decide +kernel⟩
theorem ok_LineReader_place_name (Y : TY P K mg) : Mtd P w K mg base 5 (He.ga K "LineReader") "place_name" ["self"] (spTk0 K rPName V.str) := by
  have T := Y.tx
  refine T.mtd i_LineReader_place_name 16 (d := d_LineReader_place_name) rfl rfl rfl sc_LineReader_place_name (fun _ _ _ _ _ _ us hl => match us, hl with | [_], _ => rfl) (by rintro vs H Q E ⟨r, dx, l, ws, L, F, k, rfl, _⟩; rfl) (fun f cdv A outer s H vs Q E hr h => ?_)
  obtain ⟨r, dx, l, ws, L, F, k, rfl, h1, hsz, q1, q2⟩ := h
  refine ⟨_, pss_one (ps_ret (pm (pv 0) Y.cls (ok_LineReader_kept Y) hr passB (pa_cons (pm0 (pv 0) Y.cls (ok_LineReader_present Y) hr passB) (pa_cons (pc (ok_is_place_name T) hr passB (pa_cons (pm0 (pv 0) Y.cls (ok_LineReader_present Y) hr passB) pa_nil)) pa_nil)))), ?_⟩
  rcases tk_cases (ws := ws) (k := k) (f := rPName) with ⟨h, he⟩ | ⟨z, h, hf, he⟩ | ⟨z, b, h, hf, he⟩
  · exact ⟨_, rfl, r, dx, _, rfl, h1.at_, rfl, _, rfl, r, dx, _, rfl, h1.at_, rfl, r, dx, l, ws, L, F, k, rfl, h1, one_no h (q2 _ he)⟩
  · refine ⟨_, rfl, r, dx, _, rfl, h1.at_, rfl, _, rfl, r, dx, _, rfl, h1.at_, rfl, r, dx, l, ws, L, F, k, rfl, h1, one_ok h ⟨_, rfl, r, dx, _, rfl, h1.at_, rfl, r, dx, l, ws, L, F, k, rfl, h1, one_ok h ⟨[.str z], _, .cons (.str _) .nil, ⟨z, rfl, hsz _ (List.mem_of_getElem? h), rfl⟩, fun u H2 e2 hu => ?_⟩⟩⟩
    cases hu.blI
    have h2 := h1.same e2
    refine ⟨r, dx, l, ws, L, F, k, _, _, rfl, h2, b_no ?_ fun d H3 nd e3 hd => q2 _ he d H3 (e2.free nd) (e2.trans e3) hd⟩
    unfold rPName at hf
    split at hf
    · cases hf
    · rename_i hz
      simpa using hz
  · obtain ⟨rfl, hm⟩ := rPName_ok hf
    refine ⟨_, rfl, r, dx, _, rfl, h1.at_, rfl, _, rfl, r, dx, _, rfl, h1.at_, rfl, r, dx, l, ws, L, F, k, rfl, h1, one_ok h ⟨_, rfl, r, dx, _, rfl, h1.at_, rfl, r, dx, l, ws, L, F, k, rfl, h1, one_ok h ⟨[.str b], _, .cons (.str _) .nil, ⟨b, rfl, hsz _ (List.mem_of_getElem? h), rfl⟩, fun u H2 e2 hu => ?_⟩⟩⟩
    cases hu.blI
    have h2 := h1.same e2
    exact ⟨r, dx, l, ws, L, F, k, _, _, rfl, h2, b_ok hm (q1 _ he _ (Same.put e2))⟩
theorem sc_LineReader_other_name : FnScope ["self", "one"] ["self", "one"] (defScope s_LineReader_other_name) := ⟨rfl, rfl, rfl, by decide +kernel, rfl, by decide +kernel, by decide +kernel⟩
theorem ok_LineReader_other_name (Y : TY P K mg) : Mtd P w K mg base 5 (He.ga K "LineReader") "other_name" ["self", "one"] (spOther K) := by
  have T := Y.tx
  refine T.mtd i_LineReader_other_name 17 (d := d_LineReader_other_name) rfl rfl rfl sc_LineReader_other_name (fun _ _ _ _ _ _ us hl => match us, hl with | [_, _], _ => rfl) (by rintro vs H Q E ⟨r, dx, l, ws, L, F, k, one, rfl, _⟩; rfl) (fun f cdv A outer s H vs Q E hr h => ?_)
  obtain ⟨r, dx, l, ws, L, F, k, one, rfl, h1, hsz, q1, q2⟩ := h
  refine ⟨_, pss_one (ps_ret (pm (pv 0) Y.cls (ok_LineReader_kept Y) hr passB (pa_cons (pm0 (pv 0) Y.cls (ok_LineReader_present Y) hr passB) (pa_cons (pe_and (pc (ok_is_name T) hr passB (pa_cons (pm0 (pv 0) Y.cls (ok_LineReader_present Y) hr passB) pa_nil)) (pe_one (pe_cmpR op_ne (pm0 (pv 0) Y.cls (ok_LineReader_present Y) hr passB) (pv 1) (nomark _)))) pa_nil)))), ?_⟩
  rcases tk_cases (ws := ws) (k := k) (f := rOther one) with ⟨h, he⟩ | ⟨z, h, hf, he⟩ | ⟨z, b, h, hf, he⟩
  · exact ⟨_, rfl, r, dx, _, rfl, h1.at_, rfl, _, rfl, r, dx, _, rfl, h1.at_, rfl, r, dx, l, ws, L, F, k, rfl, h1, one_no h (q2 _ he)⟩
  · refine ⟨_, rfl, r, dx, _, rfl, h1.at_, rfl, _, rfl, r, dx, _, rfl, h1.at_, rfl, r, dx, l, ws, L, F, k, rfl, h1, one_ok h ⟨_, rfl, r, dx, _, rfl, h1.at_, rfl, r, dx, l, ws, L, F, k, rfl, h1, one_ok h ⟨[.str z], _, .cons (.str _) .nil, ⟨z, rfl, hsz _ (List.mem_of_getElem? h), rfl⟩, fun u H2 e2 hu => ?_⟩⟩⟩
    cases hu.blI
    have h2 := h1.same e2
    have qq : RzT K L (F + (k : Nat)) H2 E := fun d H3 nd e3 hd => q2 _ he d H3 (e2.free nd) (e2.trans e3) hd
    unfold rOther at hf
    split at hf
    · cases hf
    · rename_i hz
      refine ⟨_, rfl, ite2 (fun hn => ⟨_, rfl, r, dx, _, rfl, h2.at_, rfl, r, dx, l, ws, L, F, k, rfl, h2, one_ok h ⟨_, rfl, rfl, r, dx, l, ws, L, F, k, _, _, rfl, h2, b_no ?_ qq⟩⟩) fun hn => ⟨r, dx, l, ws, L, F, k, _, _, rfl, h2, b_no rfl qq⟩⟩
      simp [hn] at hz
      simp [hz]
  · obtain ⟨rfl, hm, hne⟩ := rOther_ok hf
    refine ⟨_, rfl, r, dx, _, rfl, h1.at_, rfl, _, rfl, r, dx, _, rfl, h1.at_, rfl, r, dx, l, ws, L, F, k, rfl, h1, one_ok h ⟨_, rfl, r, dx, _, rfl, h1.at_, rfl, r, dx, l, ws, L, F, k, rfl, h1, one_ok h ⟨[.str b], _, .cons (.str _) .nil, ⟨b, rfl, hsz _ (List.mem_of_getElem? h), rfl⟩, fun u H2 e2 hu => ?_⟩⟩⟩
    cases hu.blI
    have h2 := h1.same e2
    refine ⟨_, rfl, iteP hm ⟨_, rfl, r, dx, _, rfl, h2.at_, rfl, r, dx, l, ws, L, F, k, rfl, h2, one_ok h ⟨_, rfl, rfl, r, dx, l, ws, L, F, k, _, _, rfl, h2, b_ok ?_ (q1 _ he _ (Same.put e2))⟩⟩⟩
    simp [hne]
theorem sc_LineReader_number : FnScope ["self", "least", "value"] ["self", "least"] (defScope s_LineReader_number) := ⟨rfl, rfl, rfl, by decide +kernel, rfl, by decide +kernel, by decide +kernel⟩
theorem ok_LineReader_number (Y : TY P K mg) : Mtd P w K mg base 5 (He.ga K "LineReader") "number" ["self", "least"] (spNumber K) := by
  have T := Y.tx
  refine T.mtd i_LineReader_number 18 (d := d_LineReader_number) rfl rfl rfl sc_LineReader_number (fun _ _ _ _ _ _ us hl => match us, hl with | [_, _], _ => rfl) (by rintro vs H Q E ⟨r, dx, l, ws, L, F, k, one, rfl, _⟩; rfl) (fun f cdv A outer s H vs Q E hr h => ?_)
  obtain ⟨r, dx, l, ws, L, F, k, least, rfl, h1, hsz, q1, q2⟩ := h
  refine ⟨_, pss_cons (ps_set (i := 2) sc_LineReader_number.nd rfl (.inl rfl) (pc (ok_number_or_none T) hr passB (pa_cons (pm0 (pv 0) Y.cls (ok_LineReader_present Y) hr passB) pa_nil)))
    (pss_one (ps_ret (pm (pv 0) Y.cls (ok_LineReader_kept Y) hr passB (pa_cons (pv 2) (pa_cons (pe_and (pe_cmp (pc_notN (pv 2)) rfl) (pe_one (pe_cmpR op_ge (pv 2) (pv 1) (nomark _)))) pa_nil))))), ?_⟩
  rcases tk_cases (ws := ws) (k := k) (f := rNum least) with ⟨h, he⟩ | ⟨z, h, hf, he⟩ | ⟨z, b, h, hf, he⟩
  · exact ⟨_, rfl, r, dx, _, rfl, h1.at_, rfl, r, dx, l, ws, L, F, k, rfl, h1, one_no h (q2 _ he)⟩
  · refine ⟨_, rfl, r, dx, _, rfl, h1.at_, rfl, r, dx, l, ws, L, F, k, rfl, h1, one_ok h ⟨[.str z], _, .cons (.str _) .nil, ⟨z, rfl, hsz _ (List.mem_of_getElem? h), rfl⟩, fun u H2 e2 hu => ?_⟩⟩
    cases hu.slI
    have h2 := h1.same e2
    have qq : RzT K L (F + (k : Nat)) H2 E := fun d H3 nd e3 hd => q2 _ he d H3 (e2.free nd) (e2.trans e3) hd
    refine ⟨_, rfl, r, dx, _, rfl, h2.at_, rfl, _, rfl, _, rfl, _, rfl, ?_⟩
    cases hn : num? z with
    | none => exact ⟨r, dx, l, ws, L, F, k, _, _, rfl, h2, b_no rfl qq⟩
    | some n =>
      refine iteP (by simp [vSl]) ⟨_, rfl, _, rfl, _, _, rfl, rfl, r, dx, l, ws, L, F, k, _, _, rfl, h2, b_no ?_ qq⟩
      unfold rNum at hf
      rw [hn] at hf
      simp at hf
      exact decide_eq_false (by omega)
  · obtain ⟨hz, hs, hle⟩ := rNum_ok hf
    have hn : num? z = some b := by
      rw [hz]
      exact numS_is hs
    refine ⟨_, rfl, r, dx, _, rfl, h1.at_, rfl, r, dx, l, ws, L, F, k, rfl, h1, one_ok h ⟨[.str z], _, .cons (.str _) .nil, ⟨z, rfl, hsz _ (List.mem_of_getElem? h), rfl⟩, fun u H2 e2 hu => ?_⟩⟩
    rw [hn] at hu
    cases hu.intI
    have h2 := h1.same e2
    exact ⟨_, rfl, r, dx, _, rfl, h2.at_, rfl, _, rfl, _, rfl, _, rfl, iteP rfl ⟨_, rfl, _, rfl, _, _, rfl, rfl, r, dx, l, ws, L, F, k, _, _, rfl, h2, b_ok (decide_eq_true (by omega)) (q1 _ he _ (Same.put e2))⟩⟩
theorem sc_LineReader_slip_value : FnScope ["self", "value"] ["self"] (defScope s_LineReader_slip_value) := ⟨rfl, rfl, rfl, by decide +kernel, rfl, by decide +kernel, by decide +kernel⟩
theorem ok_LineReader_slip_value (Y : TY P K mg) : Mtd P w K mg base 5 (He.ga K "LineReader") "slip_value" ["self"] (spTk0 K rSlip vSl) := by
  have T := Y.tx
  refine T.mtd i_LineReader_slip_value 19 (d := d_LineReader_slip_value) rfl rfl rfl sc_LineReader_slip_value (fun _ _ _ _ _ _ us hl => match us, hl with | [_], _ => rfl) (by rintro vs H Q E ⟨r, dx, l, ws, L, F, k, rfl, _⟩; rfl) (fun f cdv A outer s H vs Q E hr h => ?_)
  obtain ⟨r, dx, l, ws, L, F, k, rfl, h1, hsz, q1, q2⟩ := h
  obtain ⟨t1, hS⟩ := T.strK 0
  refine ⟨_, pss_cons (ps_set (i := 1) sc_LineReader_slip_value.nd rfl (.inl rfl) (pe_ifExp (pt_cmpR op_eq (pm0 (pv 0) Y.cls (ok_LineReader_present Y) hr passB) (gS hS) (nomark _)) pe_non (pc (ok_number_or_none T) hr passB (pa_cons (pm0 (pv 0) Y.cls (ok_LineReader_present Y) hr passB) pa_nil))))
    (pss_one (ps_ret (pm (pv 0) Y.cls (ok_LineReader_kept Y) hr passB (pa_cons (pv 1) (pa_cons (pe_or (pe_cmpR op_eq (pm0 (pv 0) Y.cls (ok_LineReader_present Y) hr passB) (gS hS) (nomark _)) (pe_one (pc (ok_is_amount T) hr passB (pa_cons (pv 1) pa_nil)))) pa_nil))))), ?_⟩
  rcases tk_cases (ws := ws) (k := k) (f := rSlip) with ⟨h, he⟩ | ⟨z, h, hf, he⟩ | ⟨z, b, h, hf, he⟩
  · exact ⟨_, rfl, r, dx, _, rfl, h1.at_, rfl, r, dx, l, ws, L, F, k, rfl, h1, one_no h (q2 _ he)⟩
  · have hz : z ≠ sDash := by
      intro e
      unfold rSlip at hf
      rw [if_pos e] at hf
      cases hf
    have hz2 : ¬ (decide (V.str z = V.str "-")) = true := by
      rw [sDash_is]
      simpa using hz
    refine ⟨_, rfl, r, dx, _, rfl, h1.at_, rfl, r, dx, l, ws, L, F, k, rfl, h1, one_ok h ⟨rfl, _, rfl, iteN hz2 ⟨_, rfl, r, dx, _, rfl, h1.at_, rfl, r, dx, l, ws, L, F, k, rfl, h1, one_ok h ⟨[.str z], _, .cons (.str _) .nil, ⟨z, rfl, hsz _ (List.mem_of_getElem? h), rfl⟩, fun u H2 e2 hu => ?_⟩⟩⟩⟩
    cases hu.slI
    have h2 := h1.same e2
    refine ⟨_, rfl, r, dx, _, rfl, h2.at_, rfl, _, rfl, _, rfl, r, dx, _, rfl, h2.at_, rfl, r, dx, l, ws, L, F, k, rfl, h2, one_ok h ⟨rfl, _, rfl, iteN hz2 ⟨_, rfl, [dSl (num? z)], .bool false, .cons Dp.slM .nil, ?_, fun u H3 e3 hu => ?_⟩⟩⟩
    · cases hn : num? z with
      | none => exact .inr ⟨rfl, rfl⟩
      | some n =>
        refine .inl ⟨_, rfl, ?_⟩
        unfold rSlip at hf
        rw [if_neg hz, hn] at hf
        simp at hf
        simp [hf]
    · cases hu.blI
      have h3 := h2.same e3
      exact ⟨r, dx, l, ws, L, F, k, _, _, rfl, h3, b_no rfl fun d H4 nd e4 hd => q2 _ he d H4 (e2.free (e3.free nd)) (e2.trans (e3.trans e4)) hd⟩
  · obtain ⟨hz, hs⟩ := rSlip_ok hf
    cases b with
    | none =>
      have hz2 : (decide (V.str z = V.str "-")) = true := by
        rw [hz, sDash_is]
        rfl
      exact ⟨_, rfl, r, dx, _, rfl, h1.at_, rfl, r, dx, l, ws, L, F, k, rfl, h1, one_ok h ⟨rfl, _, rfl, iteP hz2 ⟨_, rfl, r, dx, _, rfl, h1.at_, rfl, _, rfl, _, rfl, r, dx, _, rfl, h1.at_, rfl, r, dx, l, ws, L, F, k, rfl, h1, one_ok h ⟨rfl, _, rfl, iteP hz2 ⟨r, dx, l, ws, L, F, k, _, _, rfl, h1, b_ok rfl (q1 _ he _ (Same.refl _))⟩⟩⟩⟩⟩
    | some n =>
      obtain ⟨hp, hs2⟩ := hs n rfl
      have hn : num? z = some n := by
        rw [hz]
        exact numS_is hs2
      have hz1 : z ≠ sDash := by
        intro e
        rw [e, dash_not_num] at hn
        cases hn
      have hz2 : ¬ (decide (V.str z = V.str "-")) = true := by
        rw [sDash_is]
        simpa using hz1
      refine ⟨_, rfl, r, dx, _, rfl, h1.at_, rfl, r, dx, l, ws, L, F, k, rfl, h1, one_ok h ⟨rfl, _, rfl, iteN hz2 ⟨_, rfl, r, dx, _, rfl, h1.at_, rfl, r, dx, l, ws, L, F, k, rfl, h1, one_ok h ⟨[.str z], _, .cons (.str _) .nil, ⟨z, rfl, hsz _ (List.mem_of_getElem? h), rfl⟩, fun u H2 e2 hu => ?_⟩⟩⟩⟩
      rw [hn] at hu
      cases hu.intI
      have h2 := h1.same e2
      refine ⟨_, rfl, r, dx, _, rfl, h2.at_, rfl, _, rfl, _, rfl, r, dx, _, rfl, h2.at_, rfl, r, dx, l, ws, L, F, k, rfl, h2, one_ok h ⟨rfl, _, rfl, iteN hz2 ⟨_, rfl, [.int n], .bool (decide (0 < (n : Int))), .cons (.int _) .nil, .inl ⟨_, rfl, rfl⟩, fun u H3 e3 hu => ?_⟩⟩⟩
      cases hu.blI
      have h3 := h2.same e3
      exact ⟨r, dx, l, ws, L, F, k, _, _, rfl, h3, b_ok (decide_eq_true (by omega)) (q1 _ he _ (Same.put (e2.trans e3)))⟩
theorem sc_LineReader_finish : FnScope ["self"] ["self"] (defScope s_LineReader_finish) := ⟨rfl, rfl, rfl, by decide +kernel, rfl, by decide +kernel, by decide +kernel⟩
theorem ok_LineReader_finish (Y : TY P K mg) : Mtd P w K mg base 4 (He.ga K "LineReader") "finish" ["self"] (spFinish K) := by
  have T := Y.tx
  refine T.mtd i_LineReader_finish 20 (d := d_LineReader_finish) rfl rfl rfl sc_LineReader_finish (fun _ _ _ _ _ _ us hl => match us, hl with | [_], _ => rfl) (by rintro vs H Q E ⟨r, dx, l, ws, L, F, k, rfl, _⟩; rfl) (fun f cdv A outer s H vs Q E hr h => ?_)
  obtain ⟨r, dx, l, ws, L, F, k, rfl, h1, q1, q2⟩ := h
  refine ⟨_, pss_one (ps_if (pt_cmpR op_lt (pe_fld (pv 0) rfl) (pe_callB call_len_seq rfl T.free boot_len (pa_cons (pe_fld (pv 0) rfl) pa_nil)) (nomark _)) (pss_one (ps_expr (pm0 (pv 0) Y.cls (ok_LineReader_refuse Y) hr passB))) pss_nil), ?_⟩
  refine ⟨_, rfl, r, _, dx, _, .int (k : Nat), rfl, h1.at_, Y.cls, He.noat_ok (T.more 24), rfl, _, rfl, r, _, dx, _, .ref l, rfl, h1.at_, Y.cls, He.noat_ok (T.more 21), rfl, l, _, rfl, .inl (.inl (.inl h1.parts)), (k : Nat), _, rfl, rfl, _, rfl, ite2 (fun hk => ?_) fun hk => ?_⟩
  · refine ⟨_, rfl, r, dx, _, rfl, h1.at_, rfl, r, dx, l, ws, L, F, k, rfl, h1, q2 ?_⟩
    simpa using hk
  · refine q1 ?_
    simp at hk
    omega
end
end K12

/-! A line read: __init__, place_taken, way_taken, line_taken, words_behind. -/
namespace K12
open PySem PySem.Spec PyProof.Rows L2
/-- all but r stands -/
def Sb (r : Addr) (H H' : Hp) : Prop := ∀ b u, b ≠ r → H b = some u → H' b = some u
theorem Sb.refl {r : Addr} (H : Hp) : Sb r H H := fun _ _ _ h => h
theorem Sb.trans {r : Addr} {H H1 H2 : Hp} (a : Sb r H H1) (b : Sb r H1 H2) : Sb r H H2 := fun c u hc h => b c u hc (a c u hc h)
theorem Sb.of {r : Addr} {H H' : Hp} (e : Same H H') : Sb r H H' := fun b u _ h => e b u h
theorem Sb.put {r : Addr} {H : Hp} {o : HO} : Sb r H (upd H r o) := fun b u hb h => by
  rw [upd_ne hb]
  exact h
theorem Sb.free {r : Addr} {H H' : Hp} {d : Addr} (e : Sb r H H') (hr : ∃ o, H' r = some o) (h : H' d = none) : H d = none := by
  cases hd : H d with
  | none => rfl
  | some u =>
    by_cases z : d = r
    · subst z
      obtain ⟨o, ho⟩ := hr
      rw [ho] at h
      cases h
    · rw [e d u z hd] at h
      cases h
/-- the error, whatever became of r -/
def RzS (K : PySem.W.Frag) (r : Addr) (l f : Int) (H : Hp) (E : XK) : Prop := ∀ d H3, H d = none → Sb r H H3 → H3 d = some (.xd [("field", .int f), ("line", .int l)]) → E (.ref (cTx K)) (some d) H3
theorem RzS.to {K : PySem.W.Frag} {r : Addr} {l f : Int} {H H1 : Hp} {E : XK} (z : RzS K r l f H E) (e : Sb r H H1) (hr : ∃ o, H1 r = some o) : RzT K l f H1 E := fun d H3 nd s hd => z d H3 (e.free hr nd) (e.trans (.of s)) hd
theorem RzS.mk {K : PySem.W.Frag} {r : Addr} {l f : Int} {H H1 : Hp} {E : XK} (z : RzS K r l f H E) (e : Sb r H H1) (hr : ∃ o, H1 r = some o) : RzS K r l f H1 E := fun d H3 nd s hd => z d H3 (e.free hr nd) (e.trans s) hd
/-- reads from a reader at r -/
def spR {α : Type} (K : PySem.W.Frag) (g : List Str → Except Nat α) (dat : α → PyData) (k kk : Nat) : Sp := fun vs H Q E => ∃ r dx l ws L F, vs = [.ref r] ∧ Rd' K H r dx l ws L F k ∧ (∀ w ∈ ws, w.length ≤ sizeLine) ∧
  (∀ a, g ws = .ok a → ∀ v H', Sb r H H' → Rd' K H' r dx l ws L F kk → Dp K H' v (dat a) → Q v H') ∧ ∀ e, g ws = .error e → RzS K r L (F + (e : Nat)) H E
def spLInit (K : PySem.W.Frag) : Sp := fun vs H Q _ => ∃ x dx t L F, vs = [.ref x, .str t, .int L, .int F] ∧ H x = some (.ins (cLR K) dx []) ∧ t.length + 2 ≤ sizeLine ∧ ∀ l, H l = none → Q .non (upd (upd H l (.lst ((wordsOf t).map V.str))) x (.ins (cLR K) dx (rfs l L F 0)))
theorem tk_line {α β : Type} {ws : List Str} {k : Nat} {f : Str → Option α} {g : α → Except Nat β} : (∃ a, tk ws k f = .ok a) ∨ tk ws k f = .error k := by
  rcases tk_cases (ws := ws) (k := k) (f := f) with ⟨_, h⟩ | ⟨_, _, _, h⟩ | ⟨_, a, _, _, h⟩
  · exact .inr h
  · exact .inr h
  · exact .inl ⟨a, h⟩
theorem tk_or {α : Type} {ws : List Str} {k : Nat} {f : Str → Option α} : (∃ a, tk ws k f = .ok a) ∨ tk ws k f = .error k := tk_line (β := Nat) (g := fun _ => .ok 0)
section
variable {P : Program} {w : World} {K : PySem.W.Frag} {mg : Str → Option Value} {base : Heap}
theorem sc_LineReader_init : FnScope ["self", "text", "line", "field"] ["self", "text", "line", "field"] (defScope s_LineReader_init) := ⟨rfl, rfl, rfl, by decide +kernel, rfl, by decide +kernel, by decide +kernel⟩
theorem ok_LineReader_init (Y : TY P K mg) : Mtd P w K mg base 1 (He.ga K "LineReader") "__init__" ["self", "text", "line", "field"] (spLInit K) := by
  have T := Y.tx
  refine T.mtd i_LineReader_init 10 (d := d_LineReader_init) rfl rfl rfl sc_LineReader_init (fun _ _ _ _ _ _ us hl => match us, hl with | [_, _, _, _], _ => rfl) (by rintro vs H Q E ⟨x, dx, t, L, F, rfl, _⟩; rfl) (fun f cdv A outer s H vs Q E hr h => ?_)
  obtain ⟨x, dx, t, L, F, rfl, hx, hz, q⟩ := h
  refine ⟨_, pss_cons (ps_fld (pv 0) (pe_split (pv 1) (pS sp_is)) rfl) (pss_cons (ps_fld (pv 0) (pv 2) rfl) (pss_cons (ps_fld (pv 0) (pv 3) rfl) (pss_one (ps_fld (pv 0) pe_int rfl)))), ?_⟩
  refine ⟨_, rfl, ⟨_, rfl⟩, t, sp, rfl, rfl, rfl, hz, fun l nl => ?_⟩
  have hl : x ≠ l := ne_of_none hx nl
  refine ⟨_, rfl, x, cLR K, dx, _, rfl, by rw [upd_ne hl]; exact hx, Y.cls, He.noat_ok (T.more 21), Nat.le_of_ble_eq_true rfl, ?_⟩
  refine ⟨_, rfl, _, rfl, x, cLR K, dx, _, rfl, upd_same, Y.cls, He.noat_ok (T.more 22), Nat.le_of_ble_eq_true rfl, ?_⟩
  refine ⟨_, rfl, _, rfl, x, cLR K, dx, _, rfl, upd_same, Y.cls, He.noat_ok (T.more 23), Nat.le_of_ble_eq_true rfl, ?_⟩
  refine ⟨_, rfl, x, cLR K, dx, _, rfl, upd_same, Y.cls, He.noat_ok (T.more 24), Nat.le_of_ble_eq_true rfl, ?_⟩
  have z := q l nl
  rw [upd_upd, upd_upd, upd_upd]
  exact z
theorem sc_place_taken : FnScope ["reader", "name", "stock"] ["reader"] (defScope s_place_taken) := ⟨rfl, rfl, rfl, by decide +kernel, rfl, by decide +kernel, by decide +kernel⟩
theorem ok_place_taken (Y : TY P K mg) : Cal P w K mg base 6 "place_taken" ["reader"] (spR K rPlace dPl 1 4) := by
  have T := Y.tx
  refine T.def_ i_place_taken (d := d_place_taken) rfl rfl sc_place_taken (fun _ _ _ _ _ _ us hl => match us, hl with | [_], _ => rfl) (by rintro vs H Q E ⟨r, dx, l, ws, L, F, rfl, _⟩; rfl) (fun f cdv A outer s H vs Q E hr h => ?_)
  obtain ⟨r, dx, l, ws, L, F, rfl, h1, hsz, q1, q2⟩ := h
  have nd := sc_place_taken.nd
  refine ⟨_, pss_cons (ps_set (i := 1) nd rfl (.inl rfl) (pm0 (pv 0) Y.cls (ok_LineReader_place_name Y) hr passB)) (pss_cons (ps_set (i := 2) nd rfl (.inl rfl) (pm (pv 0) Y.cls (ok_LineReader_number Y) hr passB (pa_cons pe_int pa_nil)))
    (pss_one (ps_ret (pe_tup (pa_cons (pv 1) (pa_cons (pv 2) (pa_cons (pm (pv 0) Y.cls (ok_LineReader_number Y) hr passB (pa_cons (pv 2) pa_nil)) pa_nil))))))), ?_⟩
  refine ⟨_, rfl, r, dx, _, rfl, h1.at_, rfl, r, dx, l, ws, L, F, 1, rfl, h1, hsz, fun a ha H2 e2 => ?_, fun e he => (q2 1 ?_).to (.refl _) ⟨_, h1.at_⟩⟩
  rotate_left
  · unfold rPlace
    rcases tk_or (ws := ws) (k := 1) (f := rPName) with ⟨a, z⟩ | z
    · rw [z] at he
      cases he
    · rw [z]
  have h2 : Rd' K H2 r dx l ws L F 2 := h1.nxt.same e2
  have s2 : Sb r H H2 := Sb.put.trans (.of e2)
  refine ⟨_, rfl, r, dx, _, rfl, h2.at_, rfl, r, dx, l, ws, L, F, 2, 0, rfl, h2, hsz, fun b hb H3 e3 => ?_, fun e he => (q2 2 ?_).to s2 ⟨_, h2.at_⟩⟩
  rotate_left
  · unfold rPlace
    rw [ha]
    rcases tk_or (ws := ws) (k := 2) (f := rNum 0) with ⟨a, z⟩ | z
    · rw [z] at he
      cases he
    · simp only [z]
  have h3 : Rd' K H3 r dx l ws L F 3 := h2.nxt.same e3
  have s3 : Sb r H H3 := s2.trans (Sb.put.trans (.of e3))
  refine ⟨_, rfl, _, rfl, _, rfl, r, dx, _, rfl, h3.at_, rfl, _, rfl, r, dx, l, ws, L, F, 3, b, rfl, h3, hsz, fun c hc H4 e4 => ?_, fun e he => (q2 3 ?_).to s3 ⟨_, h3.at_⟩⟩
  rotate_left
  · unfold rPlace
    rw [ha]
    simp only [hb]
    rcases tk_or (ws := ws) (k := 3) (f := rNum b) with ⟨a, z⟩ | z
    · rw [z] at he
      cases he
    · simp only [z]
  have h4 : Rd' K H4 r dx l ws L F 4 := h3.nxt.same e4
  have s4 : Sb r H H4 := s3.trans (Sb.put.trans (.of e4))
  refine ⟨Nat.le_of_ble_eq_true rfl, fun p np => q1 (a, b, c) ?_ _ _ (s4.trans (.of (Same.new np))) (h4.same (Same.new np)) (Dp.plM (.inl (.inl upd_same)))⟩
  unfold rPlace
  rw [ha]
  simp only [hb, hc]
theorem sc_way_taken : FnScope ["reader", "one", "other"] ["reader"] (defScope s_way_taken) := ⟨rfl, rfl, rfl, by decide +kernel, rfl, by decide +kernel, by decide +kernel⟩
theorem ok_way_taken (Y : TY P K mg) : Cal P w K mg base 6 "way_taken" ["reader"] (spR K rWay dWy 1 4) := by
  have T := Y.tx
  refine T.def_ i_way_taken (d := d_way_taken) rfl rfl sc_way_taken (fun _ _ _ _ _ _ us hl => match us, hl with | [_], _ => rfl) (by rintro vs H Q E ⟨r, dx, l, ws, L, F, rfl, _⟩; rfl) (fun f cdv A outer s H vs Q E hr h => ?_)
  obtain ⟨r, dx, l, ws, L, F, rfl, h1, hsz, q1, q2⟩ := h
  have nd := sc_way_taken.nd
  refine ⟨_, pss_cons (ps_set (i := 1) nd rfl (.inl rfl) (pm0 (pv 0) Y.cls (ok_LineReader_name Y) hr passB)) (pss_cons (ps_set (i := 2) nd rfl (.inl rfl) (pm (pv 0) Y.cls (ok_LineReader_other_name Y) hr passB (pa_cons (pv 1) pa_nil)))
    (pss_one (ps_ret (pe_tup (pa_cons (pv 1) (pa_cons (pv 2) (pa_cons (pm (pv 0) Y.cls (ok_LineReader_number Y) hr passB (pa_cons pe_int pa_nil)) pa_nil))))))), ?_⟩
  refine ⟨_, rfl, r, dx, _, rfl, h1.at_, rfl, r, dx, l, ws, L, F, 1, rfl, h1, hsz, fun a ha H2 e2 => ?_, fun e he => (q2 1 ?_).to (.refl _) ⟨_, h1.at_⟩⟩
  rotate_left
  · unfold rWay
    rcases tk_or (ws := ws) (k := 1) (f := rName) with ⟨a, z⟩ | z
    · rw [z] at he
      cases he
    · rw [z]
  have h2 : Rd' K H2 r dx l ws L F 2 := h1.nxt.same e2
  have s2 : Sb r H H2 := Sb.put.trans (.of e2)
  refine ⟨_, rfl, r, dx, _, rfl, h2.at_, rfl, _, rfl, r, dx, l, ws, L, F, 2, a, rfl, h2, hsz, fun b hb H3 e3 => ?_, fun e he => (q2 2 ?_).to s2 ⟨_, h2.at_⟩⟩
  rotate_left
  · unfold rWay
    rw [ha]
    rcases tk_or (ws := ws) (k := 2) (f := rOther a) with ⟨a, z⟩ | z
    · rw [z] at he
      cases he
    · simp only [z]
  have h3 : Rd' K H3 r dx l ws L F 3 := h2.nxt.same e3
  have s3 : Sb r H H3 := s2.trans (Sb.put.trans (.of e3))
  refine ⟨_, rfl, _, rfl, _, rfl, r, dx, _, rfl, h3.at_, rfl, r, dx, l, ws, L, F, 3, 1, rfl, h3, hsz, fun c hc H4 e4 => ?_, fun e he => (q2 3 ?_).to s3 ⟨_, h3.at_⟩⟩
  rotate_left
  · unfold rWay
    rw [ha]
    simp only [hb]
    rcases tk_or (ws := ws) (k := 3) (f := rNum 1) with ⟨a, z⟩ | z
    · rw [z] at he
      cases he
    · simp only [z]
  have h4 : Rd' K H4 r dx l ws L F 4 := h3.nxt.same e4
  have s4 : Sb r H H4 := s3.trans (Sb.put.trans (.of e4))
  refine ⟨Nat.le_of_ble_eq_true rfl, fun p np => q1 (a, b, c) ?_ _ _ (s4.trans (.of (Same.new np))) (h4.same (Same.new np)) (Dp.wyM (.inl (.inl upd_same)))⟩
  unfold rWay
  rw [ha]
  simp only [hb, hc]
end
end K12

/-! line_taken, words_behind. -/
namespace K12
open PySem PySem.Spec PyProof.Rows L2
/-- the next line's words -/
def fBehind : List PyData → PyData → Prop := fun ds d => ∃ h : Str, (h = sPlace ∨ h = sWay ∨ h = sSlip ∨ h = sMove ∨ h = sCount) ∧ ds = [.str h] ∧ d = .tuple ((behind h).map .str)
def spLine (K : PySem.W.Frag) : Sp := fun vs H Q E => ∃ r dx l ws L F a al, vs = [.ref r, .ref a] ∧ Rd' K H r dx l ws L F 0 ∧ SqT K H a (al.map V.str) ∧ okAl al ∧ (∀ w ∈ ws, w.length ≤ sizeLine) ∧
  (∀ it, rLine al ws = .ok it → ∀ v H', Sb r H H' → Dp K H' v (dFound it) → Q v H') ∧ ∀ e, rLine al ws = .error e → RzS K r L (F + (e : Nat)) H E
theorem gR {X : Cx} {x : Str} {a : Addr} {pos : Pos} (h : X.mg x = some (.ref a)) (hg : Gl X x := by rfl) (hd : (x == ("__debug__" : Str)) = false := by decide) : PE X (.Name x pos) (tC (.ref a)) := pe_glob (v := .ref a) hg h rfl hd
theorem thenF_err {α : Type} {x : Except Nat α} {ws : List Str} {k e : Nat} {g : α → Item} (h : x = .error e) : thenF x ws k g = .error e := by
  rw [h]
  rfl
theorem thenF_go {α : Type} {x : Except Nat α} {ws : List Str} {k : Nat} {g : α → Item} {a : α} (h : x = .ok a) : thenF x ws k g = fin ws k (g a) := by
  rw [h]
  rfl
theorem fin_no {α : Type} {ws : List Str} {k : Nat} {x : α} (h : k < ws.length) : fin ws k x = .error k := if_pos h
section
variable {P : Program} {w : World} {K : PySem.W.Frag} {mg : Str → Option Value} {base : Heap}
theorem sc_words_behind : FnScope ["word"] ["word"] (defScope s_words_behind) := ⟨rfl, rfl, rfl, by decide +kernel, rfl, by decide +kernel, by decide +kernel⟩
theorem ok_words_behind (Y : TY P K mg) : Cal P w K mg base 1 "words_behind" ["word"] (Pur K fBehind) := by
  have T := Y.tx
  refine T.def_ i_words_behind (d := d_words_behind) rfl rfl sc_words_behind (fun _ _ _ _ _ _ us hl => match us, hl with | [_], _ => rfl) (pur_len fun ds d h => by obtain ⟨z, _, rfl, _⟩ := h; rfl) (fun f cdv A outer s H vs Q E hr h => ?_)
  obtain ⟨ds, d, hds, ⟨z, hz, rfl, rfl⟩, q⟩ := h
  obtain ⟨v, rfl, hv⟩ := hds.one
  cases hv.strI
  have hp := Y.rowsG
  have G := Y.rowsT
  refine ⟨_, pss_one (ps_match (pv 0) (pm_str (pss_one (ps_ret (pe_tup (pa_cons (pS sPlace_is) (pa_cons (pS sWay_is) (pa_cons (pS sSlip_is) pa_nil)))))) (pm_str (pss_one (ps_ret (pe_tup (pa_cons (pS sWay_is) (pa_cons (pS sSlip_is) pa_nil))))) (pm_any (pss_one (ps_ret (gR hp))))))), ?_⟩
  refine ⟨_, rfl, z, rfl, ite2 (fun h1 => ⟨Nat.le_of_ble_eq_true rfl, fun p np => q _ _ (Same.new np) ?_⟩) fun h1 => ite2 (fun h2 => ⟨Nat.le_of_ble_eq_true rfl, fun p np => q _ _ (Same.new np) ?_⟩) fun h2 => q _ _ (Same.refl _) ?_⟩
  · rw [sPlace_is] at h1
    rw [h1, bPlace]
    exact .tup (.inl (.inl upd_same)) (Dp.strs [sPlace, sWay, sSlip])
  · rw [sWay_is] at h2
    rw [h2, bWay]
    exact .tup (.inl (.inl upd_same)) (Dp.strs [sWay, sSlip])
  · rw [sPlace_is] at h1
    rw [sWay_is] at h2
    unfold behind
    rw [if_neg h1, if_neg h2]
    exact .tup (G H) (Dp.strs _)
theorem sc_line_taken : FnScope ["reader", "allowed", "found", "place"] ["reader", "allowed"] (defScope s_line_taken) := ⟨rfl, rfl, rfl, by decide +kernel, rfl, by decide +kernel, by decide +kernel⟩
theorem ok_line_taken (Y : TY P K mg) : Cal P w K mg base 7 "line_taken" ["reader", "allowed"] (spLine K) := by
  have T := Y.tx
  refine T.def_ i_line_taken (d := d_line_taken) rfl rfl sc_line_taken (fun _ _ _ _ _ _ us hl => match us, hl with | [_, _], _ => rfl) (by rintro vs H Q E ⟨r, dx, l, ws, L, F, a, al, rfl, _⟩; rfl) (fun f cdv A outer s H vs Q E hr h => ?_)
  obtain ⟨r, dx, l, ws, L, F, a, al, rfl, h1, hal, hok, hsz, q1, q2⟩ := h
  have nd := sc_line_taken.nd
  refine ⟨_, pss_cons (ps_match (pm (pv 0) Y.cls (ok_LineReader_first Y) hr passB (pa_cons (pv 1) pa_nil))
    (pm_str (pss_one (ps_set (i := 2) nd rfl (.inl rfl) (pe_tup (pa_cons (pS sPlace_is) (pa_cons (pc (ok_place_taken Y) hr passB (pa_cons (pv 0) pa_nil)) pa_nil)))))
    (pm_str (pss_one (ps_set (i := 2) nd rfl (.inl rfl) (pe_tup (pa_cons (pS sWay_is) (pa_cons (pc (ok_way_taken Y) hr passB (pa_cons (pv 0) pa_nil)) pa_nil)))))
    (pm_str (pss_one (ps_set (i := 2) nd rfl (.inl rfl) (pe_tup (pa_cons (pS sSlip_is) (pa_cons (pm0 (pv 0) Y.cls (ok_LineReader_slip_value Y) hr passB) pa_nil)))))
    (pm_str (pss_one (ps_set (i := 2) nd rfl (.inl rfl) (pe_tup (pa_cons (pS sMove_is) (pa_cons (pe_tup (pa_cons (pS sMove_is) (StX.pa_star (pc (ok_way_taken Y) hr passB (pa_cons (pv 0) pa_nil)) pa_nil))) pa_nil)))))
    (pm_any (pss_cons (ps_set (i := 3) nd rfl (.inl rfl) (pm0 (pv 0) Y.cls (ok_LineReader_place_name Y) hr passB)) (pss_one (ps_set (i := 2) nd rfl (.inl rfl) (pe_tup (pa_cons (pS sCount_is) (pa_cons (pe_tup (pa_cons (pS sCount_is) (pa_cons (pv 3) (pa_cons (pm (pv 0) Y.cls (ok_LineReader_number Y) hr passB (pa_cons pe_int pa_nil)) pa_nil)))) pa_nil))))))))))))
    (pss_cons (ps_expr (pm0 (pv 0) Y.cls (ok_LineReader_finish Y) hr passB)) (pss_one (ps_ret (pv 2)))), ?_⟩
  have tail : ∀ (H1 : Hp) (k : Nat) (it : Item) (v : V) (σ1 : L2.St), Sb r H H1 → Rd' K H1 r dx l ws L F k → σ1[0]? = some (some (.ref r)) → σ1[2]? = some (some v) → Dp K H1 v (dFound it) → rLine al ws = fin ws k it →
      tSeq (tDrop (tMeth (cLR K) "finish" (spFinish K) [] E (tVar 0) tNil)) (tRet (tVar 2)) { nx := fun x H' => Q V.non H', rt := Q } σ1 H1 := fun H1 k it v σ1 s1 hR g0 g2 hd he =>
    ⟨_, g0, r, dx, _, rfl, hR.at_, rfl, r, dx, l, ws, L, F, k, rfl, hR, fun hle => ⟨v, g2, q1 it (he.trans (fin_is hle)) v H1 s1 hd⟩, fun hlt => (q2 k (he.trans (fin_no hlt))).to s1 ⟨_, hR.at_⟩⟩
  refine ⟨_, rfl, r, dx, _, rfl, h1.at_, rfl, _, rfl, r, dx, l, ws, L, F, 0, a, al, rfl, h1, hal, fun hw hhw H2 e2 => ?_, fun e he => (q2 0 ?_).to (.refl _) ⟨_, h1.at_⟩⟩
  rotate_left
  · unfold rLine
    rcases tk_or (ws := ws) (k := 0) (f := rFirst al) with ⟨a, z⟩ | z
    · rw [z] at he
      cases he
    · rw [z]
  have h2 : Rd' K H2 r dx l ws L F 1 := h1.nxt.same e2
  have s2 : Sb r H H2 := Sb.put.trans (.of e2)
  have hL : rLine al ws = rRest hw ws := by
    unfold rLine
    rw [hhw]
  obtain ⟨kn1, kn2, kn3, kn4, kn5, kn6, kn7, kn8, kn9, kn10, kn11, kn12, kn13, kn14, kn15, kn16⟩ := key_ne
  obtain ⟨w0, hw0, hf0⟩ := tk_ok hhw
  obtain ⟨rfl, hm⟩ := rFirst_ok hf0
  rcases hok _ hm with rfl | rfl | rfl | rfl | rfl
  · have hL2 : rLine al ws = thenF (rPlace ws) ws 4 .place := by rw [hL]; exact if_pos rfl
    refine ⟨sPlace, rfl, iteP sPlace_is.symm ⟨_, rfl, r, dx, l, ws, L, F, rfl, h2, hsz, fun p hp v H3 s3 h3 hd => ?_, fun e he => (q2 e (hL2.trans (thenF_err he))).mk s2 ⟨_, h2.at_⟩⟩⟩
    refine ⟨Nat.le_of_ble_eq_true rfl, fun t nt => tail _ 4 (.place p) _ _ ((s2.trans s3).trans (.of (Same.new nt))) (h3.same (Same.new nt)) rfl rfl ?_ (hL2.trans (thenF_go hp))⟩
    exact .tup (.inl (.inl upd_same)) (.cons (.str _) (.cons (Dp.same (Same.new nt) hd) .nil))
  · have hL2 : rLine al ws = thenF (rWay ws) ws 4 .way := by
      rw [hL]
      unfold rRest
      rw [if_neg kn11, if_pos rfl]
    refine ⟨sWay, rfl, iteN (by rw [sPlace_is]; exact kn11) (iteP sWay_is.symm ⟨_, rfl, r, dx, l, ws, L, F, rfl, h2, hsz, fun p hp v H3 s3 h3 hd => ?_, fun e he => (q2 e (hL2.trans (thenF_err he))).mk s2 ⟨_, h2.at_⟩⟩)⟩
    refine ⟨Nat.le_of_ble_eq_true rfl, fun t nt => tail _ 4 (.way p) _ _ ((s2.trans s3).trans (.of (Same.new nt))) (h3.same (Same.new nt)) rfl rfl ?_ (hL2.trans (thenF_go hp))⟩
    exact .tup (.inl (.inl upd_same)) (.cons (.str _) (.cons (Dp.same (Same.new nt) hd) .nil))
  · have hL2 : rLine al ws = thenF (tk ws 1 rSlip) ws 2 .slip := by
      rw [hL]
      unfold rRest
      rw [if_neg kn12, if_neg kn13, if_pos rfl]
    refine ⟨sSlip, rfl, iteN (by rw [sPlace_is]; exact kn12) (iteN (by rw [sWay_is]; exact kn13) (iteP sSlip_is.symm ⟨_, rfl, r, dx, _, rfl, h2.at_, rfl, r, dx, l, ws, L, F, 1, rfl, h2, hsz, fun p hp H3 e3 => ?_, fun e he => (q2 1 (hL2.trans (thenF_err ?_))).to s2 ⟨_, h2.at_⟩⟩))⟩
    · have s3 : Sb r H H3 := s2.trans (Sb.put.trans (.of e3))
      have h3 : Rd' K H3 r dx l ws L F 2 := h2.nxt.same e3
      refine ⟨Nat.le_of_ble_eq_true rfl, fun t nt => tail _ 2 (.slip p) _ _ (s3.trans (.of (Same.new nt))) (h3.same (Same.new nt)) rfl rfl ?_ (hL2.trans (thenF_go hp))⟩
      exact .tup (.inl (.inl upd_same)) (.cons (.str _) (.cons Dp.slM .nil))
    · rcases tk_or (ws := ws) (k := 1) (f := rSlip) with ⟨a, z⟩ | z
      · rw [z] at he
        cases he
      · exact z
  · have hL2 : rLine al ws = thenF (rWay ws) ws 4 fun w => .row (.move w.1 w.2.1 w.2.2) := by
      rw [hL]
      unfold rRest
      rw [if_neg kn14, if_neg kn15, if_neg kn16, if_pos rfl]
    refine ⟨sMove, rfl, iteN (by rw [sPlace_is]; exact kn14) (iteN (by rw [sWay_is]; exact kn15) (iteN (by rw [sSlip_is]; exact kn16) (iteP sMove_is.symm ⟨_, rfl, r, dx, l, ws, L, F, rfl, h2, hsz, fun p hp v H3 s3 h3 hd => ?_, fun e he => (q2 e (hL2.trans (thenF_err he))).mk s2 ⟨_, h2.at_⟩⟩)))⟩
    obtain ⟨ap, rfl, hap⟩ := hd.wyI
    refine ⟨ap, _, rfl, .inl hap, Nat.le_of_ble_eq_true rfl, fun t nt => ⟨Nat.le_of_ble_eq_true rfl, fun t2 nt2 => tail _ 4 (.row (.move p.1 p.2.1 p.2.2)) _ _ ((s2.trans s3).trans (.of ((Same.new nt).trans (Same.new nt2)))) (h3.same ((Same.new nt).trans (Same.new nt2))) rfl rfl ?_ (hL2.trans (thenF_go hp))⟩⟩
    refine .tup (.inl (.inl upd_same)) (.cons (.str _) (.cons (Dp.same (Same.new nt2) (Dp.rwM (r := .move p.1 p.2.1 p.2.2) (.inl (.inl upd_same)))) .nil))
  · have hL2 : rLine al ws = thenF (rCnt ws) ws 3 .row := by
      rw [hL]
      unfold rRest
      rw [if_neg kn7, if_neg kn8, if_neg kn9, if_neg kn10]
    refine ⟨sCount, rfl, iteN (by rw [sPlace_is]; exact kn7) (iteN (by rw [sWay_is]; exact kn8) (iteN (by rw [sSlip_is]; exact kn9) (iteN (by rw [sMove_is]; exact kn10) ⟨_, rfl, r, dx, _, rfl, h2.at_, rfl, r, dx, l, ws, L, F, 1, rfl, h2, hsz, fun p hp H3 e3 => ?_, fun e he => (q2 1 (hL2.trans (thenF_err ?_))).to s2 ⟨_, h2.at_⟩⟩)))⟩
    · have s3 : Sb r H H3 := s2.trans (Sb.put.trans (.of e3))
      have h3 : Rd' K H3 r dx l ws L F 2 := h2.nxt.same e3
      refine ⟨_, rfl, _, rfl, r, dx, _, rfl, h3.at_, rfl, r, dx, l, ws, L, F, 2, 0, rfl, h3, hsz, fun n hn H4 e4 => ?_, fun e he => (q2 2 (hL2.trans (thenF_err ?_))).to s3 ⟨_, h3.at_⟩⟩
      · have s4 : Sb r H H4 := s3.trans (Sb.put.trans (.of e4))
        have h4 : Rd' K H4 r dx l ws L F 3 := h3.nxt.same e4
        refine ⟨Nat.le_of_ble_eq_true rfl, fun t nt => ⟨Nat.le_of_ble_eq_true rfl, fun t2 nt2 => tail _ 3 (.row (.count p n)) _ _ (s4.trans (.of ((Same.new nt).trans (Same.new nt2)))) (h4.same ((Same.new nt).trans (Same.new nt2))) rfl rfl ?_ (hL2.trans (thenF_go ?_))⟩⟩
        · refine .tup (.inl (.inl upd_same)) (.cons (.str _) (.cons (Dp.same (Same.new nt2) (Dp.rwM (r := .count p n) (.inl (.inl upd_same)))) .nil))
        · unfold rCnt
          rw [hp]
          simp only [hn]
      · unfold rCnt
        rw [hp]
        rcases tk_or (ws := ws) (k := 2) (f := rNum 0) with ⟨a, z⟩ | z
        · rw [z] at he
          cases he
        · simp only [z]
    · unfold rCnt
      rcases tk_or (ws := ws) (k := 1) (f := rPName) with ⟨a, z⟩ | z
      · rw [z] at he
        cases he
      · simp only [z]
end
end K12

/-! x, *y = a tuple. -/
namespace K12
open PySem PySem.Spec PyProof.Rows L2
section
variable {prog : Program} {w : World} {A : Around} {E : Value → Shared → Prop} {s : Shared}
theorem un_star {t : Addr} {its : Array Value} {Q : List Value → Shared → Prop} (ht : IsTup s.heap t its) (hh : A.handled = none) (h1 : 1 ≤ its.size) (hz : its.size ≤ sizeLine)
    (h : ∀ (h' : Heap) (tk : Nat), (∀ b o, s.heap.get? b = some o → h'.get? b = some o) → Q (its.toList.take 1 ++ [.ref h'.objs.size]) { s with heap := h'.push { cls := .type "list", data := .seq (its.toList.drop 1).toArray }, toks := tk }) : wpAny (model prog w) A (unpackItems (.ref t) 2 (some 1)) Q E s := by
  have n1 : t ≠ s.heap.objs.size := by
    obtain ⟨o, ho, _⟩ := ht
    exact Nat.ne_of_lt (Heap.lt_size ho)
  unfold unpackItems
  refine wpAny_bind ?_
  unfold notIterableAtAll
  refine wpAny_bind (wpAny_specialOf ht.typeIs slot_tuple_iter.lookup (wpAny_pure ?_))
  simp only [Bool.false_eq_true, if_false]
  refine wpAny_bind (wpAny_holding (iter_tuple ht (wpAny_bind (wpAny_holding (draw_tuple n1 1 0 _ _ ⟨_, Heap.get?_push_size _ rfl, rfl, rfl⟩ (ht.push _) (by omega) fun g1 hg1 hs1 => ?_)))))
  have ht1 : IsTup g1 t its := (ht.push _).extBut hs1.extBut n1
  rw [Nat.zero_add] at hg1
  have hg2 := hg1
  obtain ⟨oi, hoi, _⟩ := hg2
  have ht2 := ht1
  obtain ⟨ol, hol, _⟩ := ht2
  rw [List.drop_zero]
  have hf1 : (its.toList.take 1).length = 1 := by
    rw [List.length_take, Array.length_toList]
    omega
  rw [if_neg (show ¬ ((its.toList.take 1).length < 1) by omega)]
  refine wpAny_bind (wpAny_holding (PySem.W.kun_collect (s := { s with heap := g1 }) (T := "tuple_iterator") (.inr (.inr (.inr rfl))) (Walks.tuple (A := A.in1) hh s.heap.objs.size t n1 its) (fun j u st => st.1.typeIs) (k := 1) h1 ⟨hg1, ht1⟩ (Heap.lt_size hoi) (Heap.lt_size hol) (fun g3 tk hk => ?_) hz))
  show wpAny _ _ (if (its.toList.drop 1).length < 0 then _ else _) _ _ _
  rw [if_neg (Nat.not_lt_zero _)]
  show wpAny _ _ (newList ((its.toList.drop 1).take ((its.toList.drop 1).length - 0)) >>= fun d => pure (its.toList.take 1 ++ [d] ++ (its.toList.drop 1).drop ((its.toList.drop 1).length - 0))) _ _ _
  rw [Nat.sub_zero, List.take_length, List.drop_length]
  have kp : ∀ b o, s.heap.get? b = some o → g3.get? b = some o := fun b o e => hk b o (Nat.ne_of_lt (Heap.lt_size e)) (hs1.extBut b o (Nat.ne_of_lt (Heap.lt_size e)) (Heap.get?_push_of_some _ e))
  refine wpAny_bind (wpAny_newList (wpAny_pure ?_) (by rw [List.length_drop, Array.length_toList]; omega))
  rw [List.append_nil]
  exact h g3 tk kp
end
/-- x, *y = a tuple: y is a new list -/
def gSt (K : PySem.W.Frag) (t : TGs) : TG := fun v σ H Q => ∃ a x xs, v = .ref a ∧ SqT K H a (x :: xs) ∧ ∀ D, H D = none → t [x, .ref D] σ (upd H D (.lst xs)) Q
theorem pg_st {X : Cx} {e1 e2 : Expr} {k : Nat} {p pos : Pos} {t1 t2 : TG} (hc : X.calm = true) (h1 : PG X e1 t1) (h2 : PG X e2 t2) (hs1 : assignEach [e1, .Starred e2 p] X.env = [(false, assign e1 X.env), (true, assign e2 X.env)]) : PG X (.Tuple [e1, .Starred e2 p] k pos) (gSt X.K (gCons t1 (gCons t2 gNil))) := by
  refine ⟨fun pins s σ H v u Q I r hw => ?_⟩
  obtain ⟨a, x, xs, rfl, hq, hw⟩ := hw
  cases r
  obtain ⟨its, rv, ht, hz⟩ := I.tuple hq
  rw [assign_Tuple]
  refine wpAny_bind (wpAny_standAt ?_)
  unfold unpack
  rw [hs1]
  cases rv with
  | @cons _ u0 _ ur r0 rr =>
    refine wpAny_bind (wpAny_holding (un_star ht (I.ok.hd hc) (by simp) (by
      have := rr.length
      simp at hz ⊢
      omega) fun h' tk kp => ?_))
    have J := I.kept (t' := tk) kp
    have hf : H h'.objs.size = none := J.hok.fresh (Nat.le_refl _)
    have J2 : L2.Inv X pins σ (upd H h'.objs.size (.lst xs)) { s with heap := h'.push { cls := .type "list", data := .seq ur.toArray }, toks := tk } := J.laid (t' := tk) (fun b u e => Heap.get?_push_of_some _ e) (Nat.le_refl _) ⟨by
      simp at hz
      omega, ur, 0, rr, Heap.get?_push_size _ rfl⟩
    obtain ⟨v1, r1, e3, z1⟩ := hw h'.objs.size hf
    cases e3
    show wpAny _ _ (assignInOrder [assign e1 X.env, assign e2 X.env] [u0, .ref h'.objs.size]) _ _ _
    refine assignInOrder_cons (thn (h1.run pins _ σ _ x u0 _ J2 r0 z1) fun _ s1 ⟨σ1, H1, I1, z2⟩ => ?_)
    obtain ⟨v2, r2, e4, z2⟩ := z2
    cases e4
    refine assignInOrder_cons (thn (h2.run pins _ σ1 H1 (.ref h'.objs.size) (.ref h'.objs.size) _ I1 rfl z2) fun _ s2 ⟨σ2, H2, I2, z3⟩ => ?_)
    exact assignInOrder_nil ⟨σ2, H2, I2, z3.2⟩
end K12

/-! row_read, told_by, book_read. -/
namespace K12
open PySem PySem.Spec PyProof.Rows L2

/-! ### equality of data -/
mutual
def plain : PyData → Bool
  | .none | .int _ | .str _ => true
  | .tuple ds => plains ds
  | _ => false
def plains : List PyData → Bool
  | [] => true
  | d :: r => plain d && plains r
end
mutual
theorem eqv_plain : ∀ (d e : PyData), plain d = true → plain e = true → (PyData.eqv d e = true ↔ d = e)
  | .none, e, _, he => by cases e <;> simp [plain] at he <;> simp [PyData.eqv]
  | .int i, e, _, he => by cases e <;> simp [plain] at he <;> simp [PyData.eqv]
  | .str i, e, _, he => by cases e <;> simp [plain] at he <;> simp [PyData.eqv]
  | .tuple ds, e, hd, he => by
    cases e <;> simp [plain] at he <;> simp [PyData.eqv]
    rename_i es
    exact eqv_plains ds es (by simpa [plain] using hd) he
  | .bool _, _, h, _ => by simp [plain] at h
  | .list _, _, h, _ => by simp [plain] at h
  | .dict _, _, h, _ => by simp [plain] at h
theorem eqv_plains : ∀ (d e : List PyData), plains d = true → plains e = true → (PyData.eqvAll d e = true ↔ d = e)
  | [], [], _, _ => by simp [PyData.eqvAll]
  | [], _ :: _, _, _ => by simp [PyData.eqvAll]
  | _ :: _, [], _, _ => by simp [PyData.eqvAll]
  | a :: r, b :: t, hd, he => by
    simp [plains] at hd he
    simp [PyData.eqvAll, eqv_plain a b hd.1 he.1, eqv_plains r t hd.2 he.2]
end
theorem plains_map {α : Type} (f : α → PyData) (h : ∀ a, plain (f a) = true) : ∀ l : List α, plains (l.map f) = true
  | [] => rfl
  | x :: r => by simp [plains, h x, plains_map f h r]
theorem eqv_dec {d e : PyData} (hd : plain d = true) (he : plain e = true) {p : Prop} [Decidable p] (h : d = e ↔ p) : PyData.eqv d e = decide p := by
  by_cases hp : p
  · rw [(eqv_plain d e hd he).mpr (h.mpr hp)]
    simp [hp]
  · have : PyData.eqv d e ≠ true := fun z => hp (h.mp ((eqv_plain d e hd he).mp z))
    simp [hp]
    simpa using this
theorem strs_inj : ∀ {a b : List Str}, a.map PyData.str = b.map PyData.str → a = b
  | [], [], _ => rfl
  | [], _ :: _, h => by simp at h
  | _ :: _, [], h => by simp at h
  | x :: a, y :: b, h => by
    rw [List.map_cons, List.map_cons] at h
    injection h with h1 h2
    injection h1 with h1
    rw [h1, strs_inj h2]

/-! ### the lines read so far -/
theorem rLines_cat : ∀ {L M : List (List Str)} {k : Nat} {al : List Str}, rLines k al (L ++ M) = (match rLines k al L with
    | .error e => .error e
    | .ok (its, al') => comb its (rLines (k + L.length) al' M))
  | [], M, k, al => by
    show rLines k al M = comb [] (rLines (k + 0) al M)
    rw [Nat.add_zero]
    cases h : rLines k al M with
    | error e => rfl
    | ok z => rfl
  | ws :: L, M, k, al => by
    simp only [List.cons_append, rLines]
    cases h : rLine al ws with
    | error e => rfl
    | ok it =>
      simp only
      rw [rLines_cat (L := L) (M := M)]
      cases h2 : rLines (k + 1) (behind it.key) L with
      | error e => rfl
      | ok z =>
        obtain ⟨its, al'⟩ := z
        simp only
        have e : k + 1 + L.length = k + (L.length + 1) := by omega
        rw [List.length_cons, e]
        cases h3 : rLines (k + (L.length + 1)) al' M with
        | error e => rfl
        | ok z2 => rfl
theorem rLines_al : ∀ {L : List (List Str)} {k : Nat} {al al' : List Str} {its : List Item}, okAl al → rLines k al L = .ok (its, al') → okAl al' ∧ its.length = L.length
  | [], k, al, al', its, h, e => by
    simp [rLines] at e
    obtain ⟨rfl, rfl⟩ := e
    exact ⟨h, rfl⟩
  | ws :: L, k, al, al', its, h, e => by
    simp only [rLines] at e
    cases h1 : rLine al ws with
    | error f => rw [h1] at e; cases e
    | ok it =>
      rw [h1] at e
      simp only at e
      cases h2 : rLines (k + 1) (behind it.key) L with
      | error f => rw [h2] at e; cases e
      | ok z =>
        rw [h2] at e
        obtain ⟨its2, al2⟩ := z
        simp at e
        obtain ⟨rfl, rfl⟩ := e
        obtain ⟨a, b⟩ := rLines_al (ok_behind _) h2
        exact ⟨a, by simp [b]⟩
def lwords (t : Str) : List (List Str) := (linesOf t).map wordsOf
theorem lines_step {t : Str} {i : Nat} {its : List Item} {al : List Str} {ws : List Str} (h : rLines 0 [sPlace] ((lwords t).take i) = .ok (its, al)) (hw : (lwords t)[i]? = some ws) :
    (∀ it, rLine al ws = .ok it → rLines 0 [sPlace] ((lwords t).take (i + 1)) = .ok (its ++ [it], behind it.key)) ∧ ∀ e, rLine al ws = .error e → rBook t = .error (i, e) := by
  have hi : i < (lwords t).length := by
    rw [List.getElem?_eq_some_iff] at hw
    exact hw.1
  have hlen : ((lwords t).take i).length = i := by rw [List.length_take]; omega
  have he : (lwords t)[i] = ws := by
    rw [List.getElem?_eq_getElem hi] at hw
    exact Option.some.inj hw
  constructor
  · intro it hl
    rw [List.take_succ_eq_append_getElem hi, rLines_cat, h, he]
    simp [rLines, hl, comb]
  · intro e hl
    have hz : lwords t = (lwords t).take i ++ (ws :: (lwords t).drop (i + 1)) := by
      rw [← he, List.getElem_cons_drop, List.take_append_drop]
    have : rLines 0 [sPlace] (lwords t) = .error (i, e) := by
      rw [hz, rLines_cat, h]
      simp [rLines, hl, comb]
      omega
    unfold rBook
    rw [show (linesOf t).map wordsOf = lwords t from rfl, this]
def dT (its : List Item) (al : List Str) : List PyData := (its.filter fun it => decide (it.key ∈ al)).map dIt
def fTold : List PyData → PyData → Prop := fun ds d => ∃ (its : List Item) (al : List Str), its.length < sizeLine ∧ ds = [.list (its.map dFound), .tuple (al.map .str)] ∧ d = .tuple (dT its al)
theorem dT_yes {it : Item} {r : List Item} {al : List Str} (h : it.key ∈ al) : dT (it :: r) al = dIt it :: dT r al := by
  unfold dT
  rw [List.filter_cons_of_pos (by simpa using h)]
  rfl
theorem dT_no {it : Item} {r : List Item} {al : List Str} (h : it.key ∉ al) : dT (it :: r) al = dT r al := by
  unfold dT
  rw [List.filter_cons_of_neg (by simpa using h)]
theorem key_pl (its : List Item) : dT its [sPlace] = (its.filterMap plOf).map dPl := by
  induction its with
  | nil => rfl
  | cons it r ih =>
    cases it with
    | place p =>
      rw [dT_yes (show sPlace ∈ [sPlace] by decide +kernel), ih]
      rfl
    | way p =>
      rw [dT_no (show sWay ∉ [sPlace] by decide +kernel), ih]
      rfl
    | slip p =>
      rw [dT_no (show sSlip ∉ [sPlace] by decide +kernel), ih]
      rfl
    | row p =>
      cases p with
      | move x y n =>
        rw [dT_no (show sMove ∉ [sPlace] by decide +kernel), ih]
        rfl
      | count x n =>
        rw [dT_no (show sCount ∉ [sPlace] by decide +kernel), ih]
        rfl
theorem key_wy (its : List Item) : dT its [sWay] = (its.filterMap wyOf).map dWy := by
  induction its with
  | nil => rfl
  | cons it r ih =>
    cases it with
    | place p =>
      rw [dT_no (show sPlace ∉ [sWay] by decide +kernel), ih]
      rfl
    | way p =>
      rw [dT_yes (show sWay ∈ [sWay] by decide +kernel), ih]
      rfl
    | slip p =>
      rw [dT_no (show sSlip ∉ [sWay] by decide +kernel), ih]
      rfl
    | row p =>
      cases p with
      | move x y n =>
        rw [dT_no (show sMove ∉ [sWay] by decide +kernel), ih]
        rfl
      | count x n =>
        rw [dT_no (show sCount ∉ [sWay] by decide +kernel), ih]
        rfl
theorem key_sl (its : List Item) : dT its [sSlip] = (its.filterMap slOf).map dSl := by
  induction its with
  | nil => rfl
  | cons it r ih =>
    cases it with
    | place p =>
      rw [dT_no (show sPlace ∉ [sSlip] by decide +kernel), ih]
      rfl
    | way p =>
      rw [dT_no (show sWay ∉ [sSlip] by decide +kernel), ih]
      rfl
    | slip p =>
      rw [dT_yes (show sSlip ∈ [sSlip] by decide +kernel), ih]
      rfl
    | row p =>
      cases p with
      | move x y n =>
        rw [dT_no (show sMove ∉ [sSlip] by decide +kernel), ih]
        rfl
      | count x n =>
        rw [dT_no (show sCount ∉ [sSlip] by decide +kernel), ih]
        rfl
theorem key_rw (its : List Item) : dT its rowW = (its.filterMap rwOf).map dRw := by
  induction its with
  | nil => rfl
  | cons it r ih =>
    cases it with
    | place p =>
      rw [dT_no (show sPlace ∉ rowW by decide +kernel), ih]
      rfl
    | way p =>
      rw [dT_no (show sWay ∉ rowW by decide +kernel), ih]
      rfl
    | slip p =>
      rw [dT_no (show sSlip ∉ rowW by decide +kernel), ih]
      rfl
    | row p =>
      cases p with
      | move x y n =>
        rw [dT_yes (show sMove ∈ rowW by decide +kernel), ih]
        rfl
      | count x n =>
        rw [dT_yes (show sCount ∈ rowW by decide +kernel), ih]
        rfl
section
variable {P : Program} {w : World} {K : PySem.W.Frag} {mg : Str → Option Value} {base : Heap}
theorem sc_told_by : FnScope ["lines", "words", "own", "told"] ["lines", "words"] (defScope s_told_by) := ⟨rfl, rfl, rfl, by decide +kernel, rfl, by decide +kernel, by decide +kernel⟩
theorem ok_told_by (T : TX K mg) : Cal P w K mg base 1 "told_by" ["lines", "words"] (Pur K fTold) := by
  refine T.def_ i_told_by (d := d_told_by) rfl rfl sc_told_by (fun _ _ _ _ _ _ us hl => match us, hl with | [_, _], _ => rfl) (pur_len fun ds d h => by obtain ⟨p, q, _, rfl, _⟩ := h; rfl) (fun f cdv A outer s H vs Q E hr h => ?_)
  obtain ⟨ds, d, hds, ⟨its, al, hn, rfl, rfl⟩, q⟩ := h
  obtain ⟨v1, v2, rfl, hv1, hv2⟩ := hds.two
  obtain ⟨l, xs, rfl, hl, hx⟩ := hv1.lstI
  obtain ⟨a, ys, rfl, ha, hy⟩ := hv2.tupI
  cases DpAll.strs hy
  have nd := sc_told_by.nd
  refine ⟨_, pss_one (ps_ret (pe_callTy call_tuple_of rfl T.free boot_tuple (pa_cons (pe_lc (own := [("own", 2), ("told", 3)]) (g := gTup K 2 (gCons (gName 2) (gCons (gName 3) gNil))) (tt := tTest (tOp (rIn K false) (tVar 2) (tVar 1))) rfl nd (pi_list (pv 0)) (blkOk_by (N := ["lines", "words", "own", "told"]) (sc := defScope s_told_by) (by decide +kernel))
    (fun _ _ _ _ _ => pg_tup rfl (pgs_cons (pg_name (i := 2) nd rfl (Or.inl rfl)) (pgs_cons (pg_name (i := 3) nd rfl (Or.inl rfl)) pgs_nil))) (fun _ _ _ _ _ => pts_one (pt_cmpR (inSq K) (pv 2) (pv 1) rfl)) (fun _ _ _ _ _ => pv 3)) pa_nil))), ?_⟩
  have hlen : xs.length = its.length := by rw [DpAll.length hx, List.length_map]
  refine ⟨_, rfl, l, rfl, ⟨_, hl⟩, fun D hD => ?_⟩
  refine lc_dat (K := K) walk_list (fun i => dT (its.take i) al) rfl (fun i hi => ?_) (by omega) hD (fun H1 e => e.seq hl) (fun i H1 x H2 Nx hi e y k1 k0 => ?_) (fun H1 acc e h3 h4 => ?_)
  · have hi2 : i < its.length := by omega
    unfold dT
    rw [List.take_succ_eq_append_getElem hi2, List.filter_append, List.map_append]
    by_cases hk : its[i].key ∈ al
    · exact .inr ⟨dIt its[i], nl_it _, by simp [hk]⟩
    · exact .inl (by simp [hk])
  · obtain ⟨rfl, hx2⟩ := y
    have hi2 : i < its.length := by omega
    obtain ⟨d, hd, hdp⟩ := DpAll.getV hx hx2
    rw [List.getElem?_map, List.getElem?_eq_getElem hi2] at hd
    cases hd
    obtain ⟨t, ts, rfl, ht, hts⟩ := (Dp.same e hdp).tupI
    obtain ⟨u1, u2, rfl, hu1, hu2⟩ := hts.two
    cases hu1.strI
    refine ⟨t, _, rfl, ht, rfl, _, _, rfl, _, _, rfl, rfl, rfl, _, rfl, _, rfl, a, _, rfl, .inr (Same.tup e ha), rfl, flat_strs, _, rfl, ?_⟩
    have hiv : (if (false : Bool) = true then !inV (V.str its[i].key) (al.map V.str) else inV (V.str its[i].key) (al.map V.str)) = decide (its[i].key ∈ al) := inV_str
    rw [hiv]
    refine ite2 (fun hk => ⟨_, rfl, k1 _ _ (dIt its[i]) (Same.refl _) hu2 ?_⟩) fun hk => k0 _ (Same.refl _) ?_
    · unfold dT
      rw [List.take_succ_eq_append_getElem hi2, List.filter_append, List.map_append]
      simp at hk
      simp [hk]
    · unfold dT
      rw [List.take_succ_eq_append_getElem hi2, List.filter_append, List.map_append]
      simp at hk
      simp [hk]
  · refine ⟨D, _, rfl, .inl ⟨.inl (.inl h3), fun l2 hl2 => q _ _ (e.trans (Same.new hl2)) ?_⟩⟩
    rw [hlen, List.take_length] at h4
    exact .tup (.inl (.inl upd_same)) (DpAll.same (Same.new hl2) h4)
end
end K12

/-! row_read, book_read. -/
namespace K12
open PySem PySem.Spec PyProof.Rows L2
def spRowRead (K : PySem.W.Frag) : Sp := fun vs H Q E => ∃ t L F, vs = [.str t, .int L, .int F] ∧ t.length + 2 ≤ sizeLine ∧ (∀ r, rRow (wordsOf t) = .ok r → ∀ v H', Same H H' → Dp K H' v (dRw r) → Q v H') ∧ ∀ e, rRow (wordsOf t) = .error e → RzT K L (F + (e : Nat)) H E
theorem cut_len {c : Nat} {t : Str} : ∀ w ∈ cut c t, w.length ≤ t.length := by
  intro w hw
  have e : Str.join ⟨#[c]⟩ (cut c t) = t := cut_join c t
  have h2 : ∀ {l : List Str}, w ∈ l → w.length ≤ (Str.join ⟨#[c]⟩ l).length := by
    intro l
    induction l with
    | nil => intro h; cases h
    | cons a r ih =>
      intro h
      cases r with
      | nil =>
        simp at h
        subst h
        exact Nat.le_refl _
      | cons b r =>
        rw [join_cons _ _ _ (by simp)]
        rcases List.mem_cons.mp h with rfl | h
        · simp only [len_l, app_l, List.length_append]
          omega
        · have := ih h
          simp only [len_l, app_l, List.length_append] at this ⊢
          omega
  have := h2 hw
  rwa [e] at this
theorem cut_count {c : Nat} {t : Str} : (cut c t).length ≤ t.length + 1 := by
  have e := congrArg Str.length (cut_join c t)
  have h := join_len ⟨#[c]⟩ (cut_ne c t)
  have h1 : (⟨#[c]⟩ : Str).length = 1 := rfl
  rw [h1] at h
  omega
section
variable {P : Program} {w : World} {K : PySem.W.Frag} {mg : Str → Option Value} {base : Heap}
theorem TY.mkLR (Y : TY P K mg) : ∃ f fd, Mk K (cLR K) f ∧ FnOk P w K mg base (L2.CX P w) 1 f fd ["self", "text", "line", "field"] (spLInit K) ∧ Binds K fd ["self", "text", "line", "field"] [] := by
  obtain ⟨f, fd, F, hm, hb⟩ := ok_LineReader_init (w := w) (base := base) Y
  have M := He.mkr_ok (Y.tx.more 8)
  have e : f = He.ma K (He.ga K "LineReader") "__init__" := by
    have h1 := hm.at_
    have h2 := M.init
    rw [h1] at h2
    cases h2
    rfl
  subst e
  exact ⟨_, fd, M, F, hb⟩
theorem mono_len {i : Nat} {K : PySem.W.Frag} : ∀ σ H (Q Q' : VK), (∀ v H1, Q v H1 → Q' v H1) → tCB (fun xs H Q => ∃ p ys, xs = [V.ref p] ∧ (SqL K H p ys ∨ SqT K H p ys) ∧ Q (.int ys.length) H) (tCons (tVar i) tNil) σ H Q → tCB (fun xs H Q => ∃ p ys, xs = [V.ref p] ∧ (SqL K H p ys ∨ SqT K H p ys) ∧ Q (.int ys.length) H) (tCons (tVar i) tNil) σ H Q' :=
  fun σ H Q Q' hq ⟨v, h1, p, ys, h2, h3, h4⟩ => ⟨v, h1, p, ys, h2, h3, hq _ _ h4⟩
/-- a reader made, and read from -/
theorem lr_line {t : Str} {L F : Int} {a : Addr} {al : List Str} {x dx : Addr} {H H1 : Hp} {Q : VK} {E : XK} (hx : H x = none) (hdx : H dx = none) (hne : dx ≠ x) (hz : t.length + 2 ≤ sizeLine) (hal : SqT K H a (al.map V.str)) (hok : okAl al) (l : Addr) (hl : (upd (upd H dx (.own x)) x (.ins (cLR K) dx [])) l = none)
    (e1 : H1 = upd (upd (upd (upd H dx (.own x)) x (.ins (cLR K) dx [])) l (.lst ((wordsOf t).map V.str))) x (.ins (cLR K) dx (rfs l L F 0)))
    (q1 : ∀ it, rLine al (wordsOf t) = .ok it → ∀ v H', Same H H' → Dp K H' v (dFound it) → Q v H') (q2 : ∀ e, rLine al (wordsOf t) = .error e → RzT K L (F + (e : Nat)) H E) : spLine K [.ref x, .ref a] H1 Q E := by
  have hlx : l ≠ x := fun z => by
    rw [z, upd_same] at hl
    cases hl
  have hld : H l = none := by
    rw [upd_ne hlx] at hl
    by_cases z : l = dx
    · rw [z, upd_same] at hl
      cases hl
    · rw [upd_ne z] at hl
      exact hl
  have s1 : Same H H1 := fun b u hb => by
    rw [e1, upd_ne (ne_of_none hb hx), upd_ne (ne_of_none hb hld), upd_ne (ne_of_none hb hx), upd_ne (ne_of_none hb hdx)]
    exact hb
  have hlen := cut_count (c := 32) (t := t)
  refine ⟨x, dx, l, wordsOf t, L, F, a, al, rfl, ⟨by
    rw [e1, upd_same]
    rfl, by rw [e1, upd_ne hlx, upd_same], ?_⟩, Same.tup s1 hal, hok, fun w hw => ?_, fun it hit v H' s2 hd => q1 it hit v H' (fun b u hb => s2 b u (ne_of_none hb hx) (s1 b u hb)) hd, fun e he d H3 nd s2 hd => q2 e he d H3 (s1.free nd) (fun b u hb => s2 b u (ne_of_none hb hx) (s1 b u hb)) hd⟩
  · show (cut 32 t).length < sizeLine
    omega
  · have := cut_len w hw
    omega
theorem ok_row_read (Y : TY P K mg) : ∃ f fd, FnOk P w K mg base (L2.CX P w) 8 f fd ["text", "line", "field"] (spRowRead K) ∧ FunD K "row_read" "row_read" (defArgs s_row_read) (defBody s_row_read) (defScope s_row_read) [] [("line", .int 0), ("field", .int 0)] f fd ∧ mg "row_read" = some (.ref f) ∧ PySem.W.keepIn K (.ref f) = true := by
  have T := Y.tx
  obtain ⟨fd, F⟩ := T.fn i_row_read d_row_read rfl
  have S : FnScope ["text", "line", "field", "word", "row"] ["text", "line", "field"] (defScope s_row_read) := ⟨rfl, rfl, rfl, by decide +kernel, rfl, by decide +kernel, by decide +kernel⟩
  have F' : FunD K "row_read" "row_read" (defArgs s_row_read) (defBody s_row_read) (defScope s_row_read) [] [("line", .int 0), ("field", .int 0)] (He.ga K "row_read") fd := F
  refine ⟨_, fd, F'.ok S (by rintro vs H Q E ⟨t, L, F, rfl, _⟩; rfl) fun cdv A outer s H vs Q E hr h => ?_, F', T.glo, T.keep⟩
  obtain ⟨t, L, Fi, rfl, hz, q1, q2⟩ := h
  obtain ⟨fI, fdI, M, FI, bI⟩ := Y.mkLR (w := w) (base := base)
  refine ⟨_, pss_cons (ps_asg (pc (ok_line_taken Y) hr passB (pa_cons (pe_make M FI (hr.mono (by decide)) rfl T.glo bI .nil passB (pa_cons (pv 0) (pa_cons (pv 1) (pa_cons (pv 2) pa_nil)))) (pa_cons (gR Y.rowsG) pa_nil))) (pg_tup rfl (pgs_cons (pg_name (i := 3) S.nd rfl (.inl rfl)) (pgs_cons (pg_name (i := 4) S.nd rfl (.inl rfl)) pgs_nil))))
    (pss_one (ps_ret (pv 4))), ?_⟩
  refine ⟨_, rfl, _, rfl, _, rfl, fun x dx hx hdx hne => ⟨x, dx, t, L, Fi, rfl, upd_same, hz, fun l hl => ⟨rfl, lr_line hx hdx hne hz (Y.rowsT H) K12.ok_row l hl rfl (fun it hit v H' e hd => ?_) fun e he => q2 e (rRow_err he)⟩⟩⟩
  obtain ⟨r, rfl, hrr⟩ := rRow_line hit
  obtain ⟨a, xs, rfl, ha, hxs⟩ := hd.tupI
  obtain ⟨u1, u2, rfl, hu1, hu2⟩ := hxs.two
  exact ⟨a, _, rfl, ha, rfl, _, _, rfl, _, _, rfl, rfl, u2, rfl, q1 r hrr _ _ e hu2⟩
/-- data that may be compared -/
def Shp (n : Nat) (d : PyData) : Prop := d.canLay0 = true ∧ d.depth ≤ n
theorem shp_tup {n : Nat} {ds : List PyData} (h : ∀ d ∈ ds, Shp n d) : Shp (n + 1) (.tuple ds) := by
  have key : ∀ {l : List PyData}, (∀ d ∈ l, Shp n d) → PyData.canLayAll0 l = true ∧ PyData.depthAll l ≤ n := by
    intro l
    induction l with
    | nil => intro _; exact ⟨by simp [PyData.canLayAll0], by simp [PyData.depthAll]⟩
    | cons x r ih =>
      intro hx
      obtain ⟨a, b⟩ := ih fun d hd => hx d (List.mem_cons_of_mem _ hd)
      obtain ⟨c, e⟩ := hx x (List.mem_cons_self ..)
      refine ⟨by simp [PyData.canLayAll0, a, c], ?_⟩
      simp only [PyData.depthAll]
      omega
  obtain ⟨a, b⟩ := key h
  exact ⟨by simpa [PyData.canLay0] using a, by simp only [PyData.depth]; omega⟩
theorem shp_lst {n : Nat} {ds : List PyData} (h : ∀ d ∈ ds, Shp n d) : Shp (n + 1) (.list ds) := by
  obtain ⟨a, b⟩ := shp_tup h
  exact ⟨by simpa [PyData.canLay0] using a, by simpa [PyData.depth] using b⟩
theorem shp_int {n : Nat} (i : Int) : Shp n (.int i) := ⟨by simp [PyData.canLay0], by simp [PyData.depth]⟩
theorem shp_non {n : Nat} : Shp n .none := ⟨by simp [PyData.canLay0], by simp [PyData.depth]⟩
theorem shp_str {n : Nat} {z : Str} (h : PyData.strOk z = true) : Shp n (.str z) := ⟨by simpa [PyData.canLay0] using h, by simp [PyData.depth]⟩
theorem shp_name {n : Nat} {z : Str} (h : isName z = true) : Shp n (.str z) := shp_str (by
  unfold isName at h
  simp only [Bool.and_eq_true] at h
  have h2 := h.2
  unfold PyData.strOk
  rw [← Array.all_toList]
  rw [List.all_eq_true] at h2 ⊢
  intro c hc
  have := mem_let.mp (of_decide_eq_true (h2 c hc))
  simp
  omega)
theorem Shp.ok {n : Nat} {d : PyData} (h : Shp n d) (hn : n ≤ 64 := by decide) : SeqAt.shaped d = true := by
  unfold SeqAt.shaped
  rw [h.1]
  simpa using Nat.le_trans h.2 hn
theorem shp_keys {al : List Str} (h : okAl al) : Shp 1 (.tuple (al.map .str)) := shp_tup fun d hd => by
  obtain ⟨z, hz, rfl⟩ := List.mem_map.mp hd
  refine shp_str ?_
  rcases h z hz with rfl | rfl | rfl | rfl | rfl <;> decide +kernel
theorem plain_keys (al : List Str) : plain (.tuple (al.map .str)) = true := by
  simp only [plain]
  exact plains_map _ (fun _ => rfl) _
def spBookRead (K : PySem.W.Frag) : Sp := fun vs H Q E => ∃ t, vs = [.str t] ∧ t.length < 4000000 ∧ (∀ b, rBook t = .ok b → ∀ v H', Same H H' → Dp K H' v (dBk b) → Q v H') ∧ ∀ l f, rBook t = .error (l, f) → RzT K (l : Nat) (f : Nat) H E
theorem RzT.mono {l f : Int} {H H1 : Hp} {E : XK} (z : RzT K l f H E) (e : Same H H1) : RzT K l f H1 E := fun d H3 nd s hd => z d H3 (e.free nd) (e.trans s) hd
theorem sc_book_read : FnScope ["text", "found", "allowed", "lines", "line", "row", "slip", "more"] ["text"] (defScope s_book_read) := ⟨rfl, rfl, rfl, by decide +kernel, rfl, by decide +kernel, by decide +kernel⟩
theorem ok_book_read (Y : TY P K mg) : Cal P w K mg base 8 "book_read" ["text"] (spBookRead K) := by
  have T := Y.tx
  refine T.def_ i_book_read (d := d_book_read) rfl rfl sc_book_read (fun _ _ _ _ _ _ us hl => match us, hl with | [_], _ => rfl) (by rintro vs H Q E ⟨t, rfl, _⟩; rfl) (fun f cdv A outer s H vs Q E hr h => ?_)
  obtain ⟨t, rfl, hz, q1, q2⟩ := h
  have nd := sc_book_read.nd
  obtain ⟨fI, fdI, M, FI, bI⟩ := Y.mkLR (w := w) (base := base)
  obtain ⟨fT, fdT, F1, hbT, hXT, hiT, htT⟩ := Y.textI (w := w) (base := base)
  refine ⟨_, pss_cons (ps_set (i := 1) nd rfl (.inl rfl) (pe_lst pa_nil)) (pss_cons (ps_set (i := 2) nd rfl (.inl rfl) (pe_tup (pa_cons (pS sPlace_is) pa_nil))) (pss_cons (ps_set (i := 3) nd rfl (.inl rfl) (pe_split (pv 0) (pS nl_is)))
    (pss_cons (ps_for (passes_of rfl) rfl (pi_enum rfl T.free (pa_cons (pv 3) pa_nil)) (pg_tup rfl (pgs_cons (pg_name (i := 4) nd rfl (.inl rfl)) (pgs_cons (pg_name (i := 5) nd rfl (.inl rfl)) pgs_nil)))
      (pss_cons (ps_expr (pe_bm PySem.F.plainAttrs_list PySem.F.slot_list_append PySem.F.type_list_append mt_append (pv 1) (pa_cons (pc (ok_line_taken Y) hr passB (pa_cons (pe_make M FI (hr.mono (by decide)) rfl T.glo bI .nil passB (pa_cons (pv 5) (pa_cons (pv 4) (pa_cons pe_int pa_nil)))) (pa_cons (pv 2) pa_nil))) pa_nil)))
        (pss_one (ps_set (i := 2) nd rfl (.inl rfl) (pc (ok_words_behind Y) hr passB (pa_cons (pe_ix ix_tup (pe_ix ix_list (pv 1) (pe_un un_neg pe_int) (fun _ _ => rfl)) pe_int (fun _ _ => rfl)) pa_nil))))))
    (pss_cons (ps_if (pt_cmpR (op_neD hr.units) (pv 2) (gR Y.rowsG) (nomark _)) (pss_one (ps_rz hXT hiT htT F1 (hr.mono (by decide)) hbT rfl T.glo rfl (takes_of rfl rfl rfl rfl) (pa_cons (pe_callB call_len_seq rfl T.free boot_len (pa_cons (pv 3) pa_nil)) (pa_cons pe_int pa_nil)) (mono_2 mono_len mono_c))) pss_nil)
    (pss_cons (ps_asg (pc (ok_told_by T) hr passB (pa_cons (pv 1) (pa_cons (pe_tup (pa_cons (pS sSlip_is) pa_nil)) pa_nil))) (pg_st rfl (pg_name (i := 6) nd rfl (.inl rfl)) (pg_name (i := 7) nd rfl (.inl rfl)) rfl))
    (pss_one (ps_ret (pe_tup (pa_cons (pc (ok_told_by T) hr passB (pa_cons (pv 1) (pa_cons (pe_tup (pa_cons (pS sPlace_is) pa_nil)) pa_nil))) (pa_cons (pc (ok_told_by T) hr passB (pa_cons (pv 1) (pa_cons (pe_tup (pa_cons (pS sWay_is) pa_nil)) pa_nil))) (pa_cons (pv 6) (pa_cons (pc (ok_told_by T) hr passB (pa_cons (pv 1) (pa_cons (gR Y.rowsG) pa_nil))) pa_nil)))))))))))), ?_⟩
  have hlines : (linesOf t).length ≤ t.length + 1 := cut_count
  have hll : ∀ z ∈ linesOf t, z.length ≤ t.length := cut_len
  refine ⟨Nat.zero_le _, fun p hp => ⟨Nat.le_of_ble_eq_true rfl, fun a ha => ⟨_, rfl, ⟨_, rfl⟩, t, nl, rfl, rfl, rfl, by unfold sizeLine; omega, fun L hL => ?_⟩⟩⟩
  have hpa : p ≠ a := fun z => by
    rw [← z, upd_same] at ha
    cases ha
  have hpL : p ≠ L := fun z => by
    rw [← z, upd_ne hpa, upd_same] at hL
    cases hL
  have haL : a ≠ L := fun z => by
    rw [← z, upd_same] at hL
    cases hL
  generalize hH0 : upd (upd (upd H p (.lst [])) a (.tup [V.str sPlace])) L (.lst ((Txt.split t nl).map V.str)) = H0
  have s0 : Same H H0 := by
    rw [← hH0]
    exact ((Same.new hp).trans (Same.new ha)).trans (Same.new hL)
  have hL0 : SqL K H0 L ((linesOf t).map V.str) := by
    rw [← hH0]
    exact .inl (.inl upd_same)
  have hp0 : H0 p = some (.lst []) := by rw [← hH0, upd_ne hpL, upd_ne hpa, upd_same]
  have ha0 : SqT K H0 a ([sPlace].map V.str) := .inl (.inl (by rw [← hH0, upd_ne haL, upd_same]; rfl))
  clear hH0
  have hSqL : ∀ {H' : Hp}, Sb p H0 H' → SqL K H' L ((linesOf t).map V.str) := fun {H'} s => by
    rcases hL0 with (h | ⟨o, h⟩) | h
    · exact .inl (.inl (s L _ (Ne.symm hpL) h))
    · exact .inl (.inr ⟨o, s L _ (Ne.symm hpL) h⟩)
    · exact .inr h
  refine ⟨_, rfl, L, _, rfl, hL0, ?_⟩
  refine for_it (walk_enum (K := K) (a := L) (xs := (linesOf t).map V.str)) (fun i σ H' => ∃ its al xs aa o4 o5, rLines 0 [sPlace] ((lwords t).take i) = .ok (its, al) ∧ Sb p H0 H' ∧ H' p = some (.lst xs) ∧ DpAll K H' xs (its.map dFound) ∧ SqT K H' aa (al.map V.str) ∧
      σ = [some (.str t), some (.ref p), some (.ref aa), some (.ref L), o4, o5, none, none]) ?_ (fun i σ H' hi h => hSqL (by obtain ⟨_, _, _, _, _, _, _, h, _⟩ := h; exact h)) ?_ ?_
  · exact ⟨[], [sPlace], [], a, none, none, rfl, .refl _, hp0, .nil, ha0, rfl⟩
  · rintro i x σ H1 H2 hi ⟨its, al, xs, aa, o4, o5, hr1, hs1, hp1, hx1, haa, rfl⟩ ⟨T', x1, y1, rfl, nT, rfl, hx2, hy2⟩
    have hi2 : i < (linesOf t).length := by simpa using hi
    cases hx2
    have hy3 : (linesOf t)[i]? = some (linesOf t)[i] := List.getElem?_eq_getElem hi2
    replace hy2 : ((linesOf t).map V.str)[i]? = some y1 := hy2
    rw [List.getElem?_map, hy3] at hy2
    cases hy2
    have hw : (lwords t)[i]? = some (wordsOf (linesOf t)[i]) := by
      unfold lwords
      rw [List.getElem?_map, hy3]
      rfl
    obtain ⟨hal, hlen⟩ := rLines_al ok_place hr1
    have hitl : its.length ≤ i := by
      rw [hlen, List.length_take]
      omega
    obtain ⟨st1, st2⟩ := lines_step hr1 hw
    have hzl := hll _ (List.getElem_mem hi2)
    have hpT : p ≠ T' := ne_of_none hp1 nT
    have sT : Same H1 (upd H1 T' (.tup [.int (i : Nat), .str (linesOf t)[i]])) := Same.new nT
    refine ⟨T', _, rfl, .inl (.inl upd_same), rfl, _, _, rfl, _, _, rfl, rfl, _, rfl, .inl ⟨rfl, _, .inl (.inl (sT _ _ hp1))⟩, _, rfl, _, rfl, fun x dx hx hdx hne => ⟨x, dx, (linesOf t)[i], i, 0, rfl, upd_same, by unfold sizeLine; omega, fun l hl => ⟨rfl, _, rfl, lr_line hx hdx hne (by unfold sizeLine; omega) (Same.tup sT haa) hal l hl rfl (fun it hit v H3 e3 hd => ?_) fun e he => ?_⟩⟩⟩
    · have e3' : Same H1 H3 := sT.trans e3
      have hxlen := DpAll.length hx1
      rw [List.length_map] at hxlen
      refine ⟨p, xs, v, rfl, rfl, e3' _ _ hp1, by unfold sizeLine; omega, ?_⟩
      obtain ⟨fa, fs, rfl, hfa, hfs⟩ := hd.tupI
      obtain ⟨u1, u2, rfl, hu1, hu2⟩ := hfs.two
      cases hu1.strI
      have hfa2 : SqT K (upd H3 p (.lst (xs ++ [V.ref fa]))) fa [V.str it.key, u2] := SqT.updL (e3' _ _ hp1) hfa
      have hkey : it.key = sPlace ∨ it.key = sWay ∨ it.key = sSlip ∨ it.key = sMove ∨ it.key = sCount := hal _ (rLine_ok hit hal).2.2
      refine ⟨_, rfl, 1, rfl, p, _, _, _, rfl, rfl, .inl (.inl upd_same), atI_last _ _, fa, _, _, _, rfl, rfl, hfa2, atI_nat (j := 0) rfl, [.str it.key], _, .cons (.str _) .nil, ⟨_, hkey, rfl, rfl⟩, fun u H5 e5 hu => ?_⟩
      obtain ⟨ab, ys, rfl, hab, hys⟩ := hu.tupI
      cases DpAll.strs hys
      refine ⟨its ++ [it], behind it.key, xs ++ [V.ref fa], ab, _, _, st1 it hit, (hs1.trans ((Sb.of e3').trans Sb.put)).trans (.of e5), e5 _ _ upd_same, ?_, hab, rfl⟩
      rw [List.map_append]
      refine DpAll.same e5 (DpAll.updL (e3' _ _ hp1) ?_ (DpAll.app (DpAll.same e3' hx1) (.cons hd .nil)))
      exact noLsts_app (noLsts_map _ nl_found _) (by simp [noLsts, nl_found])
    · have z := q2 i e (st2 e he)
      have hfr : ∀ d, (upd H1 T' (.tup [.int (i : Nat), .str (linesOf t)[i]])) d = none → H d = none := fun d nd => by
        have n1 := sT.free nd
        have n0 := hs1.free ⟨_, hp1⟩ n1
        exact s0.free n0
      intro d H3 nd s3 hd
      refine z d H3 (hfr d nd) (fun b u hb => ?_) (by simpa using hd)
      have hbp : b ≠ p := fun zz => by
        rw [zz, hp] at hb
        cases hb
      exact s3 b u (sT b u (hs1 b u hbp (s0 b u hb)))
  · rintro σ H1 ⟨its, al, xs, aa, o4, o5, hr1, hs1, hp1, hx1, haa, rfl⟩
    rw [List.length_map, List.take_of_length_le (by unfold lwords; simp)] at hr1
    have hB := rBook_of hr1
    obtain ⟨hal, hlen⟩ := rLines_al ok_place hr1
    have hitl : its.length < sizeLine := by
      rw [hlen]
      unfold lwords sizeLine
      rw [List.length_map]
      omega
    have hsame : Same H H1 := fun b u hb => hs1 b u (fun zz => by
      rw [zz, hp] at hb
      cases hb) (s0 b u hb)
    have hev : PyData.eqv (.tuple (al.map .str)) (.tuple (rowW.map .str)) = decide (al = rowW) := eqv_dec (plain_keys _) (plain_keys _) ⟨fun h => by
      injection h with h
      exact strs_inj h, fun h => by rw [h]⟩
    refine ⟨_, rfl, .tuple (al.map .str), .tuple (rowW.map .str), .tup haa (Dp.strs _), .tup (Y.rowsT H1) (Dp.strs _), (shp_keys hal).ok, (shp_keys K12.ok_row).ok, _, rfl, ?_⟩
    rw [hev]
    refine ite2 (fun hne => ?_) fun heq => ?_
    · have hne2 : al ≠ rowW := by simpa using hne
      rw [if_neg hne2] at hB
      have z := (q2 _ _ hB).mono hsame
      refine ⟨_, rfl, L, _, rfl, .inl (hSqL hs1), _, _, rfl, ?_⟩
      rw [List.length_map]
      exact z
    · have heq2 : al = rowW := by simpa using heq
      rw [if_pos heq2] at hB
      have hf : Dp K H1 (.ref p) (.list (its.map dFound)) := .lst (.inl (.inl hp1)) hx1
      obtain ⟨hok, htext, hln⟩ := rBook_ok hB
      have hbl : its.filterMap slOf = [((its.filterMap slOf).head?).getD none] := by
        have hch := (rLines_ok ok_place hr1)
        obtain ⟨bk, hbk, hits⟩ := shape0 hch.2.1 (hch.2.2 ▸ heq2)
        rw [hits, pick_sl]
        rfl
      refine ⟨_, rfl, Nat.le_of_ble_eq_true rfl, fun t1 n1 => ⟨[.list (its.map dFound), .tuple ([sSlip].map .str)], _, .cons (Dp.same (Same.new n1) hf) (.cons (.tup (.inl (.inl upd_same)) (Dp.strs [sSlip])) .nil), ⟨its, [sSlip], hitl, rfl, rfl⟩, fun v2 H2 e2 hd2 => ?_⟩⟩
      have e2' : Same H1 H2 := (Same.new n1).trans e2
      rw [key_sl, hbl] at hd2
      obtain ⟨ta, ts, rfl, hta, hts⟩ := hd2.tupI
      obtain ⟨us, rfl, hus⟩ := hts.one
      cases hus.slI
      refine ⟨ta, _, [], rfl, hta, fun D nD => ⟨_, _, rfl, _, _, rfl, rfl, ?_⟩⟩
      have e3 : Same H1 (upd H2 D (.lst [])) := e2'.trans (Same.new nD)
      refine ⟨_, rfl, Nat.le_of_ble_eq_true rfl, fun t3 n3 => ⟨[.list (its.map dFound), .tuple ([sPlace].map .str)], _, .cons (Dp.same (e3.trans (Same.new n3)) hf) (.cons (.tup (.inl (.inl upd_same)) (Dp.strs [sPlace])) .nil), ⟨its, [sPlace], hitl, rfl, rfl⟩, fun v4 H4 e4 hd4 => ?_⟩⟩
      have e4' := (e3.trans (Same.new n3)).trans e4
      refine ⟨_, rfl, Nat.le_of_ble_eq_true rfl, fun t5 n5 => ⟨[.list (its.map dFound), .tuple ([sWay].map .str)], _, .cons (Dp.same (e4'.trans (Same.new n5)) hf) (.cons (.tup (.inl (.inl upd_same)) (Dp.strs [sWay])) .nil), ⟨its, [sWay], hitl, rfl, rfl⟩, fun v6 H6 e6 hd6 => ?_⟩⟩
      have e6' := (Same.new n5).trans e6
      refine ⟨_, rfl, _, rfl, [.list (its.map dFound), .tuple (rowW.map .str)], _, .cons (Dp.same (e4'.trans e6') hf) (.cons (.tup (Y.rowsT _) (Dp.strs _)) .nil), ⟨its, rowW, hitl, rfl, rfl⟩, fun v8 H8 e8 hd8 => ?_⟩
      rw [key_pl] at hd4
      rw [key_wy] at hd6
      rw [key_rw] at hd8
      obtain ⟨b1, l1, rfl, hb1, hl1⟩ := (Dp.same (e6'.trans e8) hd4).tupI
      obtain ⟨b2, l2, rfl, hb2, hl2⟩ := (Dp.same e8 hd6).tupI
      obtain ⟨b3, l3, rfl, hb3, hl3⟩ := hd8.tupI
      refine ⟨Nat.le_of_ble_eq_true rfl, fun F nF => q1 _ hB _ _ (hsame.trans (((e4'.trans e6').trans e8).trans (Same.new nF))) ?_⟩
      have eF := Same.new (o := HO.tup [V.ref b1, V.ref b2, vSl (((its.filterMap slOf).head?).getD none), V.ref b3]) nF
      exact Dp.bkM (b := ⟨its.filterMap plOf, its.filterMap wyOf, ((its.filterMap slOf).head?).getD none, its.filterMap rwOf⟩) (.inl (.inl upd_same)) (Same.tup eF hb1) (DpAll.same eF hl1) (Same.tup eF hb2) (DpAll.same eF hl2) (Same.tup eF hb3) (DpAll.same eF hl3)
end
end K12

/-! Order and sorting of data: tuples and lists. -/
namespace K12
open PySem PySem.Spec PyProof.Rows L2
section
variable {prog : Program} {w : World} {A : Around} {E : Value → Shared → Prop} {s : Shared}
theorem collect_tup {t : Addr} {vs : List Value} {Q : List Value → Shared → Prop} (ht : IsTup s.heap t vs.toArray) (h : Q vs { s with heap := (s.heap.push (seqObj "list" #[] 0)).update s.heap.objs.size (Obj.mapSeq (· ++ vs.toArray)) }) (hz : vs.length ≤ sizeLine) : wpAny (model prog w) A (collect (.ref t)) Q E s := by
  obtain ⟨o, ho, hc, n, hd⟩ := id ht
  unfold collect
  refine wpAny_bind (wpAny_runValue (codeAny_builtin entry_proto_collect' ?_))
  show wpAny _ _ (do again (.builtin "list.__iadd__" ⟨[← newList [], .ref t], []⟩)) _ _ s
  refine wpAny_bind (wpAny_newList (wpAny_pure ⟨Code.quiet_builtin _ (by decide +kernel), codeAny_builtin entry_list_iadd' ?_⟩))
  show wpAny _ _ (Builtin.List.listExtendWith (.ref s.heap.objs.size) (.ref t) (.ref s.heap.objs.size)) _ _ { s with heap := s.heap.push (seqObj "list" #[] 0) }
  unfold Builtin.List.listExtendWith
  have h1 : (s.heap.push (seqObj "list" #[] 0)).get? t = some o := Heap.get?_push_of_some _ ho
  refine wpAny_bind (wpAny_typeOf (T := "tuple") ⟨o, h1, hc⟩ ?_)
  have ht2 : (Value.type "tuple" == Value.type "tuple") = true := rfl
  rw [if_pos (by rw [ht2]; simp)]
  refine wpAny_bind (listItems_at h1 hd (wpAny_bind (listItems_at (xs := #[]) (n := 0) (Heap.get?_push_size _ rfl) rfl ?_)))
  rw [if_neg (by simp)]
  refine wpAny_bind (listUpdate_at (xs := #[]) (n := 0) (Heap.get?_push_size _ rfl) rfl ?_ (Nat.zero_le _) (by
    show (#[] ++ vs.toArray).size ≤ sizeLine + 1
    simp only [Array.size_append, List.size_toArray, List.length_nil]
    omega))
  refine wpAny_pure ?_
  show wpAny (model prog w) A (do
      let o ← load s.heap.objs.size
      (match o.data with
      | .seq xs _ => pure xs.toList
      | _ => unsupported "internal:collect")) Q E { s with heap := (s.heap.push (seqObj "list" #[] 0)).update s.heap.objs.size (Obj.mapSeq (· ++ vs.toArray)) }
  refine wpAny_bind (wpAny_load (get?_update_seq (Heap.get?_push_size _ rfl) _) ?_)
  show wpAny _ _ (pure ((#[] : Array Value) ++ vs.toArray).toList) Q E _
  have e : ((#[] : Array Value) ++ vs.toArray).toList = vs := by simp
  rw [e]
  exact wpAny_pure h
theorem sorted_of_tup {t : Addr} {vs : List Value} {kw : List (Str × Value)} {Q : Value → Shared → Prop} (ht : IsTup s.heap t vs.toArray) (hz : vs.length ≤ sizeLine) (h1 : argsOk "sorted" ⟨[.ref t], kw⟩) (h2 : ∀ x, argsOk "list.sort" ⟨[.ref x], kw⟩)
    (hb : ∀ E' : Value → Shared → Prop, wpAny (model prog w) A.in1.in1 (Builtin.«list.sort» ⟨[.ref (s.heap.objs.size + 1)], kw⟩) (fun f s' => f = .done (.ret .none) ∧ Q (.ref (s.heap.objs.size + 1)) s') E' { s with heap := PySem.W.copyHeap s.heap vs }) : wpAny (model prog w) A (call (.builtin "sorted") [.ref t] kw) Q E s := by
  refine call_function_entry_kw kind_sorted plain_sorted entry_sorted h1 ?_
  unfold Builtin.«sorted»
  refine wpAny_bind (m := checkCount "sorted" 1 1 _) (wpAny_pure (wpAny_bind (collect_tup ht (wpAny_bind (wpAny_newList ?_ hz)) hz)))
  have e : ((s.heap.push (seqObj "list" #[] 0)).update s.heap.objs.size (Obj.mapSeq (· ++ vs.toArray))).objs.size = s.heap.objs.size + 1 := by rw [Heap.size_update, size_push']
  show wpAny _ _ _ _ _ { s with heap := PySem.W.copyHeap s.heap vs }
  rw [e]
  refine wpAny_bind (wpAny_holding (wpAny_call_entry_kw slot_list_sort ⟨_, PySem.W.copyHeap_at s.heap vs, rfl⟩ entry_list_sort ?_ (h2 _)))
  show wpAny (model prog w) A.in1.in1 (Builtin.«list.sort» ⟨[.ref (s.heap.objs.size + 1)], kw⟩) _ _ _
  refine wpAny_mono (hb _) (fun f s' hf => ?_) fun _ _ z => z
  obtain ⟨rfl, hq⟩ := hf
  exact ⟨_, rfl, wpAny_pure ⟨_, rfl, hq⟩⟩
variable {β : Type} {vs : List Value} {bs : List β} {enc : β → PyData} {R : Value → β → Prop}
theorem tup_sorted_data {t : Addr} {b : Bool} {kw : List (Str × Value)} {Q : Value → Shared → Prop} (hk : kw = [(Str.ofString "reverse", .bool b)] ∨ (kw = [] ∧ b = false)) (ht : IsTup s.heap t vs.toArray) (e : PySem.W.EachIs R vs bs) (er : PySem.W.EachIs (fun v b => ∃ as, Reads s.heap v (enc b) as) vs bs) (hal : PySem.W.AllAlike (bs.map enc)) (hS : PySem.W.Sortable (bs.map enc)) (hL : bs.length ≤ sizeLine)
    (hu : ∀ b, b ∈ bs → A.units + 2 + (enc b).depth < cLine) (h : ∀ out, out.length = bs.length → PySem.W.EachIs R out (bs.mergeSort (PySem.W.dataLe b enc)) → Q (.ref (s.heap.objs.size + 1)) { s with heap := sortedAll s.heap vs (List.toArray out) }) :
    wpAny (model prog w) A (call (.builtin "sorted") [.ref t] kw) Q E s := by
  have er' : PySem.W.EachIs (fun v b => ∃ as, Reads (PySem.W.sortingHeap (PySem.W.copyHeap s.heap vs) (s.heap.objs.size + 1) vs) v (enc b) as) vs bs := er.mono fun _ _ ⟨as, r⟩ => ⟨as, PyProof.Rows.Reads.keeps (fun _ _ => PySem.W.sorting_copy_old) r⟩
  have hz : vs.length ≤ sizeLine := by rw [e.length]; exact hL
  have S := PySem.W.SortsAt.data (prog := prog) (w := w) (A := A.in1.in1) (s := { s with heap := PySem.W.sortingHeap (PySem.W.copyHeap s.heap vs) (s.heap.objs.size + 1) vs }) (PySem.W.each_map (R := fun v d => ∃ as, Reads (PySem.W.sortingHeap (PySem.W.copyHeap s.heap vs) (s.heap.objs.size + 1) vs) v d as) enc er') hal hS (PySem.W.bound_map hu)
  have q := h _ (by rw [PySem.W.sortVals_length b rfl]; exact e.length) (PySem.W.sortVals_data b e er' hal)
  rcases hk with rfl | ⟨rfl, rfl⟩
  · exact sorted_of_tup ht hz (args_sorted_rev _ _) (fun _ => args_list_sort_rev _ _) fun _ => PySem.W.list_sort_rev_vals (s := { s with heap := PySem.W.copyHeap s.heap vs }) (PySem.W.copyHeap_at s.heap vs) S hz ⟨rfl, q⟩
  · exact sorted_of_tup ht hz (args_sorted1 _) (fun _ => args_list_sort _) fun _ => PySem.W.list_sort_vals (s := { s with heap := PySem.W.copyHeap s.heap vs }) (PySem.W.copyHeap_at s.heap vs) S hz ⟨rfl, q⟩
end
section
variable {X : Cx}
/-- < of alike data -/
def rLtD (K : PySem.W.Frag) : R2 := fun x y H Q => ∃ d e, Dp K H x d ∧ Dp K H y e ∧ PySem.W.alike d e = true ∧ d ≠ .none ∧ d.depth ≤ 60 ∧ Q (.bl (PySem.W.dataLt d e)) H
theorem op_ltD (hu : X.A.units + 64 < cLine) : OpR X (compareOp .Lt) (rLtD X.K) := by
  intro pins s σ H x y v u Q I rx ry h
  obtain ⟨d, e, hd, he, ha, hn, hdp, q⟩ := h
  obtain ⟨as, r1⟩ := L2.Dp.reads I d x v hd rx
  obtain ⟨bs, r2⟩ := L2.Dp.reads I e y u he ry
  have hm : min d.depth e.depth ≤ d.depth := Nat.min_le_left _ _
  exact PySem.W.rcLt_alike d e X.A s v u as bs r1 r2 ha hn (by omega) X.prog X.w _ _ ⟨.bl _, H, I, rfl, q⟩
variable {β : Type}
theorem each_in {K : PySem.W.Frag} {H : Hp} {enc : β → PyData} : ∀ {xs : List V} {us : List Value} {bs : List β}, Vals xs us → DpAll K H xs (bs.map enc) → PySem.W.EachIs (fun u b => ∃ x, RelV x u ∧ Dp K H x (enc b)) us bs
  | _, _, [], .nil, .nil => .nil
  | _, _, b :: bs, .cons r rr, .cons h hh => .cons ⟨_, r, h⟩ (each_in rr hh)
theorem each_out {K : PySem.W.Frag} {H : Hp} {enc : β → PyData} : ∀ {us : List Value} {bs : List β}, PySem.W.EachIs (fun u b => ∃ x, RelV x u ∧ Dp K H x (enc b)) us bs → ∃ xs, Vals xs us ∧ DpAll K H xs (bs.map enc)
  | _, _, .nil => ⟨[], .nil, .nil⟩
  | _, _, .cons ⟨x, r, h⟩ t => by
    obtain ⟨xs, h1, h2⟩ := each_out t
    exact ⟨x :: xs, .cons r h1, .cons h h2⟩
/-- sorted(xs, reverse=b) of data -/
def rSortDt (K : PySem.W.Frag) (enc : β → PyData) (b : Bool) (xs : List V) (H : Hp) (Q : VK) : Prop := ∃ (a : Addr) (ys : List V) (bs : List β), xs = [.ref a] ∧ (SqT K H a ys ∨ SqL K H a ys) ∧ DpAll K H ys (bs.map enc) ∧ PySem.W.AllAlike (bs.map enc) ∧ PySem.W.Sortable (bs.map enc) ∧ (∀ x ∈ bs, (enc x).depth ≤ 60) ∧
  ∀ zs p, H p = none → DpAll K H zs ((bs.mergeSort (PySem.W.dataLe b enc)).map enc) → Q (.ref p) (upd H p (.lst zs))
theorem sortD_run {pins : List (Addr × Obj)} {s : Shared} {σ : L2.St} {H : Hp} {xs : List V} {us : List Value} {Q : VK} {enc : β → PyData} {b : Bool} {kw : List (Str × Value)} (hk : kw = [(Str.ofString "reverse", .bool b)] ∨ (kw = [] ∧ b = false)) (hu : X.A.units + 64 < cLine) (I : L2.Inv X pins σ H s) (r : Vals xs us) (h : rSortDt X.K enc b xs H Q) :
    wpAny (model X.prog X.w) X.A (call (.builtin "sorted") us kw) (EP X pins σ Q) X.xe s := by
  obtain ⟨a, ys, bs, rfl, hsq, hds, hal, hS, hdp, q⟩ := h
  obtain ⟨u, rfl, ru⟩ := vals1 r
  obtain rfl : u = Value.ref a := ru
  have fin : ∀ (its : List Value) (out : List Value), ys.length ≤ sizeLine → out.length = bs.length → PySem.W.EachIs (fun u b => ∃ x, RelV x u ∧ Dp X.K H x (enc b)) out (bs.mergeSort (PySem.W.dataLe b enc)) → EP X pins σ Q (.ref (s.heap.objs.size + 1)) { s with heap := sortedAll s.heap its out.toArray } := fun its out hz hl ho => by
    obtain ⟨zs, h1, h2⟩ := each_out ho
    obtain ⟨c, hc⟩ := sortedAll_at s.heap its out.toArray
    have hb : ys.length = bs.length := by rw [DpAll.length hds, List.length_map]
    have hzl : zs.length ≤ sizeLine := by
      have := Paired.length h1
      omega
    exact ⟨.ref (s.heap.objs.size + 1), _, I.laid (t' := s.toks) (a := s.heap.objs.size + 1) (o := .lst zs) (h' := sortedAll s.heap its out.toArray) (fun _ _ => sortedAll_old) (Nat.le_succ _) ⟨hzl, out, c, h1, hc⟩, rfl, q zs _ (I.hok.fresh (Nat.le_succ _)) h2⟩
  have rds : ∀ {its : List Value}, Vals ys its → PySem.W.EachIs (fun u b => ∃ as, Reads s.heap u (enc b) as) its bs := fun {its} rv => (each_in rv hds).mono fun u b ⟨x, r1, h1⟩ => L2.Dp.reads I (enc b) x u h1 r1
  have hU : ∀ x, x ∈ bs → X.A.units + 2 + (enc x).depth < cLine := fun x hx => by
    have := hdp x hx
    omega
  rcases hsq with hsq | hsq
  · obtain ⟨its, rv, ht, hz⟩ := I.tuple hsq
    have hb : ys.length = bs.length := by rw [DpAll.length hds, List.length_map]
    exact tup_sorted_data hk ht (each_in rv hds) (rds rv) hal hS (by omega) hU fun out hl ho => fin its out hz hl ho
  · obtain ⟨its, rv, ht, hz⟩ := I.list hsq
    have hb : ys.length = bs.length := by rw [DpAll.length hds, List.length_map]
    rcases hk with rfl | ⟨rfl, rfl⟩
    · exact PySem.W.sorted_rev_data ht.isList (each_in rv hds) (rds rv) hal hS (by omega) hU fun out hl ho => fin its out hz hl ho
    · exact PySem.W.sorted_data ht.isList (each_in rv hds) (rds rv) hal hS (by omega) hU fun out hl ho => fin its out hz hl ho
theorem cr_sortD (enc : β → PyData) (hu : X.A.units + 64 < cLine) : CallR X (.builtin "sorted") (fun xs H Q => rSortDt X.K enc false xs H Q) := fun pins s σ H xs us Q I r h => sortD_run (.inr ⟨rfl, rfl⟩) hu I r h
theorem cr_sortDR (enc : β → PyData) (hu : X.A.units + 64 < cLine) : CallRK X (.builtin "sorted") [Str.ofString "reverse"] (fun xs zs H Q => zs = [.bl true] ∧ rSortDt X.K enc true xs H Q) := fun pins s σ H xs zs us ws Q I r rz ⟨hz, h⟩ => by
  subst hz
  obtain ⟨u, rfl, ru⟩ := vals1 rz
  obtain rfl : u = Value.bool true := ru
  exact sortD_run (kw := [(Str.ofString "reverse", .bool true)]) (.inl rfl) hu I r h
end
end K12

/-! enumerate over a tuple. -/
namespace K12
open PySem PySem.Spec PyProof.Rows L2
theorem enum_new1 {v : Value} {o : Obj} {G : Heap → Prop} (B : PySem.Begins v o G) : Meets (Builtin.«enumerate.__new__» ⟨[.type "enumerate", v], []⟩) (fun _ R s => G s.heap ∧
    R (.ok (.ret (.ref (s.heap.push o).objs.size))) { s with heap := (s.heap.push o).push { cls := .type "enumerate", data := .fields #[.none, .bool false, .ref s.heap.objs.size, rawInt 0, .none, .none] } }) :=
  .of_wp fun prog w A R s h => by
    obtain ⟨hp, g, d, tk, os⟩ := s
    obtain ⟨h1, h⟩ := h
    have hsub := sub_enumerate
    have qi : ∀ {A' : Around} {E : Value → Shared → Prop} {Q : Value → Shared → Prop}, Q (.ref hp.objs.size) ⟨hp.push o, g, d, tk, os⟩ → wpAny (model prog w) A' (pyIter v) Q E ⟨hp, g, d, tk, os⟩ := fun q => B.iter prog w _ _ ⟨hp, g, d, tk, os⟩ _ h1 q
    wp_walk using qi
    refine wpAny_stack_any fun st => wpAny_pure ?_
    split
    · rename_i c _ _ _ _ _
      cases (c == Value.type "enumerate") <;> (wp_walk using qi; exact ⟨_, rfl, h⟩)
    · wp_walk using qi
      exact ⟨_, rfl, h⟩
section
variable {prog : Program} {w : World} {A : Around} {E : Value → Shared → Prop} {s : Shared}
theorem call_enum1 {v : Value} {o : Obj} {G : Heap → Prop} {Q : Value → Shared → Prop} (B : PySem.Begins v o G) (h1 : G s.heap)
    (h : ∀ h', IsEnum h' (s.heap.objs.size + 1) s.heap.objs.size 0 .none → h'.get? s.heap.objs.size = some o → (∀ b o, s.heap.get? b = some o → h'.get? b = some o) → Q (.ref (s.heap.objs.size + 1)) { s with heap := h' }) : wpAny (model prog w) A (call (.type "enumerate") [v]) Q E s := by
  refine callType_new F.called_enumerate (by decide) (F.typeCall_enumerate_1 _) (F.newCall_enumerate_1 _) (fun obj => F.args_object_init_2 obj _) F.entry_enumerate_new (enum_new1 B) ⟨h1, ?_⟩
  have hz : (s.heap.push o).objs.size = s.heap.objs.size + 1 := Heap.size_push ..
  show _ ∧ _
  rw [hz]
  have he : IsEnum ((s.heap.push o).push { cls := .type "enumerate", data := .fields #[.none, .bool false, .ref s.heap.objs.size, rawInt 0, .none, .none] }) (s.heap.objs.size + 1) s.heap.objs.size 0 .none := by
    have z := Heap.get?_push_size (s.heap.push o) (o := { cls := .type "enumerate", data := .fields #[.none, .bool false, .ref s.heap.objs.size, rawInt 0, .none, .none] }) rfl
    rw [hz] at z
    exact z
  exact ⟨⟨_, he, rfl⟩, h _ he (Heap.get?_push_of_some _ (Heap.get?_push_size _ B.free)) fun b u x => Heap.get?_push_of_some _ (Heap.get?_push_of_some _ x)⟩
end
/-- the tuple at a, its items in new pairs with their numbers -/
def IteT (K : PySem.W.Frag) (a : Addr) : It :=
  ⟨fun i H => ∃ (xs : List V) (x : V), SqT K H a xs ∧ xs[i]? = some x, fun i H v H' => ∃ T x, v = .ref T ∧ H T = none ∧ H' = upd H T (.tup [.int (i : Nat), x]) ∧ ∀ xs, SqT K H a xs → xs[i]? = some x, fun i H => ∃ xs : List V, SqT K H a xs ∧ xs.length = i⟩
theorem turn_enumT {P : Program} {w : World} {K : PySem.W.Frag} {elts : List Expr} {kk : Nat} {tpos : Pos} (a e it : Addr) (hai : a ≠ it) (hae : a ≠ e) :
    Turn P w K (.Tuple elts kk tpos) (IteT K a) [e, it] e (fun i h => (∃ old, IsEnum h e it ((i : Nat) : Int) old) ∧ h.IsTupleIter it a i ∧ e ≠ it) where
  mem := by simp
  obj := fun i h st b hb => by
    obtain ⟨⟨old, he⟩, ⟨o, ho, hc, hd⟩, _⟩ := st
    rcases (show b = e ∨ b = it by simpa using hb) with z | z
    · rw [z]
      exact ⟨_, he, fun v q => nomatch q⟩
    · rw [z]
      exact ⟨o, ho, fun v q => by rw [hd] at q; cases q⟩
  keep := fun i h h' st k => let ⟨⟨old, he⟩, hi, hne⟩ := st; ⟨⟨old, k e (by simp) _ he⟩, hi.at fun o q => k it (by simp) o q, hne⟩
  item := by
    intro X hP hw hK hc i pins s σ H E I hf st hg
    subst hP hw hK
    obtain ⟨⟨old, he⟩, hit, hne⟩ := st
    obtain ⟨xs, x, hq, hx⟩ := hg
    obtain ⟨its, rv, p, hz⟩ := I.tuple hq
    obtain ⟨u, hu, ru⟩ := rv.get hx
    have hel : e < s.heap.objs.size := Heap.lt_size he
    have hil : it < s.heap.objs.size := by
      obtain ⟨_, q, _⟩ := hit
      exact Heap.lt_size q
    have hlt : i < its.toArray.size := by
      have z : i < its.length := (List.getElem?_eq_some_iff.mp hu).1
      simpa using z
    refine wpAny_pyNext_enum_itemD (Draws.tuple (A := X.A.in1) (I.ok.hd hc) it a hai its.toArray) he ⟨hit, p⟩ hlt hne (by simp [hne, Ne.symm hae]) fun y h' tk hy ho hst' hT hsz hk => ?_
    have ey : y = u := by
      have z : its[i]? = some y := by simpa using hy
      rw [hu] at z
      exact (Option.some.inj z).symm
    subst ey
    refine ⟨_, rfl, wpAny_letOwnedTupleGo_enum (s := { s with heap := h', toks := tk + 1 }) ho fun h'' he' sb => ?_⟩
    have hT2 : h''.get? s.heap.objs.size = some { cls := .type "tuple", data := .seq #[.int i tk, y] } := (sb.2 _ (Nat.ne_of_gt hel)).trans hT
    have new : ObjOk X.prog X.w (upd H s.heap.objs.size (.tup [.int (i : Nat), x])) h'' s.heap.objs.size (.tup [.int (i : Nat), x]) := ⟨Nat.le_of_ble_eq_true rfl, [.int i tk, y], .cons ⟨_, rfl⟩ (.cons ru .nil), ⟨_, hT2, rfl, _, rfl⟩⟩
    have I1 : L2.Inv X pins σ (upd H s.heap.objs.size (.tup [.int (i : Nat), x])) { s with heap := h'', toks := tk + 1 } :=
      I.turnedNew (ch := [e, it]) (fun b ob hb q => (sb.2 b (fun z => hb (by simp [z]))).trans (hk b ob (fun z => hb (by simp [z])) (fun z => hb (by simp [z])) q)) hf (Nat.le_refl _) new
    refine ⟨.ref s.heap.objs.size, _, I1, rfl, ⟨_, x, rfl, I.hok.fresh (Nat.le_refl _), rfl, fun ys hy => by rw [I.tuple_inj hy hq]; exact hx⟩, ⟨⟨y, ?_⟩, hst'.1.at fun o q => (sb.2 it (Ne.symm hne)).trans q, hne⟩, fun b hb => ?_⟩
    · have e1 : ((i + 1 : Nat) : Int) = (i : Int) + 1 := by omega
      rw [e1]
      exact he'
    · have hb' : b < s.heap.objs.size := by
        rcases (show b = e ∨ b = it by simpa using hb) with z | z
        · rw [z]
          exact hel
        · rw [z]
          exact hil
      rw [upd_ne (Nat.ne_of_lt hb')]
      exact (hf b hb).1
  done := by
    intro X hP hw hK hc i pins s σ H E I hf st hg
    subst hP hw hK
    obtain ⟨⟨old, he⟩, hit, hne⟩ := st
    obtain ⟨xs, hq, hx⟩ := hg
    obtain ⟨its, rv, p, hz⟩ := I.tuple hq
    obtain ⟨f0, f1, f2, f3, f4, f5⟩ := hf it (by simp)
    have hl : its.toArray.size = i := by
      have := rv.length
      simp
      omega
    exact wpAny_pyNext_enum_endD (Draws.tuple (A := X.A.in1) (I.ok.hd hc) it a hai its.toArray) he ⟨by rw [hl]; exact hit, p⟩ fun h' eb => ⟨rfl, I.turned (t' := s.toks) (fun b o hb q => eb b o hb q) f0 f1 f3 f4 f5⟩
  self := fun A i s Q E st h => let ⟨⟨_, he⟩, _⟩ := st; wpAny_pyIter_enum he h
def iEnumT (K : PySem.W.Frag) (ta : TA) : TI := fun σ H R => ta σ H fun vs H1 => ∃ a xs, vs = [.ref a] ∧ SqT K H1 a xs ∧ R (IteT K a) H1
theorem pi_enumT {X : Cx} {e : Expr} {ta : TA} {p pos tpos : Pos} {elts : List Expr} {kk : Nat} (hg : Gl X "enumerate") (hm : X.mg "enumerate" = none) (ha : PA X [e] ta) (hs : starEach [e] X.env = [(false, eval e X.env)] := by rfl) :
    PI X (.Tuple elts kk tpos) (.Call (.Name "enumerate" p) [e] [] pos) (iEnumT X.K ta) := by
  refine ⟨fun pins s σ H R I h => ?_⟩
  refine Call_ (ld_blt I hg hm boot_enumerate (PyProof.Rows.callWith_type1 (thn (ha.run pos pins s σ H _ I h) fun us s1 ⟨vs, H1, I1, r1, q1⟩ => ?_) hs rfl))
  obtain ⟨a, xs, ex, hq, q⟩ := q1
  subst ex
  obtain ⟨u, rfl, ru⟩ := vals1 r1
  obtain rfl : u = Value.ref a := ru
  obtain ⟨its, rv, p', hz⟩ := I1.tuple hq
  have hal : a < s1.heap.objs.size := by
    obtain ⟨o, ho, _⟩ := p'
    exact Heap.lt_size ho
  refine call_enum1 (begins_tuple a its.toArray) p' fun h' he hit hk => wpAny_pyIter_enum he ?_
  have I2 : L2.Inv X pins σ H1 { s1 with heap := h' } := I1.kept (t' := s1.toks) hk
  refine ⟨s1.heap.objs.size + 1, [s1.heap.objs.size + 1, s1.heap.objs.size], _, _, H1, rfl, I2, turn_enumT a (s1.heap.objs.size + 1) s1.heap.objs.size (Nat.ne_of_lt hal) (Nat.ne_of_lt (Nat.lt_succ_of_lt hal)), ⟨⟨.none, he⟩, ⟨_, hit, rfl, rfl⟩, Nat.succ_ne_self _⟩, fun b hb => ?_, q⟩
  have hle : s1.heap.objs.size ≤ b := by
    rcases (show b = s1.heap.objs.size + 1 ∨ b = s1.heap.objs.size by simpa using hb) with z | z
    · rw [z]
      exact Nat.le_succ _
    · rw [z]
      exact Nat.le_refl _
  exact I1.fpOk hle (I1.hok.fresh hle)
theorem walk_enumT {K : PySem.W.Frag} {a : Addr} {xs : List V} : Walk (IteT K a) xs.length (fun H => SqT K H a xs) (YPair (fun i => some (.int (i : Nat))) (fun i => xs[i]?)) :=
  ⟨fun i _ hi q => ⟨xs, xs[i], q, by simp [hi]⟩, fun _ q => ⟨xs, q, rfl⟩, fun i H v H' hi q ⟨T, x, h1, h2, h3, h4⟩ => ⟨T, _, x, h1, h2, h3, rfl, h4 xs q⟩⟩
end K12

/-! bookchecker. -/
namespace K12
open PySem PySem.Spec PyProof.Rows L2

/-! ### the mirror -/
def capOf (ps : List Pl) (n : Str) : Option Nat := (ps.find? fun p => decide (p.1 = n)).map (·.2.2)
def wayOk (ps : List Pl) (w : Wy) : Bool := ((capOf ps w.1).isSome || decide (w.1 = sOut)) && ((capOf ps w.2.1).isSome || decide (w.2.1 = sOut))
def d2 (w : Wy) : PyData := .tuple [.str w.1, .str w.2.1]
def wayLt (p q : Wy) : Bool := PySem.W.dataLt (d2 p) (d2 q)
def sWy : Str := "way"
def sOrder : Str := "order"
def sPl : Str := "place"
def sCap : Str := "cap"
def sPlaces : Str := "places"
def wayBad (b : Bk) (k : Nat) : Option Str := match b.ways[k]? with
  | none => none
  | some w => if wayOk b.places w = true then (if k = 0 ∨ wayLt ((b.ways[k - 1]?).getD w) w = true then none else some sOrder) else some sWy
def rowNames : Rw → List Str
  | .move a b _ => [a, b].filter fun n => decide (n ≠ sOut)
  | .count a _ => [a].filter fun n => decide (n ≠ sOut)
def rowN : Rw → Nat
  | .move _ _ n => n
  | .count _ n => n
def rowBad (b : Bk) (k : Nat) : Option Str := match b.rows[k]? with
  | none => none
  | some r => if (rowNames r).all (fun n => (capOf b.places n).isSome) = true then (if (rowNames r).all (fun n => decide (rowN r ≤ (capOf b.places n).getD 0)) = true then none else some sCap) else some sPl
def firstBad (f : Nat → Option Str) (n : Nat) : Option (Str × Nat) := (List.range n).findSome? fun k => (f k).map fun w => (w, k)
theorem first_none {f : Nat → Option Str} {n : Nat} : firstBad f n = none ↔ ∀ j, j < n → f j = none := by
  unfold firstBad
  rw [List.findSome?_eq_none_iff]
  constructor
  · intro h j hj
    have := h j (List.mem_range.mpr hj)
    simpa using this
  · intro h j hj
    rw [h j (List.mem_range.mp hj)]
    rfl
theorem first_some {f : Nat → Option Str} {n i : Nat} {w : Str} (h : ∀ j, j < i → f j = none) (hi : i < n) (hw : f i = some w) : firstBad f n = some (w, i) := by
  have e : List.range n = List.range i ++ (i :: (List.range (n - (i + 1))).map (· + (i + 1))) := by
    have h1 : n = i + (1 + (n - (i + 1))) := by omega
    conv => lhs; rw [h1]
    rw [List.range_add, List.range_add]
    simp
    intro a ha
    omega
  unfold firstBad
  rw [e, List.findSome?_append]
  have h0 : (List.range i).findSome? (fun k => (f k).map fun w => (w, k)) = none := first_none.mpr h
  rw [h0, List.findSome?_cons, hw]
  rfl
def plNames (b : Bk) : List Str := b.places.map (·.1)
def lets (b : Bk) : Option (Str × Int) :=
  if b.places = [] ∨ ascS (plNames b) = false then some (sPlaces, -1) else
    match firstBad (wayBad b) b.ways.length with
    | some (w, k) => some (w, (k : Nat))
    | none => (firstBad (rowBad b) b.rows.length).map fun p => (p.1, ((p.2 : Nat) : Int))
/-- strictly rising names are all different -/
theorem asc_pair : ∀ {l : List Str}, ascS l = true → l.Pairwise fun a b => a.cps.toList < b.cps.toList
  | [], _ => .nil
  | [_], _ => List.pairwise_singleton _ _
  | a :: b :: r, h => by
    have h' : decide (a.cps.toList < b.cps.toList) = true ∧ ascS (b :: r) = true := by
      unfold ascS at h ⊢
      simpa using h
    have ih := asc_pair h'.2
    refine List.pairwise_cons.mpr ⟨fun x hx => ?_, ih⟩
    have hab := of_decide_eq_true h'.1
    rcases List.mem_cons.mp hx with rfl | hx
    · exact hab
    · exact List.lt_trans hab ((List.pairwise_cons.mp ih).1 x hx)
theorem asc_nodup {l : List Str} (h : ascS l = true) : l.Nodup := (asc_pair h).imp fun {a b} hab e => by
  rw [e] at hab
  exact List.lt_irrefl _ hab
def capKvs (ps : List Pl) : List (Key × V) := ps.map fun p => (Sum.inr p.1, V.int ((p.2.2 : Nat) : Int))
theorem cap_val (ps : List Pl) (n : Str) : valV (capKvs ps) (Sum.inr n) = (capOf ps n).map fun c => V.int ((c : Nat) : Int) := by
  unfold valV capKvs capOf
  induction ps with
  | nil => rfl
  | cons p r ih =>
    by_cases h : p.1 = n
    · simp [h]
    · have h2 : ¬ (Sum.inr p.1 : Key) = Sum.inr n := fun z => h (by injection z)
      simp only [List.map_cons, List.find?_cons, decide_eq_false h, decide_eq_false h2]
      exact ih
theorem cap_none {ps : List Pl} {n : Str} (h : n ∉ ps.map (·.1)) : capOf ps n = none := by
  unfold capOf
  rw [List.find?_eq_none.mpr]
  · rfl
  · intro p hp
    simp
    intro e
    exact h (List.mem_map.mpr ⟨p, hp, e⟩)
def spCaps (K : PySem.W.Frag) : Sp := fun vs H Q _ => ∃ v ps, vs = [v] ∧ Dp K H v (.tuple (ps.map dPl)) ∧ (ps.map (·.1)).Nodup ∧ ps.length < sizeLine ∧ ∀ d H', Same H H' → H' d = some (.dK (capKvs ps)) → Q (.ref d) H'
def fNamesIn : List PyData → PyData → Prop := fun ds d => ∃ r, ds = [dRw r] ∧ d = .list ((rowNames r).map .str)
def spReq (K : PySem.W.Frag) : Sp := fun vs H Q E => ∃ b w k, vs = [.bl b, .str w, .int k] ∧ (b = true → Q .non H) ∧ (b = false → RzP K w k H E)
def fShape : List PyData → PyData → Prop := fun ds d => ∃ b, OkBk b ∧ b.places.length + b.ways.length + b.rows.length < 4000000 ∧ ds = [dBk b] ∧ d = .bool true
section
variable {P : Program} {w : World} {K : PySem.W.Frag} {mg : Str → Option Value} {base : Heap}
theorem sc_has_book_shape : FnScope ["thing", "slip_fits"] ["thing"] (defScope s_has_book_shape) := ⟨rfl, rfl, rfl, by decide +kernel, rfl, by decide +kernel, by decide +kernel⟩
theorem ok_has_book_shape (T : TX K mg) : Cal P w K mg base 6 "has_book_shape" ["thing"] (Pur K fShape) := by
  refine T.def_ i_has_book_shape (d := d_has_book_shape) rfl rfl sc_has_book_shape (fun _ _ _ _ _ _ us hl => match us, hl with | [_], _ => rfl) (pur_len fun ds d h => by obtain ⟨b, _, _, rfl, _⟩ := h; rfl) (fun f cdv A outer s H vs Q E hr h => ?_)
  obtain ⟨ds, d, hds, ⟨b, hok, hsz, rfl, rfl⟩, q⟩ := h
  obtain ⟨v, rfl, hv⟩ := hds.one
  obtain ⟨a, xs, rfl, ht, hx⟩ := hv.tupI
  obtain ⟨x, y, z, u, rfl, g1, g2, g3, g4⟩ := hx.four
  cases g3.slI
  refine ⟨_, pss_cons (ps_if (PW.pt (pw_or (pt_not (pt_val (pIsi (pa_cons (pv 0) (pa_cons (pTupT T.free) pa_nil)) T.free))) (pw_or1 (pt_cmpR op_ne (pe_callB call_len_seq rfl T.free boot_len (pa_cons (pv 0) pa_nil)) pe_int (nomark _))))) (pss_one (ps_ret pe_bl)) pss_nil)
    (pss_cons (ps_set (i := 1) sc_has_book_shape.nd rfl (.inl rfl) (pe_or (pe_cmp (pc_isN (pe_ix ix_tup (pv 0) pe_int (fun _ _ => rfl))) rfl) (pe_one (pc (ok_is_amount T) hr passL (pa_cons (pe_ix ix_tup (pv 0) pe_int (fun _ _ => rfl)) pa_nil)))))
    (pss_one (ps_ret (pe_and (pc (ok_are_places T) hr passL (pa_cons (pe_ix ix_tup (pv 0) pe_int (fun _ _ => rfl)) pa_nil)) (pe_and (pc (ok_are_costs T) hr passL (pa_cons (pe_ix ix_tup (pv 0) pe_int (fun _ _ => rfl)) pa_nil)) (pe_and (pv 1) (pe_one (pc (ok_are_rows T) hr passL (pa_cons (pe_ix ix_tup (pv 0) pe_int (fun _ _ => rfl)) pa_nil))))))))), ?_⟩
  have rest : ∀ H1, Same H H1 → tRet (tAndV (tCall (Pur K fPlaces) [] E0 (tCons (tOp (rIxT K) (tVar 0) (tC (V.int 0))) tNil)) (tAndV (tCall (Pur K fCosts) [] E0 (tCons (tOp (rIxT K) (tVar 0) (tC (V.int 1))) tNil)) (tAndV (tVar 1) (tCall (Pur K fRows) [] E0 (tCons (tOp (rIxT K) (tVar 0) (tC (V.int 3))) tNil))))) { nx := fun x H' => Q V.non H', rt := Q } [some (.ref a), some (.bl true)] H1 := fun H1 e1 => by
    refine ⟨_, rfl, a, _, _, _, rfl, rfl, Same.tup e1 ht, atI_nat (j := 0) rfl, [.tuple (b.places.map dPl)], _, .cons (Dp.same e1 g1) .nil, ⟨_, hok.pl, by unfold sizeLine; omega, rfl, rfl⟩, fun u H2 e2 hu => ?_⟩
    cases hu.blI
    have e2' := e1.trans e2
    refine ⟨_, rfl, iteT ⟨_, rfl, a, _, _, _, rfl, rfl, Same.tup e2' ht, atI_nat (j := 1) rfl, [.tuple (b.ways.map dWy)], _, .cons (Dp.same e2' g2) .nil, ⟨_, hok.wy, by unfold sizeLine; omega, rfl, rfl⟩, fun u H3 e3 hu => ?_⟩⟩
    cases hu.blI
    have e3' := e2'.trans e3
    refine ⟨_, rfl, iteT ⟨_, rfl, _, rfl, iteT ⟨_, rfl, a, _, _, _, rfl, rfl, Same.tup e3' ht, atI_nat (j := 3) rfl, [.tuple (b.rows.map dRw)], _, .cons (Dp.same e3' g4) .nil, ⟨_, hok.rw', by unfold sizeLine; omega, rfl, rfl⟩, fun u H4 e4 hu => ?_⟩⟩⟩
    cases hu.blI
    exact q _ _ (e3'.trans e4) (.bl _)
  refine ⟨_, rfl, rI_tup ht ⟨_, rfl, iteF ⟨_, rfl, a, _, rfl, .inr ht, rfl, _, rfl, iteF ⟨_, rfl, a, _, _, _, rfl, rfl, ht, atI_nat (j := 2) rfl, _, rfl, ?_⟩⟩⟩⟩
  cases hs : b.slip with
  | none => exact iteP (by simp [vSl]) (rest H (Same.refl _))
  | some n =>
    rw [hs] at ht
    refine iteN (by simp [vSl]) ⟨_, rfl, a, _, _, _, rfl, rfl, ht, atI_nat (j := 2) rfl, [.int n], .bool (decide (0 < (n : Int))), .cons (.int _) .nil, .inl ⟨_, rfl, rfl⟩, fun u H1 e hu => ?_⟩
    cases hu.blI
    have : decide (0 < (n : Int)) = true := decide_eq_true (by have := (hok.sl n hs).1; omega)
    rw [this]
    exact rest H1 e
theorem sc_caps_of : FnScope ["places", "name", "stock", "cap"] ["places"] (defScope s_caps_of) := ⟨rfl, rfl, rfl, by decide +kernel, rfl, by decide +kernel, by decide +kernel⟩
theorem ok_caps_of (T : TX K mg) : Cal P w K mg base 1 "caps_of" ["places"] (spCaps K) := by
  refine T.def_ i_caps_of (d := d_caps_of) rfl rfl sc_caps_of (fun _ _ _ _ _ _ us hl => match us, hl with | [_], _ => rfl) (by rintro vs H Q E ⟨v, ps, rfl, _⟩; rfl) (fun f cdv A outer s H vs Q E hr h => ?_)
  obtain ⟨v, ps, rfl, hv, hnd, hsz, q⟩ := h
  obtain ⟨a, xs, rfl, ht, hx⟩ := hv.tupI
  have nd := sc_caps_of.nd
  refine ⟨_, pss_one (ps_ret (pe_dc (own := [("name", 1), ("stock", 2), ("cap", 3)]) (g := gTup K 3 (gCons (gName 1) (gCons (gName 2) (gCons (gName 3) gNil)))) (tt := tYes) rfl nd (pi_tup (pv 0)) (blkOk_by (N := ["places", "name", "stock", "cap"]) (sc := defScope s_caps_of) (by decide +kernel))
    (fun _ _ _ _ _ => pg_tup rfl (pgs_cons (pg_name (i := 1) nd rfl (Or.inl rfl)) (pgs_cons (pg_name (i := 2) nd rfl (Or.inl rfl)) (pgs_cons (pg_name (i := 3) nd rfl (Or.inl rfl)) pgs_nil)))) (fun _ _ _ _ _ => pts_nil) (fun _ _ _ _ _ => pv 1) (fun _ _ _ _ _ => pv 3))), ?_⟩
  have hlen : xs.length = ps.length := by rw [DpAll.length hx, List.length_map]
  refine ⟨_, rfl, a, rfl, ⟨_, ht⟩, fun D hD => ?_⟩
  have hne : ∀ {H' : Hp} {u : HO}, Same H H' → Same H (upd H' D u) := fun {H' u} e b o h => by
    rw [upd_ne (ne_of_none h hD)]
    exact e b o h
  refine dc_tup (K := K) (a := a) (xs := xs) (fun i H' => Same H H' ∧ H' D = some (.dK (capKvs (ps.take i)))) ⟨hne (Same.refl _), upd_same⟩ (fun i H' _ h => Same.tup h.1 ht) (fun i x H1 hx1 h => ?_) (fun H1 h => ?_)
  · obtain ⟨e, h1⟩ := h
    have hil : i < ps.length := by
      have := (List.getElem?_eq_some_iff.mp hx1).1
      omega
    obtain ⟨d, hd, hdp⟩ := DpAll.getV hx hx1
    rw [List.getElem?_map, List.getElem?_eq_getElem hil] at hd
    cases hd
    obtain ⟨t, rfl, hts⟩ := (Dp.same e hdp).plI
    refine ⟨t, _, rfl, hts, rfl, _, _, rfl, _, _, rfl, _, _, rfl, rfl, rfl, _, rfl, _, rfl, capKvs (ps.take i), Sum.inr ps[i].1, rfl, h1, ?_, hne e, ?_⟩
    · unfold capKvs
      rw [List.length_map, List.length_take]
      omega
    · rw [upd_same, putK_new _ ?_]
      · unfold capKvs
        rw [List.take_succ_eq_append_getElem hil, List.map_append]
        rfl
      · rw [cap_val, cap_none]
        · rfl
        · intro hm
          have e2 : ps.map (·.1) = (ps.take i).map (·.1) ++ (ps[i].1 :: (ps.drop (i + 1)).map (·.1)) := by
            rw [← List.map_cons, ← List.map_append, List.getElem_cons_drop, List.take_append_drop]
          rw [e2] at hnd
          have := (List.nodup_append.mp hnd).2.2 _ hm ps[i].1 (List.mem_cons_self ..)
          exact this rfl
  · obtain ⟨e, h1⟩ := h
    rw [hlen, List.take_length] at h1
    exact q D H1 e h1
end
end K12

/-! names_in, require, lets_book. -/
namespace K12
open PySem PySem.Spec PyProof.Rows L2
def spLets (K : PySem.W.Frag) : Sp := fun vs H Q E => ∃ v b, vs = [v] ∧ Dp K H v (dBk b) ∧ OkBk b ∧ b.places.length + b.ways.length + b.rows.length < 4000000 ∧ (lets b = none → ∀ H', Same H H' → Q (.int ((b.rows.length : Nat) : Int)) H') ∧ ∀ w k, lets b = some (w, k) → RzP K w k H E
theorem RzP.mono {K : PySem.W.Frag} {w : Str} {k : Int} {H H1 : Hp} {E : XK} (z : RzP K w k H E) (e : Same H H1) : RzP K w k H1 E := fun d H3 nd s hd => z d H3 (e.free nd) (e.trans s) hd
section
variable {P : Program} {w : World} {K : PySem.W.Frag} {mg : Str → Option Value} {base : Heap}
theorem slT {X : Cx} (K : PySem.W.Frag) (hK : X.K = K := by rfl) : SlR X (rSlA K) := by
  subst hK
  exact sl_tupA
/-- the items of a list of texts that pass -/
theorem filt_step {l : List Str} {p : Str → Bool} {i : Nat} (hi : i < l.length) : (((l.take (i + 1)).filter p).map PyData.str) = ((l.take i).filter p).map PyData.str ++ (if p l[i] = true then [.str l[i]] else []) := by
  rw [List.take_succ_eq_append_getElem hi, List.filter_append, List.map_append]
  by_cases h : p l[i] = true
  · simp [h]
  · simp [h]
theorem sc_names_in : FnScope ["row", "name"] ["row"] (defScope s_names_in) := ⟨rfl, rfl, rfl, by decide +kernel, rfl, by decide +kernel, by decide +kernel⟩
theorem ok_names_in (T : TX K mg) : Cal P w K mg base 1 "names_in" ["row"] (Pur K fNamesIn) := by
  refine T.def_ i_names_in (d := d_names_in) rfl rfl sc_names_in (fun _ _ _ _ _ _ us hl => match us, hl with | [_], _ => rfl) (pur_len fun ds d h => by obtain ⟨r, rfl, _⟩ := h; rfl) (fun f cdv A outer s H vs Q E hr h => ?_)
  obtain ⟨ds, d, hds, ⟨r, rfl, rfl⟩, q⟩ := h
  obtain ⟨v, rfl, hv⟩ := hds.one
  obtain ⟨a, rfl, ht⟩ := hv.rwI
  obtain ⟨t1, hO⟩ := T.strK 3
  have nd := sc_names_in.nd
  refine ⟨_, pss_one (ps_ret (pe_lc (own := [("name", 1)]) (g := gName 1) (tt := tTest (tOp rNe (tVar 1) (tC (.str "out")))) rfl nd (pi_tup (pe_slice sl_tupA (pv 0) (po_some pe_int) (po_some (pe_un un_neg pe_int)))) (blkOk_by (N := ["row", "name"]) (sc := defScope s_names_in) (by decide +kernel)) (fun _ _ _ _ _ => pg_name (i := 1) nd rfl (Or.inl rfl)) (fun _ _ _ _ _ => pts_one (pt_cmpR op_ne (pv 1) (gS hO) (nomark _))) (fun _ _ _ _ _ => pv 1))), ?_⟩
  have go : ∀ (l : List Str) (p : Addr) (H1 : Hp), Same H H1 → SqT K H1 p (l.map V.str) → l.length < sizeLine → (∀ D H2 acc, Same H H2 → H2 D = some (.lst acc) → DpAll K H2 acc ((l.filter fun n => decide (n ≠ sOut)).map .str) → Q (.ref D) H2) →
      ∀ D, H1 D = none → ∃ W : Nat → Nat → Hp → Prop, (∃ m, W 0 m (upd H1 D (.lst []))) ∧ ∀ i m H, W i m H → ((Itt K p).stop i H ∧ Q (.ref D) H) ∨ ((Itt K p).go i H ∧ ∃ Nx : Hp → Prop, (∀ H', Nx H' → ∃ m', m' < m ∧ W (i + 1) m' H') ∧ ∀ x H', (Itt K p).yld i H x H' → gName 1 x (wipe (L2.start ["row", "name"] [.ref a]) [1]) H' fun σ2 H2 => wipe σ2 [1] = wipe (L2.start ["row", "name"] [.ref a]) [1] ∧ tTest (tOp rNe (tVar 1) (tC (.str "out"))) σ2 H2 fun b H3 => if b = true then tVar 1 σ2 H3 fun y H4 => ∃ acc, H4 D = some (.lst acc) ∧ acc.length < sizeLine ∧ Nx (upd H4 D (.lst (acc ++ [y]))) else Nx H3) := by
    intro l p H1 e1 hp hl fin D hD
    refine lc_dat (K := K) walk_tup (fun i => ((l.take i).filter fun n => decide (n ≠ sOut)).map .str) rfl (fun i hi => ?_) (by simpa using hl) hD (fun H2 e => Same.tup e hp) (fun i H2 x H3 Nx hi e y k1 k0 => ?_) (fun H2 acc e h3 h4 => ?_)
    · have hi2 : i < l.length := by simpa using hi
      rw [filt_step hi2]
      by_cases h : (decide (l[i] ≠ sOut)) = true
      · exact .inr ⟨.str l[i], rfl, by simp only [h, if_true]⟩
      · exact .inl (by simp only [h]; simp)
    · obtain ⟨rfl, hx⟩ := y
      have hi2 : i < l.length := by simpa using hi
      rw [List.getElem?_map, List.getElem?_eq_getElem hi2] at hx
      cases hx
      have eo : (!decide (V.str l[i] = V.str "out")) = decide (l[i] ≠ sOut) := by
        rw [sOut_is]
        simp
      refine ⟨rfl, _, rfl, rfl, _, rfl, ?_⟩
      rw [eo]
      refine ite2 (fun h => ⟨_, rfl, k1 _ _ (.str l[i]) (Same.refl _) (.str _) ?_⟩) fun h => k0 _ (Same.refl _) ?_
      · rw [filt_step hi2]
        simp only [h, if_true]
      · rw [filt_step hi2]
        simp only [h]
        simp
    · rw [List.length_map, List.take_length] at h4
      exact fin D H2 acc (e1.trans e) h3 h4
  cases r with
  | move x y n =>
    refine ⟨_, rfl, 1, rfl, 1, rfl, _, rfl, a, _, rfl, ht, fun h => absurd h (show ¬ (HT.sIx 4 0 (some 1) = 0 ∧ HT.sIx 4 4 (some (-1)) = 4) by decide), fun _ p np => ⟨p, rfl, ⟨_, .inl (.inl upd_same)⟩, go [x, y] p _ (Same.new np) (.inl (.inl upd_same)) (Nat.le_of_ble_eq_true rfl) fun D H2 acc e h3 h4 => q _ _ e (.lst (.inl (.inl h3)) h4)⟩⟩
  | count x n =>
    refine ⟨_, rfl, 1, rfl, 1, rfl, _, rfl, a, _, rfl, ht, fun h => absurd h (show ¬ (HT.sIx 3 0 (some 1) = 0 ∧ HT.sIx 3 3 (some (-1)) = 3) by decide), fun _ p np => ⟨p, rfl, ⟨_, .inl (.inl upd_same)⟩, go [x] p _ (Same.new np) (.inl (.inl upd_same)) (Nat.le_of_ble_eq_true rfl) fun D H2 acc e h3 h4 => q _ _ e (.lst (.inl (.inl h3)) h4)⟩⟩
theorem sc_require : FnScope ["truth", "word", "at"] ["truth", "word", "at"] (defScope s_require) := ⟨rfl, rfl, rfl, by decide +kernel, rfl, by decide +kernel, by decide +kernel⟩
theorem ok_require (Y : TY P K mg) : Cal P w K mg base 3 "require" ["truth", "word", "at"] (spReq K) := by
  have T := Y.tx
  refine T.def_ i_require (d := d_require) rfl rfl sc_require (fun _ _ _ _ _ _ us hl => match us, hl with | [_, _, _], _ => rfl) (by rintro vs H Q E ⟨b, w, k, rfl, _⟩; rfl) (fun f cdv A outer s H vs Q E hr h => ?_)
  obtain ⟨b, z, k, rfl, q1, q2⟩ := h
  obtain ⟨fI, fd, F1, hb, hX, hi, ht⟩ := Y.paperI (w := w) (base := base)
  refine ⟨_, pss_one (ps_if (pt_not (pt_val (pv 0))) (pss_one (ps_rz hX hi ht F1 (hr.mono (by decide)) hb rfl T.glo rfl (takes_of rfl rfl rfl rfl) (pa_cons (pv 1) (pa_cons (pv 2) pa_nil)) (mono_2 mono_var mono_var))) pss_nil), ?_⟩
  cases b with
  | false => exact ⟨_, rfl, _, rfl, iteT ⟨_, rfl, _, rfl, _, _, rfl, q2 rfl⟩⟩
  | true => exact ⟨_, rfl, _, rfl, iteF (q1 rfl)⟩
theorem sc_lets_book : FnScope ["thing", "places", "costs", "slip", "rows", "caps", "k", "one", "other", "cost", "t", "row", "name", "stock", "cap"] ["thing"] (defScope s_lets_book) := ⟨rfl, rfl, rfl, by decide +kernel, rfl, by decide +kernel, by decide +kernel⟩
theorem ok_lets_book (Y : TY P K mg) : Cal P w K mg base 7 "lets_book" ["thing"] (spLets K) := by
  have T := Y.tx
  refine T.def_ i_lets_book (d := d_lets_book) rfl rfl sc_lets_book (fun _ _ _ _ _ _ us hl => match us, hl with | [_], _ => rfl) (by rintro vs H Q E ⟨v, b, rfl, _⟩; rfl) (fun f cdv A outer s H vs Q E hr h => ?_)
  obtain ⟨v, b, rfl, hv, hok, hsz, q1, q2⟩ := h
  obtain ⟨a, pa, wa, ra, ps, ws, rs, rfl, ht, tp, dp, tw, dw, tr, dr⟩ := hv.bkI
  obtain ⟨t1, hO⟩ := T.strK 3
  have nd := sc_lets_book.nd
  refine ⟨_, (pss_cons (ps_expr (pc (ok_require Y) hr passB (pa_cons (pc (ok_has_book_shape T) hr passB (pa_cons (pv 0) pa_nil)) (pa_cons pe_str (pa_cons (pe_un un_neg pe_int) pa_nil)))))
    (pss_cons (ps_asg (pv 0) (pg_tup rfl (pgs_cons (pg_name (i := 1) nd rfl (.inl rfl)) (pgs_cons (pg_name (i := 2) nd rfl (.inl rfl)) (pgs_cons (pg_name (i := 3) nd rfl (.inl rfl)) (pgs_cons (pg_name (i := 4) nd rfl (.inl rfl)) pgs_nil))))))
    (pss_cons (ps_expr (pc (ok_require Y) hr passB (pa_cons (pe_and (pe_cmpR (op_neD hr.units) (pv 1) (pe_tup pa_nil) (nomark _)) (pe_one (pc (ok_are_ascending T) hr passB (pa_cons (pe_lc (own := [("name", 12), ("stock", 13), ("cap", 14)]) (g := gTup K 3 (gCons (gName 12) (gCons (gName 13) (gCons (gName 14) gNil)))) (tt := tYes) rfl nd (pi_tup (pv 1)) (blkOk_by (N := ["thing", "places", "costs", "slip", "rows", "caps", "k", "one", "other", "cost", "t", "row", "name", "stock", "cap"]) (sc := defScope s_lets_book) (by decide +kernel)) (fun _ _ _ _ _ => pg_tup rfl (pgs_cons (pg_name (i := 12) nd rfl (Or.inl rfl)) (pgs_cons (pg_name (i := 13) nd rfl (Or.inl rfl)) (pgs_cons (pg_name (i := 14) nd rfl (Or.inl rfl)) pgs_nil)))) (fun _ _ _ _ _ => pts_nil) (fun _ _ _ _ _ => pv 12)) pa_nil)))) (pa_cons pe_str (pa_cons (pe_un un_neg pe_int) pa_nil)))))
    (pss_cons (ps_set (i := 5) nd rfl (.inr rfl) (pc (ok_caps_of T) hr passB (pa_cons (pv 1) pa_nil)))
    (pss_cons (ps_for (passes_of rfl) rfl (pi_enumT rfl T.free (pa_cons (pv 2) pa_nil)) (pg_tup rfl (pgs_cons (pg_name (i := 6) nd rfl (.inl rfl)) (pgs_cons (pg_tup rfl (pgs_cons (pg_name (i := 7) nd rfl (.inl rfl)) (pgs_cons (pg_name (i := 8) nd rfl (.inl rfl)) (pgs_cons (pg_name (i := 9) nd rfl (.inl rfl)) pgs_nil)))) pgs_nil)))
      (pss_cons (ps_expr (pc (ok_require Y) hr passB (pa_cons (pe_callB (cr_all rfl) rfl T.free boot_all (pa_cons (pe_lc (own := [("name", 12)]) (g := gName 12) (tt := tYes) rfl nd (pi_tup (pe_tup (pa_cons (pv 7) (pa_cons (pv 8) pa_nil)))) (blkOk_by (N := ["thing", "places", "costs", "slip", "rows", "caps", "k", "one", "other", "cost", "t", "row", "name", "stock", "cap"]) (sc := defScope s_lets_book) (by decide +kernel)) (fun _ _ _ _ _ => pg_name (i := 12) nd rfl (Or.inl rfl)) (fun _ _ _ _ _ => pts_nil) (fun _ _ _ _ _ => pe_or (pe_cmp (pc_din (hu_of hr) (pv 12) (pv 5)) rfl) (pe_one (pe_cmpR op_eq (pv 12) (gS hO) (nomark _))))) pa_nil)) (pa_cons pe_str (pa_cons (pv 6) pa_nil)))))
    (pss_one (ps_expr (pc (ok_require Y) hr passB (pa_cons (pe_or (pe_cmpR op_eq (pv 6) pe_int (nomark _)) (pe_one (pe_cmpR (op_ltD hr.units) (pe_slice sl_tupA (pe_ix ix_tup (pv 2) (pe_op op_sub (pv 6) pe_int) (fun _ _ => rfl)) po_none (po_some pe_int)) (pe_tup (pa_cons (pv 7) (pa_cons (pv 8) pa_nil))) (nomark _)))) (pa_cons pe_str (pa_cons (pv 6) pa_nil))))))))
    (pss_cons (ps_for (passes_of rfl) rfl (pi_enumT rfl T.free (pa_cons (pv 4) pa_nil)) (pg_tup rfl (pgs_cons (pg_name (i := 10) nd rfl (.inl rfl)) (pgs_cons (pg_name (i := 11) nd rfl (.inr rfl)) pgs_nil)))
      (pss_cons (ps_expr (pc (ok_require Y) hr passB (pa_cons (pe_callB (cr_all rfl) rfl T.free boot_all (pa_cons (pe_lc (own := [("name", 12)]) (g := gName 12) (tt := tYes) rfl nd (pi_list (pc (ok_names_in T) hr passB (pa_cons (pv 11) pa_nil))) (blkOk_by (N := ["thing", "places", "costs", "slip", "rows", "caps", "k", "one", "other", "cost", "t", "row", "name", "stock", "cap"]) (sc := defScope s_lets_book) (by decide +kernel)) (fun _ _ _ _ _ => pg_name (i := 12) nd rfl (Or.inl rfl)) (fun _ _ _ _ _ => pts_nil) (fun _ _ _ _ _ => pe_cmp (pc_din (hu_of hr) (pv 12) (pv 5)) rfl)) pa_nil)) (pa_cons pe_str (pa_cons (pv 10) pa_nil)))))
    (pss_one (ps_expr (pc (ok_require Y) hr passB (pa_cons (pe_callB (cr_all rfl) rfl T.free boot_all (pa_cons (pe_lc (own := [("name", 12)]) (g := gName 12) (tt := tYes) rfl nd (pi_list (pc (ok_names_in T) hr passB (pa_cons (pv 11) pa_nil))) (blkOk_by (N := ["thing", "places", "costs", "slip", "rows", "caps", "k", "one", "other", "cost", "t", "row", "name", "stock", "cap"]) (sc := defScope s_lets_book) (by decide +kernel)) (fun _ _ _ _ _ => pg_name (i := 12) nd rfl (Or.inl rfl)) (fun _ _ _ _ _ => pts_nil) (fun _ _ _ _ _ => pe_cmpR op_le (pe_ix (ixT K) (pv 11) (pe_un un_neg pe_int) (fun _ _ => rfl)) (pe_dget (hu_of hr) (pv 5) (pv 12) (fun _ _ => rfl)) (nomark _))) pa_nil)) (pa_cons pe_str (pa_cons (pv 10) pa_nil))))))))
    (pss_one (ps_ret (pe_callB call_len_seq rfl T.free boot_len (pa_cons (pv 4) pa_nil)))))))))), ?_⟩
  have lp : ps.length = b.places.length := by rw [DpAll.length dp, List.length_map]
  have lw : ws.length = b.ways.length := by rw [DpAll.length dw, List.length_map]
  have lr : rs.length = b.rows.length := by rw [DpAll.length dr, List.length_map]
  refine ⟨_, rfl, [dBk b], _, .cons hv .nil, ⟨b, hok, hsz, rfl, rfl⟩, fun u H1 e1 hu => ?_⟩
  cases hu.blI
  refine ⟨1, rfl, true, _, _, rfl, fun _ => ?_, fun z => (nomatch z)⟩
  refine ⟨_, rfl, a, _, rfl, Same.tup e1 ht, rfl, _, _, rfl, _, _, rfl, _, _, rfl, _, _, rfl, rfl, ?_⟩
  refine ⟨_, rfl, Nat.zero_le _, fun p0 np0 => ?_⟩
  have e2 : Same H (upd H1 p0 (.tup [])) := e1.trans (Same.new np0)
  have hshp : Shp 2 (.tuple (b.places.map dPl)) := shp_tup fun d hd => by
    obtain ⟨p, hp, rfl⟩ := List.mem_map.mp hd
    refine shp_tup fun d hd => ?_
    simp at hd
    rcases hd with rfl | rfl | rfl
    · exact shp_name (isName_of (hok.pl p hp).1)
    · exact shp_int _
    · exact shp_int _
  have hpl : plain (.tuple (b.places.map dPl)) = true := by
    simp only [plain]
    exact plains_map _ (fun _ => rfl) _
  have hev : PyData.eqv (.tuple (b.places.map dPl)) (.tuple []) = decide (b.places = []) := eqv_dec hpl rfl ⟨fun h => by
    injection h with h
    simpa using h, fun h => by rw [h]; rfl⟩
  refine ⟨.tuple (b.places.map dPl), .tuple [], .tup (Same.tup e2 tp) (DpAll.same e2 dp), .tup (.inl (.inl upd_same)) .nil, hshp.ok, (shp_tup (n := 0) (ds := []) (fun d hd => absurd hd (by simp))).ok, _, rfl, ?_⟩
  rw [hev]
  by_cases hpe : b.places = []
  · have hl : lets b = some (sPlaces, -1) := by
      unfold lets
      rw [if_pos (.inl hpe)]
    exact iteN (by simp [hpe]) ⟨1, rfl, false, _, _, rfl, fun z => (nomatch z), fun _ => (q2 _ _ hl).mono e2⟩
  refine iteP (by simp [hpe]) ⟨_, rfl, pa, rfl, ⟨_, Same.tup e2 tp⟩, fun D hD => ?_⟩
  refine lc_map (K := K) walk_tup ((plNames b).map .str) (by unfold plNames; simp [lp]) (noLsts_map _ (fun _ => rfl) _) (by unfold sizeLine; omega) hD (fun H2 e => Same.tup (e2.trans e) tp) (fun i H2 x H3 Nx hi e y k1 => ?_) (fun H2 acc e h3 h4 => ?_)
  · obtain ⟨rfl, hx⟩ := y
    have hil : i < b.places.length := by omega
    obtain ⟨d, hd, hdp⟩ := DpAll.getV dp hx
    rw [List.getElem?_map, List.getElem?_eq_getElem hil] at hd
    cases hd
    obtain ⟨tt, rfl, htt⟩ := (Dp.same (e2.trans e) hdp).plI
    refine ⟨tt, _, rfl, htt, rfl, _, _, rfl, _, _, rfl, _, _, rfl, rfl, rfl, _, rfl, k1 _ _ _ ?_ (Same.refl _) (.str _)⟩
    unfold plNames
    simp [hil]
  have e3 : Same H H2 := e2.trans e
  refine ⟨[.list ((plNames b).map .str)], _, .cons (.lst (.inl (.inl h3)) h4) .nil, ⟨_, rfl, by unfold plNames sizeLine; simp; omega, rfl⟩, fun u H4 e4 hu => ?_⟩
  cases hu.blI
  have e4' := e3.trans e4
  refine ⟨1, rfl, _, _, _, rfl, fun has => ?_, fun has => ?_⟩
  rotate_left
  · have hl : lets b = some (sPlaces, -1) := by
      unfold lets
      rw [if_pos (.inr has)]
    exact (q2 _ _ hl).mono e4'
  refine ⟨_, rfl, _, b.places, rfl, .tup (Same.tup e4' tp) (DpAll.same e4' dp), asc_nodup has, by unfold sizeLine; omega, fun dd H5 e5 hdd => ?_⟩
  have e5' := e4'.trans e5
  have hlets : ¬ (b.places = [] ∨ ascS (plNames b) = false) := by
    rintro (h | h)
    · exact hpe h
    · rw [has] at h
      cases h
  refine ⟨_, rfl, wa, _, rfl, Same.tup e5' tw, ?_⟩
  refine for_it (walk_enumT (K := K) (a := wa) (xs := ws)) (fun i σ H' => ∃ o6 o7 o8 o9, σ = [some (.ref a), some (.ref pa), some (.ref wa), some (vSl b.slip), some (.ref ra), some (.ref dd), o6, o7, o8, o9, none, none, none, none, none] ∧ Same H5 H' ∧ ∀ j, j < i → wayBad b j = none) ?_ (fun i σ H' hi h => Same.tup (e5'.trans (by obtain ⟨_, _, _, _, _, h, _⟩ := h; exact h)) tw) ?_ ?_
  · exact ⟨none, none, none, none, rfl, Same.refl _, fun j hj => absurd hj (Nat.not_lt_zero _)⟩
  · rintro i x σ H6 H7 hi ⟨o6, o7, o8, o9, rfl, e6, hbad⟩ ⟨T', x1, y1, rfl, nT, rfl, hx1, hy1⟩
    cases hx1
    replace hy1 : ws[i]? = some y1 := hy1
    have hil : i < b.ways.length := by omega
    obtain ⟨d, hd, hdp⟩ := DpAll.getV dw hy1
    rw [List.getElem?_map, List.getElem?_eq_getElem hil] at hd
    cases hd
    have e6' := e5'.trans e6
    have sT : Same H6 (upd H6 T' (.tup [.int (i : Nat), y1])) := Same.new nT
    obtain ⟨wi, rfl, hwi⟩ := (Dp.same e6' hdp).wyI
    have hwB : b.ways[i]? = some b.ways[i] := List.getElem?_eq_getElem hil
    generalize hww : b.ways[i] = wy at hwi hwB
    have hokw : OkWy wy := by rw [← hww]; exact hok.wy _ (List.getElem_mem hil)
    refine ⟨T', _, rfl, .inl (.inl upd_same), rfl, _, _, rfl, _, _, rfl, wi, _, rfl, Same.tup sT hwi, rfl, _, _, rfl, _, _, rfl, _, _, rfl, rfl, rfl, ?_⟩
    refine ⟨_, rfl, _, rfl, Nat.le_of_ble_eq_true rfl, fun p np => ⟨p, rfl, ⟨_, .inl (.inl upd_same)⟩, fun D hD => ?_⟩⟩
    have e7 : Same H6 (upd (upd H6 T' (.tup [.int (i : Nat), .ref wi])) p (.tup [.str wy.1, .str wy.2.1])) := sT.trans (Same.new np)
    have e7' := e6.trans e7
    have hdd7 := e7' _ _ hdd
    refine lc_map (K := K) walk_tup (([wy.1, wy.2.1].map fun n => (capOf b.places n).isSome || decide (n = sOut)).map .bool) rfl rfl (Nat.le_of_ble_eq_true rfl) hD (fun H8 e => Same.tup e (.inl (.inl upd_same))) (fun j H8 x H9 Nx hj e y k1 => ?_) (fun H8 acc e h3 h4 => ?_)
    · obtain ⟨rfl, hx⟩ := y
      have hx' : ([wy.1, wy.2.1].map V.str)[j]? = some x := hx
      rw [List.getElem?_map] at hx'
      cases hn : [wy.1, wy.2.1][j]? with
      | none => rw [hn] at hx'; cases hx'
      | some n =>
        rw [hn] at hx'
        cases hx'
        have hres : (([wy.1, wy.2.1].map fun n => (capOf b.places n).isSome || decide (n = sOut)).map PyData.bool)[j]? = some (.bool ((capOf b.places n).isSome || decide (n = sOut))) := by
          rw [List.getElem?_map, List.getElem?_map, hn]
          rfl
        refine ⟨rfl, _, rfl, _, rfl, dd, _, rfl, DGet.k (k := Sum.inr n) (e _ _ hdd7), _, rfl, ?_⟩
        rw [cap_val, Option.isSome_map]
        refine ite2 (fun h => k1 _ _ _ hres (Same.refl _) ?_) fun h => ⟨_, rfl, rfl, k1 _ _ _ hres (Same.refl _) ?_⟩
        · rw [h]
          exact .bl _
        · refine dpB ?_
          have h' : (capOf b.places n).isSome = false := by simpa using h
          rw [h', sOut_is]
          simp
    · have e8' := e7'.trans e
      refine ⟨D, _, rfl, sqB h3 h4, _, rfl, _, _, _, rfl, fun hok1 => ?_, fun hno => ?_⟩
      rotate_left
      · have hb1 : wayBad b i = some sWy := by
          unfold wayBad
          rw [hwB]
          have : wayOk b.places wy = false := by
            unfold wayOk
            simpa using hno
          simp [this]
        have hl : lets b = some (sWy, ((i : Nat) : Int)) := by
          unfold lets
          rw [if_neg hlets, first_some hbad hil hb1]
        exact (q2 _ _ hl).mono (e5'.trans e8')
      have hwok : wayOk b.places wy = true := by
        unfold wayOk
        simpa using hok1
      refine ⟨_, rfl, rfl, _, rfl, ?_⟩
      have fin : ∀ H9 (bb : Bool), Same H5 H9 → (bb = decide (i = 0 ∨ wayLt ((b.ways[i - 1]?).getD wy) wy = true)) → spReq K [.bl bb, .str sOrder, .int (i : Nat)] H9 (fun _ H' => ∃ o6 o7 o8 o9, [some (V.ref a), some (.ref pa), some (.ref wa), some (vSl b.slip), some (.ref ra), some (.ref dd), some (.int (i : Nat)), some (.str wy.1), some (.str wy.2.1), some (.int wy.2.2), none, none, none, none, none] = [some (V.ref a), some (.ref pa), some (.ref wa), some (vSl b.slip), some (.ref ra), some (.ref dd), o6, o7, o8, o9, none, none, none, none, none] ∧ Same H5 H' ∧ ∀ j, j < i + 1 → wayBad b j = none) E := fun H9 bb e9 hbb =>
        ⟨bb, sOrder, _, rfl, fun hyes => ⟨_, _, _, _, rfl, e9, fun j hj => by
          rcases Nat.lt_succ_iff_lt_or_eq.mp hj with h | h
          · exact hbad j h
          · subst h
            unfold wayBad
            rw [hwB]
            have : j = 0 ∨ wayLt ((b.ways[j - 1]?).getD wy) wy = true := by
              rw [hyes] at hbb
              exact of_decide_eq_true hbb.symm
            simp only [hwok, if_true, if_pos this]⟩, fun hno => by
          have hb1 : wayBad b i = some sOrder := by
            unfold wayBad
            rw [hwB]
            have : ¬ (i = 0 ∨ wayLt ((b.ways[i - 1]?).getD wy) wy = true) := by
              rw [hno] at hbb
              exact of_decide_eq_false hbb.symm
            simp only [hwok, if_true, if_neg this]
          have hl : lets b = some (sOrder, ((i : Nat) : Int)) := by
            unfold lets
            rw [if_neg hlets, first_some hbad hil hb1]
          exact (q2 _ _ hl).mono (e5'.trans e9)⟩
      by_cases hi0 : i = 0
      · refine iteP (by simp [hi0]) ⟨_, rfl, fin H8 true e8' ?_⟩
        simp [hi0]
      · have hip : i - 1 < b.ways.length := by omega
        obtain ⟨vp, hvp, hdvp⟩ := DpAll.get dw (i := i - 1) (d := dWy b.ways[i - 1]) (by simp [hip])
        obtain ⟨wp, rfl, hwp⟩ := (Dp.same (e5'.trans e8') hdvp).wyI
        refine iteN (by simpa using hi0) ⟨_, rfl, _, rfl, _, _, rfl, rfl, wa, ws, _, _, rfl, rfl, Same.tup (e5'.trans e8') tw, at_of (j := i - 1) (by omega) hvp, 2, rfl, wp, _, rfl, hwp, fun h => absurd h (show ¬ (HT.sIx 3 0 none = 0 ∧ HT.sIx 3 3 (some 2) = 3) by decide), fun _ p2 np2 => ?_⟩
        refine ⟨_, rfl, _, rfl, Nat.le_of_ble_eq_true rfl, fun p3 np3 => ?_⟩
        have e9 := e8'.trans ((Same.new (o := HO.tup (cutV [V.str b.ways[i - 1].1, .str b.ways[i - 1].2.1, .int b.ways[i - 1].2.2] none (some 2))) np2).trans (Same.new (o := HO.tup [V.str wy.1, V.str wy.2.1]) np3))
        have hp23 : p2 ≠ p3 := fun zz => by
          rw [← zz, upd_same] at np3
          cases np3
        refine ⟨d2 b.ways[i - 1], d2 wy, .tup (.inl (.inl ?_)) (.cons (.str _) (.cons (.str _) .nil)), .tup (.inl (.inl upd_same)) (.cons (.str _) (.cons (.str _) .nil)), rfl, (fun z => nomatch z), Nat.le_of_ble_eq_true rfl, _, rfl, ?_⟩
        · rw [upd_ne hp23, upd_same]
          rfl
        · refine fin _ _ e9 ?_
          have hg : (b.ways[i - 1]?).getD wy = b.ways[i - 1] := by simp [hip]
          rw [hg]
          unfold wayLt
          simp [hi0]
  · rintro σ H6 ⟨o6, o7, o8, o9, rfl, e6, hbad⟩
    rw [lw] at hbad
    have hways : firstBad (wayBad b) b.ways.length = none := first_none.mpr hbad
    have e6' := e5'.trans e6
    have hdd6 := e6 _ _ hdd
    refine ⟨_, rfl, ra, _, rfl, Same.tup e6' tr, ?_⟩
    refine for_it (walk_enumT (K := K) (a := ra) (xs := rs)) (fun i σ H' => ∃ o10 o11, σ = [some (.ref a), some (.ref pa), some (.ref wa), some (vSl b.slip), some (.ref ra), some (.ref dd), o6, o7, o8, o9, o10, o11, none, none, none] ∧ Same H6 H' ∧ ∀ j, j < i → rowBad b j = none) ?_ (fun i σ H' hi h => Same.tup (e6'.trans (by obtain ⟨_, _, _, h, _⟩ := h; exact h)) tr) ?_ ?_
    · exact ⟨none, none, rfl, Same.refl _, fun j hj => absurd hj (Nat.not_lt_zero _)⟩
    · rintro i x σ H7 H8 hi ⟨o10, o11, rfl, e7, hbadr⟩ ⟨T', x1, y1, rfl, nT, rfl, hx1, hy1⟩
      cases hx1
      replace hy1 : rs[i]? = some y1 := hy1
      have hil : i < b.rows.length := by omega
      obtain ⟨d, hd, hdp⟩ := DpAll.getV dr hy1
      rw [List.getElem?_map, List.getElem?_eq_getElem hil] at hd
      cases hd
      have e7' := e6'.trans e7
      have sT : Same H7 (upd H7 T' (.tup [.int (i : Nat), y1])) := Same.new nT
      have hrB : b.rows[i]? = some b.rows[i] := List.getElem?_eq_getElem hil
      generalize hrr : b.rows[i] = rw0 at hdp hrB
      have hlens : (rowNames rw0).length ≤ 2 := by
        cases rw0 with
        | move x y n => exact List.length_filter_le _ _
        | count x n => exact Nat.le_trans (List.length_filter_le _ _) (by simp)
      have err : ∀ w', rowBad b i = some w' → lets b = some (w', ((i : Nat) : Int)) := fun w' hw' => by
        unfold lets
        rw [if_neg hlets, hways, first_some hbadr hil hw']
        rfl
      refine ⟨T', _, rfl, .inl (.inl upd_same), rfl, _, _, rfl, _, _, rfl, rfl, ?_⟩
      refine ⟨_, rfl, [dRw rw0], _, .cons (Dp.same (e7'.trans sT) hdp) .nil, ⟨rw0, rfl, rfl⟩, fun u H9 e9 hu => ?_⟩
      obtain ⟨l, xs, rfl, hl, hxs⟩ := hu.lstI
      cases DpAll.strs hxs
      have e9' := e7.trans (sT.trans e9)
      refine ⟨l, rfl, ⟨_, hl⟩, fun D hD => ?_⟩
      refine lc_map (K := K) walk_list (((rowNames rw0).map fun n => (capOf b.places n).isSome).map .bool) (by simp) (noLsts_map _ (fun _ => rfl) _) (by simp; unfold sizeLine; omega) hD (fun H10 e => e.seq hl) (fun j H10 x H11 Nx hj e y k1 => ?_) (fun H10 acc e h3 h4 => ?_)
      · obtain ⟨rfl, hx⟩ := y
        rw [List.getElem?_map] at hx
        cases hn : (rowNames rw0)[j]? with
        | none => rw [hn] at hx; cases hx
        | some n =>
          rw [hn] at hx
          cases hx
          refine ⟨rfl, _, rfl, _, rfl, dd, _, rfl, DGet.k (k := Sum.inr n) (e _ _ (e9' _ _ hdd6)), k1 _ _ (.bool (capOf b.places n).isSome) ?_ (Same.refl _) (dpB ?_)⟩
          · rw [List.getElem?_map, List.getElem?_map, hn]
            rfl
          · rw [cap_val, Option.isSome_map]
      · have e10 := e9'.trans e
        refine ⟨D, _, rfl, sqB h3 h4, _, rfl, _, _, _, rfl, fun hok1 => ?_, fun hno => ?_⟩
        rotate_left
        · have hb1 : rowBad b i = some sPl := by
            unfold rowBad
            rw [hrB]
            have : ¬ (rowNames rw0).all (fun n => (capOf b.places n).isSome) = true := by
              rw [List.all_map] at hno
              intro hz
              have hz2 : ((rowNames rw0).all (id ∘ fun n => (capOf b.places n).isSome)) = true := hz
              rw [hz2] at hno
              cases hno
            simp only [if_neg this]
          exact (q2 _ _ (err _ hb1)).mono (e6'.trans e10)
        have hall : (rowNames rw0).all (fun n => (capOf b.places n).isSome) = true := by
          rw [List.all_map] at hok1
          exact hok1
        have hgr : ∃ ar, (Dp K H10 y1 (dRw rw0)) ∧ y1 = .ref ar ∧ SqT K H10 ar (vRw rw0) := by
          have z := Dp.same (e6'.trans e10) hdp
          obtain ⟨ar, h1, h2⟩ := z.rwI
          exact ⟨ar, z, h1, h2⟩
        obtain ⟨ar, hdr, rfl, har⟩ := hgr
        refine ⟨_, rfl, [dRw rw0], _, .cons hdr .nil, ⟨rw0, rfl, rfl⟩, fun u H11 e11 hu => ?_⟩
        obtain ⟨l2, xs2, rfl, hl2, hxs2⟩ := hu.lstI
        cases DpAll.strs hxs2
        have e11' := e10.trans e11
        refine ⟨l2, rfl, ⟨_, hl2⟩, fun D2 hD2 => ?_⟩
        refine lc_map (K := K) walk_list (((rowNames rw0).map fun n => decide (rowN rw0 ≤ (capOf b.places n).getD 0)).map .bool) (by simp) (noLsts_map _ (fun _ => rfl) _) (by simp; unfold sizeLine; omega) hD2 (fun H12 e => e.seq hl2) (fun j H12 x H13 Nx hj e y k1 => ?_) (fun H12 acc2 e12 h5 h6 => ?_)
        · obtain ⟨rfl, hx⟩ := y
          rw [List.getElem?_map] at hx
          cases hn : (rowNames rw0)[j]? with
          | none => rw [hn] at hx; cases hx
          | some n =>
            rw [hn] at hx
            cases hx
            have hsome : (capOf b.places n).isSome = true := by
              rw [List.all_eq_true] at hall
              exact hall n (List.mem_of_getElem? hn)
            obtain ⟨cc, hcc⟩ := Option.isSome_iff_exists.mp hsome
            have har2 : SqT K H13 ar (vRw rw0) := Same.tup (e11.trans e) har
            have hat : atI (vRw rw0) (-1) = some (.int (rowN rw0 : Nat)) := by cases rw0 <;> rfl
            have hg : DGet H13 dd (V.str n) (some (.int (cc : Nat))) := by
              have z := DGet.k (k := Sum.inr n) (e _ _ (e11' _ _ hdd6))
              rw [cap_val, hcc] at z
              exact z
            refine ⟨rfl, _, rfl, 1, rfl, ar, _, _, _, rfl, rfl, har2, hat, _, rfl, _, rfl, dd, _, rfl, hg, _, _, rfl, rfl, k1 _ _ (.bool (decide (rowN rw0 ≤ (capOf b.places n).getD 0))) ?_ (Same.refl _) (dpB ?_)⟩
            · rw [List.getElem?_map, List.getElem?_map, hn]
              rfl
            · rw [hcc]
              simp
        · have e12' := e11'.trans e12
          refine ⟨D2, _, rfl, sqB h5 h6, _, rfl, _, _, _, rfl, fun hok2 => ⟨_, _, rfl, e12', fun j hj => ?_⟩, fun hno => ?_⟩
          · rcases Nat.lt_succ_iff_lt_or_eq.mp hj with h | h
            · exact hbadr j h
            · subst h
              unfold rowBad
              rw [hrB]
              have h2 : (rowNames rw0).all (fun n => decide (rowN rw0 ≤ (capOf b.places n).getD 0)) = true := by
                rw [List.all_map] at hok2
                exact hok2
              simp only [hall, if_true, h2]
          · have hb1 : rowBad b i = some sCap := by
              unfold rowBad
              rw [hrB]
              have : ¬ (rowNames rw0).all (fun n => decide (rowN rw0 ≤ (capOf b.places n).getD 0)) = true := by
                rw [List.all_map] at hno
                intro hz
                have hz2 : ((rowNames rw0).all (id ∘ fun n => decide (rowN rw0 ≤ (capOf b.places n).getD 0))) = true := hz
                rw [hz2] at hno
                cases hno
              simp only [hall, if_true, if_neg this]
            exact (q2 _ _ (err _ hb1)).mono (e6'.trans e12')
    · rintro σ H7 ⟨o10, o11, rfl, e7, hbadr⟩
      rw [lr] at hbadr
      have hl : lets b = none := by
        unfold lets
        rw [if_neg hlets, hways, first_none.mpr hbadr]
        rfl
      have e7' := e6'.trans e7
      have z := q1 hl H7 e7'
      rw [← lr] at z
      exact ⟨_, rfl, ra, _, rfl, .inr (Same.tup e7' tr), z⟩
end
end K12

/-! Dict comprehensions whose keys are tuples; the items of such a dict. -/
namespace K12
open PySem PySem.Spec PyProof.Rows L2
/-- a key that is a tuple is put -/
theorem dT_set {X : Cx} {pins : List (Addr × Obj)} {σ : L2.St} {H : Hp} {s : Shared} {E : Value → Shared → Prop} {D b : Addr} {kvs : List (List Key × V)} {k : List Key} {v : V} {u r : Value} {Q : Unit → Shared → Prop} (hu : X.A.units + 1 < cLine) (I : L2.Inv X pins σ H s) (hD : H D = some (.dT kvs)) (hb : H b = some (.tup (k.map kV))) (hz : kvs.length < sizeLine)
    (ry : RelV (.ref b) u) (rv : RelV v r) (h : ∀ s', L2.Inv X pins σ (upd H D (.dT (putK kvs k v))) s' → Q () s') : wpAny (model X.prog X.w) X.A (dictSet D u r) Q E s := by
  obtain rfl : u = Value.ref b := ry
  obtain ⟨_, hs, es, rel, dd⟩ := dt_of I.hok hD
  have hl : (putK kvs k v).length ≤ sizeLine := by
    have := length_putK kvs k v
    omega
  have hzv : es.length ≤ sizeLine := by
    rw [← Paired.length rel]
    omega
  refine wpAny_dictSet_heap (hsz := hzv) (show X.A.units < cLine from Nat.lt_of_le_of_lt (Nat.le_succ _) hu) (key_of I.hok hb) dd fun h' dd' hs' => h _ ?_
  obtain ⟨q, is, ep, hq, g2, g3, g4, _, g5⟩ := dd'
  refine d_write I (by rw [hD]; exact True.intro) hs' ⟨q, hq⟩ ⟨hl, hs, _, (rel.put k hb rv).keeps fun c ys ec => ?_, q, is, ep, hq, g2, g3, g4, g5⟩
  rw [upd_ne (ne_of ec hD (fun z => nomatch z))]
  exact ec
section
variable {X : Cx}
/-- {k: v for target in iter if ..}, keys tuples of ints and texts: D the new dict -/
def tDcT (wi : TI) (g : TG) (tt : TT) (tk tv : TE) (vs : List Nat) : TE := fun σ H Q => wi σ H fun J H1 => ∀ D, H1 D = none → ∃ W : Nat → Nat → Hp → Prop, (∃ m, W 0 m (upd H1 D (.dT []))) ∧ ∀ i m H, W i m H →
  (J.stop i H ∧ Q (.ref D) H) ∨ (J.go i H ∧ ∃ Nx : Hp → Prop, (∀ H', Nx H' → ∃ m', m' < m ∧ W (i + 1) m' H') ∧ ∀ x H', J.yld i H x H' → g x (wipe σ vs) H' fun σ2 H2 => wipe σ2 vs = wipe σ vs ∧ tt σ2 H2 fun b H3 =>
    if b = true then tk σ2 H3 fun y H4 => tv σ2 H4 fun z H5 => ∃ kvs k c, y = .ref c ∧ H5 c = some (.tup (k.map kV)) ∧ H5 D = some (.dT kvs) ∧ kvs.length < sizeLine ∧ Nx (upd H5 D (.dT (putK kvs k z))) else Nx H3)
theorem dcT_core {pins : List (Addr × Obj)} {s : Shared} {σ : L2.St} {H : Hp} {Q : VK} {kx vx tg iter : Expr} {ifs : List Expr} {scope : Scope} {own : List (Str × Nat)} {pos pos' : Pos} {wi : TI} {g : TG} {tt : TT} {tk tv : TE} {use : Option (Value → Sem Unit)} {Qf : Value → Shared → Prop}
    (hu : X.A.units + 1 < cLine) (hc : X.calm = true) (hN : X.N.Nodup) (I : L2.Inv X pins σ H s) (hi : PI X tg iter wi) (ok : BlkOk X.N X.env.scope scope own)
    (hg : ∀ (s : Shared) (H : Hp) (C : Addr) (cl : List (Str × Addr)) (fp : List Addr), PG (X.blk s H scope (compEnvC scope cl C X.env) fp) tg g) (ht : ∀ (s : Shared) (H : Hp) (C : Addr) (cl : List (Str × Addr)) (fp : List Addr), PTs (X.blk s H scope (compEnvC scope cl C X.env) fp) ifs tt)
    (hk : ∀ (s : Shared) (H : Hp) (C : Addr) (cl : List (Str × Addr)) (fp : List Addr), PE (X.blk s H scope (compEnvC scope cl C X.env) fp) kx tk)
    (he : ∀ (s : Shared) (H : Hp) (C : Addr) (cl : List (Str × Addr)) (fp : List Addr), PE (X.blk s H scope (compEnvC scope cl C X.env) fp) vx tv) (hs : ∀ x, foldedSetIterable iter X.env x = pure x)
    (h : tDcT wi g tt tk tv (own.map (·.2)) σ H Q)
    (hRR : ∀ D C s' m H', L2.Inv X pins σ H' s' → Q (.ref D) H' → s'.heap.Ns C m → FpOk X pins H' C → compPost (model X.prog X.w) X.A X.xe use Qf (.ref D) C (.ok .next) s') :
    wpAny (model X.prog X.w) X.A (comprehension (.DictComp kx vx [⟨tg, iter, ifs, 0⟩] scope pos) scope X.env pos' newDict false (eval iter X.env) use) Qf X.xe s := by
  have hfree : ∀ y ∈ scope.names, y.2 = .free → ∃ c, X.env.cells.lookup y.1 = some c := fun y hy e => by
    rcases ok.free y hy e with k | k
    · exact I.ok.has _ (.inl k)
    · exact I.ok.has _ (.inr k)
  refine wpAny_comprehension_free (use := use) rfl hs (closure_ok hfree) ok.kind (fun y hy e => by rw [ok.uniq y hy, e])
    (thn (hi.run pins s σ H _ I h) fun xv sk1 hx => thn hx fun itv sk2 hk2 => ?_)
  obtain ⟨it, fp, tn, J, Hk2, e, Ik2, T, stk2, fk2, q⟩ := hk2
  subst e
  refine wpAny_newObj_type (newEnv_comp ?_)
  generalize hD : sk2.heap.objs.size = D
  have hDn : Hk2 D = none := Ik2.hok.fresh (Nat.le_of_eq hD)
  obtain ⟨W, ⟨mk0, wk0⟩, turn⟩ := q D hDn
  -- the new list
  generalize hsk3 : ({ sk2 with heap := sk2.heap.push { cls := .type "dict", data := .dict #[] } } : Shared) = sk3
  have Ik3 : L2.Inv X pins σ (upd Hk2 D (.dT [])) sk3 := by
    rw [← hsk3]
    refine Ik2.laid (t' := sk2.toks) (fun b o e => Heap.get?_push_of_some _ e) (Nat.le_of_eq hD) ?_
    rw [← hD]
    exact dt_empty sk2.heap Ik2.big
  have hk3 : sk3.heap = sk2.heap.push { cls := .type "dict", data := .dict #[] } := by rw [← hsk3]
  have sz : ∀ b ∈ fp, b < sk2.heap.objs.size := fun b hb => by
    obtain ⟨o, e, _⟩ := T.obj _ _ stk2 b hb
    exact Heap.lt_size e
  have fk3 : ∀ b ∈ fp, FpOk X pins (upd Hk2 D (.dT [])) b ∧ b < sk3.heap.objs.size := fun b hb => by
    have hlt := sz b hb
    refine ⟨⟨?_, (fk2 b hb).2⟩, by rw [hk3, Heap.size_push]; exact Nat.lt_succ_of_lt hlt⟩
    rw [upd_ne (by rw [← hD]; exact Nat.ne_of_lt hlt)]
    exact (fk2 b hb).1
  have stk3 : tn 0 sk3.heap := T.keep _ _ _ stk2 fun b _ o e => by rw [hk3]; exact Heap.get?_push_of_some _ e
  have Ik4 := block_start Ik3 ok hN fk3
  have pg := hg sk3 (upd Hk2 D (.dT [])) sk3.heap.objs.size (cellsFrom (sk3.heap.objs.size + 1) scope.names (cloFrom X.env.cells scope.names [])) fp
  have pt := ht sk3 (upd Hk2 D (.dT [])) sk3.heap.objs.size (cellsFrom (sk3.heap.objs.size + 1) scope.names (cloFrom X.env.cells scope.names [])) fp
  have pk := hk sk3 (upd Hk2 D (.dT [])) sk3.heap.objs.size (cellsFrom (sk3.heap.objs.size + 1) scope.names (cloFrom X.env.cells scope.names [])) fp
  have pe := he sk3 (upd Hk2 D (.dT [])) sk3.heap.objs.size (cellsFrom (sk3.heap.objs.size + 1) scope.names (cloFrom X.env.cells scope.names [])) fp
  show codeAny _ _ (.compStart (.DictComp kx vx [⟨tg, iter, ifs, 0⟩] scope pos) 0 (.ref it) (.ref D) (compEnvC scope (cellsFrom (sk3.heap.objs.size + 1) scope.names (cloFrom X.env.cells scope.names [])) sk3.heap.objs.size X.env)) (compPost (model X.prog X.w) X.A X.xe use Qf (.ref D) sk3.heap.objs.size) { sk3 with heap := pushCells (sk3.heap.push { cls := .type "dict", data := .dict #[] }) scope.names }
  have nfp : ∀ b ∈ fp, (upd Hk2 D (.dT [])) b = none := fun b hb => (fk3 b hb).1.1
  generalize hce : compEnvC scope (cellsFrom (sk3.heap.objs.size + 1) scope.names (cloFrom X.env.cells scope.names [])) sk3.heap.objs.size X.env = ce at Ik4 pg pt pk pe ⊢
  have cL : ce.locals = sk3.heap.objs.size := by subst hce; rfl
  generalize hHk3 : upd Hk2 D (.dT []) = Hk3 at Ik3 Ik4 pg pt pk pe wk0 nfp fk3
  generalize hsk4 : ({ sk3 with heap := pushCells (sk3.heap.push { cls := .type "dict", data := .dict #[] }) scope.names } : Shared) = sk4 at Ik4 ⊢
  have stk4 : tn 0 sk4.heap := T.keep _ _ _ stk3 fun b _ o e => by rw [← hsk4]; exact pushCells_keeps _ _ _ _ (Heap.get?_push_of_some _ e)
  have stat : ∀ {σ' : L2.St} {H' : Hp} {s' : Shared}, L2.Inv (X.blk sk3 Hk3 scope ce fp) [] σ' H' s' → (∀ b ∈ fp, H' b = none) → ∀ b ∈ fp, FpOk (X.blk sk3 Hk3 scope ce fp) [] H' b := fun {σ' H' s'} I' hn b hb =>
    ⟨hn b hb, (I'.ok.exf b hb).1, I'.ok.exfs b hb, .inl hb, fun x c e => (I'.ok.exf b hb).2 x c e, fun p hp => absurd (show p ∈ ([] : List (Addr × Obj)) ++ [] from hp) (by simp)⟩
  have loop : codeAny (model X.prog X.w) X.A (.compLoop (.DictComp kx vx [⟨tg, iter, ifs, 0⟩] scope pos) 0 (.ref it) (.ref D) ce) (compPost (model X.prog X.w) X.A X.xe use Qf (.ref D) sk3.heap.objs.size) sk4 := by
    refine compLoop_anyD (fun n s' => ∃ i H', L2.Inv (X.blk sk3 Hk3 scope ce fp) [] (wipe σ (own.map (·.2))) H' s' ∧ tn i s'.heap ∧ (∀ b ∈ fp, H' b = none) ∧ W i n H') ?_ mk0 ⟨0, Hk3, Ik4, stk4, nfp, wk0⟩
    rintro n sk5 ⟨i, Hk5, Ik5, stk5, nk5, wk5⟩
    rcases turn i n Hk5 wk5 with ⟨stop, qq⟩ | ⟨go, Nx, hNx, step⟩
    · have td := T.done (X.blk sk3 Hk3 scope ce fp) rfl rfl rfl hc i [] sk5 _ Hk5 (fun _ _ => False) Ik5 (stat Ik5 nk5) stk5 stop
      refine thnF td fun r sk6 ⟨hr, Ik6⟩ => ?_
      subst hr
      -- back in the def's context
      have Ik7 : L2.Inv X pins σ Hk5 sk6 := Ik3.call' (ch := fp) Ik6.os Ik6.base Ik6.hok Ik6.bare fun b hb => ⟨(fk3 b hb).1.2.2.2.1, (fk3 b hb).1.2.1, (fk3 b hb).1.2.2.2.2.1, (fk3 b hb).1.2.2.2.2.2⟩
      have nC : Hk5 sk3.heap.objs.size = none := by
        have z : Hk5 ce.locals = none := Ik6.free
        rw [cL] at z
        exact z
      obtain ⟨m, hn, _⟩ := Ik6.loc
      have hn : sk6.heap.Ns ce.locals m := hn
      rw [cL] at hn
      exact hRR D sk3.heap.objs.size sk6 m Hk5 Ik7 qq hn (Ik3.fpOk (Nat.le_refl _) nC)
    · have ti := T.item (X.blk sk3 Hk3 scope ce fp) rfl rfl rfl hc i [] sk5 _ Hk5 (fun _ _ => False) Ik5 (stat Ik5 nk5) stk5 go
      refine thnF ti fun r sk6 ⟨u, hr, hk6⟩ => ?_
      subst hr
      refine thnF hk6 fun _ sk7 ⟨x, Hk7, Ik7, rk7, yk7, stk7, nk7⟩ => ?_
      have Ik7' := Ik7.pinned (stat Ik7 nk7) (T.obj _ _ stk7)
      refine thnF (pg.run _ sk7 _ Hk7 x u _ Ik7' rk7 (step x Hk7 yk7)) fun _ sk8 ⟨σ8, Hk8, Ik8, hwk8, qk8⟩ => ?_
      refine thnF (pt.run _ sk8 σ8 Hk8 _ Ik8 qk8) fun b sk9 ⟨Hk9, Ik9, qk9⟩ => ?_
      -- the turn's end
      have fin : ∀ {s' : Shared} {H' : Hp}, L2.Inv (X.blk sk3 Hk3 scope ce fp) ([] ++ pinsAt fp sk7.heap) σ8 H' s' → Nx H' → ∃ m, m < n ∧ ∃ i H', L2.Inv (X.blk sk3 Hk3 scope ce fp) [] (wipe σ (own.map (·.2))) H' s' ∧ tn i s'.heap ∧ (∀ b ∈ fp, H' b = none) ∧ W i m H' := fun {s' H'} I' nx => by
        obtain ⟨m', hm, w'⟩ := hNx H' nx
        have pin' : ∀ b ∈ fp, ∀ o, sk7.heap.get? b = some o → s'.heap.get? b = some o ∧ H' b = none := fun b hb o e =>
          let z := I'.pin (b, o) (List.mem_append_right _ (List.mem_append_right _ (mem_pinsAt hb e)))
          ⟨z.1, z.2.1⟩
        have hl : (wipe σ (own.map (·.2))).length = σ8.length := by rw [← hwk8, wipe_length]
        refine ⟨m', hm, i + 1, H', (I'.unpinned (pins := [])).weak hl (fun j v e => ?_), T.keep _ _ _ stk7 fun b hb o e => (pin' b hb o e).1, fun b hb => ?_, w'⟩
        · rw [← hwk8] at e
          exact (wipe_some e).1
        · obtain ⟨o, e, _⟩ := T.obj _ _ stk7 b hb
          exact (pin' b hb o e).2
      cases b with
      | false =>
        simp only [Bool.false_eq_true, if_false] at qk9 ⊢
        exact fin Ik9 qk9
      | true =>
        simp only [if_true] at qk9 ⊢
        refine thnF (pk.run _ sk9 σ8 Hk9 _ Ik9 qk9) fun z sk10 ⟨yk, Hk10, Ik10, rk10, qk10⟩ => ?_
        refine thnF (pe.run _ sk10 σ8 Hk10 _ Ik10 qk10) fun zk2 sk11 ⟨yv, Hk11, Ik11, rk11, kvs, k, b, ek, hbk11, hDk11, hzk11, nx⟩ => ?_
        subst ek
        exact dT_set (X := X.blk sk3 Hk3 scope ce fp) hu Ik11 hDk11 hbk11 hzk11 rk10 rk11 fun sk12 Ik12 => fin Ik12 nx
  exact codeAny_compStart_dict loop (T.self X.A 0 _ _ _ stk4 loop)
/-- {..} given to a name: the old value goes when the block ends -/
theorem ps_setDcT {i : Nat} {y : Str} {py : Pos} {kx vx tg iter : Expr} {ifs : List Expr} {scope : Scope} {own : List (Str × Nat)} {pos spos : Pos} {wi : TI} {g : TG} {tt : TT} {tk tv : TE} (hu : X.A.units + 1 < cLine) (hc : X.calm = true) (hN : X.N.Nodup) (hy : X.N[i]? = some y) (hyl : X.env.scope.names.lookup y = some .local)
    (hsw : swapsWith (.DictComp kx vx [⟨tg, iter, ifs, 0⟩] scope pos) (some (.Name y py)) spos.line X.env = pure true) (hi : PI X tg iter wi) (ok : BlkOk X.N X.env.scope scope own)
    (hg : ∀ (z : Shared) (G : Hp) (C : Addr) (cl : List (Str × Addr)) (fp : List Addr), PG (X.blk z G scope (compEnvC scope cl C X.env) fp) tg g) (ht : ∀ (z : Shared) (G : Hp) (C : Addr) (cl : List (Str × Addr)) (fp : List Addr), PTs (X.blk z G scope (compEnvC scope cl C X.env) fp) ifs tt)
    (hk : ∀ (z : Shared) (G : Hp) (C : Addr) (cl : List (Str × Addr)) (fp : List Addr), PE (X.blk z G scope (compEnvC scope cl C X.env) fp) kx tk)
    (he : ∀ (z : Shared) (G : Hp) (C : Addr) (cl : List (Str × Addr)) (fp : List Addr), PE (X.blk z G scope (compEnvC scope cl C X.env) fp) vx tv) (hs : ∀ x, foldedSetIterable iter X.env x = pure x := by intro _; rfl) :
    PS X (.Assign [.Name y py] (.DictComp kx vx [⟨tg, iter, ifs, 0⟩] scope pos) spos) (tAsg (tDcT wi g tt tk tv (own.map (·.2))) (gName i)) := by
  refine ⟨fun pn z σ G D I h => ?_⟩
  rw [exec_Assign_Name_used _ _ _ _ hsw]
  refine wpAny_bind (wpAny_standAt (wpAny_bind ?_))
  show wpAny _ X.A (do let _ ← comprehension (.DictComp kx vx [⟨tg, iter, ifs, 0⟩] scope pos) scope X.env (firstIterPos [⟨tg, iter, ifs, 0⟩] pos) newDict false (eval iter X.env) (some (assign (.Name y py) X.env))) _ _ z
  have h : tDcT wi g tt tk tv (own.map (·.2)) σ G (fun x G1 => gName i x σ G1 D.nx) := h
  refine wpAny_bind (thn (dcT_core (Qf := fun _ z' => SP X pn D .next z') hu hc hN I hi ok hg ht hk he hs h fun L C z' m G' I' q hn f => ?_) fun _ z' hq => wpAny_pure (wpAny_pure hq))
  show wpAny _ _ (assign (.Name y py) X.env (.ref L)) _ _ _
  refine wpAny_assign_Name (store_ok2 (v := V.ref L) I' hN hy (.inl hyl) rfl (fun z2 I2 ⟨a, sb, ha⟩ => ?_) (.inr hyl))
  obtain ⟨k0, k1, k2, k3, k4, k5⟩ := f
  have hCa : C ≠ a := by
    rcases ha with e | e
    · rw [e]
      exact k1
    · exact fun w => k4 y a e w.symm
  exact ⟨m, hn.sameBut sb hCa, fun h3 sb3 => ⟨_, G', I2.turned (t' := z2.toks) (fun b o hb w => (sb3.2 b hb).trans w) k0 k1 k3 k4 k5, q⟩⟩
theorem swD_true {kx vx : Expr} {gs : List Comprehension} {scope : Scope} {pos py : Pos} {y : Str} {l : Nat} {env : Env} (hk : env.scope.kind = .function) (hy : env.scope.names.lookup y = some .local) (hl : (py.line == pos.line) = true)
    (ha : (scope.names.any fun (n, k) => n == y && (k == .local || k == .cell)) = false) : swapsWith (.DictComp kx vx gs scope pos) (some (.Name y py)) l env = pure true := by
  have hb : env.blockKind = .function := by
    unfold Env.blockKind
    rw [hk]
    rfl
  have ky : env.kindOf y = some .local := hy
  unfold swapsWith
  simp only [ha, hl, hb, ky, Expr.pos]
  rfl
/-- over a list or a tuple that stays -/
theorem dcT_it {J : It} {n : Nat} {Kp : Hp → Prop} {Y : Nat → Hp → V → Hp → Prop} (Wk : Walk J n Kp Y) {g : TG} {tt : TT} {tk tv : TE} {vs : List Nat} {σ : L2.St} {H1 : Hp} {D : Addr} {Qd : Hp → Prop} (Pv : Nat → Hp → Prop) (h0 : Pv 0 (upd H1 D (.dT []))) (hl : ∀ i H, i ≤ n → Pv i H → Kp H)
    (hs : ∀ i x H H', i < n → Pv i H → Y i H x H' → g x (wipe σ vs) H' fun σ2 H2 => wipe σ2 vs = wipe σ vs ∧ tt σ2 H2 fun b H3 =>
      if b = true then tk σ2 H3 fun y H4 => tv σ2 H4 fun z H5 => ∃ kvs k c, y = .ref c ∧ H5 c = some (.tup (k.map kV)) ∧ H5 D = some (.dT kvs) ∧ kvs.length < sizeLine ∧ Pv (i + 1) (upd H5 D (.dT (putK kvs k z))) else Pv (i + 1) H3) (hd : ∀ H, Pv n H → Qd H) :
    ∃ W : Nat → Nat → Hp → Prop, (∃ m, W 0 m (upd H1 D (.dT []))) ∧ ∀ i m H, W i m H →
      (J.stop i H ∧ Qd H) ∨ (J.go i H ∧ ∃ Nx : Hp → Prop, (∀ H', Nx H' → ∃ m', m' < m ∧ W (i + 1) m' H') ∧ ∀ x H', J.yld i H x H' → g x (wipe σ vs) H' fun σ2 H2 => wipe σ2 vs = wipe σ vs ∧ tt σ2 H2 fun b H3 =>
        if b = true then tk σ2 H3 fun y H4 => tv σ2 H4 fun z H5 => ∃ kvs k c, y = .ref c ∧ H5 c = some (.tup (k.map kV)) ∧ H5 D = some (.dT kvs) ∧ kvs.length < sizeLine ∧ Nx (upd H5 D (.dT (putK kvs k z))) else Nx H3) := by
  refine ⟨fun i m H => m = n - i ∧ i ≤ n ∧ Pv i H, ⟨n, by simp, Nat.zero_le _, h0⟩, ?_⟩
  rintro i m H ⟨rfl, hi, p⟩
  have q := hl i H hi p
  by_cases hlt : i < n
  · exact .inr ⟨Wk.goes i H hlt q, Pv (i + 1), fun H' p' => ⟨n - (i + 1), by omega, rfl, hlt, p'⟩, fun x H' y => hs i x H H' hlt p (Wk.yields i H x H' hlt q y)⟩
  · have e : i = n := by omega
    subst e
    exact .inl ⟨Wk.stops H q, hd H p⟩
end
/-- the pairs of a locked dict of tuple keys, each a new tuple -/
def ItiT (d : Addr) (o : Obj) (kvs : List (List Key × V)) : It :=
  ⟨fun i H => H d = some (.frz o (.dT kvs)) ∧ i < kvs.length, fun i H x H' => ∃ T k v q, kvs[i]? = some (k, v) ∧ x = .ref T ∧ H q = some (.tup (k.map kV)) ∧ H T = none ∧ H' = upd H T (.tup [.ref q, v]), fun i H => H d = some (.frz o (.dT kvs)) ∧ kvs.length ≤ i⟩
/-- what stands at each key of a locked dict -/
theorem frzT_more {X : Cx} {pins : List (Addr × Obj)} {σ : L2.St} {H : Hp} {s : Shared} {d : Addr} {o : Obj} {kvs : List (List Key × V)} (I : L2.Inv X pins σ H s) (h : H d = some (.frz o (.dT kvs))) :
    ∃ (es : Array DictEntry) (ep : Nat), o.data = .dict es ep ∧ es.size = kvs.length ∧ DT.Raw s.heap d es ep ∧ (d == sysModules) = false ∧ ∀ (i : Nat) (k : List Key) (v : V), kvs[i]? = some (k, v) → ∃ (en : DictEntry) (q : Addr), es[i]? = some en ∧ en.key = .ref q ∧ H q = some (.tup (k.map kV)) ∧ RelV v en.val := by
  obtain ⟨hd, z, hs, xs, pr, o', es, ep, ho, hx, hdt, he, _⟩ := I.hok d _ h
  rw [hd] at ho
  cases ho
  refine ⟨es, ep, hdt, ?_, ⟨o, hd, hx, hdt⟩, hs, fun i k v e => ?_⟩
  · have l1 := size_of_entries he
    have l2 : kvs.length = xs.length := Paired.length pr
    omega
  · obtain ⟨b, hb, _, e2, e3⟩ := paired_get pr e
    have q := entry_at he i
    rw [hb] at q
    exact ⟨_, b.2.1, q, rfl, e2, e3⟩
theorem turn_itemsT {P : Program} {w : World} {K : PySem.W.Frag} {d : Addr} {o : Obj} {es : Array DictEntry} {ep : Nat} {kvs : List (List Key × V)} {elts : List Expr} {kk : Nat} {tpos : Pos} (it : Addr) (hod : o.data = .dict es ep) :
    Turn P w K (.Tuple elts kk tpos) (ItiT d o kvs) [it] it (fun i h => ∃ ok ov, IsItemIter h it d i kvs.length ep ok ov) where
  mem := by simp
  obj := fun i h st b hb => by
    obtain rfl : b = it := by simpa using hb
    obtain ⟨_, _, e⟩ := st
    exact ⟨_, e, fun v z => nomatch z⟩
  keep := fun i h h' st k => let ⟨ok, ov, e⟩ := st; ⟨ok, ov, k it (by simp) _ e⟩
  item := by
    intro X hP hw hK hc i pn z σ G E I hf st hg
    subst hP hw hK
    obtain ⟨hd, hi⟩ := hg
    obtain ⟨es', ep', hdt, hsz, raw, hs, ent⟩ := frzT_more I hd
    obtain ⟨rfl, rfl⟩ := dict_ep hod hdt
    obtain ⟨⟨k, v⟩, hkv⟩ : ∃ p, kvs[i]? = some p := ⟨kvs[i], List.getElem?_eq_getElem hi⟩
    obtain ⟨en, q, hen, hkey, hq, rv⟩ := ent i k v hkv
    obtain ⟨ok, ov, he⟩ := st
    rw [← hsz] at he
    have hie : i < es'.size := by omega
    have een : es'[i] = en := by
      rw [Array.getElem?_eq_getElem hie] at hen
      exact Option.some.inj hen
    have hlt : it < z.heap.objs.size := Heap.lt_size he
    refine DT.nextI he raw hie fun h' ho hT hz hk => ?_
    refine ⟨_, rfl, wpAny_letOwnedTupleGo_items (s := { z with heap := h' }) ho fun h2 he' sb => ?_⟩
    rw [een, hkey] at hT
    have hT2 : h2.get? z.heap.objs.size = some { cls := .type "tuple", data := .seq #[.ref q, en.val] } := (sb.2 _ (Nat.ne_of_gt hlt)).trans hT
    have new : ObjOk X.prog X.w (upd G z.heap.objs.size (.tup [.ref q, v])) h2 z.heap.objs.size (.tup [.ref q, v]) :=
      ⟨Nat.le_of_ble_eq_true rfl, [.ref q, en.val], .cons (show RelV (.ref q) (.ref q) from rfl) (.cons rv .nil), ⟨_, hT2, rfl, _, rfl⟩⟩
    have I1 : L2.Inv X pn σ (upd G z.heap.objs.size (.tup [.ref q, v])) { z with heap := h2 } :=
      I.turnedNew (t' := z.toks) (ch := [it]) (fun b ob hb e => (sb.2 b (by simpa using hb)).trans (hk b ob (by simpa using hb) e)) hf (Nat.le_refl _) new
    refine ⟨.ref z.heap.objs.size, _, I1, rfl, ⟨_, k, v, q, hkv, rfl, hq, I.hok.fresh (Nat.le_refl _), rfl⟩, ⟨es'[i].key, es'[i].val, ?_⟩, fun b hb => ?_⟩
    · rw [← hsz]
      exact he'
    · obtain rfl : b = it := by simpa using hb
      rw [upd_ne (Nat.ne_of_lt hlt)]
      exact (hf b (by simp)).1
  done := by
    intro X hP hw hK hc i pn z σ G E I hf st hg
    subst hP hw hK
    obtain ⟨hd, hi⟩ := hg
    obtain ⟨k0, k1, k2, k3, k4, k5⟩ := hf it (by simp)
    obtain ⟨es', ep', hdt, hsz, raw, hs, ent⟩ := frzT_more I hd
    obtain ⟨rfl, rfl⟩ := dict_ep hod hdt
    obtain ⟨ok, ov, he⟩ := st
    rw [← hsz] at he
    exact DT.endI (I.ok.hd hc) he raw (by omega) fun h' eb => ⟨rfl, I.turned (t' := z.toks) (fun b ob hb e => eb b ob hb e) k0 k1 k3 k4 k5⟩
  self := fun A i z Q E st h => let ⟨_, _, e⟩ := st; PySem.W.kcp_self e h
def iItemsT (td : TE) : TI := fun σ H R => td σ H fun x H1 => ∃ d o kvs, x = .ref d ∧ H1 d = some (.frz o (.dT kvs)) ∧ R (ItiT d o kvs) H1
theorem pi_itemsT {X : Cx} {e : Expr} {td : TE} {apos cpos tpos : Pos} {elts : List Expr} {kk : Nat} (he : PE X e td) (hbase : attributeBase e "items" X.env (eval e X.env) = eval e X.env := by rfl) (hline : (apos.endLine == cpos.line) = true := by rfl) :
    PI X (.Tuple elts kk tpos) (.Call (.Attribute e "items" apos) [] [] cpos) (iItemsT td) := by
  refine ⟨fun pn z σ G R I h => ?_⟩
  refine wpAny_Call_method (T := "dict") (id := "dict.items") hbase rfl hline F.plainAttrs_dict F.slot_dict_items F.type_dict_items (thn (he.run pn z σ G _ I h) fun u z1 ⟨x, G1, I1, rx, d, o, kvs, ex, hd, q⟩ => ?_)
  subst ex
  obtain rfl : u = Value.ref d := rx
  obtain ⟨es, ep, hdt, hsz, raw, hs, ent⟩ := frzT_more I1 hd
  obtain ⟨ob, hob, hex, hdat⟩ := id raw
  refine ⟨raw.typeIs, fun b eb => ⟨ob, by cases eb; exact hob, hex.2.1⟩, ?_⟩
  have I2 : L2.Inv X pn σ G1 { z1 with heap := z1.heap.push { cls := .type "dict_items", data := .fields #[.ref d] } } := I1.kept (t' := z1.toks) fun b u x => Heap.get?_push_of_some _ x
  have fin : wpAny (model X.prog X.w) X.A (pyIter (.ref z1.heap.objs.size)) (PIE X pn σ (.Tuple elts kk tpos) R) X.xe { z1 with heap := z1.heap.push { cls := .type "dict_items", data := .fields #[.ref d] } } := by
    refine DT.iterI (d := d) (es := es) (ep := ep) ⟨_, Heap.get?_push_size _ rfl, rfl, rfl⟩ (raw.push _) (pi_one (tk := z1.toks) I2 _ (turn_itemsT _ hdt) ⟨.none, .none, ?_⟩ q)
    rw [← hsz]
    exact Heap.get?_push_size _ rfl
  show wpAny _ _ (callWith cpos (.builtin "dict.items") [.ref d] [] []) _ X.xe z1
  exact method_meetsIn F.slot_dict_items F.entry_dict_items rfl (PySem.evalArgs_none ⟨rfl, raw.typeIs, F.args_dict_items_1 _, _, DT.meetsItems (es := es) (ep := ep) hs, raw, fin⟩)
theorem walk_itemsT {d : Addr} {o : Obj} {kvs : List (List Key × V)} : Walk (ItiT d o kvs) kvs.length (fun H => H d = some (.frz o (.dT kvs))) (fun i H x H' => ∃ T k v q, kvs[i]? = some (k, v) ∧ x = .ref T ∧ H q = some (.tup (k.map kV)) ∧ H T = none ∧ H' = upd H T (.tup [.ref q, v])) :=
  ⟨fun i _ hi q => ⟨q, hi⟩, fun _ q => ⟨q, Nat.le_refl _⟩, fun i H v H' hi q y => y⟩
end K12

/-! Strictly rising data is what sorting leaves as it is. -/
namespace K12
open PySem PySem.Spec PyProof.Rows L2
theorem perm_same {α : Type} {lt : α → α → Bool} : ∀ {W S : List α}, S.Pairwise (fun a b => lt b a = false) → W.Pairwise (fun a b => lt a b = true) → S.Perm W → S = W
  | [], S, _, _, p => List.perm_nil.mp p
  | w :: W, [], _, _, p => (List.Perm.nil_eq p)
  | w :: W, s :: S, hs, hw, p => by
    have e : s = w := by
      rcases List.mem_cons.mp (p.mem_iff.mp (List.mem_cons_self ..)) with h | h
      · exact h
      · have h1 := (List.pairwise_cons.mp hw).1 s h
        rcases List.mem_cons.mp (p.mem_iff.mpr (List.mem_cons_self ..)) with h2 | h2
        · exact h2.symm
        · have h3 := (List.pairwise_cons.mp hs).1 w h2
          rw [h1] at h3
          cases h3
    subst e
    rw [perm_same (List.pairwise_cons.mp hs).2 (List.pairwise_cons.mp hw).2 (List.Perm.cons_inv p)]
theorem sort_up {β : Type} {enc : β → PyData} {W L : List β} (p : L.Perm W) (h : W.Pairwise fun a b => PySem.W.dataLt (enc a) (enc b) = true) : L.mergeSort (PySem.W.dataLe false enc) = W := by
  refine perm_same (lt := fun a b => PySem.W.dataLt (enc a) (enc b)) ?_ h ((List.mergeSort_perm _ _).trans p)
  refine (PySem.W.sort_pairwise (PySem.W.sortLe_total _ _ _) L).imp fun {a b} hab => ?_
  have z : (!PySem.W.dataLt (enc b) (enc a)) = true := hab
  simpa using z
theorem sort_down {β : Type} {enc : β → PyData} {W L : List β} (p : L.Perm W) (h : W.Pairwise fun a b => PySem.W.dataLt (enc a) (enc b) = true) : L.mergeSort (PySem.W.dataLe true enc) = W.reverse := by
  refine perm_same (lt := fun a b => PySem.W.dataLt (enc b) (enc a)) ?_ (List.pairwise_reverse.mpr h) (((List.mergeSort_perm _ _).trans p).trans (List.reverse_perm W).symm)
  refine (PySem.W.sort_pairwise (PySem.W.sortLe_total _ _ _) L).imp fun {a b} hab => ?_
  have z : (!PySem.W.dataLt (enc a) (enc b)) = true := hab
  simpa using z
theorem eqv_str (x y : Str) : PyData.eqv (.str x) (.str y) = decide (x = y) := by
  unfold PyData.eqv
  by_cases h : x = y
  · simp [h]
  · simp [h]
theorem al_str (x y : Str) : PySem.W.alike (.str x) (.str y) = true := rfl
theorem cps_ne {x y : Str} (h : x.cps.toList < y.cps.toList) : x ≠ y := fun e => by
  subst e
  exact List.lt_irrefl _ h
theorem pl_lt {p q : Pl} (h : p.1.cps.toList < q.1.cps.toList) : PySem.W.dataLt (dPl p) (dPl q) = true := by
  unfold dPl
  rw [PySem.W.dataLt_tuple, PySem.W.dataLt_cons (al_str _ _), eqv_str, PySem.W.dataLt_str]
  simp [cps_ne h, h]
theorem wayLt_iff (p q : Wy) : wayLt p q = true ↔ p.1.cps.toList < q.1.cps.toList ∨ (p.1 = q.1 ∧ p.2.1.cps.toList < q.2.1.cps.toList) := by
  unfold wayLt d2
  rw [PySem.W.dataLt_pair (al_str _ _) (al_str _ _), eqv_str, eqv_str, PySem.W.dataLt_str, PySem.W.dataLt_str]
  by_cases h : p.1 = q.1
  · by_cases h2 : p.2.1 = q.2.1
    · simp [h, h2, List.lt_irrefl]
    · simp [h, h2, List.lt_irrefl]
  · simp [h]
theorem wayLt_trans {p q r : Wy} (h : wayLt p q = true) (k : wayLt q r = true) : wayLt p r = true := by
  rw [wayLt_iff] at h k ⊢
  rcases h with h | ⟨h, h2⟩
  · rcases k with k | ⟨k, _⟩
    · exact .inl (List.lt_trans h k)
    · exact .inl (k ▸ h)
  · rcases k with k | ⟨k, k2⟩
    · exact .inl (h ▸ k)
    · exact .inr ⟨h.trans k, List.lt_trans h2 k2⟩
theorem way_lt {p q : Wy} (h : wayLt p q = true) : PySem.W.dataLt (dWy p) (dWy q) = true := by
  rw [wayLt_iff] at h
  unfold dWy
  rw [PySem.W.dataLt_tuple, PySem.W.dataLt_cons (al_str _ _), eqv_str, PySem.W.dataLt_str]
  rcases h with h | ⟨h, h2⟩
  · simp [cps_ne h, h]
  · rw [PySem.W.dataLt_cons (al_str _ _), eqv_str, PySem.W.dataLt_str]
    simp [h, cps_ne h2, h2]
theorem way_ne {p q : Wy} (h : wayLt p q = true) : ¬ (p.1 = q.1 ∧ p.2.1 = q.2.1) := by
  rw [wayLt_iff] at h
  rintro ⟨h1, h2⟩
  rcases h with h | ⟨_, h⟩
  · exact cps_ne h h1
  · exact cps_ne h h2
/-- each behind the one before, so each behind all before -/
theorem steps_all {α : Type} {R : α → α → Prop} (tr : ∀ a b c, R a b → R b c → R a c) : ∀ {l : List α}, (∀ i a b, l[i]? = some a → l[i + 1]? = some b → R a b) → l.Pairwise R
  | [], _ => .nil
  | [_], _ => List.pairwise_singleton _ _
  | x :: y :: r, h => by
    have ih := steps_all tr (l := y :: r) fun i a b h1 h2 => h (i + 1) a b h1 h2
    refine List.pairwise_cons.mpr ⟨fun z hz => ?_, ih⟩
    have hxy := h 0 x y rfl rfl
    rcases List.mem_cons.mp hz with rfl | hz
    · exact hxy
    · exact tr _ _ _ hxy ((List.pairwise_cons.mp ih).1 z hz)
theorem lets_ways {b : Bk} (h : lets b = none) : b.ways.Pairwise fun p q => wayLt p q = true := by
  have h1 : firstBad (wayBad b) b.ways.length = none := by
    unfold lets at h
    split at h
    · cases h
    · split at h
      · cases h
      · assumption
  refine steps_all (R := fun p q => wayLt p q = true) (fun _ _ _ h k => wayLt_trans h k) fun i p q hp hq => ?_
  have hi : i + 1 < b.ways.length := (List.getElem?_eq_some_iff.mp hq).1
  have z := first_none.mp h1 (i + 1) hi
  unfold wayBad at z
  rw [hq] at z
  simp only [Nat.add_sub_cancel] at z
  split at z
  · split at z
    · rename_i _ h2
      rcases h2 with h2 | h2
      · omega
      · rw [hp] at h2
        exact h2
    · cases z
  · cases z
theorem lets_places {b : Bk} (h : lets b = none) : ascS (plNames b) = true ∧ b.places ≠ [] := by
  unfold lets at h
  split at h
  · cases h
  · rename_i h2
    refine ⟨?_, fun e => h2 (.inl e)⟩
    cases h3 : ascS (plNames b) with
    | true => rfl
    | false => exact absurd (.inr h3) h2
theorem places_up {b : Bk} (h : lets b = none) : b.places.Pairwise fun p q => PySem.W.dataLt (dPl p) (dPl q) = true := by
  have z := asc_pair (lets_places h).1
  unfold plNames at z
  exact (List.pairwise_map.mp z).imp fun {p q} h => pl_lt h
end K12

/-! least_costs, sorted_places: what is in order already stays as it is. -/
namespace K12
open PySem PySem.Spec PyProof.Rows L2
def fLeast : List PyData → PyData → Prop := fun ds d => ∃ ws : List Wy, (∀ w ∈ ws, OkWy w) ∧ ws.length < 4000000 ∧ (ws.Pairwise fun p q => wayLt p q = true) ∧ ds = [.tuple (ws.map dWy)] ∧ d = .tuple (ws.map dWy)
def fSortPl : List PyData → PyData → Prop := fun ds d => ∃ ps : List Pl, (∀ p ∈ ps, OkPl p) ∧ ps.length < 4000000 ∧ (ps.Pairwise fun p q => PySem.W.dataLt (dPl p) (dPl q) = true) ∧ ds = [.tuple (ps.map dPl)] ∧ d = .tuple (ps.map dPl)
def wKey (w : Wy) : List Key := [Sum.inr w.1, Sum.inr w.2.1]
def wKvs (ws : List Wy) : List (List Key × V) := ws.map fun w => (wKey w, V.int ((w.2.2 : Nat) : Int))
theorem wKey_inj {p q : Wy} (h : wKey p = wKey q) : p.1 = q.1 ∧ p.2.1 = q.2.1 := by
  unfold wKey at h
  simp at h
  exact h
theorem wKvs_new {ws : List Wy} {w : Wy} (h : ∀ x ∈ ws, ¬ (x.1 = w.1 ∧ x.2.1 = w.2.1)) : valV (wKvs ws) (wKey w) = none := by
  unfold valV wKvs
  rw [List.find?_eq_none.mpr]
  · rfl
  · intro p hp
    obtain ⟨x, hx, rfl⟩ := List.mem_map.mp hp
    simp
    intro e
    exact h x hx (wKey_inj e)
section
variable {K : PySem.W.Frag} {H G : Hp}
mutual
theorem Dp.tups (kt : ∀ b xs, Rd H b (.tup xs) → Rd G b (.tup xs)) : ∀ {v : V} {d : PyData}, noLst d = true → Dp K H v d → Dp K G v d
  | _, _, _, .non => .non
  | _, _, _, .bl b => .bl b
  | _, _, _, .int i => .int i
  | _, _, _, .str x => .str x
  | _, _, n, .lst _ _ => by simp [noLst] at n
  | _, _, n, .tup h hs => .tup (h.elim (fun h => .inl (kt _ _ h)) .inr) (DpAll.tups kt (by simpa [noLst] using n) hs)
theorem DpAll.tups (kt : ∀ b xs, Rd H b (.tup xs) → Rd G b (.tup xs)) : ∀ {vs : List V} {ds : List PyData}, noLsts ds = true → DpAll K H vs ds → DpAll K G vs ds
  | _, _, _, .nil => .nil
  | _, _, n, .cons h hs => .cons (Dp.tups kt (by simp [noLsts] at n; exact n.1) h) (DpAll.tups kt (by simp [noLsts] at n; exact n.2) hs)
end
end
theorem unlockT {H : Hp} {D : Addr} {od : Obj} {kvs : List (List Key × V)} {u : HO} (h : H D = some (.frz od (.dT kvs))) : ∀ b xs, Rd H b (.tup xs) → Rd (upd H D u) b (.tup xs) := fun b xs r => by
  rcases r with r | ⟨o, r⟩
  · exact .inl (by rw [upd_ne (ne_of r h (by intro z; cases z))]; exact r)
  · exact .inr ⟨o, by rw [upd_ne (ne_of r h (by intro z; cases z))]; exact r⟩
section
variable {P : Program} {w : World} {K : PySem.W.Frag} {mg : Str → Option Value} {base : Heap}
theorem sc_least_costs : FnScope ["thing", "known", "one", "other", "cost", "pair"] ["thing"] (defScope s_least_costs) := ⟨rfl, rfl, rfl, by decide +kernel, rfl, by decide +kernel, by decide +kernel⟩
theorem ok_least_costs (T : TX K mg) : Cal P w K mg base 6 "least_costs" ["thing"] (Pur K fLeast) := by
  refine T.def_ i_least_costs (d := d_least_costs) rfl rfl sc_least_costs (fun _ _ _ _ _ _ us hl => match us, hl with | [_], _ => rfl) (pur_len fun ds d h => by obtain ⟨b, _, _, _, rfl, _⟩ := h; rfl) (fun f cdv A outer s H vs Q E hr h => ?_)
  obtain ⟨ds, d, hds, ⟨ws, hok, hsz, hup, rfl, rfl⟩, q⟩ := h
  obtain ⟨v, rfl, hv⟩ := hds.one
  obtain ⟨a, xs, rfl, ht, hx⟩ := hv.tupI
  have nd := sc_least_costs.nd
  have hdl : ws.Pairwise fun p q => PySem.W.dataLt (dWy p) (dWy q) = true := hup.imp fun {p q} h => way_lt h
  refine ⟨_, (pss_cons (ps_if (pt_not (pt_val (pc (ok_are_costs T) hr passB (pa_cons (pv 0) pa_nil)))) (pss_one (ps_ret (pv 0))) pss_nil)
    (pss_cons (ps_setDcT (i := 1) (hu_of hr) rfl nd rfl rfl (swD_true rfl rfl rfl rfl) (own := [("one", 2), ("other", 3), ("cost", 4)]) (g := gTup K 3 (gCons (gName 2) (gCons (gName 3) (gCons (gName 4) gNil)))) (tt := tYes) (pi_list (pe_callBK (cr_sortDR dWy hr.units) rfl T.free boot_sorted (pa_cons (pv 0) pa_nil) (pk_cons pe_bl pk_nil))) (blkOk_by (N := ["thing", "known", "one", "other", "cost", "pair"]) (sc := defScope s_least_costs) (by decide +kernel)) (fun _ _ _ _ _ => pg_tup rfl (pgs_cons (pg_name (i := 2) nd rfl (Or.inl rfl)) (pgs_cons (pg_name (i := 3) nd rfl (Or.inl rfl)) (pgs_cons (pg_name (i := 4) nd rfl (Or.inl rfl)) pgs_nil)))) (fun _ _ _ _ _ => pts_nil) (fun _ _ _ _ _ => pe_tup (pa_cons (pv 2) (pa_cons (pv 3) pa_nil))) (fun _ _ _ _ _ => pv 4))
    (pss_one (ps_ret (pe_callTy call_tuple_of rfl T.free boot_tuple (pa_cons (pe_callB (cr_sortD dWy hr.units) rfl T.free boot_sorted (pa_cons (pe_lock (pe_lc (own := [("pair", 5), ("cost", 4)]) (g := gTup K 2 (gCons (gName 5) (gCons (gName 4) gNil))) (tt := tYes) rfl nd (pi_itemsT (pv 1)) (blkOk_by (N := ["thing", "known", "one", "other", "cost", "pair"]) (sc := defScope s_least_costs) (by decide +kernel)) (fun _ _ _ _ _ => pg_tup rfl (pgs_cons (pg_name (i := 5) nd rfl (Or.inl rfl)) (pgs_cons (pg_name (i := 4) nd rfl (Or.inl rfl)) pgs_nil))) (fun _ _ _ _ _ => pts_nil) (fun _ _ _ _ _ => pe_tup (paS K (pv 5) (pa_cons (pv 4) pa_nil))))) pa_nil)) pa_nil)))))), ?_⟩
  refine ⟨_, rfl, [.tuple (ws.map dWy)], _, .cons hv .nil, ⟨ws, hok, by unfold sizeLine; omega, rfl, rfl⟩, fun u H1 e1 hu => ?_⟩
  cases hu.blI
  refine ⟨_, rfl, iteF ?_⟩
  have hal : PySem.W.AllAlike (ws.map dWy) := .of fun _ _ => rfl
  have hso : PySem.W.Sortable (ws.map dWy) := .tuples fun b => ⟨_, _, rfl⟩
  refine ⟨_, rfl, rfl, a, xs, ws, rfl, .inl (Same.tup e1 ht), DpAll.same e1 hx, hal, hso, fun x _ => Nat.le_of_ble_eq_true rfl, fun zs p np hz => ?_⟩
  rw [sort_down (.refl _) hdl] at hz
  have e2 : Same H (upd H1 p (.lst zs)) := e1.trans (Same.new np)
  replace hz : DpAll K (upd H1 p (.lst zs)) zs (ws.reverse.map dWy) := DpAll.same (Same.new np) hz
  have hlen : zs.length = ws.length := by rw [DpAll.length hz, List.length_map, List.length_reverse]
  refine ⟨p, rfl, ⟨_, .inl (.inl upd_same)⟩, fun D hD => ?_⟩
  have hpD : ∀ {G : Hp} {u : HO}, Same (upd H1 p (.lst zs)) G → Same (upd H1 p (.lst zs)) (upd G D u) := fun {G u} e b o h => by
    rw [upd_ne (ne_of_none h hD)]
    exact e b o h
  refine dcT_it (walk_list (K := K) (a := p) (xs := zs)) (fun i G => Same (upd H1 p (.lst zs)) G ∧ G D = some (.dT (wKvs (ws.reverse.take i)))) ⟨hpD (Same.refl _), upd_same⟩ (fun i G _ h => h.1.seq (.inl (.inl upd_same))) (fun i x G G' hi h y => ?_) (fun G h => ?_)
  · obtain ⟨e, hGD⟩ := h
    obtain ⟨rfl, hx1⟩ := y
    have hil : i < ws.reverse.length := by
      rw [List.length_reverse]
      omega
    obtain ⟨d, hd, hdp⟩ := DpAll.getV hz hx1
    rw [List.getElem?_map, List.getElem?_eq_getElem hil] at hd
    cases hd
    obtain ⟨t, rfl, hts⟩ := (Dp.same e hdp).wyI
    refine ⟨t, _, rfl, hts, rfl, _, _, rfl, _, _, rfl, _, _, rfl, rfl, rfl, _, rfl, _, rfl, Nat.le_of_ble_eq_true rfl, fun c nc => ⟨_, rfl, wKvs (ws.reverse.take i), wKey ws.reverse[i], c, rfl, upd_same, ?_, ?_, hpD (e.trans (Same.new nc)), ?_⟩⟩
    · rw [upd_ne (ne_of_none hGD nc)]
      exact hGD
    · unfold wKvs sizeLine
      rw [List.length_map, List.length_take, List.length_reverse]
      omega
    · rw [upd_same, putK_new _ ?_]
      · unfold wKvs
        rw [List.take_succ_eq_append_getElem hil, List.map_append]
        rfl
      · refine wKvs_new fun x hx2 => ?_
        have hp2 : ws.reverse.Pairwise fun p q => wayLt q p = true := List.pairwise_reverse.mpr hup
        have e2 : ws.reverse = ws.reverse.take i ++ (ws.reverse[i] :: ws.reverse.drop (i + 1)) := by rw [List.getElem_cons_drop, List.take_append_drop]
        rw [e2] at hp2
        have z := (List.pairwise_append.mp hp2).2.2 x hx2 _ (List.mem_cons_self ..)
        rintro ⟨h1, h2⟩
        exact way_ne z ⟨h1.symm, h2.symm⟩
  obtain ⟨e3, hGD⟩ := h
  have hrl : zs.length = ws.reverse.length := by rw [hlen, List.length_reverse]
  rw [hrl, List.take_length] at hGD
  have e4 : Same H1 G := (Same.new np).trans e3
  refine ⟨D, _, hGD, True.intro, fun od => ?_⟩
  refine ⟨_, rfl, D, od, _, rfl, upd_same, fun L hL => ?_⟩
  have hnl : (wKvs ws.reverse).length = ws.length := by
    unfold wKvs
    rw [List.length_map, List.length_reverse]
  refine lc_map (K := K) walk_itemsT (ws.reverse.map dWy) (by rw [hnl, List.length_map, List.length_reverse]) (noLsts_map _ nl_wy _) (by rw [hnl]; unfold sizeLine; omega) hL (fun G2 e => e _ _ upd_same) (fun i G2 x G3 Nx hi e y k1 => ?_) (fun G2 acc e h3 h4 => ?_)
  · obtain ⟨T2, k, v, q2, hk, rfl, hq2, hT2, rfl⟩ := y
    have hil : i < ws.reverse.length := by
      rw [List.length_reverse]
      omega
    unfold wKvs at hk
    rw [List.getElem?_map, List.getElem?_eq_getElem hil] at hk
    cases hk
    refine ⟨T2, _, rfl, .inl (.inl upd_same), rfl, _, _, rfl, _, _, rfl, rfl, rfl, _, rfl, q2, [.str ws.reverse[i].1, .str ws.reverse[i].2.1], rfl, .inl (.inl (.inl (Same.new hT2 q2 (.tup [.str ws.reverse[i].1, .str ws.reverse[i].2.1]) hq2))), _, rfl, Nat.le_of_ble_eq_true rfl, fun c nc => k1 _ _ (dWy ws.reverse[i]) ?_ ((Same.new hT2).trans (Same.new nc)) (Dp.wyM (.inl (.inl upd_same)))⟩
    rw [List.getElem?_map, List.getElem?_eq_getElem hil]
    rfl
  have hf : G2 D = some (.frz od (.dT (wKvs ws.reverse))) := e _ _ upd_same
  refine ⟨hf, L, acc, ws.reverse, rfl, .inr (.inl (.inl ?_)), DpAll.tups (unlockT hf) (noLsts_map _ nl_wy _) h4, ?_, ?_, fun x _ => Nat.le_of_ble_eq_true rfl, fun zs2 p2 np2 hz2 => ?_⟩
  · rw [upd_ne (ne_of h3 hf (by intro z; cases z))]
    exact h3
  · exact .of fun _ _ => rfl
  · exact .tuples fun b => ⟨_, _, rfl⟩
  rw [sort_up (List.reverse_perm ws) hdl] at hz2
  refine ⟨p2, zs2, rfl, .inl ⟨.inl (.inl upd_same), fun l nl => q _ _ ?_ (.tup (.inl (.inl upd_same)) (DpAll.same ((Same.new np2).trans (Same.new nl)) hz2))⟩⟩
  refine Same.trans ?_ ((Same.new np2).trans (Same.new nl))
  intro b o hb
  have hbD : b ≠ D := ne_of_none (e2 b o hb) hD
  rw [upd_ne hbD]
  refine e _ _ ?_
  rw [upd_ne hbD]
  exact e3 _ _ (e2 _ _ hb)
theorem sc_sorted_places : FnScope ["thing"] ["thing"] (defScope s_sorted_places) := ⟨rfl, rfl, rfl, by decide +kernel, rfl, by decide +kernel, by decide +kernel⟩
theorem ok_sorted_places (T : TX K mg) : Cal P w K mg base 5 "sorted_places" ["thing"] (Pur K fSortPl) := by
  refine T.def_ i_sorted_places (d := d_sorted_places) rfl rfl sc_sorted_places (fun _ _ _ _ _ _ us hl => match us, hl with | [_], _ => rfl) (pur_len fun ds d h => by obtain ⟨b, _, _, _, rfl, _⟩ := h; rfl) (fun f cdv A outer s H vs Q E hr h => ?_)
  obtain ⟨ds, d, hds, ⟨ps, hok, hsz, hup, rfl, rfl⟩, q⟩ := h
  obtain ⟨v, rfl, hv⟩ := hds.one
  obtain ⟨a, xs, rfl, ht, hx⟩ := hv.tupI
  refine ⟨_, (pss_one (ps_ret (pe_ifExp (pt_val (pc (ok_are_places T) hr passB (pa_cons (pv 0) pa_nil))) (pe_callTy call_tuple_of rfl T.free boot_tuple (pa_cons (pe_callB (cr_sortD dPl hr.units) rfl T.free boot_sorted (pa_cons (pv 0) pa_nil)) pa_nil)) (pv 0)))), ?_⟩
  refine ⟨_, rfl, [.tuple (ps.map dPl)], _, .cons hv .nil, ⟨ps, hok, by unfold sizeLine; omega, rfl, rfl⟩, fun u H1 e1 hu => ?_⟩
  cases hu.blI
  refine ⟨_, rfl, iteT ?_⟩
  refine ⟨_, rfl, a, xs, ps, rfl, .inl (Same.tup e1 ht), DpAll.same e1 hx, .of fun _ _ => rfl, .tuples fun b => ⟨_, _, rfl⟩, fun x _ => Nat.le_of_ble_eq_true rfl, fun zs p np hz => ?_⟩
  rw [sort_up (.refl _) hup] at hz
  exact ⟨p, zs, rfl, .inl ⟨.inl (.inl upd_same), fun l nl => q _ _ (e1.trans ((Same.new np).trans (Same.new nl))) (.tup (.inl (.inl upd_same)) (DpAll.same ((Same.new np).trans (Same.new nl)) hz))⟩⟩
end
end K12

/-! An attribute as a target; a new instance by a class in a local name, star and keywords. -/
namespace K12
open PySem PySem.Spec PyProof.Rows L2
section
variable {X : Cx} {o : Expr} {f : Str} {pos : Pos} {ta : TE}
/-- o.f as a target -/
def gFld (K : PySem.W.Frag) (ta : TE) (f : Str) : TG := fun y σ H Q => ta σ H fun x H2 => ∃ a C dx fs, x = .ref a ∧ H2 a = some (.ins C dx fs) ∧ Cls K C ∧ NoAttr K C f ∧ fs.length < 1000 ∧ Q σ (upd H2 a (.ins C dx (putF f y fs)))
theorem pg_fld (ha : PE X o ta) (he : ∀ v, assign (.Attribute o f pos) X.env v = (do
      let ov ← holding [v] (eval o X.env)
      standAt pos.atName
      holding [v, ov] (setAttr ov f v)
      release [v, ov] []) := by intro _; rfl) : PG X (.Attribute o f pos) (gFld X.K ta f) := by
  refine ⟨fun pn z σ G y u Q I r h => ?_⟩
  rw [he]
  refine wpAny_bind (wpAny_holding (thn (ha.run pn z σ G _ I h) fun ov z2 ⟨x, G2, I2, rx, a, C, dx, fs, ex, ea, c, n, l, q2⟩ => ?_))
  subst ex
  obtain rfl : ov = Value.ref a := rx
  exact wpAny_bind (wpAny_standAt (wpAny_bind (wpAny_holding (setattr_ok I2 ea c n l r fun z3 I3 => wpAny_release ⟨σ, _, I3, q2⟩))))
end
/-- a def's promise for values and the keywords ks -/
def FnK (P : Program) (w : World) (K : PySem.W.Frag) (mg : Str → Option Value) (base : Heap) (k : Nat) (f : Addr) (ks : List Str) (sp : List V → List V → Hp → VK → XK → Prop) : Prop :=
  ∀ (A : Around) (outer : List Env) (s : Shared) (H : Hp) (us ws : List Value) (vs zs : List V) (Q : VK) (E : XK), Room k A → Env0 P w K mg base A outer s H → Vals vs us → Vals zs ws → sp vs zs H Q E → codeAny (model P w) A (.call (.ref f) ⟨us, ks.zip ws⟩) (CR (L2.CX P w) outer P w H s Q E) s
theorem call_starKw {M : Model} {A : Around} {E : Value → Shared → Prop} {s : Shared} {env : Env} {f : Value} {pos : Pos} {Q : Value → Shared → Prop} {K : PySem.W.Frag} {e : Expr} {rest : List Expr} {kws : List Keyword} (hk : PySem.W.keepIn K f = true) (hall : (backToKw pos (keywordEach kws env)).all (·.1.isSome) = true)
    (h : wpAny M A (spliced (backTo pos (starEach (e :: rest) env))) (fun vs z => wpAny M A (evalAll ((backToKw pos (keywordEach kws env)).map (·.2))) (fun ks z2 => K.In z2.heap ∧ wpAny M A (call f vs (((backToKw pos (keywordEach kws env)).filterMap (·.1)).zip ks)) Q E z2) E z) E s)
    (he : starEach (e :: rest) env = (false, eval e env) :: starEach rest env) (hst : (backTo pos (starEach (e :: rest) env)).any (·.1) = true) :
    wpAny M A (callWith pos f [] (backTo pos (starEach (e :: rest) env)) (backToKw pos (keywordEach kws env))) Q E s := by
  unfold callWith
  refine wpAny_bind (wpAny_holding (wpAny_mono (PyProof.Rows.evalArgs_kw2 (f := f) (Q := fun a z => K.In z.heap ∧ wpAny M A (call f a.pos a.kw) Q E z) hall h he) (fun a z1 h1 => wpAny_bind (wpAny_standAt ?_)) fun _ _ x => x))
  obtain ⟨k, hk', L⟩ := PySem.W.keeps_K hk _ h1.1
  simp only [hst, Bool.true_or]
  refine wpAny_bind (L.here ?_)
  have tl : ∀ {t : Sem Value}, wpAny M A t Q E z1 → wpAny M A (t >>= fun r => holding [r] point >>= fun _ => pure r) Q E z1 := fun ht => wpAny_bind (wpAny_mono ht (fun r z2 hr => wpAny_bind (wpAny_holding (wpAny_point (wpAny_pure hr)))) fun _ _ x => x)
  have mk (m : Value) : wpAny M A (callMarked m f a.pos a.kw) Q E z1 := by
    unfold callMarked
    exact Calls.wpAny_keep h1.2
  rcases hk' with rfl | rfl | rfl <;> dsimp only <;> first | exact tl (mk _) | exact tl (wpAny_operating h1.2)
/-- C(e, .., *y, k = v, ..) -/
def tMakeS (C : Addr) (sp : List V → List V → Hp → VK → XK → Prop) (E : XK) (t tk : TA) : TE := fun σ H Q => t σ H fun vs H1 => tk σ H1 fun zs H2 => ∀ x dx, H2 x = none → H2 dx = none → dx ≠ x →
  sp (.ref x :: vs) zs (upd (upd H2 dx (.own x)) x (.ins C dx [])) (fun v H3 => v = .non ∧ Q (.ref x) H3) E
section
variable {X : Cx} {k i : Nat} {f C : Addr} {ks : List Str} {sp : List V → List V → Hp → VK → XK → Prop} {E : XK} {x : Str} {p pos : Pos} {e : Expr} {es : List Expr} {kws : List Keyword} {t tk : TA}
theorem run_makeS {pn : List (Addr × Obj)} {σ : L2.St} {G : Hp} {z : Shared} {Q : VK} {us ws : List Value} {vs zs : List V} (M : Mk X.K C f) (F : FnK X.prog X.w X.K X.mg X.base k f ks sp) (hr : Room (k + 1) X.A)
    (hx : Passes (L2.CX X.prog X.w) X E) (I : L2.Inv X pn σ G z) (r : Vals vs us) (rz : Vals zs ws)
    (h : ∀ x dx, G x = none → G dx = none → dx ≠ x → sp (.ref x :: vs) zs (upd (upd G dx (.own x)) x (.ins C dx [])) (fun v H2 => v = .non ∧ Q (.ref x) H2) E) :
    wpAny (model X.prog X.w) X.A (call (.ref C) us (ks.zip ws)) (EP X pn σ Q) X.xe z := by
  have hq := h (z.heap.objs.size + 1) z.heap.objs.size (I.hok.fresh (Nat.le_succ _)) (I.hok.fresh (Nat.le_refl _)) (Nat.ne_of_lt (Nat.lt_succ_self _))
  have I2 := Inv.made (C := C) I
  refine wpAny_call (make_map (f := f) I.kIn M.makes M.init (beq_iff_eq.mp M.fn) (codeAny_mono (F _ X.stack _ _ (Value.ref (z.heap.objs.size + 1) :: us) ws _ _ _ E (hr.make C us (ks.zip ws)) (I2.env0.make C us (ks.zip ws)) (.cons (show RelV (.ref (z.heap.objs.size + 1)) (.ref (z.heap.objs.size + 1)) from rfl) r) rz hq) fun rr z' hq' => ?_))
  cases rr with
  | error e => exact hx pn σ _ _ e z' I2 hq'
  | ok fl =>
    cases fl with
    | ret u =>
      obtain ⟨v, G', I3, rv, ev, q3⟩ := I2.after hq'
      subst ev
      exact ⟨rv, ⟨V.ref (z.heap.objs.size + 1), G', I3, rfl, q3⟩⟩
    | next => exact False.elim hq'
    | brk => exact False.elim hq'
    | cont => exact False.elim hq'
/-- .. the class in a local name -/
theorem pe_makeS (M : Mk X.K C f) (F : FnK X.prog X.w X.K X.mg X.base k f ks sp) (hr : Room (k + 1) X.A) (hN : X.N[i]? = some x) (hv : Vis X.env.scope x) (hx : Passes (L2.CX X.prog X.w) X E)
    (ha : PA X (e :: es) t) (hkw : PK X kws tk) (hall : (backToKw pos (keywordEach kws X.env)).all (·.1.isSome) = true := by rfl) (hks : (backToKw pos (keywordEach kws X.env)).filterMap (·.1) = ks := by rfl)
    (hdb : (x == ("__debug__" : Str)) = false := by decide) (hcd : (x == ("__classdict__" : Str)) = false := by decide) (he : starEach (e :: es) X.env = (false, eval e X.env) :: starEach es X.env := by rfl)
    (hst : (backTo pos (starEach (e :: es) X.env)).any (·.1) = true := by rfl) :
    PE X (.Call (.Name x p) (e :: es) kws pos) (fun σ H Q => σ[i]? = some (some (.ref C)) ∧ tMakeS C sp E t tk σ H Q) := by
  refine ⟨fun pn z σ G Q I ⟨hs, h⟩ => ?_⟩
  refine wpAny_Call_Name_kw (thn ((pe_var (pos := p) hN hv hdb hcd).run pn z σ G (fun v G1 => v = .ref C ∧ G1 = G) I ⟨.ref C, hs, rfl, rfl⟩) fun u z1 ⟨v, G1, I1, r1, q1⟩ => ?_)
  obtain ⟨rfl, rfl⟩ := q1
  cases r1
  refine call_starKw (K := X.K) M.kp hall (thn (ha.run pos pn z1 σ _ _ I1 h) fun us z2 ⟨vs, G2, I2, r, q⟩ => ?_) he hst
  refine thn (hkw.run pos pn z2 σ G2 _ I2 q) fun ws z3 ⟨zs, G3, I3, rz, q3⟩ => ⟨I3.kIn, ?_⟩
  rw [hks]
  exact run_makeS M F hr hx I3 r rz q3
end
end K12

/-! Book: its making, form and text. -/
namespace K12
open PySem PySem.Spec PyProof.Rows L2
/-- a Book stands at x -/
def BkAt (K : PySem.W.Frag) (H : Hp) (x : Addr) (b : Bk) : Prop := ∃ dx p c t, H x = some (.ins (cBk K) dx [("own_places", .ref p), ("own_table", .ref c), ("own_slip", vSl b.slip), ("own_rows", .ref t)]) ∧ Dp K H (.ref p) (.tuple (b.places.map dPl)) ∧ Dp K H (.ref c) (.tuple (b.ways.map dWy)) ∧ Dp K H (.ref t) (.tuple (b.rows.map dRw))
theorem BkAt.same {K : PySem.W.Frag} {H G : Hp} {x : Addr} {b : Bk} (h : BkAt K H x b) (e : Same H G) : BkAt K G x b := let ⟨dx, p, c, t, h1, h2, h3, h4⟩ := h; ⟨dx, p, c, t, e _ _ h1, Dp.same e h2, Dp.same e h3, Dp.same e h4⟩
section
variable {K : PySem.W.Frag} {H G : Hp}
mutual
theorem Dp.seqs (kt : ∀ b xs, Rd H b (.tup xs) → Rd G b (.tup xs)) (kl : ∀ b xs, Rd H b (.lst xs) → Rd G b (.lst xs)) : ∀ {v : V} {d : PyData}, Dp K H v d → Dp K G v d
  | _, _, .non => .non
  | _, _, .bl b => .bl b
  | _, _, .int i => .int i
  | _, _, .str x => .str x
  | _, _, .lst h hs => .lst (h.elim (fun h => .inl (kl _ _ h)) .inr) (DpAll.seqs kt kl hs)
  | _, _, .tup h hs => .tup (h.elim (fun h => .inl (kt _ _ h)) .inr) (DpAll.seqs kt kl hs)
theorem DpAll.seqs (kt : ∀ b xs, Rd H b (.tup xs) → Rd G b (.tup xs)) (kl : ∀ b xs, Rd H b (.lst xs) → Rd G b (.lst xs)) : ∀ {vs : List V} {ds : List PyData}, DpAll K H vs ds → DpAll K G vs ds
  | _, _, .nil => .nil
  | _, _, .cons h hs => .cons (Dp.seqs kt kl h) (DpAll.seqs kt kl hs)
end
/-- an instance's fields are no data -/
theorem Dp.ins {x C dx C2 dx2 : Addr} {fs gs : List (Str × V)} {v : V} {d : PyData} (hx : H x = some (.ins C dx fs)) (h : Dp K H v d) : Dp K (upd H x (.ins C2 dx2 gs)) v d :=
  Dp.seqs (fun b xs r => r.elim (fun r => .inl (by rw [upd_ne (ne_of r hx (by intro z; cases z))]; exact r)) fun ⟨o, r⟩ => .inr ⟨o, by rw [upd_ne (ne_of r hx (by intro z; cases z))]; exact r⟩)
    (fun b xs r => r.elim (fun r => .inl (by rw [upd_ne (ne_of r hx (by intro z; cases z))]; exact r)) fun ⟨o, r⟩ => .inr ⟨o, by rw [upd_ne (ne_of r hx (by intro z; cases z))]; exact r⟩) h
end
def spBkInit (K : PySem.W.Frag) : List V → List V → Hp → VK → XK → Prop := fun vs zs H Q _ => ∃ x dx p c rs b, vs = .ref x :: .ref p :: rs ∧ zs = [.ref c, vSl b.slip] ∧ H x = some (.ins (cBk K) dx []) ∧ Dp K H (.ref p) (.tuple (b.places.map dPl)) ∧ Dp K H (.ref c) (.tuple (b.ways.map dWy)) ∧ DpAll K H rs (b.rows.map dRw) ∧
  OkBk b ∧ b.places.length + b.ways.length + b.rows.length < 4000000 ∧ lets b = none ∧ ∀ H', (∀ a o, a ≠ x → H a = some o → H' a = some o) → BkAt K H' x b → Q .non H'
section
variable {P : Program} {w : World} {K : PySem.W.Frag} {mg : Str → Option Value} {base : Heap}
theorem TY.clsB (Y : TY P K mg) : Cls K (cBk K) := He.cls_ok (Y.tx.more 7)
theorem bk_init (Y : TY P K mg) : ∃ f, Mk K (cBk K) f ∧ FnK P w K mg base 8 f ["costs", "slip"] (spBkInit K) := by
  have T := Y.tx
  obtain ⟨fd, F⟩ := T.fn i_Book_init d_Book_init rfl
  have M := He.mkr_ok (T.more 9)
  have S : FnScope ["self", "places", "costs", "slip", "rows", "given"] ["self", "places", "costs", "slip", "rows"] (defScope s_Book_init) := ⟨rfl, rfl, rfl, by decide +kernel, rfl, by decide +kernel, by decide +kernel⟩
  have F' : FunD K "__init__" "Book.__init__" (defArgs s_Book_init) (defBody s_Book_init) (defScope s_Book_init) [] [] (He.ma K (He.ga K "Book") "__init__") fd := F
  obtain ⟨oc, od, dV, kV, doc, pm, an, cdv, ct, osl, rfl, lk, hcd, hdf, _⟩ := F'.ex
  rcases hdf with ⟨_, rfl⟩ | ⟨z, _⟩
  rotate_left
  · exact absurd rfl z
  refine ⟨_, M, fun A outer s H us ws vs zs Q E hr e0 r rz h => ?_⟩
  obtain ⟨x, dx, p, c, rs, b, rfl, rfl, hx, hp, hc, hrs, hok, hsz, hlets, q⟩ := h
  cases r with
  | cons r1 r =>
  cases r with
  | @cons _ u1 _ urs r2 r =>
  cases rz with
  | cons z1 rz =>
  cases rz with
  | @cons _ ws2 _ _ z2 rz =>
  cases rz
  cases r1
  cases r2
  cases z1
  have hn : H s.heap.objs.size = none := e0.hok.fresh (Nat.le_refl _)
  have hl : rs.length = b.rows.length := by rw [DpAll.length hrs, List.length_map]
  have hz : rs.length ≤ sizeLine := by unfold sizeLine; omega
  have hz2 : urs.length ≤ sizeLine := by rw [← Paired.length r]; exact hz
  refine StX.run_bnd (k := 7) lk hcd S hr e0 (G := fun xs H2 => ∃ t, H t = none ∧ xs = [.ref x, .ref p, .ref c, vSl b.slip, .ref t] ∧ H2 = upd H t (.tup rs)) (fun A' Ex Q' h => ?_) fun s2 H2 xs ⟨t, ht, ex, eH⟩ hr => ?_
  · have hb : bindArgs (PySem.W.fnOf "__init__" "Book.__init__" (defArgs s_Book_init) (defBody s_Book_init) (defScope s_Book_init) .none kV doc pm an cdv ct) ⟨.ref x :: .ref p :: urs, (["costs", "slip"] : List Str).zip [.ref c, ws2]⟩ =
        (newTuple urs >>= fun t => pure ([("self", .ref x), ("places", .ref p), ("costs", .ref c), ("slip", ws2), ("rows", t)] : List (Str × Value))) := match urs with
      | [] => rfl
      | _ :: _ => rfl
    rw [hb]
    refine wpAny_bind (wpAny_newTuple (wpAny_pure ?_) hz2)
    have new : ObjOk P w (upd H s.heap.objs.size (.tup rs)) (s.heap.push ({ cls := .type "tuple", data := .seq urs.toArray } : Obj)) s.heap.objs.size (.tup rs) := ⟨hz, urs, r, ⟨_, Heap.get?_push_size _ rfl, rfl, _, rfl⟩⟩
    have un := StX.un_laid (fs := frs outer) (s := s) (o := ({ cls := .type "tuple", data := .seq urs.toArray } : Obj)) (u := .tup rs) hn
    exact h _ _ [.ref x, .ref p, .ref c, vSl b.slip, .ref s.heap.objs.size] [.ref x, .ref p, .ref c, ws2, .ref s.heap.objs.size] (StX.env0_laid e0 new) un rfl (fun e s' => StX.cxUp outer s H _ _ E e s' un (fun b o q => Heap.get?_push_of_some _ q) rfl) (.cons rfl (.cons rfl (.cons rfl (.cons z2 (.cons rfl .nil))))) rfl ⟨_, hn, rfl, rfl⟩
  subst ex eH
  have nd := S.nd
  refine ⟨_, (pss_cons (ps_set (i := 5) nd rfl (.inl rfl) (pe_tup (pa_cons (pc (ok_sorted_places T) hr passB (pa_cons (pv 1) pa_nil)) (pa_cons (pc (ok_least_costs T) hr passB (pa_cons (pv 2) pa_nil)) (pa_cons (pv 3) (pa_cons (pv 4) pa_nil))))))
    (pss_cons (ps_expr (pc (ok_lets_book Y) hr passB (pa_cons (pv 5) pa_nil)))
    (pss_one (ps_asg (pv 5) (pg_tup rfl (pgs_cons (pg_fld (pv 0)) (pgs_cons (pg_fld (pv 0)) (pgs_cons (pg_fld (pv 0)) (pgs_cons (pg_fld (pv 0)) pgs_nil))))))))), ?_⟩
  have e1 : Same H (upd H t (.tup rs)) := Same.new ht
  refine ⟨_, rfl, [.tuple (b.places.map dPl)], _, .cons (Dp.same e1 hp) .nil, ⟨b.places, hok.pl, by omega, places_up hlets, rfl, rfl⟩, fun u2 H2 e2 hu2 => ⟨_, rfl, [.tuple (b.ways.map dWy)], _, .cons (Dp.same (e1.trans e2) hc) .nil, ⟨b.ways, hok.wy, by omega, lets_ways hlets, rfl, rfl⟩, fun u3 H3 e3 hu3 => ⟨_, rfl, _, rfl, Nat.le_of_ble_eq_true rfl, fun g ng => ?_⟩⟩⟩
  obtain ⟨p2, ps, rfl, hq2, hp2⟩ := hu2.tupI
  obtain ⟨c2, cs, rfl, hq3, hc2⟩ := hu3.tupI
  have e4 : Same H3 (upd H3 g (.tup [.ref p2, .ref c2, vSl b.slip, .ref t])) := Same.new ng
  have hT : SqT K (upd H3 g (.tup [.ref p2, .ref c2, vSl b.slip, .ref t])) t rs := Same.tup (e2.trans (e3.trans e4)) (.inl (.inl upd_same))
  have hdb : Dp K (upd H3 g (.tup [.ref p2, .ref c2, vSl b.slip, .ref t])) (.ref g) (dBk b) := Dp.bkM (.inl (.inl upd_same)) (Same.tup (e3.trans e4) hq2) (DpAll.same (e3.trans e4) hp2) (Same.tup e4 hq3) (DpAll.same e4 hc2) hT (DpAll.same (e1.trans (e2.trans (e3.trans e4))) hrs)
  refine ⟨_, rfl, _, b, rfl, hdb, hok, hsz, fun _ H5 e5 => ?_, fun w k hw => by rw [hlets] at hw; cases hw⟩
  have e6 := e4.trans e5
  have e7 := e2.trans (e3.trans e6)
  have hx5 : H5 x = some (.ins (cBk K) dx []) := e7 _ _ (e1 _ _ hx)
  have d1 : Dp K H5 (.ref p2) (.tuple (b.places.map dPl)) := Dp.same (e3.trans e6) hu2
  have d2 : Dp K H5 (.ref c2) (.tuple (b.ways.map dWy)) := Dp.same e6 hu3
  have d3 : Dp K H5 (.ref t) (.tuple (b.rows.map dRw)) := .tup (Same.tup e5 hT) (DpAll.same (e1.trans e7) hrs)
  have hcl := Y.clsB
  refine ⟨_, rfl, g, _, rfl, .inl (.inl (e5 _ _ upd_same)), rfl, _, _, rfl, _, rfl, x, cBk K, dx, [], rfl, hx5, hcl, He.noat_ok (T.more 25), Nat.le_of_ble_eq_true rfl,
    _, _, rfl, _, rfl, x, cBk K, dx, _, rfl, upd_same, hcl, He.noat_ok (T.more 26), Nat.le_of_ble_eq_true rfl,
    _, _, rfl, _, rfl, x, cBk K, dx, _, rfl, upd_same, hcl, He.noat_ok (T.more 27), Nat.le_of_ble_eq_true rfl,
    _, _, rfl, _, rfl, x, cBk K, dx, _, rfl, upd_same, hcl, He.noat_ok (T.more 28), Nat.le_of_ble_eq_true rfl, rfl, ?_⟩
  refine q _ (fun a o ha h1 => ?_) ⟨dx, p2, c2, t, upd_same, ?_, ?_, ?_⟩
  · rw [upd_ne ha, upd_ne ha, upd_ne ha, upd_ne ha]
    exact e7 _ _ (e1 _ _ h1)
  · exact Dp.ins upd_same (Dp.ins upd_same (Dp.ins upd_same (Dp.ins hx5 d1)))
  · exact Dp.ins upd_same (Dp.ins upd_same (Dp.ins upd_same (Dp.ins hx5 d2)))
  · exact Dp.ins upd_same (Dp.ins upd_same (Dp.ins upd_same (Dp.ins hx5 d3)))
end
end K12

/-! Book.of, Book.read, form, str. -/
namespace K12
open PySem PySem.Spec PyProof.Rows L2
/-- what the top leaves of Book -/
structure TB (P : Program) (K : PySem.W.Frag) (mg : Str → Option Value) : Prop where
  ty : TY P K mg
  cr : ClX.CRead K (cBk K) (.type "type")
  of_ : ∃ p g fd, ClX.CMet K (cBk K) (.type "type") "of" p g ∧ FunD K "of" "Book.of" (defArgs s_Book_of) (defBody s_Book_of) (defScope s_Book_of) [] [] g fd
  read : ∃ p g fd, ClX.CMet K (cBk K) (.type "type") "read" p g ∧ FunD K "read" "Book.read" (defArgs s_Book_read) (defBody s_Book_read) (defScope s_Book_read) [] [] g fd
  form : ∃ p g fd, PropOf K (cBk K) "form" p g ∧ FunD K "form" "Book.form" (defArgs s_Book_form) (defBody s_Book_form) (defScope s_Book_form) [] [] g fd
  str : PySem.W.findIn K (.ref (cBk K)) "__str__" = some (some (.ref (He.ma K (cBk K) "__str__"))) ∧ PySem.W.isFn K (.ref (He.ma K (cBk K) "__str__")) = true
/-- a classmethod of Book -/
def ClM (P : Program) (w : World) (K : PySem.W.Frag) (mg : Str → Option Value) (base : Heap) (k : Nat) (m : Str) (sp : Sp) : Prop :=
  ClX.CRead K (cBk K) (.type "type") ∧ ∃ p g, ClX.CMet K (cBk K) (.type "type") m p g ∧ FnR P w K mg base (L2.CX P w) k g sp
section
variable {X : Cx} {k j : Nat} {m : Str} {sp : Sp} {E : XK} {e o : Expr} {es : List Expr} {t : TA} {ta : TE} {pos apos : Pos}
theorem pcm (c : ClM X.prog X.w X.K X.mg X.base k m sp) (hr : Room j X.A) (hx : Passes (L2.CX X.prog X.w) X E) (ho : PE X o ta) (ha : PA X (e :: es) t) {pl : Sem Bool} (hk : k ≤ j := by decide)
    (hst : starEach (e :: es) X.env = (false, eval e X.env) :: starEach es X.env := by rfl) (hpl : (backTo pos (starEach es X.env)).any (·.1) = false := by rfl)
    (ht : eval (.Call (.Attribute o m apos) (e :: es) [] pos) X.env = (do
      let ov ← eval o X.env
      standAt apos.atName
      let (f, first) ← holding [ov] (getMethod ov m pl)
      callWith pos f first (backTo pos (starEach (e :: es) X.env)) (backToKw pos (keywordEach [] X.env))) := by rfl) :
    PE X (.Call (.Attribute o m apos) (e :: es) [] pos) (ClX.tCMeth (cBk X.K) sp E ta t) := by
  obtain ⟨r, p, g, c, F⟩ := c
  exact ClX.pe_cmeth ho r c (F.mono hk) hr hx ha hst hpl ht
/-- str(x), x an instance whose class has its own __str__ -/
theorem cr_strO {C f : Addr} (F : FnR X.prog X.w X.K X.mg X.base (L2.CX X.prog X.w) k f sp) (hr : Room j X.A) (hx : Passes (L2.CX X.prog X.w) X E) (hs : PySem.W.findIn X.K (.ref C) "__str__" = some (some (.ref f))) (hf : PySem.W.isFn X.K (.ref f) = true) (hk : k + 2 ≤ j := by decide) :
    CallR X (.type "str") (fun xs H Q => ∃ a dx fs, xs = [.ref a] ∧ H a = some (.ins C dx fs) ∧ sp [.ref a] H (fun v H' => (∃ z, v = .str z) ∧ Q v H') E) := by
  intro pn z σ G xs us Q I r ⟨a, dx, fs, ex, ea, h⟩
  subst ex
  obtain ⟨u, rfl, ru⟩ := vals1 r
  obtain rfl : u = Value.ref a := ru
  obtain ⟨mA, O, _, _, _, _⟩ := ins_get I.hok ea
  obtain ⟨od, J, _⟩ := O.look
  have hr2 : Room (k + 2) X.A := hr.mono hk
  refine PySem.W.kso_call hr2.in1.in1.units0 I.kIn J hs hf (wpAny_call (codeAny_mono (F X.A.in1.in1 X.stack z G [.ref a] [.ref a] _ E hr2.in1.in1 I.env0.in1.in1 (.cons rfl .nil) h) fun rr z' hq => ?_))
  cases rr with
  | error er => exact hx pn σ G z er z' I hq
  | ok fl =>
    cases fl with
    | ret u =>
      obtain ⟨v, G', I3, rv, ⟨y, rfl⟩, q3⟩ := I.after hq
      obtain ⟨t, rfl⟩ : ∃ t, u = .str y t := rv
      exact ⟨V.str y, G', I3, ⟨t, rfl⟩, q3⟩
    | next => exact False.elim hq
    | brk => exact False.elim hq
    | cont => exact False.elim hq
end
def spBkOf (K : PySem.W.Frag) : Sp := fun vs H Q E => ∃ v b, vs = [.ref (cBk K), v] ∧ Dp K H v (dBk b) ∧ OkBk b ∧ b.places.length + b.ways.length + b.rows.length < 4000000 ∧ (lets b = none → ∀ x H', Same H H' → BkAt K H' x b → Q (.ref x) H') ∧ ∀ w k, lets b = some (w, k) → RzP K w k H E
def spBkRd (K : PySem.W.Frag) : Sp := fun vs H Q E => ∃ t, vs = [.ref (cBk K), .str t] ∧ t.length < 4000000 ∧ (∀ b, rBook t = .ok b → (lets b = none → ∀ x H', Same H H' → BkAt K H' x b → Q (.ref x) H') ∧ ∀ w k, lets b = some (w, k) → RzP K w k H E) ∧ ∀ l f, rBook t = .error (l, f) → RzT K (l : Nat) (f : Nat) H E
def spForm (K : PySem.W.Frag) : Sp := fun vs H Q _ => ∃ x b, vs = [.ref x] ∧ BkAt K H x b ∧ ∀ v H', Same H H' → Dp K H' v (dBk b) → Q v H'
def spStr (K : PySem.W.Frag) : Sp := fun vs H Q _ => ∃ x b, vs = [.ref x] ∧ BkAt K H x b ∧ OkBk b ∧ (bkText b).length < 4000000 ∧ ∀ H', Same H H' → Q (.str (bkText b)) H'
theorem bk_size {t : Str} {b : Bk} (h : rBook t = .ok b) (hz : t.length < 4000000) : b.places.length + b.ways.length + b.rows.length < 4000000 := by
  obtain ⟨hok, e, hl⟩ := rBook_ok h
  have h1 := length_bk b
  have h2 := cut_count (c := 10) (t := t)
  rw [← hl] at h1
  unfold linesOf at h1
  omega
section
variable {P : Program} {w : World} {K : PySem.W.Frag} {mg : Str → Option Value} {base : Heap}
theorem Dp.bkD {b : Bk} {H : Hp} {a : Addr} {p c t : V} (h : SqT K H a [p, c, vSl b.slip, t]) (h1 : Dp K H p (.tuple (b.places.map dPl))) (h2 : Dp K H c (.tuple (b.ways.map dWy))) (h3 : Dp K H t (.tuple (b.rows.map dRw))) : Dp K H (.ref a) (dBk b) :=
  .tup h (.cons h1 (.cons h2 (.cons Dp.slM (.cons h3 .nil))))
/-- a def's promise by positional values, its FunD given -/
theorem FunD.rawN {x qual : Str} {params : Arguments} {body : List Stmt} {scope : Scope} {f : Addr} {fd : FuncData} {k : Nat} {N ps : List Str} {sp : Sp} (F : FunD K x qual params body scope [] [] f fd) (S : FnScope N ps scope) (len : ∀ vs H Q E, sp vs H Q E → vs.length = ps.length)
    (hb : ∀ (kV doc pm : Value) (an : Option Addr) (cdv ct : Value) (us : List Value), us.length = ps.length → bindArgs (PySem.W.fnOf x qual params body scope .none kV doc pm an cdv ct) ⟨us, []⟩ = pure (ps.zip us))
    (hbody : ∀ (cdv : Value) (A : Around) (outer : List Env) (s : Shared) (H : Hp) (vs : List V) (Q : VK) (E : XK), Room k (A.deeper (envOfC qual scope s.heap.objs.size f cdv)) → sp vs H Q E →
      ∃ t, PSs (cxOf (L2.CX P w) P w K mg base N qual scope f cdv A outer s H E) body t ∧ t { nx := fun _ H' => Q .non H', rt := Q } (L2.start N vs) H) : FnOk P w K mg base (L2.CX P w) (k + 1) f fd ps sp ∧ Binds K fd ps [] ∧ FnR P w K mg base (L2.CX P w) (k + 1) f sp := by
  have A := F.ok (P := P) (w := w) (mg := mg) (base := base) S len hbody
  have B := F.bindsN hb
  refine ⟨A, B, (A.raw B .nil).imp fun vs H Q E h => ?_⟩
  rw [List.append_nil]
  exact h
theorem ok_Book_of (Y : TB P K mg) : ClM P w K mg base 10 "of" (spBkOf K) := by
  obtain ⟨p, g, fd, c, F⟩ := Y.of_
  refine ⟨Y.cr, p, g, c, ?_⟩
  have Z := Y
  replace Y := Y.ty
  have T := Y.tx
  have S : FnScope ["cls", "book", "places", "costs", "slip", "rows"] ["cls", "book"] (defScope s_Book_of) := ⟨rfl, rfl, rfl, by decide +kernel, rfl, by decide +kernel, by decide +kernel⟩
  refine (FunD.rawN (k := 9) F S (by rintro vs H Q E ⟨v, b, rfl, _⟩; rfl) (fun _ _ _ _ _ _ us hl => match us, hl with | [_, _], _ => rfl) fun cdv A outer s H vs Q E hr h => ?_).2.2
  obtain ⟨v, b, rfl, hv, hok, hsz, q1, q2⟩ := h
  obtain ⟨fI, M, FI⟩ := bk_init (w := w) (base := base) Y
  have nd := S.nd
  refine ⟨_, (pss_cons (ps_expr (pc (ok_lets_book Y) hr passB (pa_cons (pv 1) pa_nil)))
    (pss_cons (ps_asg (pv 1) (pg_tup rfl (pgs_cons (pg_name (i := 2) nd rfl (.inl rfl)) (pgs_cons (pg_name (i := 3) nd rfl (.inl rfl)) (pgs_cons (pg_name (i := 4) nd rfl (.inl rfl)) (pgs_cons (pg_name (i := 5) nd rfl (.inl rfl)) pgs_nil))))))
    (pss_one (ps_ret (pe_makeS (i := 0) M FI hr rfl (.inl rfl) passB (pa_cons (pv 2) (paS K (pv 5) pa_nil)) (pk_cons (pv 3) (pk_cons (pv 4) pk_nil))))))), ?_⟩
  refine ⟨_, rfl, v, b, rfl, hv, hok, hsz, fun hl H1 e1 => ?_, q2⟩
  obtain ⟨a, pa, wa, ra, ps, ws, rs, rfl, ht, tp, dp, tw, dw, tr, dr⟩ := (Dp.same e1 hv).bkI
  refine ⟨_, rfl, a, _, rfl, ht, rfl, _, _, rfl, _, _, rfl, _, _, rfl, _, _, rfl, rfl, rfl, _, rfl, _, rfl, ra, rs, rfl, .inl tr, _, rfl, _, rfl, fun x dx hx hdx hne => ?_⟩
  have hs : Same H1 (upd (upd H1 dx (.own x)) x (.ins (cBk K) dx [])) := fun c o h => by
    rw [upd_ne (ne_of_none h hx), upd_ne (ne_of_none h hdx)]
    exact h
  refine ⟨x, dx, pa, wa, rs, b, by simp, rfl, upd_same, .tup (Same.tup hs tp) (DpAll.same hs dp), .tup (Same.tup hs tw) (DpAll.same hs dw), DpAll.same hs dr, hok, hsz, hl, fun H' e hb => ⟨rfl, q1 hl x H' (e1.trans fun c o h => e c o (ne_of_none h hx) (hs c o h)) hb⟩⟩
theorem ok_Book_read (Y : TB P K mg) : ClM P w K mg base 11 "read" (spBkRd K) := by
  obtain ⟨p, g, fd, c, F⟩ := Y.read
  refine ⟨Y.cr, p, g, c, ?_⟩
  have COF := ok_Book_of (w := w) (base := base) Y
  replace Y := Y.ty
  have T := Y.tx
  have S : FnScope ["cls", "text"] ["cls", "text"] (defScope s_Book_read) := ⟨rfl, rfl, rfl, by decide +kernel, rfl, by decide +kernel, by decide +kernel⟩
  refine (FunD.rawN (k := 10) F S (by rintro vs H Q E ⟨v, rfl, _⟩; rfl) (fun _ _ _ _ _ _ us hl => match us, hl with | [_, _], _ => rfl) fun cdv A outer s H vs Q E hr h => ?_).2.2
  obtain ⟨t, rfl, hz, q1, q2⟩ := h
  refine ⟨_, (pss_one (ps_ret (pcm COF hr passB (pv 0) (pa_cons (pc (ok_book_read Y) hr passB (pa_cons (pv 1) pa_nil)) pa_nil)))), ?_⟩
  refine ⟨_, rfl, rfl, _, rfl, t, rfl, hz, fun b hb v H1 e1 hv => ?_, q2⟩
  obtain ⟨k1, k2⟩ := q1 b hb
  exact ⟨v, b, rfl, hv, (rBook_ok hb).1, bk_size hb hz, fun hl x H' e hx => k1 hl x H' (e1.trans e) hx, fun w k hw => (k2 w k hw).mono e1⟩
theorem ok_Book_form (Y : TB P K mg) : ∃ p g fd, PropOf K (cBk K) "form" p g ∧ FnOk P w K mg base (L2.CX P w) 1 g fd ["self"] (spForm K) ∧ Binds K fd ["self"] [] := by
  obtain ⟨p, g, fd, c, F⟩ := Y.form
  replace Y := Y.ty
  have T := Y.tx
  have S : FnScope ["self"] ["self"] (defScope s_Book_form) := ⟨rfl, rfl, rfl, by decide +kernel, rfl, by decide +kernel, by decide +kernel⟩
  have G := FunD.rawN (P := P) (w := w) (mg := mg) (base := base) (k := 0) (sp := spForm K) F S (by rintro vs H Q E ⟨v, b, rfl, _⟩; rfl) (fun _ _ _ _ _ _ us hl => match us, hl with | [_], _ => rfl) fun cdv A outer s H vs Q E hr h => ?_
  · exact ⟨p, g, fd, c, G.1, G.2.1⟩
  obtain ⟨x, b, rfl, ⟨dx, p, c, t, hx, h1, h2, h3⟩, q⟩ := h
  have hcl := Y.clsB
  refine ⟨_, (pss_one (ps_ret (pe_tup (pa_cons (pe_fld (pv 0) rfl) (pa_cons (pe_fld (pv 0) rfl) (pa_cons (pe_fld (pv 0) rfl) (pa_cons (pe_fld (pv 0) rfl) pa_nil))))))), ?_⟩
  exact ⟨_, rfl, x, _, dx, _, .ref p, rfl, hx, hcl, He.noat_ok (T.more 25), rfl, _, rfl, x, _, dx, _, .ref c, rfl, hx, hcl, He.noat_ok (T.more 26), rfl, _, rfl, x, _, dx, _, vSl b.slip, rfl, hx, hcl, He.noat_ok (T.more 27), rfl, _, rfl, x, _, dx, _, .ref t, rfl, hx, hcl, He.noat_ok (T.more 28), rfl,
    Nat.le_of_ble_eq_true rfl, fun n nn => q _ _ (Same.new nn) (Dp.bkD (.inl (.inl upd_same)) (Dp.same (Same.new nn) h1) (Dp.same (Same.new nn) h2) (Dp.same (Same.new nn) h3))⟩
theorem ok_Book_str (Y : TB P K mg) : FnR P w K mg base (L2.CX P w) 4 (He.ma K (cBk K) "__str__") (spStr K) := by
  replace Y := Y.ty
  have T := Y.tx
  obtain ⟨fd, F⟩ := T.fn i_Book_str d_Book_str rfl
  have F' : FunD K "__str__" "Book.__str__" (defArgs s_Book_str) (defBody s_Book_str) (defScope s_Book_str) [] [] (He.ma K (cBk K) "__str__") fd := F
  have S : FnScope ["self"] ["self"] (defScope s_Book_str) := ⟨rfl, rfl, rfl, by decide +kernel, rfl, by decide +kernel, by decide +kernel⟩
  refine (FunD.rawN (k := 3) F' S (by rintro vs H Q E ⟨v, b, rfl, _⟩; rfl) (fun _ _ _ _ _ _ us hl => match us, hl with | [_], _ => rfl) fun cdv A outer s H vs Q E hr h => ?_).2.2
  obtain ⟨x, b, rfl, ⟨dx, p, c, t, hx, h1, h2, h3⟩, hok, hz, q⟩ := h
  have hcl := Y.clsB
  refine ⟨_, (pss_one (ps_ret (pe_joined1 (pe_fmt (pc (ok_book_text T) hr passB (pa_cons (pe_tup (pa_cons (pe_fld (pv 0) rfl) (pa_cons (pe_fld (pv 0) rfl) (pa_cons (pe_fld (pv 0) rfl) (pa_cons (pe_fld (pv 0) rfl) pa_nil))))) pa_nil)))))), ?_⟩
  refine ⟨_, rfl, x, _, dx, _, .ref p, rfl, hx, hcl, He.noat_ok (T.more 25), rfl, _, rfl, x, _, dx, _, .ref c, rfl, hx, hcl, He.noat_ok (T.more 26), rfl, _, rfl, x, _, dx, _, vSl b.slip, rfl, hx, hcl, He.noat_ok (T.more 27), rfl, _, rfl, x, _, dx, _, .ref t, rfl, hx, hcl, He.noat_ok (T.more 28), rfl,
    Nat.le_of_ble_eq_true rfl, fun n nn => ⟨[dBk b], _, .cons (Dp.bkD (.inl (.inl upd_same)) (Dp.same (Same.new nn) h1) (Dp.same (Same.new nn) h2) (Dp.same (Same.new nn) h3)) .nil, ⟨b, hok, rfl, hz, rfl⟩, fun u H1 e1 hu => ?_⟩⟩
  cases hu.strI
  exact .inl ⟨_, rfl, by unfold sizeLine; omega, q _ ((Same.new nn).trans e1)⟩
end
end K12

/-! What the law draws from. -/
namespace K12
open PySem PySem.Spec PyProof.Rows L2
def fkv (l : Addr) (a b c : Int) : List (Key × V) := [(.inr "cells", .ref l), (.inr "at", .int a), (.inr "left", .int b), (.inr "count", .int c)]
/-- a feed stands at f -/
def FeedL (H : Hp) (f l : Addr) : Prop := ∃ (cells : List Int) (a b c : Int), H f = some (.dK (fkv l a b c)) ∧ H l = some (.lst (cells.map V.int)) ∧ cells.length ≤ 63
theorem FeedL.keep {H G : Hp} {f l : Addr} (h : FeedL H f l) (h1 : ∀ o, H f = some o → G f = some o) (h2 : ∀ o, H l = some o → G l = some o) : FeedL G f l := let ⟨cs, a, b, c, e1, e2, e3⟩ := h; ⟨cs, a, b, c, h1 _ e1, h2 _ e2, e3⟩
theorem FeedL.ne {H : Hp} {f l : Addr} (h : FeedL H f l) : l ≠ f := let ⟨_, _, _, _, e1, e2, _⟩ := h; ne_of e2 e1 (by intro z; cases z)
/-- all but f stays -/
def But (f : Addr) (H G : Hp) : Prop := ∀ b o, b ≠ f → H b = some o → G b = some o
theorem But.refl (f : Addr) (H : Hp) : But f H H := fun _ _ _ h => h
theorem But.trans {f : Addr} {H G J : Hp} (a : But f H G) (b : But f G J) : But f H J := fun c o n h => b c o n (a c o n h)
theorem But.of {f : Addr} {H G : Hp} (e : Same H G) : But f H G := fun b o _ h => e b o h
theorem But.upd {f : Addr} {H : Hp} {u : HO} : But f H (upd H f u) := fun b o n h => by
  rw [upd_ne n]
  exact h
theorem But.rd {f : Addr} {H G : Hp} {kvs : List (Key × V)} (e : But f H G) (hf : H f = some (.dK kvs)) {b : Addr} {o : HO} (r : Rd H b o) (hn : ∀ kvs, o ≠ .dK kvs) : Rd G b o := by
  rcases r with r | ⟨u, r⟩
  · exact .inl (e b _ (ne_of r hf (fun z => hn _ z)) r)
  · exact .inr ⟨u, e b _ (ne_of r hf (by intro z; cases z)) r⟩
theorem But.dp {K : PySem.W.Frag} {f : Addr} {H G : Hp} {kvs : List (Key × V)} (e : But f H G) (hf : H f = some (.dK kvs)) {v : V} {d : PyData} (h : Dp K H v d) : Dp K G v d :=
  Dp.seqs (fun b xs r => e.rd hf r (fun _ z => by cases z)) (fun b xs r => e.rd hf r (fun _ z => by cases z)) h
theorem But.seq {K : PySem.W.Frag} {f : Addr} {H G : Hp} {kvs : List (Key × V)} (e : But f H G) (hf : H f = some (.dK kvs)) {a : Addr} {xs : List V} (h : SqL K H a xs) : SqL K G a xs := h.elim (fun r => .inl (e.rd hf r (fun _ z => by cases z))) .inr
theorem But.tup {K : PySem.W.Frag} {f : Addr} {H G : Hp} {kvs : List (Key × V)} (e : But f H G) (hf : H f = some (.dK kvs)) {a : Addr} {xs : List V} (h : SqT K H a xs) : SqT K G a xs := h.elim (fun r => .inl (e.rd hf r (fun _ z => by cases z))) .inr
theorem FeedL.same {H G : Hp} {f l : Addr} (h : FeedL H f l) (e : Same H G) : FeedL G f l := h.keep (fun _ x => e _ _ x) fun _ x => e _ _ x
theorem FeedL.dict {H : Hp} {f l : Addr} (h : FeedL H f l) : ∃ kvs, H f = some (.dK kvs) := let ⟨_, _, _, _, e, _⟩ := h; ⟨_, e⟩
/-- all tuples stay -/
def KeepT (H G : Hp) : Prop := ∀ b xs, Rd H b (.tup xs) → Rd G b (.tup xs)
theorem KeepT.trans {H G J : Hp} (a : KeepT H G) (b : KeepT G J) : KeepT H J := fun c xs r => b c xs (a c xs r)
theorem KeepT.same {H G : Hp} (e : Same H G) : KeepT H G := fun b xs r => r.elim (fun r => .inl (e _ _ r)) fun ⟨o, r⟩ => .inr ⟨o, e _ _ r⟩
theorem KeepT.but {H G : Hp} {f l : Addr} (e : But f H G) (h : FeedL H f l) : KeepT H G := fun b xs r => by
  obtain ⟨kvs, hk⟩ := h.dict
  exact e.rd hk r (fun _ z => by cases z)
theorem KeepT.lst {H : Hp} {a : Addr} {xs ys : List V} (h : H a = some (.lst xs)) : KeepT H (upd H a (.lst ys)) := fun b zs r => by
  rcases r with r | ⟨o, r⟩
  · exact .inl (by rw [upd_ne (ne_of r h (by intro z; cases z))]; exact r)
  · exact .inr ⟨o, by rw [upd_ne (ne_of r h (by intro z; cases z))]; exact r⟩
theorem KeepT.tup {K : PySem.W.Frag} {H G : Hp} (k : KeepT H G) {a : Addr} {xs : List V} (h : SqT K H a xs) : SqT K G a xs := h.elim (fun r => .inl (k _ _ r)) .inr
theorem put_at (l : Addr) (a b c d : Int) : putK (fkv l a b c) (.inr "at") (.int d) = fkv l d b c := by
  have e : (fkv l a b c).any (fun kv => decide (kv.1 = (.inr "at" : Key))) = true := rfl
  unfold putK
  rw [if_pos e]
  rfl
theorem put_left (l : Addr) (a b c d : Int) : putK (fkv l a b c) (.inr "left") (.int d) = fkv l a d c := by
  have e : (fkv l a b c).any (fun kv => decide (kv.1 = (.inr "left" : Key))) = true := rfl
  unfold putK
  rw [if_pos e]
  rfl
theorem put_count (l : Addr) (a b c d : Int) : putK (fkv l a b c) (.inr "count") (.int d) = fkv l a b d := by
  have e : (fkv l a b c).any (fun kv => decide (kv.1 = (.inr "count" : Key))) = true := rfl
  unfold putK
  rw [if_pos e]
  rfl
theorem cm1 (e y : Int) {C : Int} (h0 : 0 < C) (h1 : C < 2 ^ 64) : L2.CMul (e % C) y := .inl ⟨by
  have := Int.emod_nonneg e (by omega : C ≠ 0)
  omega, by
  have := Int.emod_lt_of_pos e h0
  omega⟩
section
variable {H : Hp} {f l : Addr} {a b c : Int}
theorem get_cells (h : H f = some (.dK (fkv l a b c))) : DGet H f (.str "cells") (some (.ref l)) := DGet.k (k := .inr "cells") h
theorem get_at (h : H f = some (.dK (fkv l a b c))) : DGet H f (.str "at") (some (.int a)) := DGet.k (k := .inr "at") h
theorem get_left (h : H f = some (.dK (fkv l a b c))) : DGet H f (.str "left") (some (.int b)) := DGet.k (k := .inr "left") h
theorem get_count (h : H f = some (.dK (fkv l a b c))) : DGet H f (.str "count") (some (.int c)) := DGet.k (k := .inr "count") h
theorem dput_at (d : Int) (h : H f = some (.dK (fkv l a b c))) : DPut H f (.str "at") (.int d) (upd H f (.dK (fkv l d b c))) := by
  rw [← put_at l a b c d]
  exact DPut.k (k := .inr "at") h (Nat.lt_of_lt_of_le (by decide : 4 < 100) (Nat.le_of_ble_eq_true rfl))
theorem dput_left (d : Int) (h : H f = some (.dK (fkv l a b c))) : DPut H f (.str "left") (.int d) (upd H f (.dK (fkv l a d c))) := by
  rw [← put_left l a b c d]
  exact DPut.k (k := .inr "left") h (Nat.lt_of_lt_of_le (by decide : 4 < 100) (Nat.le_of_ble_eq_true rfl))
theorem dput_count (d : Int) (h : H f = some (.dK (fkv l a b c))) : DPut H f (.str "count") (.int d) (upd H f (.dK (fkv l a b d))) := by
  rw [← put_count l a b c d]
  exact DPut.k (k := .inr "count") h (Nat.lt_of_lt_of_le (by decide : 4 < 100) (Nat.le_of_ble_eq_true rfl))
end
def spFeed (K : PySem.W.Frag) : Sp := fun vs H Q _ => ∃ (a : Addr) (ns : List Int), vs = [.ref a] ∧ SqL K H a (ns.map V.int) ∧ ∀ f l H', Same H H' → FeedL H' f l → Q (.ref f) H'
def spDraw (K : PySem.W.Frag) : Sp := fun vs H Q _ => ∃ (f l : Addr) (m : Int), vs = [.ref f, .int m] ∧ FeedL H f l ∧ 1 ≤ m ∧ m < 1073741824 ∧ ∀ (d : Nat) H', (d : Int) < m → But f H H' → FeedL H' f l → Q (.int (d : Nat)) H'
section
variable {P : Program} {w : World} {K : PySem.W.Frag} {mg : Str → Option Value} {base : Heap}
theorem sc_law_feed : FnScope ["_law_script"] ["_law_script"] (defScope s_law_feed) := ⟨rfl, rfl, rfl, by decide +kernel, rfl, by decide +kernel, by decide +kernel⟩
theorem ok_law_feed (T : TX K mg) : Cal P w K mg base 1 "_law_feed" ["_law_script"] (spFeed K) := by
  refine T.def_ i_law_feed (d := d_law_feed) rfl rfl sc_law_feed (fun _ _ _ _ _ _ us hl => match us, hl with | [_], _ => rfl) (by rintro vs H Q E ⟨v, b, rfl, _⟩; rfl) (fun f cdv A outer s H vs Q E hr h => ?_)
  obtain ⟨a, ns, rfl, ha, q⟩ := h
  refine ⟨_, (pss_one (ps_ret (pe_disp (pps_cons pe_str (pe_callTy call_list_of rfl T.free boot_list (pa_cons (pe_slice sl_list (pv 0) po_none (po_some pe_int)) pa_nil)) (pps_cons pe_str pe_int (pps_cons pe_str pe_int (pps_cons pe_str pe_int pps_nil)))) rfl rfl (by simp) (by decide)))), ?_⟩
  refine fun f nf => ⟨_, rfl, 63, rfl, a, _, rfl, Same.seq (Same.new nf) ha, fun p np => ⟨p, _, rfl, .inl (.inl (.inl upd_same)), fun l nl => ?_⟩⟩
  have hf : (upd (upd (upd H f (.dK [])) p (.lst (cutV (ns.map V.int) none (some 63)))) l (.lst (cutV (ns.map V.int) none (some 63)))) f = some (.dK []) := by
    rw [upd_ne (ne_of_none (Same.new np _ _ upd_same) nl), upd_ne (ne_of_none upd_same np)]
    exact upd_same
  refine ⟨hf, [(.inr "cells", .ref l), (.inr "at", .int 0), (.inr "left", .int 0), (.inr "count", .int 0)], rfl, by simp, q _ l _ (fun b o h => ?_) ⟨ns.take 63, 0, 0, 0, upd_same, ?_, by rw [List.length_take]; omega⟩⟩
  · have hb : b ≠ f := ne_of_none h nf
    rw [upd_ne hb]
    exact (Same.new nl) _ _ ((Same.new np) _ _ (by rw [upd_ne hb]; exact h))
  · have ec : cutV (ns.map V.int) none (some 63) = (ns.take 63).map V.int := by
      unfold cutV HT.sIx
      simp
    have hlf : l ≠ f := fun z => by
      rw [z, upd_ne (ne_of_none upd_same np), upd_same] at nl
      cases nl
    rw [upd_ne hlf, upd_same, ec]
theorem sc_law_draw : FnScope ["_law_feed_here", "_law_many", "_law_digit", "_law_at", "_law_cell", "_law_mixed"] ["_law_feed_here", "_law_many"] (defScope s_law_draw) := ⟨rfl, rfl, rfl, by decide +kernel, rfl, by decide +kernel, by decide +kernel⟩
theorem ok_law_draw (T : TX K mg) : Cal P w K mg base 1 "_law_draw" ["_law_feed_here", "_law_many"] (spDraw K) := by
  refine T.def_ i_law_draw (d := d_law_draw) rfl rfl sc_law_draw (fun _ _ _ _ _ _ us hl => match us, hl with | [_, _], _ => rfl) (by rintro vs H Q E ⟨v, l, b, rfl, _⟩; rfl) (fun f cdv A outer s H vs Q E hr h => ?_)
  obtain ⟨f, l, m, rfl, ⟨cells, a, b, c, h1, h2, h3⟩, hm1, hm2, q⟩ := h
  have nd := sc_law_draw.nd
  refine ⟨_, (pss_cons (ps_dput (hu_of hr) (pv 0) pe_str (pe_op op_add (pe_dget (hu_of hr) (pv 0) pe_str (fun _ _ => rfl)) pe_int) rfl)
    (pss_cons (ps_if (pt_cmpR op_gt (pe_dget (hu_of hr) (pv 0) pe_str (fun _ _ => rfl)) pe_int (nomark _)) (pss_cons (ps_set (i := 2) nd rfl (.inl rfl) (pe_op op_mod (pe_callTy call_int1 rfl T.free boot_int (pa_cons (pe_dget (hu_of hr) (pv 0) pe_str (fun _ _ => rfl)) pa_nil)) (pv 1)))
    (pss_cons (ps_dput (hu_of hr) (pv 0) pe_str (pe_op op_fdivW (pe_dget (hu_of hr) (pv 0) pe_str (fun _ _ => rfl)) (pv 1)) rfl)
    (pss_one (ps_ret (pv 2))))) pss_nil)
    (pss_cons (ps_set (i := 3) nd rfl (.inl rfl) (pe_dget (hu_of hr) (pv 0) pe_str (fun _ _ => rfl)))
    (pss_cons (ps_dput (hu_of hr) (pv 0) pe_str (pe_op op_add (pv 3) pe_int) rfl)
    (pss_cons (ps_set (i := 4) nd rfl (.inl rfl) (pe_ifExp (pt_cmpR (op_neD hr.units) (pe_dget (hu_of hr) (pv 0) pe_str (fun _ _ => rfl)) (pe_lst pa_nil) (nomark _)) (pe_ix ix_list (pe_dget (hu_of hr) (pv 0) pe_str (fun _ _ => rfl)) (pe_op op_mod (pe_callTy call_int1 rfl T.free boot_int (pa_cons (pv 3) pa_nil)) (pe_callB call_len_seq rfl T.free boot_len (pa_cons (pe_dget (hu_of hr) (pv 0) pe_str (fun _ _ => rfl)) pa_nil))) (fun _ _ => rfl)) pe_int))
    (pss_cons (ps_if (PW.pt (pw_and (pt_cmpR op_ge (pv 4) (pe_op op_pow pe_int pe_int) (nomark _)) (pw_and1 (pt_cmpR op_lt (pv 3) (pe_callB call_len_seq rfl T.free boot_len (pa_cons (pe_dget (hu_of hr) (pv 0) pe_str (fun _ _ => rfl)) pa_nil)) (nomark _))))) (pss_cons (ps_dput (hu_of hr) (pv 0) pe_str (pe_op op_fdivW (pv 4) (pv 1)) rfl)
    (pss_one (ps_ret (pe_op op_mod (pe_callTy call_int1 rfl T.free boot_int (pa_cons (pv 4) pa_nil)) (pv 1))))) pss_nil)
    (pss_cons (ps_set (i := 5) nd rfl (.inl rfl) (pe_op op_mod (pe_callTy call_int1 rfl T.free boot_int (pa_cons (pe_op op_add (pe_op op_add (pe_op op_mod (pe_callTy call_int1 rfl T.free boot_int (pa_cons (pv 4) pa_nil)) pe_int) (pe_op op_mul pe_int (pe_dget (hu_of hr) (pv 0) pe_str (fun _ _ => rfl)))) pe_int) pa_nil)) pe_int))
    (pss_cons (ps_set (i := 5) nd rfl (.inl rfl) (pe_op op_mod (pe_callTy call_int1 rfl T.free boot_int (pa_cons (pe_op op_add (pe_op op_add (pe_op op_mul (pv 5) (pv 5)) (pe_op op_mul pe_int (pe_dget (hu_of hr) (pv 0) pe_str (fun _ _ => rfl)))) pe_int) pa_nil)) pe_int))
    (pss_one (ps_ret (pe_op op_mod (pe_callTy call_int1 rfl T.free boot_int (pa_cons (pe_op op_fdiv (pe_op op_mod (pe_callTy call_int1 rfl T.free boot_int (pa_cons (pe_op op_add (pe_op op_mul (pv 5) (pv 5)) (pe_op op_mul pe_int (pv 5))) pa_nil)) pe_int) pe_int) pa_nil)) (pv 1)))))))))))), ?_⟩
  refine ⟨_, rfl, f, .int c, rfl, get_count h1, _, _, rfl, rfl, _, rfl, f, _, rfl, dput_count (c + 1) h1, ?_⟩
  have fin : ∀ (z : Int) G, But f H G → FeedL G f l → Q (.int (z % m)) G := fun z G e1 e2 => by
    have h0 : 0 ≤ z % m := Int.emod_nonneg _ (by omega)
    have hlt : z % m < m := Int.emod_lt_of_pos _ (by omega)
    have e : ((z % m).toNat : Int) = z % m := Int.toNat_of_nonneg h0
    have y := q (z % m).toNat G (by rw [e]; exact hlt) e1 e2
    rw [e] at y
    exact y
  have hdv : 0 < m ∧ m.natAbs.log2 < 9000 := ⟨by omega, by
    have : m.natAbs < 2 ^ 30 := by omega
    have := (Nat.log2_lt (by omega)).mpr this
    omega⟩
  have hm0 : 0 < m := by omega
  have bu : But f H (upd H f (.dK (fkv l a b (c + 1)))) := But.upd
  have hlf : l ≠ f := ne_of h2 h1 (by intro z; cases z)
  have sl : ∀ {G : Hp}, But f H G → G l = some (.lst (cells.map V.int)) := fun e => e _ _ hlf h2
  have sq : ∀ {G : Hp}, But f H G → SqL K G l (cells.map V.int) := fun e => .inl (.inl (sl e))
  refine ⟨_, rfl, f, .int b, rfl, get_left upd_same, _, _, rfl, rfl, _, rfl, ite2 (fun hb => ?_) fun hb => ?_⟩
  · refine ⟨_, rfl, f, .int b, rfl, get_left upd_same, .inl ⟨b, rfl, _, rfl, b, m, rfl, rfl, hm0, _, rfl, f, .int b, rfl, get_left upd_same, _, rfl, b, m, rfl, rfl, hdv, _, rfl, f, _, rfl, dput_left _ upd_same, _, rfl, ?_⟩⟩
    have bu2 := bu.trans (But.upd (f := f) (u := .dK (fkv l a (b / m) (c + 1))))
    exact fin b _ bu2 ⟨cells, a, b / m, c + 1, upd_same, sl bu2, h3⟩
  refine ⟨_, rfl, f, .int a, rfl, get_at upd_same, _, rfl, a, 1, rfl, rfl, _, rfl, f, _, rfl, dput_at _ upd_same, ?_⟩
  have bu2 := bu.trans (But.upd (f := f) (u := .dK (fkv l (a + 1) b (c + 1))))
  have g1 : (upd (upd H f (.dK (fkv l a b (c + 1)))) f (.dK (fkv l (a + 1) b (c + 1)))) f = some (.dK (fkv l (a + 1) b (c + 1))) := upd_same
  generalize upd (upd H f (.dK (fkv l a b (c + 1)))) f (.dK (fkv l (a + 1) b (c + 1))) = G at bu2 g1 ⊢
  have dints : ∀ {G : Hp} {l : List Int}, DpAll K G (l.map V.int) (l.map PyData.int) := fun {G l} => by
    induction l with
    | nil => exact .nil
    | cons x r ih => exact .cons (.int x) ih
  refine ⟨_, rfl, f, .ref l, rfl, get_cells g1, Nat.zero_le _, fun p0 np0 => ?_⟩
  have bu3 : But f H (upd G p0 (.lst [])) := bu2.trans (.of (Same.new np0))
  have g3 : (upd G p0 (.lst [])) f = some (.dK (fkv l (a + 1) b (c + 1))) := Same.new np0 _ _ g1
  have nl0 : (upd G p0 (.lst [])) p0 = some (.lst []) := upd_same
  generalize upd G p0 (.lst []) = G3 at bu3 g3 nl0 ⊢
  have hev : PyData.eqv (.list (cells.map .int)) (.list []) = decide (cells = []) := by cases cells <;> simp [PyData.eqv, PyData.eqvAll]
  refine ⟨.list (cells.map .int), .list [], .lst (sq bu3) dints, .lst (.inl (.inl nl0)) .nil, (shp_lst (n := 1) fun d hd => ?_).ok, (shp_lst (n := 0) (ds := []) (fun d hd => absurd hd (by simp))).ok, _, rfl, ?_⟩
  · obtain ⟨x, _, rfl⟩ := List.mem_map.mp hd
    exact shp_int x
  rw [hev]
  have hpos : cells ≠ [] → 0 < ((cells.map V.int).length : Int) := fun hc => by
    rw [List.length_map]
    have : 0 < cells.length := List.length_pos_iff.mpr hc
    omega
  have hat : cells ≠ [] → atI (cells.map V.int) (a % ((cells.map V.int).length : Int)) = some (.int (cells.getD (a % (cells.length : Int)).toNat 0)) := fun hc => by
    rw [List.length_map]
    have h0 : 0 < cells.length := List.length_pos_iff.mpr hc
    have e0 : 0 ≤ a % (cells.length : Int) := Int.emod_nonneg _ (by omega)
    have e1 : a % (cells.length : Int) < cells.length := Int.emod_lt_of_pos _ (by omega)
    have e2 : ((a % (cells.length : Int)).toNat : Int) = a % (cells.length : Int) := Int.toNat_of_nonneg e0
    have e3 : (a % (cells.length : Int)).toNat < cells.length := by omega
    have e4 := atI_nat (xs := cells.map V.int) (j := (a % (cells.length : Int)).toNat) (v := .int (cells.getD (a % (cells.length : Int)).toNat 0)) (by simp [List.getD, e3])
    rw [e2] at e4
    exact e4
  by_cases hc : cells = []
  all_goals first
    | (have hc2 : cells = [] := hc
       refine iteN (by simp [hc2]) ?_
       generalize (71 : Int) = cell)
    | (refine iteP (by simp [hc]) ⟨_, rfl, f, .ref l, rfl, get_cells g3, _, rfl, .inl ⟨a, rfl, _, rfl, f, .ref l, rfl, get_cells g3, l, _, rfl, .inl (sq bu3), a, _, rfl, rfl, hpos hc, l, _, _, .int (cells.getD (a % (cells.length : Int)).toNat 0), rfl, rfl, sq bu3, hat hc, ?_⟩⟩
       generalize cells.getD (a % (cells.length : Int)).toNat 0 = cell)
  all_goals
    refine ⟨_, rfl, 10, 18, rfl, rfl, ⟨by decide, by decide, by decide⟩, cell, _, rfl, rfl, _, rfl, ite2 (fun hge => ⟨_, rfl, _, rfl, f, .ref l, rfl, get_cells g3, l, _, rfl, .inl (sq bu3), _, _, rfl, rfl, _, rfl, ite2 (fun hlt => ?_) fun hlt => ?_⟩) fun hge => iteF ?_⟩
    have bu4 := bu3.trans (But.upd (f := f) (u := .dK (fkv l (a + 1) (cell / m) (c + 1))))
    · exact ⟨_, rfl, _, rfl, cell, m, rfl, rfl, hdv, _, rfl, f, _, rfl, dput_left _ g3, _, rfl, .inl ⟨cell, rfl, _, rfl, cell, m, rfl, rfl, hm0, fin cell _ bu4 ⟨cells, a + 1, cell / m, c + 1, upd_same, sl bu4, h3⟩⟩⟩
    all_goals
      refine ⟨_, rfl, .inl ⟨cell, rfl, cell, _, rfl, rfl, (show (0 : Int) < 1000000289 by decide), _, rfl, f, .int (c + 1), rfl, get_count g3, _, _, rfl, rfl, .inl ⟨by decide, by decide⟩, _, _, rfl, rfl, _, _, rfl, rfl, .inl ⟨_, rfl, _, _, rfl, rfl, (show (0 : Int) < 2147483269 by decide), ?_⟩⟩⟩
      refine ⟨_, rfl, _, rfl, _, _, rfl, rfl, cm1 _ _ (by decide) (by decide), _, rfl, f, .int (c + 1), rfl, get_count g3, _, _, rfl, rfl, .inl ⟨by decide, by decide⟩, _, _, rfl, rfl, _, _, rfl, rfl, .inl ⟨_, rfl, _, _, rfl, rfl, (show (0 : Int) < 2147483249 by decide), ?_⟩⟩
      refine ⟨_, rfl, _, rfl, _, _, rfl, rfl, cm1 _ _ (by decide) (by decide), _, rfl, _, _, rfl, rfl, .inl ⟨by decide, by decide⟩, _, _, rfl, rfl, .inl ⟨_, rfl, _, _, rfl, rfl, (show (0 : Int) < 2147483237 by decide), _, _, rfl, rfl, ⟨by decide, by decide⟩, .inl ⟨_, rfl, _, rfl, _, m, rfl, rfl, hm0, fin _ _ bu3 ⟨cells, a + 1, b, c + 1, g3, sl bu3, h3⟩⟩⟩⟩
end
end K12

/-! What the law draws: a sheet that stands. -/
namespace K12
open PySem PySem.Spec PyProof.Rows L2
def menu : Nat → List Pl
  | 0 => [("shelf", 3, 9), ("store", 8, 20)]
  | 1 => [("a", 0, 4)]
  | 2 => [("b", 1, 5), ("count", 2, 2), ("move", 0, 7)]
  | _ => [("p", 0, 1), ("q", 5, 5), ("r", 2, 6), ("zzzzzzzz", 19, 20)]
def namesM (i : Nat) : List Str := (menu i).map (·.1) ++ [sOut]
def capM (i : Nat) (n : Str) : Nat := (capOf (menu i) n).getD 5
theorem mCase {P : Nat → Prop} (h0 : P 0) (h1 : P 1) (h2 : P 2) (h3 : P 3) {i : Nat} (hi : i < 4) : P i := by
  match i, hi with
  | 0, _ => exact h0
  | 1, _ => exact h1
  | 2, _ => exact h2
  | 3, _ => exact h3
def menuB (i : Nat) : Bool := (menu i).all (fun p => isPName p.1 && decide (p.2.1 ≤ p.2.2) && decide (p.2.2 ≤ 20) && decide (1 ≤ p.2.2)) && (ascS ((menu i).map (·.1)) && ((namesM i).all isName && (decide (namesM i).Nodup && (decide (menu i ≠ []) && (decide ((menu i).length ≤ 4) && (menu i).all fun p => decide (capOf (menu i) p.1 = some p.2.2))))))
theorem menuB_ok {i : Nat} (hi : i < 4) : menuB i = true := mCase (P := fun i => menuB i = true) (by decide +kernel) (by decide +kernel) (by decide +kernel) (by decide +kernel) hi
theorem menu_all {i : Nat} (hi : i < 4) : (∀ p ∈ menu i, isPName p.1 = true ∧ p.2.1 ≤ p.2.2 ∧ p.2.2 ≤ 20 ∧ 1 ≤ p.2.2) ∧ ascS ((menu i).map (·.1)) = true ∧ (∀ n ∈ namesM i, isName n = true) ∧ (namesM i).Nodup ∧ menu i ≠ [] ∧ (menu i).length ≤ 4 ∧ ∀ p ∈ menu i, capOf (menu i) p.1 = some p.2.2 := by
  have h := menuB_ok hi
  unfold menuB at h
  simp only [Bool.and_eq_true, List.all_eq_true, decide_eq_true_eq] at h
  obtain ⟨h1, h2, h3, h4, h5, h6, h7⟩ := h
  exact ⟨fun p hp => ⟨(h1 p hp).1.1.1, (h1 p hp).1.1.2, (h1 p hp).1.2, (h1 p hp).2⟩, h2, h3, h4, h5, h6, h7⟩
theorem name_cap {i : Nat} (hi : i < 4) {n : Str} (h : n ∈ namesM i) (ho : n ≠ sOut) : ∃ c, capOf (menu i) n = some c ∧ 1 ≤ c ∧ c ≤ 20 ∧ capM i n = c ∧ isPName n = true := by
  obtain ⟨h1, _, _, _, _, _, h7⟩ := menu_all hi
  unfold namesM at h
  rcases List.mem_append.mp h with h | h
  · obtain ⟨p, hp, rfl⟩ := List.mem_map.mp h
    have := h1 p hp
    refine ⟨p.2.2, h7 p hp, this.2.2.2, this.2.2.1, ?_, this.1⟩
    unfold capM
    rw [h7 p hp]
    rfl
  · exact absurd (by simpa using h) ho
theorem capM_pos {i : Nat} (hi : i < 4) {n : Str} (h : n ∈ namesM i) : 1 ≤ capM i n := by
  by_cases ho : n = sOut
  · subst ho
    unfold capM
    cases e : capOf (menu i) sOut with
    | none => decide
    | some c =>
      exfalso
      unfold capOf at e
      cases e2 : (menu i).find? (fun p => decide (p.1 = sOut)) with
      | none => rw [e2] at e; cases e
      | some p =>
        have hp := List.mem_of_find?_eq_some e2
        have hq := List.find?_some e2
        have h1 := ((menu_all hi).1 p hp).1
        unfold isPName at h1
        simp at h1 hq
        exact h1.2 hq
  · obtain ⟨c, _, hc, _, e, _⟩ := name_cap hi h ho
    omega
def RowG (i : Nat) : Rw → Prop
  | .move a b n => a ∈ namesM i ∧ b ∈ namesM i ∧ a ≠ b ∧ 1 ≤ n ∧ n ≤ capM i a ∧ n ≤ capM i b ∧ n ≤ 5
  | .count a n => a ∈ namesM i ∧ a ≠ sOut ∧ n ≤ capM i a
def WayG (i : Nat) (w : Wy) : Prop := w.1 ∈ namesM i ∧ w.2.1 ∈ namesM i ∧ w.1 ≠ w.2.1 ∧ 1 ≤ w.2.2 ∧ w.2.2 ≤ 9
/-- a sheet that the law may draw -/
structure Sheet (b : Bk) (size : Nat) : Prop where
  ex : ∃ i, i < 4 ∧ b.places = menu i ∧ (∀ w ∈ b.ways, WayG i w) ∧ ∀ r ∈ b.rows, RowG i r
  up : b.ways.Pairwise fun p q => wayLt p q = true
  few : b.ways.length ≤ 5
  slip : b.slip = none ∨ b.slip = some 4 ∨ b.slip = some 1 ∨ b.slip = some 9
  rows : b.rows.length = size
theorem lt_small {n : Nat} (h : n ≤ 100) : n < small := Nat.lt_of_le_of_lt h (by unfold small; decide)
theorem Sheet.ok {b : Bk} {size : Nat} (h : Sheet b size) : OkBk b := by
  obtain ⟨i, hi, hp, hw, hr⟩ := h.ex
  obtain ⟨h1, h2, h3, h4, h5, h6, h7⟩ := menu_all hi
  refine ⟨by rw [hp]; exact h5, fun p hpm => ?_, fun w hwm => ?_, fun n hn => ?_, fun r hrm => ?_⟩
  · rw [hp] at hpm
    have := h1 p hpm
    exact ⟨this.1, this.2.1, lt_small (by omega)⟩
  · obtain ⟨k1, k2, k3, k4, k5⟩ := hw w hwm
    exact ⟨h3 _ k1, h3 _ k2, k3, by omega, lt_small (by omega)⟩
  · rcases h.slip with e | e | e | e <;> rw [e] at hn <;> cases hn
    · exact ⟨by decide, lt_small (by decide)⟩
    · exact ⟨by decide, lt_small (by decide)⟩
    · exact ⟨by decide, lt_small (by decide)⟩
  · have z := hr r hrm
    cases r with
    | move a b2 n =>
      obtain ⟨k1, k2, k3, k4, k5, k6, k7⟩ := z
      exact ⟨h3 _ k1, h3 _ k2, k3, by omega, lt_small (by omega)⟩
    | count a n =>
      obtain ⟨k1, k2, k3⟩ := z
      obtain ⟨c, _, _, hc, e, hn⟩ := name_cap hi k1 k2
      exact ⟨hn, lt_small (by omega)⟩
theorem pair_at {α : Type} {R : α → α → Prop} {l : List α} (h : l.Pairwise R) {i : Nat} {a b : α} (ha : l[i]? = some a) (hb : l[i + 1]? = some b) : R a b := by
  obtain ⟨h1, e1⟩ := List.getElem?_eq_some_iff.mp ha
  obtain ⟨h2, e2⟩ := List.getElem?_eq_some_iff.mp hb
  rw [← e1, ← e2]
  exact List.pairwise_iff_getElem.mp h i (i + 1) h1 h2 (Nat.lt_succ_self i)
theorem Sheet.lets {b : Bk} {size : Nat} (h : Sheet b size) : lets b = none := by
  obtain ⟨i, hi, hp, hw, hr⟩ := h.ex
  obtain ⟨h1, h2, h3, h4, h5, h6, h7⟩ := menu_all hi
  have known : ∀ n ∈ namesM i, ((capOf b.places n).isSome || decide (n = sOut)) = true := fun n hn => by
    by_cases ho : n = sOut
    · simp [ho]
    · obtain ⟨c, hc, _⟩ := name_cap hi hn ho
      rw [hp, hc]
      rfl
  have hwb : firstBad (wayBad b) b.ways.length = none := first_none.mpr fun j hj => by
    unfold wayBad
    rw [List.getElem?_eq_getElem hj]
    obtain ⟨k1, k2, _⟩ := hw _ (List.getElem_mem hj)
    have hok : wayOk b.places b.ways[j] = true := by
      unfold wayOk
      rw [known _ k1, known _ k2]
      rfl
    simp only [hok, if_true]
    rw [if_pos]
    by_cases hj0 : j = 0
    · exact .inl hj0
    · refine .inr ?_
      have hj1 : j - 1 < b.ways.length := by omega
      have e1 : b.ways[j - 1]? = some b.ways[j - 1] := List.getElem?_eq_getElem hj1
      rw [e1]
      exact pair_at (i := j - 1) h.up e1 (by rw [show j - 1 + 1 = j by omega]; exact List.getElem?_eq_getElem hj)
  have hrb : firstBad (rowBad b) b.rows.length = none := first_none.mpr fun j hj => by
    unfold rowBad
    rw [List.getElem?_eq_getElem hj]
    have z := hr _ (List.getElem_mem hj)
    generalize b.rows[j] = r at z
    have hall : (rowNames r).all (fun n => (capOf b.places n).isSome) = true ∧ (rowNames r).all (fun n => decide (rowN r ≤ (capOf b.places n).getD 0)) = true := by
      have one : ∀ n m, n ∈ namesM i → n ≠ sOut → m ≤ capM i n → (capOf b.places n).isSome = true ∧ m ≤ (capOf b.places n).getD 0 := fun n m hn ho hm => by
        obtain ⟨c, hc, _, _, e, _⟩ := name_cap hi hn ho
        rw [hp, hc]
        exact ⟨rfl, by simp; omega⟩
      have fin : ∀ n ∈ rowNames r, (capOf b.places n).isSome = true ∧ rowN r ≤ (capOf b.places n).getD 0 := fun n hn => by
        cases r with
        | move x y m =>
          obtain ⟨k1, k2, _, _, k5, k6, _⟩ := z
          unfold rowNames at hn
          obtain ⟨hm, ho⟩ := List.mem_filter.mp hn
          simp at hm ho
          rcases hm with rfl | rfl
          · exact one _ _ k1 ho k5
          · exact one _ _ k2 ho k6
        | count x m =>
          obtain ⟨k1, k2, k3⟩ := z
          unfold rowNames at hn
          obtain ⟨hm, ho⟩ := List.mem_filter.mp hn
          simp at hm
          subst hm
          exact one _ _ k1 k2 k3
      exact ⟨List.all_eq_true.mpr fun n hn => (fin n hn).1, List.all_eq_true.mpr fun n hn => decide_eq_true (fin n hn).2⟩
    simp only [hall.1, hall.2, if_true]
  unfold K12.lets
  have hA : ¬ (b.places = [] ∨ ascS (plNames b) = false) := by
    unfold plNames
    rw [hp]
    rintro (z | z)
    · exact h5 z
    · rw [h2] at z
      cases z
  rw [if_neg hA, hwb, hrb]
  rfl
theorem sum_le {l : List Nat} {n : Nat} (h : ∀ x ∈ l, x ≤ n) : l.sum ≤ l.length * n := by
  induction l with
  | nil => simp
  | cons x r ih =>
    have h1 := h x (by simp)
    have h2 := ih fun y hy => h y (by simp [hy])
    simp only [List.sum_cons, List.length_cons, Nat.succ_mul]
    omega
theorem join_le (s : Str) {l : List Str} {n : Nat} (h : ∀ x ∈ l, x.length ≤ n) : (Str.join s l).length ≤ l.length * (n + s.length) := by
  cases l with
  | nil => simp [Str.join]; rfl
  | cons x r =>
    have h1 := join_len s (l := x :: r) (by simp)
    have h2 := sum_le (l := (x :: r).map (·.length)) (n := n) fun y hy => by
      obtain ⟨z, hz, rfl⟩ := List.mem_map.mp hy
      exact h z hz
    rw [List.length_map] at h2
    rw [Nat.mul_add]
    omega
theorem line_le {it : Item} (h : OkIt it) : (lineS (wIt it)).length ≤ 244 := by
  have hw : (wIt it).length ≤ 4 ∧ ∀ t ∈ wIt it, t.length ≤ 60 := by
    cases it with
    | place p => exact (pl_words h).2
    | way p => exact (wy_words h).2
    | slip s => exact sl_words h
    | row r => exact (rw_words h).2
  have := join_le sp hw.2
  have h1 : sp.length = 1 := rfl
  rw [h1] at this
  unfold lineS
  have : (wIt it).length * 61 ≤ 4 * 61 := Nat.mul_le_mul_right _ hw.1
  omega
theorem Sheet.text {b : Bk} {size : Nat} (h : Sheet b size) (hs : size ≤ 5) : (bkText b).length ≤ 3675 := by
  have hok := h.ok
  obtain ⟨i, hi, hp, hw, hr⟩ := h.ex
  obtain ⟨_, _, _, _, _, h6, _⟩ := menu_all hi
  have hl := length_bk b
  have h1 := h.few
  have h2 := h.rows
  have h3 : b.places.length ≤ 4 := by rw [hp]; exact h6
  have hb : ∀ x ∈ bkLines b, x.length ≤ 244 := fun x hx => by
    unfold bkLines at hx
    obtain ⟨it, hit, rfl⟩ := List.mem_map.mp hx
    exact line_le (oks_bk hok it hit)
  have := join_le nl hb
  have e1 : nl.length = 1 := rfl
  rw [e1] at this
  unfold bkText
  have : (bkLines b).length * 245 ≤ 15 * 245 := Nat.mul_le_mul_right _ (by omega)
  omega
end K12

/-! Displays that make data; the pairs and the order of the drawn ways. -/
namespace K12
open PySem PySem.Spec PyProof.Rows L2
def MkD (K : PySem.W.Frag) (t : TE) (d : PyData) : Prop := ∀ σ H (Q : VK), (∀ v H', Same H H' → Dp K H' v d → Q v H') → t σ H Q
def MkDs (K : PySem.W.Frag) (t : TA) (ds : List PyData) : Prop := ∀ σ H (Q : List V → Hp → Prop), (∀ vs H', Same H H' → DpAll K H' vs ds → Q vs H') → t σ H Q
section
variable {K : PySem.W.Frag}
theorem mk_str (x : Str) : MkD K (tC (.str x)) (.str x) := fun _ _ _ h => h _ _ (Same.refl _) (.str _)
theorem mk_int (i : Int) : MkD K (tC (.int i)) (.int i) := fun _ _ _ h => h _ _ (Same.refl _) (.int _)
theorem mk_non : MkD K (tC .non) .none := fun _ _ _ h => h _ _ (Same.refl _) .non
theorem mk_nil : MkDs K tNil [] := fun _ _ _ h => h _ _ (Same.refl _) .nil
theorem mk_cons {t : TE} {ts : TA} {d : PyData} {ds : List PyData} (h1 : MkD K t d) (h2 : MkDs K ts ds) : MkDs K (tCons t ts) (d :: ds) := fun σ H Q h =>
  h1 σ H _ fun v H1 e1 hv => h2 σ H1 _ fun vs H2 e2 hvs => h _ _ (e1.trans e2) (.cons (Dp.same e2 hv) hvs)
theorem mk_tup {t : TA} {ds : List PyData} (h1 : MkDs K t ds) (hl : ds.length ≤ sizeLine) : MkD K (tTup t) (.tuple ds) := fun σ H Q h =>
  h1 σ H _ fun vs H1 e1 hv => ⟨by rw [DpAll.length hv]; exact hl, fun p np => h _ _ (e1.trans (Same.new np)) (.tup (.inl (.inl upd_same)) (DpAll.same (Same.new np) hv))⟩
theorem mk_pl (a : Str) (i j : Nat) : MkD K (tTup (tCons (tC (.str a)) (tCons (tC (.int i)) (tCons (tC (.int j)) tNil)))) (dPl (a, i, j)) := mk_tup (mk_cons (mk_str _) (mk_cons (mk_int _) (mk_cons (mk_int _) mk_nil))) (Nat.le_of_ble_eq_true rfl)
end
theorem DpAll.erase {K : PySem.W.Frag} {H : Hp} : ∀ {vs : List V} {ds : List PyData} (j : Nat), DpAll K H vs ds → DpAll K H (vs.eraseIdx j) (ds.eraseIdx j)
  | _, _, _, .nil => .nil
  | _, _, 0, .cons _ hs => hs
  | _, _, j + 1, .cons h hs => .cons h (DpAll.erase j hs)
theorem caps_paired {K : PySem.W.Frag} {H : Hp} : ∀ {l : List Pl} {vs : List V}, DpAll K H vs (l.map fun p => .tuple [.str p.1, .int ((p.2.2 : Nat) : Int)]) → ∃ as : List Addr, vs = as.map V.ref ∧ Paired (fun a (kv : Key × V) => SqT K H a [kV kv.1, kv.2]) as (capKvs l)
  | [], _, h => by
    cases h
    exact ⟨[], rfl, .nil⟩
  | p :: l, _, h => by
    cases h with
    | cons h hs =>
      obtain ⟨as, rfl, z⟩ := caps_paired hs
      obtain ⟨a, xs, rfl, ht, hx⟩ := h.tupI
      obtain ⟨x, y, rfl, h1, h2⟩ := hx.two
      cases h1
      cases h2
      exact ⟨a :: as, rfl, .cons ht z⟩
theorem merge_cap {i : Nat} (hi : i < 4) : mergeK [] (capKvs (menu i)) = capKvs (menu i) := mCase (P := fun i => mergeK [] (capKvs (menu i)) = capKvs (menu i)) rfl rfl rfl rfl hi
abbrev Pr := Str × Str
def dPr (p : Pr) : PyData := .tuple [.str p.1, .str p.2]
def others (i : Nat) (n : Str) : List Pr := ((namesM i).filter fun l => decide (l ≠ n)).map fun l => (n, l)
def pairsTo (i j : Nat) : List Pr := ((namesM i).take j).flatMap (others i)
def pairsM (i : Nat) : List Pr := (namesM i).flatMap (others i)
theorem pairs_end (i : Nat) : pairsTo i (namesM i).length = pairsM i := by
  unfold pairsTo pairsM
  rw [List.take_length]
theorem pairs_step {i j : Nat} (h : j < (namesM i).length) : pairsTo i (j + 1) = pairsTo i j ++ others i (namesM i)[j] := by
  unfold pairsTo
  rw [List.take_succ_eq_append_getElem h, List.flatMap_append]
  simp
def PrG (i : Nat) (p : Pr) : Prop := p.1 ∈ namesM i ∧ p.2 ∈ namesM i ∧ p.1 ≠ p.2
theorem others_good {i : Nat} {n : Str} (hn : n ∈ namesM i) : ∀ p ∈ others i n, PrG i p ∧ p.1 = n := fun p hp => by
  unfold others at hp
  obtain ⟨l, hl, rfl⟩ := List.mem_map.mp hp
  obtain ⟨h1, h2⟩ := List.mem_filter.mp hl
  exact ⟨⟨hn, h1, fun e => (of_decide_eq_true h2) e.symm⟩, rfl⟩
theorem pairs_good {i : Nat} : ∀ p ∈ pairsM i, PrG i p := fun p hp => by
  unfold pairsM at hp
  obtain ⟨n, hn, h⟩ := List.mem_flatMap.mp hp
  exact (others_good hn p h).1
theorem pairs_nodup {i : Nat} (hi : i < 4) : (pairsM i).Nodup ∧ (pairsM i).length ≤ 20 := mCase (P := fun i => (pairsM i).Nodup ∧ (pairsM i).length ≤ 20) (by decide +kernel) (by decide +kernel) (by decide +kernel) (by decide +kernel) hi
theorem pairsTo_len {i j : Nat} (hi : i < 4) : (pairsTo i j).length ≤ 20 := by
  have h := (pairs_nodup hi).2
  have e : pairsM i = pairsTo i j ++ ((namesM i).drop j).flatMap (others i) := by
    unfold pairsM pairsTo
    rw [← List.flatMap_append, List.take_append_drop]
  rw [e, List.length_append] at h
  omega
theorem names_len {i : Nat} (hi : i < 4) : 2 ≤ (namesM i).length ∧ (namesM i).length ≤ 5 := mCase (P := fun i => 2 ≤ (namesM i).length ∧ (namesM i).length ≤ 5) (by decide +kernel) (by decide +kernel) (by decide +kernel) (by decide +kernel) hi
def prW (w : Wy) : Pr := (w.1, w.2.1)
theorem tri {x y : Str} (h1 : ¬ x.cps.toList < y.cps.toList) (h2 : ¬ y.cps.toList < x.cps.toList) : x = y := by
  have e : x.cps.toList = y.cps.toList := List.le_antisymm (List.not_lt.mp h2) (List.not_lt.mp h1)
  obtain ⟨⟨a⟩⟩ := x
  obtain ⟨⟨b⟩⟩ := y
  exact congrArg (fun l => (⟨⟨l⟩⟩ : Str)) e
theorem way_tri {p q : Wy} (h : ¬ wayLt q p = true) (hn : prW p ≠ prW q) : wayLt p q = true := by
  rw [wayLt_iff] at h ⊢
  by_cases h1 : p.1.cps.toList < q.1.cps.toList
  · exact .inl h1
  · have h2 : ¬ q.1.cps.toList < p.1.cps.toList := fun z => h (.inl z)
    have e := tri h1 h2
    refine .inr ⟨e, ?_⟩
    by_cases h3 : p.2.1.cps.toList < q.2.1.cps.toList
    · exact h3
    · have h4 : ¬ q.2.1.cps.toList < p.2.1.cps.toList := fun z => h (.inr ⟨e.symm, z⟩)
      exact absurd (by unfold prW; rw [e, tri h3 h4]) hn
theorem sorted_up {ws : List Wy} (h : (ws.map prW).Nodup) : (ws.mergeSort (PySem.W.dataLe false dWy)).Pairwise fun p q => wayLt p q = true := by
  have hp := List.mergeSort_perm ws (PySem.W.dataLe false dWy)
  have h2 : ((ws.mergeSort (PySem.W.dataLe false dWy)).map prW).Nodup := (hp.map prW).nodup_iff.mpr h
  have h3 := List.pairwise_map.mp h2
  have h4 := PySem.W.sort_pairwise (PySem.W.sortLe_total _ _ _) ws (le := PySem.W.dataLe false dWy)
  refine (h3.and h4).imp fun {p q} hpq => ?_
  have z : (!PySem.W.dataLt (dWy q) (dWy p)) = true := hpq.2
  refine way_tri (fun w => ?_) hpq.1
  rw [way_lt w] at z
  cases z
end K12

/-! _law_book: the sheet that is drawn. -/
namespace K12
open PySem PySem.Spec PyProof.Rows L2
def spBook (K : PySem.W.Frag) : Sp := fun vs H Q _ => ∃ (f l : Addr) (size : Nat), vs = [.ref f, .int (size : Nat)] ∧ size ≤ 5 ∧ FeedL H f l ∧ ∀ b v H', Sheet b size → But f H H' → FeedL H' f l → Dp K H' v (dBk b) → Q v H'
theorem seqIdx {d n : Nat} (h : d < n) : seqIndex? (d : Int) n = some d := by
  unfold seqIndex?
  have h0 : ¬ ((d : Int) < 0) := by omega
  simp only [if_neg h0]
  rw [if_pos (by simp; omega)]
  simp
theorem erase_not {α : Type} {l : List α} (h : l.Nodup) {d : Nat} (hd : d < l.length) : l[d] ∉ l.eraseIdx d := by
  have e : l = l.take d ++ (l[d] :: l.drop (d + 1)) := by rw [List.getElem_cons_drop, List.take_append_drop]
  have h2 : (l.take d ++ (l[d] :: l.drop (d + 1))).Nodup := by
    rw [← e]
    exact h
  rw [List.eraseIdx_eq_take_drop_succ]
  intro z
  have h3 := List.nodup_append.mp h2
  rcases List.mem_append.mp z with z | z
  · exact h3.2.2 _ z l[d] (List.mem_cons_self ..) rfl
  · exact (List.nodup_cons.mp h3.2.1).1 z
theorem capV {i : Nat} {n : Str} : (valV (capKvs (menu i)) (Sum.inr n)).getD (.int 5) = .int ((capM i n : Nat) : Int) := by
  rw [cap_val]
  unfold capM
  cases capOf (menu i) n <;> rfl
theorem min3_is {a b : Nat} (ha : 1 ≤ a) (hb : 1 ≤ b) : ∃ m : Nat, nuMin3 (.int a) (.int b) (.int 5) = some (.int m) ∧ 1 ≤ m ∧ m ≤ a ∧ m ≤ b ∧ m ≤ 5 := by
  by_cases h1 : (b : Int) < a
  · by_cases h2 : (5 : Int) < b
    · refine ⟨5, ?_, by omega, by omega, by omega, by omega⟩
      show ((some (decide ((b : Int) < a))).map fun c => if c = true then V.int b else V.int a).bind _ = _
      rw [decide_eq_true h1]
      show ((some (decide ((5 : Int) < b))).map fun c => if c = true then V.int 5 else V.int b) = _
      rw [decide_eq_true h2]
      rfl
    · refine ⟨b, ?_, by omega, by omega, by omega, by omega⟩
      show ((some (decide ((b : Int) < a))).map fun c => if c = true then V.int b else V.int a).bind _ = _
      rw [decide_eq_true h1]
      show ((some (decide ((5 : Int) < b))).map fun c => if c = true then V.int 5 else V.int b) = _
      rw [decide_eq_false h2]
      rfl
  · by_cases h2 : (5 : Int) < a
    · refine ⟨5, ?_, by omega, by omega, by omega, by omega⟩
      show ((some (decide ((b : Int) < a))).map fun c => if c = true then V.int b else V.int a).bind _ = _
      rw [decide_eq_false h1]
      show ((some (decide ((5 : Int) < a))).map fun c => if c = true then V.int 5 else V.int a) = _
      rw [decide_eq_true h2]
      rfl
    · refine ⟨a, ?_, by omega, by omega, by omega, by omega⟩
      show ((some (decide ((b : Int) < a))).map fun c => if c = true then V.int b else V.int a).bind _ = _
      rw [decide_eq_false h1]
      show ((some (decide ((5 : Int) < a))).map fun c => if c = true then V.int 5 else V.int a) = _
      rw [decide_eq_false h2]
      rfl
theorem step_ne {L a b : Nat} (ha : a < L) (hb : b < L - 1) : (a + 1 + b) % L < L ∧ (a + 1 + b) % L ≠ a := by
  by_cases h : a + 1 + b < L
  · rw [Nat.mod_eq_of_lt h]
    omega
  · have e : (a + 1 + b) % L = a + 1 + b - L := by
      rw [Nat.mod_eq_sub_mod (by omega), Nat.mod_eq_of_lt (by omega)]
    rw [e]
    omega
def slips : List (Option Nat) := [none, some 4, some 1, some 9]
def menusD : List PyData := [.tuple ((menu 0).map dPl), .tuple ((menu 1).map dPl), .tuple ((menu 2).map dPl), .tuple ((menu 3).map dPl)]
theorem menus_nl : noLsts menusD = true := rfl
theorem menusD_at {i : Nat} (hi : i < 4) : menusD[i]? = some (.tuple ((menu i).map dPl)) := mCase (P := fun i => menusD[i]? = some (.tuple ((menu i).map dPl))) rfl rfl rfl rfl hi
theorem asg_lst {K : PySem.W.Frag} {i : Nat} {t : TA} {ds : List PyData} {rest : TS} {D : Ends} {σ : L2.St} {H : Hp} (m : MkDs K t ds) (hl : ds.length ≤ sizeLine) (h : ∀ xs H1, Same H H1 → DpAll K H1 xs ds → ∀ p, H1 p = none → rest D (σ.set i (some (.ref p))) (upd H1 p (.lst xs))) : tSeq (tAsg (tLst t) (gName i)) rest D σ H :=
  m σ H _ fun xs H1 e1 hx => ⟨by rw [DpAll.length hx]; exact hl, fun p np => h xs H1 e1 hx p np⟩
theorem mk_menus3 {K : PySem.W.Frag} : MkDs K (tCons (tTup (tCons (tTup (tCons (tC (.str "shelf")) (tCons (tC (.int 3)) (tCons (tC (.int 9)) tNil)))) (tCons (tTup (tCons (tC (.str "store")) (tCons (tC (.int 8)) (tCons (tC (.int 20)) tNil)))) tNil))) (tCons (tTup (tCons (tTup (tCons (tC (.str "a")) (tCons (tC (.int 0)) (tCons (tC (.int 4)) tNil)))) tNil))
    (tCons (tTup (tCons (tTup (tCons (tC (.str "b")) (tCons (tC (.int 1)) (tCons (tC (.int 5)) tNil)))) (tCons (tTup (tCons (tC (.str "count")) (tCons (tC (.int 2)) (tCons (tC (.int 2)) tNil)))) (tCons (tTup (tCons (tC (.str "move")) (tCons (tC (.int 0)) (tCons (tC (.int 7)) tNil)))) tNil)))) tNil))) [.tuple [dPl ("shelf", 3, 9), dPl ("store", 8, 20)], .tuple [dPl ("a", 0, 4)], .tuple [dPl ("b", 1, 5), dPl ("count", 2, 2), dPl ("move", 0, 7)]] :=
  mk_cons (mk_tup (mk_cons (mk_pl "shelf" 3 9) (mk_cons (mk_pl "store" 8 20) mk_nil)) (Nat.le_of_ble_eq_true rfl)) (mk_cons (mk_tup (mk_cons (mk_pl "a" 0 4) mk_nil) (Nat.le_of_ble_eq_true rfl)) (mk_cons (mk_tup (mk_cons (mk_pl "b" 1 5) (mk_cons (mk_pl "count" 2 2) (mk_cons (mk_pl "move" 0 7) mk_nil))) (Nat.le_of_ble_eq_true rfl)) mk_nil))
theorem mk_menu4 {K : PySem.W.Frag} : MkDs K (tCons (tTup (tCons (tTup (tCons (tC (.str "p")) (tCons (tC (.int 0)) (tCons (tC (.int 1)) tNil)))) (tCons (tTup (tCons (tC (.str "q")) (tCons (tC (.int 5)) (tCons (tC (.int 5)) tNil)))) (tCons (tTup (tCons (tC (.str "r")) (tCons (tC (.int 2)) (tCons (tC (.int 6)) tNil)))) (tCons (tTup (tCons (tC (.str "zzzzzzzz")) (tCons (tC (.int 19)) (tCons (tC (.int 20)) tNil)))) tNil))))) tNil) [.tuple [dPl ("p", 0, 1), dPl ("q", 5, 5), dPl ("r", 2, 6), dPl ("zzzzzzzz", 19, 20)]] :=
  mk_cons (mk_tup (mk_cons (mk_pl "p" 0 1) (mk_cons (mk_pl "q" 5 5) (mk_cons (mk_pl "r" 2 6) (mk_cons (mk_pl "zzzzzzzz" 19 20) mk_nil)))) (Nat.le_of_ble_eq_true rfl)) mk_nil
/-- l.append(e), e made of data -/
theorem app_mk {K : PySem.W.Frag} {i : Nat} {t : TA} {d : PyData} {rest : TS} {D : Ends} {σ : L2.St} {H : Hp} {p : Addr} {xs : List V} (m : MkDs K t [d]) (hσ : σ[i]? = some (some (.ref p))) (hp : H p = some (.lst xs)) (hl : xs.length < sizeLine) (h : ∀ y H1, Same H H1 → Dp K H1 y d → rest D σ (upd H1 p (.lst (xs ++ [y])))) : tSeq (tDrop (tBM K "list" rAppend (tVar i) t)) rest D σ H :=
  ⟨_, hσ, .inl ⟨rfl, _, .inl (.inl hp)⟩, m σ H _ fun ys H1 e1 hys => by
    obtain ⟨y, rfl, hy⟩ := hys.one
    exact ⟨p, xs, y, rfl, rfl, e1 _ _ hp, hl, h y H1 e1 hy⟩⟩
section
variable {P : Program} {w : World} {K : PySem.W.Frag} {mg : Str → Option Value} {base : Heap}
theorem sc_law_book : FnScope ["_law_feed_here", "_law_size", "_law_menus", "_law_spots", "_law_caps", "_law_names", "_law_pool", "_law_found", "_law_k", "_law_rows_in", "_law_name", "_law_late", "_law_most", "_law_own"] ["_law_feed_here", "_law_size"] (defScope s_law_book) := ⟨rfl, rfl, rfl, by decide +kernel, rfl, by decide +kernel, by decide +kernel⟩
theorem ok_law_book (T : TX K mg) : Cal P w K mg base 2 "_law_book" ["_law_feed_here", "_law_size"] (spBook K) := by
  refine T.def_ i_law_book (d := d_law_book) rfl rfl sc_law_book (fun _ _ _ _ _ _ us hl => match us, hl with | [_, _], _ => rfl) (by rintro vs H Q E ⟨f, l, b, rfl, _⟩; rfl) (fun f cdv A outer s H vs Q E hr h => ?_)
  obtain ⟨f, l, size, rfl, hsz, hf, q⟩ := h
  have nd := sc_law_book.nd
  refine ⟨_, (pss_cons (ps_set (i := 2) nd rfl (.inl rfl) (pe_lst (pa_cons (pe_tup (pa_cons (pe_tup (pa_cons pe_str (pa_cons pe_int (pa_cons pe_int pa_nil)))) (pa_cons (pe_tup (pa_cons pe_str (pa_cons pe_int (pa_cons pe_int pa_nil)))) pa_nil))) (pa_cons (pe_tup (pa_cons (pe_tup (pa_cons pe_str (pa_cons pe_int (pa_cons pe_int pa_nil)))) pa_nil)) (pa_cons (pe_tup (pa_cons (pe_tup (pa_cons pe_str (pa_cons pe_int (pa_cons pe_int pa_nil)))) (pa_cons (pe_tup (pa_cons pe_str (pa_cons pe_int (pa_cons pe_int pa_nil)))) (pa_cons (pe_tup (pa_cons pe_str (pa_cons pe_int (pa_cons pe_int pa_nil)))) pa_nil)))) pa_nil)))))
    (pss_cons (ps_expr (pe_bm PySem.F.plainAttrs_list PySem.F.slot_list_append PySem.F.type_list_append mt_append (pv 2) (pa_cons (pe_tup (pa_cons (pe_tup (pa_cons pe_str (pa_cons pe_int (pa_cons pe_int pa_nil)))) (pa_cons (pe_tup (pa_cons pe_str (pa_cons pe_int (pa_cons pe_int pa_nil)))) (pa_cons (pe_tup (pa_cons pe_str (pa_cons pe_int (pa_cons pe_int pa_nil)))) (pa_cons (pe_tup (pa_cons pe_str (pa_cons pe_int (pa_cons pe_int pa_nil)))) pa_nil))))) pa_nil)))
    (pss_cons (ps_set (i := 3) nd rfl (.inl rfl) (pe_ix ix_list (pv 2) (pc (ok_law_draw T) hr passB (pa_cons (pv 0) (pa_cons pe_int pa_nil))) (fun _ _ => rfl)))
    (pss_cons (ps_set (i := 4) nd rfl (.inl rfl) (pe_callTy (call_dictP rfl) rfl T.free boot_dict (pa_cons (pe_lc (own := [("_law_own", 13)]) (g := gName 13) (tt := tYes) rfl nd (pi_tup (pv 3)) (blkOk_by (N := ["_law_feed_here", "_law_size", "_law_menus", "_law_spots", "_law_caps", "_law_names", "_law_pool", "_law_found", "_law_k", "_law_rows_in", "_law_name", "_law_late", "_law_most", "_law_own"]) (sc := defScope s_law_book) (by decide +kernel)) (fun _ _ _ _ _ => pg_name (i := 13) nd rfl (Or.inl rfl)) (fun _ _ _ _ _ => pts_nil) (fun _ _ _ _ _ => (pe_tup (pa_cons (pe_ix (ixT K) (pv 13) pe_int (fun _ _ => rfl)) (pa_cons (pe_ix (ixT K) (pv 13) pe_int (fun _ _ => rfl)) pa_nil))))) pa_nil)))
    (pss_cons (ps_par (i := 5) (j := 6) rfl nd rfl rfl (by decide) rfl rfl (pa_cons (pe_op op_cat (pe_lc (own := [("_law_own", 13)]) (g := gName 13) (tt := tYes) rfl nd (pi_tup (pv 3)) (blkOk_by (N := ["_law_feed_here", "_law_size", "_law_menus", "_law_spots", "_law_caps", "_law_names", "_law_pool", "_law_found", "_law_k", "_law_rows_in", "_law_name", "_law_late", "_law_most", "_law_own"]) (sc := defScope s_law_book) (by decide +kernel)) (fun _ _ _ _ _ => pg_name (i := 13) nd rfl (Or.inl rfl)) (fun _ _ _ _ _ => pts_nil) (fun _ _ _ _ _ => (pe_ix (ixT K) (pv 13) pe_int (fun _ _ => rfl)))) (pe_lst (pa_cons pe_str pa_nil))) (pa_cons (pe_lst pa_nil) pa_nil)) rfl)
    (pss_cons (ps_for (passes_of rfl) rfl (pi_list (pv 5)) (pg_name (i := 10) nd rfl (.inr rfl))
      (pss_one (ps_expr (pe_bm PySem.F.plainAttrs_list PySem.F.slot_list_extend PySem.F.type_list_extend mt_extend (pv 6) (pa_cons (pe_lc (own := [("_law_late", 11)]) (g := gName 11) (tt := tTest (tOp rNe (tVar 11) (tVar 10))) rfl nd (pi_list (pv 5)) (blkOk_by (N := ["_law_feed_here", "_law_size", "_law_menus", "_law_spots", "_law_caps", "_law_names", "_law_pool", "_law_found", "_law_k", "_law_rows_in", "_law_name", "_law_late", "_law_most", "_law_own"]) (sc := defScope s_law_book) (by decide +kernel)) (fun _ _ _ _ _ => pg_name (i := 11) nd rfl (Or.inl rfl)) (fun _ _ _ _ _ => pts_one (pt_cmpR op_ne (pv 11) (pv 10) (nomark _))) (fun _ _ _ _ _ => (pe_tup (pa_cons (pv 10) (pa_cons (pv 11) pa_nil))))) pa_nil)))))
    (pss_cons (ps_set (i := 7) nd rfl (.inl rfl) (pe_lst pa_nil))
    (pss_cons (ps_for (passes_of rfl) rfl (pi_range1 rfl T.free (pa_cons (pe_callB (call_min2 rfl) rfl T.free boot_min (pa_cons (pe_callB call_len_seq rfl T.free boot_len (pa_cons (pv 6) pa_nil)) (pa_cons (pc (ok_law_draw T) hr passB (pa_cons (pv 0) (pa_cons pe_int pa_nil))) pa_nil))) pa_nil)) (pg_name (i := 8) nd rfl (.inl rfl))
      (pss_one (ps_expr (pe_bm PySem.F.plainAttrs_list PySem.F.slot_list_append PySem.F.type_list_append mt_append (pv 7) (pa_cons (pe_op op_catT (pe_bm PySem.F.plainAttrs_list PySem.F.slot_list_pop PySem.F.type_list_pop mt_popAt (pv 6) (pa_cons (pc (ok_law_draw T) hr passB (pa_cons (pv 0) (pa_cons (pe_callB call_len_seq rfl T.free boot_len (pa_cons (pv 6) pa_nil)) pa_nil))) pa_nil)) (pe_tup (pa_cons (pe_op op_add pe_int (pc (ok_law_draw T) hr passB (pa_cons (pv 0) (pa_cons pe_int pa_nil)))) pa_nil))) pa_nil)))))
    (pss_cons (ps_set (i := 9) nd rfl (.inl rfl) (pe_lst pa_nil))
    (pss_cons (ps_for (passes_of rfl) rfl (pi_range1 rfl T.free (pa_cons (pv 1) pa_nil)) (pg_name (i := 8) nd rfl (.inl rfl))
      (pss_cons (ps_set (i := 10) nd rfl (.inr rfl) (pe_ix ix_list (pv 5) (pc (ok_law_draw T) hr passB (pa_cons (pv 0) (pa_cons (pe_callB call_len_seq rfl T.free boot_len (pa_cons (pv 5) pa_nil)) pa_nil))) (fun _ _ => rfl)))
    (pss_cons (ps_set (i := 11) nd rfl (.inl rfl) (pe_ix ix_list (pv 5) (pe_op op_mod (pe_callTy call_int1 rfl T.free boot_int (pa_cons (pe_op op_add (pe_op op_add (pe_bm PySem.F.plainAttrs_list PySem.F.slot_list_index PySem.F.type_list_index mt_index (pv 5) (pa_cons (pv 10) pa_nil)) pe_int) (pc (ok_law_draw T) hr passB (pa_cons (pv 0) (pa_cons (pe_op op_sub (pe_callB call_len_seq rfl T.free boot_len (pa_cons (pv 5) pa_nil)) pe_int) pa_nil)))) pa_nil)) (pe_callB call_len_seq rfl T.free boot_len (pa_cons (pv 5) pa_nil))) (fun _ _ => rfl)))
    (pss_cons (ps_set (i := 12) nd rfl (.inl rfl) (pe_callB (call_min3Nu rfl) rfl T.free boot_min (pa_cons (pe_dget2 (hu_of hr) (pv 4) (pv 10) pe_int ⟨rfl, rfl, rfl, rfl⟩) (pa_cons (pe_dget2 (hu_of hr) (pv 4) (pv 11) pe_int ⟨rfl, rfl, rfl, rfl⟩) (pa_cons pe_int pa_nil)))))
    (pss_one (ps_if (PW.pt (pw_or (pt_cmpR op_gt (pc (ok_law_draw T) hr passB (pa_cons (pv 0) (pa_cons pe_int pa_nil))) pe_int (nomark _)) (pw_or1 (pt_cmpR op_eq (pv 10) (pS sOut_is) (nomark _))))) (pss_one (ps_expr (pe_bm PySem.F.plainAttrs_list PySem.F.slot_list_append PySem.F.type_list_append mt_append (pv 9) (pa_cons (pe_tup (pa_cons (pS sMove_is) (pa_cons (pv 10) (pa_cons (pv 11) (pa_cons (pe_op op_add pe_int (pc (ok_law_draw T) hr passB (pa_cons (pv 0) (pa_cons (pv 12) pa_nil)))) pa_nil))))) pa_nil)))) (pss_one (ps_expr (pe_bm PySem.F.plainAttrs_list PySem.F.slot_list_append PySem.F.type_list_append mt_append (pv 9) (pa_cons (pe_tup (pa_cons (pS sCount_is) (pa_cons (pv 10) (pa_cons (pc (ok_law_draw T) hr passB (pa_cons (pv 0) (pa_cons (pe_op op_add (pe_dget (hu_of hr) (pv 4) (pv 10) (fun _ _ => rfl)) pe_int) pa_nil))) pa_nil)))) pa_nil))))))))))
    (pss_one (ps_ret (pe_tup (pa_cons (pv 3) (pa_cons (pe_callTy call_tuple_of rfl T.free boot_tuple (pa_cons (pe_callB (cr_sortD dWy hr.units) rfl T.free boot_sorted (pa_cons (pv 7) pa_nil)) pa_nil)) (pa_cons (pe_ix ix_list (pe_lst (pa_cons pe_non (pa_cons pe_int (pa_cons pe_int (pa_cons pe_int pa_nil))))) (pc (ok_law_draw T) hr passB (pa_cons (pv 0) (pa_cons pe_int pa_nil))) (fun _ _ => rfl)) (pa_cons (pe_callTy call_tuple_of rfl T.free boot_tuple (pa_cons (pv 9) pa_nil)) pa_nil))))))))))))))))), ?_⟩
  have le2 : ∀ n : Nat, n < 100 → n ≤ sizeLine := fun n h => by unfold sizeLine; omega
  refine asg_lst (K := K) mk_menus3 (Nat.le_of_ble_eq_true rfl) fun xs H1 e1 hxs p np => ?_
  refine app_mk mk_menu4 rfl upd_same (by rw [DpAll.length hxs]; exact Nat.le_of_ble_eq_true rfl) fun y H2 e2 hy => ?_
  have hp2 : H2 p = some (.lst xs) := e2 _ _ upd_same
  have s2 : Same H1 H2 := (Same.new np).trans e2
  have hall : DpAll K (upd H2 p (.lst (xs ++ [y]))) (xs ++ [y]) menusD := DpAll.updL hp2 menus_nl (DpAll.app (DpAll.same s2 hxs) (.cons hy .nil))
  have b3 : But f H (upd H2 p (.lst (xs ++ [y]))) := fun b o hb h => by
    have h2 : H2 b = some o := s2 _ _ (e1 _ _ h)
    rw [upd_ne (ne_of_none (e1 _ _ h) np)]
    exact h2
  have hf3 : FeedL (upd H2 p (.lst (xs ++ [y]))) f l := hf.keep (fun o h => by rw [upd_ne (ne_of_none (e1 _ _ h) np)]; exact s2 _ _ (e1 _ _ h)) fun o h => by rw [upd_ne (ne_of_none (e1 _ _ h) np)]; exact s2 _ _ (e1 _ _ h)
  have hpm : (upd H2 p (.lst (xs ++ [y]))) p = some (.lst (xs ++ [y])) := upd_same
  generalize upd H2 p (.lst (xs ++ [y])) = H3 at hall b3 hf3 hpm ⊢
  generalize xs ++ [y] = ms at hall hpm
  clear hxs hy hp2 s2 e2 e1 np
  refine ⟨_, rfl, _, rfl, f, l, 4, rfl, hf3, by decide, by decide, fun i H4 hi b4 hf4 => ?_⟩
  have hi4 : i < 4 := by omega
  obtain ⟨kv3, g3⟩ := hf3.dict
  have hall4 : DpAll K H4 ms menusD := DpAll.seqs (fun b xs r => b4.rd g3 r (fun _ z => by cases z)) (fun b xs r => b4.rd g3 r (fun _ z => by cases z)) hall
  have hpf : p ≠ f := ne_of hpm g3 (by intro z; cases z)
  have hpm4 : H4 p = some (.lst ms) := b4 _ _ hpf hpm
  obtain ⟨v, hv1, hv⟩ := DpAll.get hall4 (menusD_at hi4)
  refine ⟨p, _, _, v, rfl, rfl, .inl (.inl hpm4), atI_nat hv1, ?_⟩
  have b5 : But f H H4 := b3.trans b4
  clear hall hall4 hpm hpm4 hv1 g3
  obtain ⟨sp, ss, rfl, hsp, hss⟩ := hv.tupI
  have hlen : ss.length = (menu i).length := by rw [DpAll.length hss, List.length_map]
  have hm4 : (menu i).length ≤ 4 := (menu_all hi4).2.2.2.2.2.1
  refine ⟨_, rfl, sp, rfl, ⟨_, hsp⟩, fun D1 hD1 => ?_⟩
  refine lc_map (K := K) walk_tup ((menu i).map fun p => .tuple [.str p.1, .int ((p.2.2 : Nat) : Int)]) (by simp [hlen]) (noLsts_map _ (fun _ => rfl) _) (by unfold sizeLine; omega) hD1 (fun H5 e => Same.tup e hsp) (fun j H5 x H6 Nx hj e y k1 => ?_) (fun H5 acc e5 h3 h4 => ?_)
  · obtain ⟨rfl, hx⟩ := y
    have hjl : j < (menu i).length := by omega
    obtain ⟨d, hd, hdp⟩ := DpAll.getV hss hx
    rw [List.getElem?_map, List.getElem?_eq_getElem hjl] at hd
    cases hd
    obtain ⟨tt, rfl, htt⟩ := (Dp.same e hdp).plI
    refine ⟨rfl, _, rfl, tt, _, 0, _, rfl, rfl, htt, atI_nat (j := 0) rfl, _, rfl, tt, _, 2, _, rfl, rfl, htt, atI_nat (j := 2) rfl, Nat.le_of_ble_eq_true rfl, fun c nc => k1 _ _ (.tuple [.str (menu i)[j].1, .int (((menu i)[j].2.2 : Nat) : Int)]) ?_ (Same.new nc) (.tup (.inl (.inl upd_same)) (.cons (.str _) (.cons (.int _) .nil)))⟩
    simp [hjl]
  obtain ⟨as, rfl, hpr⟩ := caps_paired h4
  refine ⟨D1, as, capKvs (menu i), rfl, .inl (.inl h3), hpr, fun c nc => ?_⟩
  rw [merge_cap hi4]
  have e6 : Same H4 (upd H5 c (.dK (capKvs (menu i)))) := e5.trans (Same.new nc)
  have hc : (upd H5 c (.dK (capKvs (menu i)))) c = some (.dK (capKvs (menu i))) := upd_same
  obtain ⟨kv4, g4⟩ := hf4.dict
  have hfc : f ≠ c := ne_of_none (e5 _ _ g4) nc
  generalize upd H5 c (.dK (capKvs (menu i))) = H6 at e6 hc ⊢
  clear h3 h4 hpr e5 nc
  refine ⟨_, rfl, sp, rfl, ⟨_, Same.tup e6 hsp⟩, fun D2 hD2 => ?_⟩
  refine lc_map (K := K) walk_tup ((menu i).map fun p => .str p.1) (by simp [hlen]) (noLsts_map _ (fun _ => rfl) _) (by unfold sizeLine; omega) hD2 (fun H7 e => Same.tup (e6.trans e) hsp) (fun j H7 x H8 Nx hj e y k1 => ?_) (fun H7 acc e7 h5 h6 => ?_)
  · obtain ⟨rfl, hx⟩ := y
    have hjl : j < (menu i).length := by omega
    obtain ⟨d, hd, hdp⟩ := DpAll.getV hss hx
    rw [List.getElem?_map, List.getElem?_eq_getElem hjl] at hd
    cases hd
    obtain ⟨tt, rfl, htt⟩ := (Dp.same (e6.trans e) hdp).plI
    refine ⟨rfl, _, rfl, tt, _, 0, _, rfl, rfl, htt, atI_nat (j := 0) rfl, k1 _ _ (.str (menu i)[j].1) ?_ (Same.refl _) (.str _)⟩
    simp [hjl]
  have hacc : acc = ((menu i).map (·.1)).map V.str := DpAll.strs (K := K) (H := H7) (by rw [List.map_map]; exact h6)
  have hnm : acc ++ [V.str "out"] = (namesM i).map V.str := by
    unfold namesM
    rw [hacc, sOut_is]
    simp
  have hal : acc.length ≤ 4 := by rw [hacc]; simpa using hm4
  refine ⟨Nat.le_of_ble_eq_true rfl, fun ob nob => ⟨D2, ob, acc, _, rfl, rfl, Same.new nob _ _ h5, upd_same, by unfold sizeLine; simp; omega, fun nl nnl => ⟨Nat.zero_le _, fun pl npl => ⟨_, _, rfl, ?_⟩⟩⟩⟩
  rw [hnm] at npl ⊢
  have e8a : Same H4 (upd (upd H7 ob (.lst [V.str "out"])) nl (.lst ((namesM i).map V.str))) := (e6.trans e7).trans ((Same.new nob).trans (Same.new nnl))
  have e8 : Same H4 (upd (upd (upd H7 ob (.lst [V.str "out"])) nl (.lst ((namesM i).map V.str))) pl (.lst [])) := e8a.trans (Same.new npl)
  have hnl : (upd (upd (upd H7 ob (.lst [V.str "out"])) nl (.lst ((namesM i).map V.str))) pl (.lst [])) nl = some (.lst ((namesM i).map V.str)) := Same.new npl _ _ upd_same
  have hpl : (upd (upd (upd H7 ob (.lst [V.str "out"])) nl (.lst ((namesM i).map V.str))) pl (.lst [])) pl = some (.lst []) := upd_same
  have hnp : nl ≠ pl := ne_of_none upd_same npl
  have hcc : (upd (upd (upd H7 ob (.lst [V.str "out"])) nl (.lst ((namesM i).map V.str))) pl (.lst [])) c = some (.dK (capKvs (menu i))) := Same.new npl _ _ (Same.new nnl _ _ (Same.new nob _ _ (e7 _ _ hc)))
  have hpl4 : H4 pl = none := by
    cases hq : H4 pl with
    | none => rfl
    | some o => exact absurd rfl (ne_of_none (e8a _ _ hq) npl)
  generalize upd (upd (upd H7 ob (.lst [V.str "out"])) nl (.lst ((namesM i).map V.str))) pl (.lst []) = H8 at e8 hnl hpl hcc ⊢
  clear hc e6 e7 h5 h6 hacc hnm hal e8a nob nnl npl hD1 hD2
  obtain ⟨hn2, hn5⟩ := names_len hi4
  refine ⟨_, rfl, nl, rfl, ⟨_, .inl (.inl hnl)⟩, ?_⟩
  refine for_it (walk_list (K := K) (a := nl) (xs := (namesM i).map V.str)) (fun j σ G => ∃ o10 vs, σ = [some (.ref f), some (.int (size : Nat)), some (.ref p), some (.ref sp), some (.ref c), some (.ref nl), some (.ref pl), none, none, none, o10, none, none, none] ∧ But pl H8 G ∧ G pl = some (.lst vs) ∧ DpAll K G vs ((pairsTo i j).map dPr)) ?_ (fun j σ G hj h => ?_) ?_ ?_
  · exact ⟨none, [], rfl, But.refl _ _, hpl, .nil⟩
  · obtain ⟨_, _, _, h, _⟩ := h
    exact .inl (.inl (h _ _ hnp hnl))
  · rintro j x σ G G' hj ⟨o10, vs, rfl, bg, hv, hd⟩ ⟨rfl, hx⟩
    have hj2 : j < (namesM i).length := by simpa using hj
    rw [List.getElem?_map, List.getElem?_eq_getElem hj2] at hx
    cases hx
    generalize hn : (namesM i)[j] = n at *
    have hsq : ∀ {G1 : Hp}, Same G' G1 → SqL K G1 nl ((namesM i).map V.str) := fun e => .inl (.inl (e _ _ (bg _ _ hnp hnl)))
    refine ⟨_, rfl, .inl ⟨rfl, _, .inl (.inl hv)⟩, _, rfl, nl, rfl, ⟨_, hsq (Same.refl _)⟩, fun D hD => ?_⟩
    refine lc_dat (K := K) walk_list (fun k => (((namesM i).take k).filter fun l => decide (l ≠ n)).map fun l => dPr (n, l)) rfl (fun k hk => ?_) (by simp; unfold sizeLine; omega) hD (fun G1 e => hsq e) (fun k G1 x G2 Nx hk e y k1 k0 => ?_) (fun G1 acc e h3 h4 => ?_)
    · have hk2 : k < (namesM i).length := by simpa using hk
      show _ = _ ∨ _
      rw [List.take_succ_eq_append_getElem hk2, List.filter_append, List.map_append]
      by_cases h : decide ((namesM i)[k] ≠ n) = true
      · exact .inr ⟨dPr (n, (namesM i)[k]), rfl, by simp only [List.filter_cons, h, if_true]; rfl⟩
      · exact .inl (by simp only [List.filter_cons, h]; simp)
    · obtain ⟨rfl, hx⟩ := y
      have hk2 : k < (namesM i).length := by simpa using hk
      rw [List.getElem?_map, List.getElem?_eq_getElem hk2] at hx
      cases hx
      have eo : (!decide (V.str (namesM i)[k] = V.str n)) = decide ((namesM i)[k] ≠ n) := by simp
      refine ⟨rfl, _, rfl, _, rfl, rfl, _, rfl, ?_⟩
      rw [eo]
      have est : (((namesM i).take (k + 1)).filter fun l => decide (l ≠ n)).map (fun l => dPr (n, l)) = (((namesM i).take k).filter fun l => decide (l ≠ n)).map (fun l => dPr (n, l)) ++ (if decide ((namesM i)[k] ≠ n) = true then [dPr (n, (namesM i)[k])] else []) := by
        rw [List.take_succ_eq_append_getElem hk2, List.filter_append, List.map_append]
        by_cases h : decide ((namesM i)[k] ≠ n) = true
        · simp only [List.filter_cons, h, if_true]; rfl
        · simp only [List.filter_cons, h]; simp
      refine ite2 (fun h => ⟨_, rfl, _, rfl, Nat.le_of_ble_eq_true rfl, fun t nt => k1 _ _ (dPr (n, (namesM i)[k])) (Same.new nt) (.tup (.inl (.inl upd_same)) (.cons (.str _) (.cons (.str _) .nil))) ?_⟩) fun h => k0 _ (Same.refl _) ?_
      · show _ = _
        rw [est, if_pos h]
      · show _ = _
        rw [est, if_neg h]
        simp
    · rw [List.length_map, List.take_length] at h4
      have h4' : DpAll K G1 acc ((others i n).map dPr) := by
        unfold others
        rw [List.map_map]
        exact h4
      have hplG : G1 pl = some (.lst vs) := e _ _ hv
      have hl1 : vs.length = (pairsTo i j).length := by rw [DpAll.length hd, List.length_map]
      have hl2 : acc.length = (others i n).length := by rw [DpAll.length h4', List.length_map]
      have hst : pairsTo i (j + 1) = pairsTo i j ++ others i n := by rw [pairs_step hj2, hn]
      have hl3 := pairsTo_len (i := i) (j := j + 1) hi4
      rw [hst, List.length_append] at hl3
      refine ⟨pl, D, vs, acc, rfl, rfl, hplG, h3, by unfold sizeLine; omega, _, _, rfl, (bg.trans (.of e)).trans But.upd, upd_same, ?_⟩
      rw [hst, List.map_append]
      exact DpAll.updL hplG (noLsts_app (noLsts_map _ (fun _ => rfl) _) (noLsts_map _ (fun _ => rfl) _)) (DpAll.app (DpAll.same e hd) h4')
  rintro σ G ⟨o10, vs, rfl, bg, hv, hd⟩
  rw [List.length_map, pairs_end] at hd
  have eG : Same H4 G := fun b o h => bg b o (ne_of_none h hpl4) (e8 _ _ h)
  have hcp : c ≠ pl := ne_of hcc hpl (by intro z; cases z)
  have gnl : G nl = some (.lst ((namesM i).map V.str)) := bg _ _ hnp hnl
  have gc : G c = some (.dK (capKvs (menu i))) := bg _ _ hcp hcc
  have hfpl : f ≠ pl := ne_of_none g4 hpl4
  clear bg hnl hcc hpl e8
  refine ⟨Nat.zero_le _, fun fo nfo => ?_⟩
  have e9 : Same H4 (upd G fo (.lst [])) := eG.trans (Same.new nfo)
  have gnl9 : (upd G fo (.lst [])) nl = some (.lst ((namesM i).map V.str)) := Same.new nfo _ _ gnl
  have gc9 : (upd G fo (.lst [])) c = some (.dK (capKvs (menu i))) := Same.new nfo _ _ gc
  have hv9 : (upd G fo (.lst [])) pl = some (.lst vs) := Same.new nfo _ _ hv
  have hd9 : DpAll K (upd G fo (.lst [])) vs ((pairsM i).map dPr) := DpAll.same (Same.new nfo) hd
  have hfo9 : (upd G fo (.lst [])) fo = some (.lst []) := upd_same
  have hfo4 : H4 fo = none := by
    cases hq : H4 fo with
    | none => rfl
    | some o => exact absurd rfl (ne_of_none (eG _ _ hq) nfo)
  have hnf : nl ≠ fo := ne_of_none gnl nfo
  have hpf9 : pl ≠ fo := ne_of_none hv nfo
  have hcf : c ≠ fo := ne_of_none gc nfo
  have hffo : f ≠ fo := ne_of_none g4 hfo4
  generalize upd G fo (.lst []) = H9 at e9 gnl9 gc9 hv9 hd9 hfo9 ⊢
  clear eG gnl gc hv hd nfo
  have hf9 : FeedL H9 f l := hf4.same e9
  have hlpl : l ≠ pl := by
    obtain ⟨_, _, _, _, _, z, _⟩ := hf4
    exact ne_of_none z hpl4
  have hlfo : l ≠ fo := by
    obtain ⟨_, _, _, _, _, z, _⟩ := hf4
    exact ne_of_none z hfo4
  have hlenv : vs.length = (pairsM i).length := by rw [DpAll.length hd9, List.length_map]
  obtain ⟨hpn, hpl20⟩ := pairs_nodup hi4
  refine ⟨_, rfl, pl, vs, rfl, .inl (.inl (.inl hv9)), _, rfl, f, l, 6, rfl, hf9, by decide, by decide, fun d6 H10 hd6 b10 hf10 => ⟨_, _, rfl, _, rfl, ?_, ?_, ?_⟩⟩
  · split <;> omega
  · split <;> omega
  obtain ⟨n, hn, hnle5, hnle⟩ : ∃ n : Nat, (if (d6 : Int) < (vs.length : Int) then (d6 : Int) else (vs.length : Int)) = (n : Int) ∧ n ≤ 5 ∧ n ≤ (pairsM i).length := by
    by_cases h : (d6 : Int) < (vs.length : Int)
    · exact ⟨d6, if_pos h, by omega, by omega⟩
    · exact ⟨vs.length, if_neg h, by omega, by omega⟩
  rw [hn, Int.toNat_natCast]
  have kt10 : KeepT H9 H10 := KeepT.but b10 hf9
  refine for_it (walk_range (lo := 0) (n := n)) (fun k σ J => ∃ (o8 : Option V) (ps : List Pr) (us : List V) (ws : List Wy) (fs : List V), σ = [some (.ref f), some (.int (size : Nat)), some (.ref p), some (.ref sp), some (.ref c), some (.ref nl), some (.ref pl), some (.ref fo), o8, none, o10, none, none, none] ∧ (∀ b o, b ≠ f → b ≠ pl → b ≠ fo → H10 b = some o → J b = some o) ∧ KeepT H10 J ∧ FeedL J f l ∧ J pl = some (.lst us) ∧ DpAll K J us (ps.map dPr) ∧ J fo = some (.lst fs) ∧ DpAll K J fs (ws.map dWy) ∧
      ps.Nodup ∧ (∀ x ∈ ps, PrG i x) ∧ (∀ w ∈ ws, WayG i w) ∧ (ws.map prW).Nodup ∧ (∀ w ∈ ws, prW w ∉ ps) ∧ ws.length = k ∧ ps.length + k = (pairsM i).length) ?_ (fun _ _ _ _ _ => True.intro) ?_ ?_
  · exact ⟨none, pairsM i, vs, [], [], rfl, fun _ _ _ _ _ h => h, fun _ _ r => r, hf10, b10 _ _ (Ne.symm hfpl) hv9, DpAll.tups kt10 (noLsts_map _ (fun _ => rfl) _) hd9, b10 _ _ (Ne.symm hffo) hfo9, .nil, hpn, pairs_good, fun _ h => absurd h (by simp), .nil, fun _ h => absurd h (by simp), rfl, rfl⟩
  · rintro k x σ J J' hk ⟨o8, ps, us, ws, fs, rfl, hst, kt, hfJ, hus, hds, hfs, hws, hnd, hg, hwg, hwn, hdis, hwl, hpk⟩ ⟨rfl, rfl⟩
    have hul : us.length = ps.length := by rw [DpAll.length hds, List.length_map]
    refine ⟨_, rfl, .inl ⟨rfl, _, .inl (.inl hfs)⟩, _, rfl, .inl ⟨rfl, _, .inl (.inl hus)⟩, _, rfl, _, rfl, pl, us, rfl, .inl (.inl (.inl hus)), f, l, _, rfl, hfJ, by omega, by omega, fun d H11 hd b11 hf11 => ?_⟩
    have hdl : d < ps.length := by omega
    have k11 : KeepT J' H11 := KeepT.but b11 hfJ
    have hus11 : H11 pl = some (.lst us) := b11 _ _ (Ne.symm hfpl) hus
    have hds11 := DpAll.tups k11 (noLsts_map _ (fun _ => rfl) _) hds
    obtain ⟨y, hy1, hy2⟩ := DpAll.get hds11 (i := d) (d := dPr ps[d]) (by simp [hdl])
    obtain ⟨ya, yx, rfl, hyt, hyx⟩ := hy2.tupI
    obtain ⟨y1, y2, rfl, hs1, hs2⟩ := hyx.two
    cases hs1
    cases hs2
    refine ⟨pl, us, d, d, .ref ya, rfl, rfl, hus11, by omega, by omega, seqIdx (by omega), hy1, ?_⟩
    have k12 : KeepT H11 (upd H11 pl (.lst (us.eraseIdx d))) := KeepT.lst hus11
    have hds12 := DpAll.tups k12 (noLsts_map _ (fun _ => rfl) _) hds11
    have hf12 : FeedL (upd H11 pl (.lst (us.eraseIdx d))) f l := hf11.keep (fun o h => by rw [upd_ne hfpl]; exact h) fun o h => by rw [upd_ne hlpl]; exact h
    have hpl12 : (upd H11 pl (.lst (us.eraseIdx d))) pl = some (.lst (us.eraseIdx d)) := upd_same
    have hfo12 : (upd H11 pl (.lst (us.eraseIdx d))) fo = some (.lst fs) := by
      rw [upd_ne (Ne.symm hpf9)]
      exact b11 _ _ (Ne.symm hffo) hfs
    have st12 : ∀ b o, b ≠ f → b ≠ pl → b ≠ fo → H10 b = some o → (upd H11 pl (.lst (us.eraseIdx d))) b = some o := fun b o h1 h2 h3 h => by
      rw [upd_ne h2]
      exact b11 _ _ h1 (hst b o h1 h2 h3 h)
    have kt12 : KeepT J' (upd H11 pl (.lst (us.eraseIdx d))) := k11.trans k12
    have hyt12 := KeepT.tup (K := K) k12 hyt
    generalize upd H11 pl (.lst (us.eraseIdx d)) = G12 at hds12 hf12 hpl12 hfo12 st12 kt12 hyt12 ⊢
    refine ⟨_, rfl, f, l, 9, rfl, hf12, by decide, by decide, fun d9 H13 hd9 b13 hf13 => ⟨1, d9, rfl, rfl, Nat.le_of_ble_eq_true rfl, fun t1 nt1 => ?_⟩⟩
    have k14 : KeepT G12 (upd H13 t1 (.tup [.int (1 + (d9 : Int))])) := (KeepT.but b13 hf12).trans (KeepT.same (Same.new nt1))
    have s14 : But f G12 (upd H13 t1 (.tup [.int (1 + (d9 : Int))])) := b13.trans (.of (Same.new nt1))
    have hf14 : FeedL (upd H13 t1 (.tup [.int (1 + (d9 : Int))])) f l := hf13.same (Same.new nt1)
    have ht1 : SqT K (upd H13 t1 (.tup [.int (1 + (d9 : Int))])) t1 [.int (1 + (d9 : Int))] := .inl (.inl upd_same)
    generalize upd H13 t1 (.tup [.int (1 + (d9 : Int))]) = H14 at k14 s14 hf14 ht1 ⊢
    refine ⟨ya, t1, _, _, rfl, rfl, KeepT.tup k14 hyt12, ht1, by simp, Nat.le_of_ble_eq_true rfl, fun z => absurd z (by simp), fun _ t2 nt2 => ?_⟩
    have k15 : KeepT G12 (upd H14 t2 (.tup ([.str ps[d].1, .str ps[d].2] ++ [.int (1 + (d9 : Int))]))) := k14.trans (KeepT.same (Same.new nt2))
    have s15 : But f G12 (upd H14 t2 (.tup ([.str ps[d].1, .str ps[d].2] ++ [.int (1 + (d9 : Int))]))) := s14.trans (.of (Same.new nt2))
    have hf15 : FeedL (upd H14 t2 (.tup ([.str ps[d].1, .str ps[d].2] ++ [.int (1 + (d9 : Int))]))) f l := hf14.same (Same.new nt2)
    have hw15 : Dp K (upd H14 t2 (.tup ([.str ps[d].1, .str ps[d].2] ++ [.int (1 + (d9 : Int))]))) (.ref t2) (dWy (ps[d].1, ps[d].2, 1 + d9)) := Dp.wyM (.inl (.inl upd_same))
    generalize upd H14 t2 (.tup ([.str ps[d].1, .str ps[d].2] ++ [.int (1 + (d9 : Int))])) = H15 at k15 s15 hf15 hw15 ⊢
    have hfo15 : H15 fo = some (.lst fs) := s15 _ _ (Ne.symm hffo) hfo12
    have hws15 : DpAll K H15 fs (ws.map dWy) := DpAll.tups (kt12.trans k15) (noLsts_map _ nl_wy _) hws
    have hfsl : fs.length ≤ 5 := by
      have := DpAll.length hws
      rw [List.length_map] at this
      omega
    have k16 : KeepT H15 (upd H15 fo (.lst (fs ++ [.ref t2]))) := KeepT.lst hfo15
    have hmem : ps[d] ∈ ps := List.getElem_mem hdl
    refine ⟨fo, fs, .ref t2, rfl, rfl, hfo15, by unfold sizeLine; omega, _, ps.eraseIdx d, us.eraseIdx d, ws ++ [(ps[d].1, ps[d].2, 1 + d9)], fs ++ [.ref t2], rfl, fun b o h1 h2 h3 h => ?_, kt.trans (kt12.trans (k15.trans k16)), ?_, ?_, ?_, upd_same, ?_, ?_, ?_, ?_, ?_, ?_, ?_, ?_⟩
    · rw [upd_ne h3]
      exact s15 _ _ h1 (st12 b o h1 h2 h3 h)
    · exact hf15.keep (fun o h => by rw [upd_ne hffo]; exact h) fun o h => by rw [upd_ne hlfo]; exact h
    · rw [upd_ne hpf9]
      exact s15 _ _ (Ne.symm hfpl) hpl12
    · have z := DpAll.erase d (DpAll.tups (k15.trans k16) (noLsts_map _ (fun _ => rfl) _) hds12)
      rw [DT.map_erase]
      exact z
    · rw [List.map_append]
      exact DpAll.updL hfo15 (noLsts_app (noLsts_map _ nl_wy _) rfl) (DpAll.app hws15 (.cons hw15 .nil))
    · exact hnd.sublist (List.eraseIdx_sublist ps d)
    · exact fun x hx => hg x (List.mem_of_mem_eraseIdx hx)
    · intro w hw
      rcases List.mem_append.mp hw with hw | hw
      · exact hwg w hw
      · simp at hw
        subst hw
        obtain ⟨g1, g2, g3⟩ := hg _ hmem
        exact ⟨g1, g2, g3, by simp, by simp; omega⟩
    · rw [List.map_append]
      refine List.nodup_append.mpr ⟨hwn, by simp, fun a ha b hb => ?_⟩
      obtain ⟨w, hw, rfl⟩ := List.mem_map.mp ha
      simp [prW] at hb
      subst hb
      exact fun z => hdis w hw (by rw [z]; exact hmem)
    · intro w hw
      rcases List.mem_append.mp hw with hw | hw
      · exact fun z => hdis w hw (List.mem_of_mem_eraseIdx z)
      · simp at hw
        subst hw
        exact erase_not hnd hdl
    · rw [List.length_append, hwl]
      rfl
    · rw [List.length_eraseIdx, if_pos hdl]
      omega
  rintro σ J ⟨o8, ps, us, ws, fs, rfl, hst, kt, hfJ, _, _, hfs, hws, _, _, hwg, hwn, _, hwl, _⟩
  have hnlf : nl ≠ f := by
    obtain ⟨kv, hk⟩ := hf9.dict
    exact ne_of gnl9 hk (by intro z; cases z)
  have gnlJ : J nl = some (.lst ((namesM i).map V.str)) := hst _ _ hnlf hnp hnf (b10 _ _ hnlf gnl9)
  have gcJ : J c = some (.dK (capKvs (menu i))) := hst _ _ (Ne.symm hfc) hcp hcf (b10 _ _ (Ne.symm hfc) gc9)
  have s4J : ∀ b o, b ≠ f → H4 b = some o → J b = some o := fun b o hb h => hst b o hb (ne_of_none h hpl4) (ne_of_none h hfo4) (b10 b o hb (e9 _ _ h))
  have k4J : KeepT H4 J := (KeepT.same e9).trans (kt10.trans kt)
  clear hst kt kt10 b10 gnl9 gc9 hv9 hd9 hfo9 e9
  refine ⟨Nat.zero_le _, fun ro nro => ?_⟩
  have hrof : f ≠ ro := by
    obtain ⟨kv, hk⟩ := hfJ.dict
    exact ne_of_none hk nro
  have hlro : l ≠ ro := by
    obtain ⟨_, _, _, _, _, z, _⟩ := hfJ
    exact ne_of_none z nro
  have hnlr : nl ≠ ro := ne_of_none gnlJ nro
  have hcro : c ≠ ro := ne_of_none gcJ nro
  have hforo : fo ≠ ro := ne_of_none hfs nro
  have hro4 : ∀ b o, b ≠ f → H4 b = some o → b ≠ ro := fun b o hb h => ne_of_none (s4J b o hb h) nro
  have sJ := Same.new (o := HO.lst []) nro
  have hf16 : FeedL (upd J ro (.lst [])) f l := hfJ.same sJ
  have gnl16 := sJ _ _ gnlJ
  have gc16 := sJ _ _ gcJ
  have hfs16 := sJ _ _ hfs
  have hws16 := DpAll.same sJ hws
  have s416 : ∀ b o, b ≠ f → H4 b = some o → (upd J ro (.lst [])) b = some o := fun b o hb h => sJ _ _ (s4J b o hb h)
  have k416 : KeepT H4 (upd J ro (.lst [])) := k4J.trans (KeepT.same sJ)
  have hro16 : (upd J ro (.lst [])) ro = some (.lst []) := upd_same
  generalize upd J ro (.lst []) = H16 at hf16 gnl16 gc16 hfs16 hws16 s416 k416 hro16 ⊢
  clear gnlJ gcJ s4J k4J sJ hfs hws nro hfJ
  refine ⟨_, rfl, _, rfl, by omega, by omega, ?_⟩
  rw [Int.toNat_natCast]
  refine for_it (walk_range (lo := 0) (n := size)) (fun k σ J => ∃ (o8 o10 o11 o12 : Option V) (rs : List Rw) (xs : List V), σ = [some (.ref f), some (.int (size : Nat)), some (.ref p), some (.ref sp), some (.ref c), some (.ref nl), some (.ref pl), some (.ref fo), o8, some (.ref ro), o10, o11, o12, none] ∧ (∀ b o, b ≠ f → b ≠ ro → H16 b = some o → J b = some o) ∧ KeepT H16 J ∧ FeedL J f l ∧ J ro = some (.lst xs) ∧ DpAll K J xs (rs.map dRw) ∧ (∀ r ∈ rs, RowG i r) ∧ rs.length = k) ?_ (fun _ _ _ _ _ => True.intro) ?_ ?_
  · exact ⟨o8, o10, none, none, [], [], rfl, fun _ _ _ _ h => h, fun _ _ r => r, hf16, hro16, .nil, fun _ h => absurd h (by simp), rfl⟩
  · rintro k x σ J J' hk ⟨o8, o10, o11, o12, rs, xs, rfl, hst, kt, hfJ, hro, hxs, hrg, hrl⟩ ⟨rfl, rfl⟩
    have gnl := hst _ _ hnlf hnlr gnl16
    have gc := hst _ _ (Ne.symm hfc) hcro gc16
    have hnml : ((namesM i).map V.str).length = (namesM i).length := List.length_map ..
    have hxl : xs.length ≤ 5 := by
      have := DpAll.length hxs
      rw [List.length_map] at this
      omega
    refine ⟨_, rfl, _, rfl, _, rfl, nl, _, rfl, .inl (.inl (.inl gnl)), f, l, _, rfl, hfJ, by omega, by omega, fun d1 G1 hd1 b1 hf1 => ?_⟩
    have hd1l : d1 < (namesM i).length := by omega
    have gnl1 := b1 _ _ hnlf gnl
    refine ⟨nl, _, _, .str (namesM i)[d1], rfl, rfl, .inl (.inl gnl1), atI_nat (by simp [hd1l]), ?_⟩
    have hndn : (namesM i).Nodup := (menu_all hi4).2.2.2.1
    refine ⟨_, rfl, _, rfl, .inl ⟨rfl, _, .inl (.inl gnl1)⟩, _, rfl, nl, _, .str (namesM i)[d1], d1, .str (namesM i)[d1], rfl, rfl, .inl (.inl gnl1), rfl, flat_strs, by simp [hd1l], by simp [eqV], fun m z' hm hz => ?_, d1, 1, rfl, rfl, _, rfl, _, rfl, nl, _, rfl, .inl (.inl (.inl gnl1)), _, 1, rfl, rfl, f, l, _, rfl, hf1, by omega, by omega, fun d2 G2 hd2 b2 hf2 => ?_⟩
    · have hm2 : m < (namesM i).length := by omega
      rw [List.getElem?_map, List.getElem?_eq_getElem hm2] at hz
      cases hz
      have : (namesM i)[m] ≠ (namesM i)[d1] := fun z => by
        have := (List.getElem_inj hndn).mp z
        omega
      simp [eqV, this]
    have gnl2 := b2 _ _ hnlf gnl1
    obtain ⟨he1, he2⟩ := step_ne (L := (namesM i).length) (a := d1) (b := d2) hd1l (by omega)
    have hecast : ((d1 : Int) + 1 + (d2 : Int)) % (((namesM i).map V.str).length : Int) = (((d1 + 1 + d2) % (namesM i).length : Nat) : Int) := by
      rw [hnml, Int.natCast_emod]
      rfl
    generalize he : (d1 + 1 + d2) % (namesM i).length = e at he1 he2 hecast
    refine ⟨_, _, rfl, rfl, .inl ⟨_, rfl, _, rfl, nl, _, rfl, .inl (.inl (.inl gnl2)), _, _, rfl, rfl, by omega, nl, _, _, .str (namesM i)[e], rfl, rfl, .inl (.inl gnl2), ?_, ?_⟩⟩
    · rw [hecast]
      exact atI_nat (by simp [he1])
    have hn1m : (namesM i)[d1] ∈ namesM i := List.getElem_mem hd1l
    have hn2m : (namesM i)[e] ∈ namesM i := List.getElem_mem he1
    have hne : (namesM i)[d1] ≠ (namesM i)[e] := fun z => he2 ((List.getElem_inj hndn).mp z).symm
    generalize (namesM i)[d1] = n1 at hn1m hne ⊢
    generalize (namesM i)[e] = n2 at hn2m hne ⊢
    have gc2 := b2 _ _ (Ne.symm hfc) (b1 _ _ (Ne.symm hfc) gc)
    obtain ⟨m, hmin, hm1, hma, hmb, hm5⟩ := min3_is (capM_pos hi4 hn1m) (capM_pos hi4 hn2m)
    refine ⟨_, rfl, c, rfl, .inl ⟨_, .inl gc2⟩, _, rfl, _, DGet.k (k := .inr n1) gc2, _, rfl, c, rfl, .inl ⟨_, .inl gc2⟩, _, rfl, _, DGet.k (k := .inr n2) gc2, _, _, _, .int m, rfl, ?_, ?_⟩
    · rw [capV, capV]
      exact hmin
    refine ⟨_, rfl, f, l, 2, rfl, hf2, by decide, by decide, fun d3 G3 hd3 b3 hf3 => ⟨_, _, rfl, rfl, _, rfl, ?_⟩⟩
    have gc3 := b3 _ _ (Ne.symm hfc) gc2
    have b13 : But f J' G3 := (b1.trans b2).trans b3
    have hro3 := b13 _ _ (Ne.symm hrof) hro
    have k3 : KeepT J' G3 := KeepT.but b13 hfJ
    have hxs3 := DpAll.tups k3 (noLsts_map _ nl_rw _) hxs
    have hst3 : ∀ b o, b ≠ f → b ≠ ro → H16 b = some o → G3 b = some o := fun b o h1 h2 h => b13 _ _ h1 (hst b o h1 h2 h)
    have kt3 := kt.trans k3
    clear hst kt k3 hxs hro hfJ gc2 gnl2 gnl1 gnl gc hf1 hf2 b1 b2 b3 b13 hecast he
    -- the new row is put
    have put : ∀ (r : Rw) (G4 : Hp) (t : Addr), RowG i r → But f G3 G4 → FeedL G4 f l → G4 t = none → ∃ l2 ys y, V.ref ro = .ref l2 ∧ [V.ref t] = [y] ∧ (upd G4 t (.tup (vRw r))) l2 = some (.lst ys) ∧ ys.length < sizeLine ∧
        ∃ (o8 o10 o11 o12 : Option V) (rs : List Rw) (xs : List V), [some (V.ref f), some (.int (size : Nat)), some (.ref p), some (.ref sp), some (.ref c), some (.ref nl), some (.ref pl), some (.ref fo), some (.int (0 + (k : Int))), some (.ref ro), some (.str n1), some (.str n2), some (.int m), none] = [some (.ref f), some (.int (size : Nat)), some (.ref p), some (.ref sp), some (.ref c), some (.ref nl), some (.ref pl), some (.ref fo), o8, some (.ref ro), o10, o11, o12, none] ∧
          (∀ b o, b ≠ f → b ≠ ro → H16 b = some o → (upd (upd G4 t (.tup (vRw r))) l2 (.lst (ys ++ [y]))) b = some o) ∧ KeepT H16 (upd (upd G4 t (.tup (vRw r))) l2 (.lst (ys ++ [y]))) ∧ FeedL (upd (upd G4 t (.tup (vRw r))) l2 (.lst (ys ++ [y]))) f l ∧ (upd (upd G4 t (.tup (vRw r))) l2 (.lst (ys ++ [y]))) ro = some (.lst xs) ∧ DpAll K (upd (upd G4 t (.tup (vRw r))) l2 (.lst (ys ++ [y]))) xs (rs.map dRw) ∧ (∀ r ∈ rs, RowG i r) ∧ rs.length = k + 1 := by
      intro r G4 t hr b4 hf4 nt
      have k5 : KeepT G3 (upd G4 t (.tup (vRw r))) := (KeepT.but b4 hf3).trans (KeepT.same (Same.new nt))
      have b5 : But f G3 (upd G4 t (.tup (vRw r))) := b4.trans (.of (Same.new nt))
      have hf5 : FeedL (upd G4 t (.tup (vRw r))) f l := hf4.same (Same.new nt)
      have hd5 : Dp K (upd G4 t (.tup (vRw r))) (.ref t) (dRw r) := Dp.rwM (.inl (.inl upd_same))
      generalize upd G4 t (.tup (vRw r)) = G5 at k5 b5 hf5 hd5 ⊢
      have hro5 : G5 ro = some (.lst xs) := b5 _ _ (Ne.symm hrof) hro3
      refine ⟨ro, xs, .ref t, rfl, rfl, hro5, by unfold sizeLine; omega, _, _, _, _, rs ++ [r], xs ++ [.ref t], rfl, fun b o h1 h2 h => ?_, (kt3.trans k5).trans (KeepT.lst hro5), ?_, upd_same, ?_, ?_, ?_⟩
      · rw [upd_ne h2]
        exact b5 _ _ h1 (hst3 b o h1 h2 h)
      · exact hf5.keep (fun o h => by rw [upd_ne hrof]; exact h) fun o h => by rw [upd_ne hlro]; exact h
      · rw [List.map_append]
        exact DpAll.updL hro5 (noLsts_app (noLsts_map _ nl_rw _) (by simp [noLsts, nl_rw])) (DpAll.app (DpAll.tups k5 (noLsts_map _ nl_rw _) hxs3) (.cons hd5 .nil))
      · intro r' hr'
        rcases List.mem_append.mp hr' with h | h
        · exact hrg _ h
        · simp at h
          rw [h]
          exact hr
      · rw [List.length_append, hrl]
        rfl
    have mv : ∀ G4, But f G3 G4 → FeedL G4 f l → ∀ d4 : Nat, (d4 : Int) < m → RowG i (.move n1 n2 (1 + d4)) := fun _ _ _ d4 h => ⟨hn1m, hn2m, hne, by omega, by omega, by omega, by omega⟩
    refine ite2 (fun h => iteT ⟨_, rfl, .inl ⟨rfl, _, .inl (.inl hro3)⟩, _, rfl, _, rfl, _, rfl, _, rfl, f, l, m, rfl, hf3, by omega, by omega, fun d4 G4 hd4 b4 hf4 => ⟨1, d4, rfl, rfl, Nat.le_of_ble_eq_true rfl, fun t nt => put (.move n1 n2 (1 + d4)) G4 t (mv G4 b4 hf4 d4 hd4) b4 hf4 nt⟩⟩) fun h => ?_
    refine ⟨_, rfl, rfl, _, rfl, ite2 (fun h => ⟨_, rfl, .inl ⟨rfl, _, .inl (.inl hro3)⟩, _, rfl, _, rfl, _, rfl, _, rfl, f, l, m, rfl, hf3, by omega, by omega, fun d4 G4 hd4 b4 hf4 => ⟨1, d4, rfl, rfl, Nat.le_of_ble_eq_true rfl, fun t nt => put (.move n1 n2 (1 + d4)) G4 t (mv G4 b4 hf4 d4 hd4) b4 hf4 nt⟩⟩) fun h => ?_⟩
    have hno : n1 ≠ sOut := fun z => h (by rw [z]; simp)
    obtain ⟨cc, hcap, hc1, hc20, hcm, _⟩ := name_cap hi4 hn1m hno
    have hget : DGet G3 c (.str n1) (some (.int (cc : Nat))) := by
      have z := DGet.k (k := .inr n1) gc3
      rw [cap_val, hcap] at z
      exact z
    exact ⟨_, rfl, .inl ⟨rfl, _, .inl (.inl hro3)⟩, _, rfl, _, rfl, _, rfl, _, rfl, c, _, rfl, hget, _, _, rfl, rfl, f, l, _, rfl, hf3, by omega, by omega, fun d4 G4 hd4 b4 hf4 => ⟨Nat.le_of_ble_eq_true rfl, fun t nt => put (.count n1 d4) G4 t ⟨hn1m, hno, by omega⟩ b4 hf4 nt⟩⟩
  rintro σ Y ⟨o8, o10, o11, o12, rs, xs, rfl, hst, kt, hfY, hro, hxs, hrg, hrl⟩
  have hYfo : Y fo = some (.lst fs) := hst _ _ (Ne.symm hffo) hforo hfs16
  have hwsY : DpAll K Y fs (ws.map dWy) := DpAll.tups kt (noLsts_map _ nl_wy _) hws16
  have butY : But f H Y := fun b o hb h => hst b o hb (hro4 b o hb (b5 b o hb h)) (s416 b o hb (b5 b o hb h))
  have hsY : Dp K Y (.ref sp) (.tuple ((menu i).map dPl)) := Dp.tups (k416.trans kt) (by simp only [noLst]; exact noLsts_map _ nl_pl _) hv
  clear hst kt s416 k416 hfs16 hws16 hv hsp hss
  refine ⟨_, rfl, _, rfl, fo, fs, ws, rfl, .inr (.inl (.inl hYfo)), hwsY, .of fun _ _ => rfl, .tuples fun b => ⟨_, _, rfl⟩, fun x _ => Nat.le_of_ble_eq_true rfl, fun zs p2 np2 hz => ?_⟩
  refine ⟨p2, zs, rfl, .inl ⟨.inl (.inl upd_same), fun p3 np3 => ?_⟩⟩
  have e3 : Same Y (upd (upd Y p2 (.lst zs)) p3 (.tup zs)) := (Same.new np2).trans (Same.new np3)
  have hdw : Dp K (upd (upd Y p2 (.lst zs)) p3 (.tup zs)) (.ref p3) (.tuple ((ws.mergeSort (PySem.W.dataLe false dWy)).map dWy)) := .tup (.inl (.inl upd_same)) (DpAll.same e3 hz)
  generalize upd (upd Y p2 (.lst zs)) p3 (.tup zs) = Y3 at e3 hdw ⊢
  refine ⟨Nat.le_of_ble_eq_true rfl, fun p4 np4 => ⟨_, rfl, f, l, 4, rfl, (hfY.same e3).same (Same.new np4), by decide, by decide, fun d5 Y5 hd5 b6 hf6 => ?_⟩⟩
  have hp4f : p4 ≠ f := by
    obtain ⟨kv, hk⟩ := (hfY.same e3).dict
    exact Ne.symm (ne_of_none hk np4)
  have hd54 : d5 < 4 := by omega
  have hp4 : Y5 p4 = some (.lst [.non, .int 4, .int 1, .int 9]) := b6 _ _ hp4f upd_same
  have k6 : KeepT Y3 Y5 := (KeepT.same (Same.new np4)).trans (KeepT.but b6 ((hfY.same e3).same (Same.new np4)))
  have b7 : But f Y3 Y5 := (But.of (Same.new np4)).trans b6
  have hsl : atI [V.non, .int 4, .int 1, .int 9] (d5 : Int) = some (vSl (slips[d5]?.getD none)) := atI_nat (mCase (P := fun d => [V.non, .int 4, .int 1, .int 9][d]? = some (vSl (slips[d]?.getD none))) rfl rfl rfl rfl hd54)
  have hslip : slips[d5]?.getD none = none ∨ slips[d5]?.getD none = some 4 ∨ slips[d5]?.getD none = some 1 ∨ slips[d5]?.getD none = some 9 := mCase (P := fun d => slips[d]?.getD none = none ∨ slips[d]?.getD none = some 4 ∨ slips[d]?.getD none = some 1 ∨ slips[d]?.getD none = some 9) (.inl rfl) (.inr (.inl rfl)) (.inr (.inr (.inl rfl))) (.inr (.inr (.inr rfl))) hd54
  generalize slips[d5]?.getD none = slip at hsl hslip
  refine ⟨p4, _, _, vSl slip, rfl, rfl, .inl (.inl hp4), hsl, ?_⟩
  have hro5 : Y5 ro = some (.lst xs) := b7 _ _ (Ne.symm hrof) (e3 _ _ hro)
  refine ⟨_, rfl, ro, xs, rfl, .inl ⟨.inl (.inl hro5), fun p5 np5 => ⟨Nat.le_of_ble_eq_true rfl, fun p6 np6 => ?_⟩⟩⟩
  have e7 := (Same.new (o := HO.tup xs) np5).trans (Same.new (o := HO.tup [.ref sp, .ref p3, vSl slip, .ref p5]) np6)
  have k7 : KeepT Y3 (upd (upd Y5 p5 (.tup xs)) p6 (.tup [.ref sp, .ref p3, vSl slip, .ref p5])) := k6.trans (KeepT.same e7)
  have hd1 := Dp.tups ((KeepT.same e3).trans k7) (by simp only [noLst]; exact noLsts_map _ nl_pl _) hsY
  have hd2 := Dp.tups k7 (by simp only [noLst]; exact noLsts_map _ nl_wy _) hdw
  have hd3 : Dp K (upd (upd Y5 p5 (.tup xs)) p6 (.tup [.ref sp, .ref p3, vSl slip, .ref p5])) (.ref p5) (.tuple (rs.map dRw)) := .tup (.inl (.inl (Same.new np6 _ _ upd_same))) (DpAll.tups ((KeepT.same e3).trans k7) (noLsts_map _ nl_rw _) hxs)
  have hmem : ∀ w, w ∈ ws.mergeSort (PySem.W.dataLe false dWy) → w ∈ ws := fun w h => (List.mergeSort_perm _ _).mem_iff.mp h
  refine q ⟨menu i, ws.mergeSort (PySem.W.dataLe false dWy), slip, rs⟩ _ _ ⟨⟨i, hi4, rfl, fun w hw => hwg w (hmem w hw), hrg⟩, sorted_up hwn, ?_, hslip, hrl⟩ (fun b o hb h => e7 _ _ (b7 _ _ hb (e3 _ _ (butY b o hb h)))) (hf6.same e7) (Dp.bkD (b := ⟨menu i, ws.mergeSort (PySem.W.dataLe false dWy), slip, rs⟩) (.inl (.inl upd_same)) hd1 hd2 hd3)
  show (ws.mergeSort (PySem.W.dataLe false dWy)).length ≤ 5
  rw [List.length_mergeSort, hwl]
  exact hnle5

end
end K12

/-! _law_spoilt: a text that is spoilt. -/
namespace K12
open PySem PySem.Spec PyProof.Rows L2
/-- behind the statement only R is known: the ways through it meet again -/
def tJoinR (t : TS) : TS := fun D σ H => ∃ R : L2.St → Hp → Prop, (∀ σ' H', R σ' H' → D.nx σ' H') ∧ t { D with nx := R } σ H
theorem ps_joinR {X : Cx} {st : Stmt} {t : TS} (h : PS X st t) : PS X st (tJoinR t) := by
  refine ⟨fun pn z σ G D I ⟨R, h1, h2⟩ => ?_⟩
  refine thn (h.run pn z σ G _ I h2) fun fl z1 hs => ?_
  cases fl with
  | next =>
    obtain ⟨σ', G', I', r⟩ := hs
    exact ⟨σ', G', I', h1 _ _ r⟩
  | ret u => exact hs
  | brk => exact hs
  | cont => exact hs
def tJoinE (t : TE) : TE := fun σ H Q => ∃ R : V → Hp → Prop, (∀ v H', R v H' → Q v H') ∧ t σ H R
theorem pe_joinE {X : Cx} {e : Expr} {t : TE} (h : PE X e t) : PE X e (tJoinE t) := ⟨fun pn z σ G Q I ⟨R, h1, h2⟩ => thn (h.run pn z σ G _ I h2) fun v z1 ⟨x, G1, I1, r1, q1⟩ => ⟨x, G1, I1, r1, h1 _ _ q1⟩⟩
theorem slice_pre (z : Str) (i : Nat) : (Txt.slice z none (some (i : Int))).length ≤ z.length := by
  obtain ⟨⟨l⟩⟩ := z
  have e := SX.slice_to (a := l) (i := (i : Int)) (by omega)
  have e2 : (⟨⟨l⟩⟩ : Str) = SX.S l := rfl
  rw [e2, e]
  show (l.take _).length ≤ l.length
  rw [List.length_take]
  omega
theorem slice_suf (z : Str) (i : Int) (h : 0 ≤ i) : (Txt.slice z (some i) none).length ≤ z.length := by
  obtain ⟨⟨l⟩⟩ := z
  have e := SX.slice_from (a := l) (i := i) h
  have e2 : (⟨⟨l⟩⟩ : Str) = SX.S l := rfl
  rw [e2, e]
  show (l.drop _).length ≤ l.length
  rw [List.length_drop]
  omega
def Wt (l : List Str) : Nat := (l.map fun x => x.length + 1).sum
theorem wt_sum : ∀ l : List Str, Wt l = (l.map (·.length)).sum + l.length
  | [] => rfl
  | x :: r => by
    have := wt_sum r
    unfold Wt at this ⊢
    simp only [List.map_cons, List.sum_cons, List.length_cons]
    omega
theorem wt_join {s : Str} (hs : s.length = 1) {l : List Str} (h : l ≠ []) : (Str.join s l).length + 1 = Wt l := by
  have z := join_len s h
  rw [hs] at z
  rw [wt_sum]
  omega
theorem wt_le {s : Str} (hs : s.length = 1) (l : List Str) : (Str.join s l).length ≤ Wt l := by
  cases l with
  | nil => exact Nat.le_of_eq rfl
  | cons x r =>
    have := wt_join hs (l := x :: r) (by simp)
    omega
theorem wt_app (a b : List Str) : Wt (a ++ b) = Wt a + Wt b := by
  unfold Wt
  rw [List.map_append, List.sum_append]
theorem wt_cons (x : Str) (r : List Str) : Wt (x :: r) = x.length + 1 + Wt r := rfl
theorem wt_split {l : List Str} {i : Nat} (h : i < l.length) : Wt l = Wt (l.take i) + (l[i].length + 1 + Wt (l.drop (i + 1))) := by
  rw [← wt_cons, List.getElem_cons_drop, ← wt_app, List.take_append_drop]
theorem wt_set {l : List Str} {i : Nat} (h : i < l.length) (x : Str) : Wt (l.set i x) + l[i].length = Wt l + x.length := by
  have e : l.set i x = l.take i ++ x :: l.drop (i + 1) := List.set_eq_take_append_cons_drop .. |>.trans (if_pos h)
  rw [e, wt_app, wt_cons, wt_split h]
  omega
theorem wt_rev (l : List Str) : Wt l.reverse = Wt l := by
  unfold Wt
  rw [List.map_reverse, List.sum_reverse]
theorem wt_less {l : List Str} {i : Nat} (h : i < l.length) : Wt (l.take i ++ l.drop (i + 1)) ≤ Wt l := by
  rw [wt_app, wt_split h]
  omega
theorem wt_more {l : List Str} {i : Nat} (h : i < l.length) : Wt (l.take (i + 1) ++ l.drop i) = Wt l + (l[i].length + 1) := by
  have e : Wt l = Wt (l.take i) + Wt (l.drop i) := by rw [← wt_app, List.take_append_drop]
  rw [wt_app, List.take_succ_eq_append_getElem h, wt_app, e]
  unfold Wt
  simp
  omega
theorem wt_mem {l : List Str} {i : Nat} (h : i < l.length) : l[i].length + 1 ≤ Wt l := by
  rw [wt_split h]
  omega
theorem cut_to (l : List Str) (k : Nat) : cutV (l.map V.str) none (some (k : Int)) = (l.take k).map V.str := by
  unfold cutV
  rw [HT.sIx_nat, HT.sIx_none, List.length_map, Nat.sub_zero, List.drop_zero, List.map_take]
  by_cases h : k ≤ l.length
  · rw [Nat.min_eq_left h]
  · rw [Nat.min_eq_right (by omega), List.take_of_length_le (by simp), List.take_of_length_le (by simp; omega)]
theorem cut_from (l : List Str) (k : Nat) : cutV (l.map V.str) (some (k : Int)) none = (l.drop k).map V.str := by
  unfold cutV
  rw [HT.sIx_nat, HT.sIx_none, List.length_map, List.map_drop]
  by_cases h : k ≤ l.length
  · rw [Nat.min_eq_left h, List.take_of_length_le (by simp)]
  · rw [Nat.min_eq_right (by omega)]
    simp
    omega
theorem ixN_nat {n d : Nat} (h : d < n) : ixN n (d : Int) = some d := by
  unfold ixN
  rw [if_pos (by omega), if_pos (by omega)]
  simp
/-- a line or word taken out or told twice -/
theorem cut_rd {K : PySem.W.Frag} {σ : L2.St} {H : Hp} {j k i way : Nat} {c : Int} {a : Addr} {l : List Str} {Q : VK} (hj : σ[j]? = some (some (.ref a))) (hk : σ[k]? = some (some (.int (i : Nat)))) (hw : σ[4]? = some (some (.int (way : Nat)))) (ha : H a = some (.lst (l.map V.str))) (hi : i < l.length) (hl : l.length < 4000000)
    (h : ∀ r p G, Same H G → G p = some (.lst (r.map V.str)) → ((way : Int) = c → r = l.take i ++ l.drop (i + 1)) → (¬ (way : Int) = c → r = l.take (i + 1) ++ l.drop i) → Q (.ref p) G) :
    tIf (tTest (tOp rEq (tVar 4) (tC (.int c)))) (tOp rCat (tSl (rSlL K) (tVar j) tNoPart (tPart (tVar k))) (tSl (rSlL K) (tVar j) (tPart (tOp (rI0 fun i j => V.int (i + j)) (tVar k) (tC (.int 1)))) tNoPart))
      (tOp rCat (tSl (rSlL K) (tVar j) tNoPart (tPart (tOp (rI0 fun i j => V.int (i + j)) (tVar k) (tC (.int 1))))) (tSl (rSlL K) (tVar j) (tPart (tVar k)) tNoPart)) σ H Q := by
  have ef : cutV (l.map V.str) (some ((i : Int) + 1)) none = (l.drop (i + 1)).map V.str := cut_from l (i + 1)
  have et : cutV (l.map V.str) none (some ((i : Int) + 1)) = (l.take (i + 1)).map V.str := cut_to l (i + 1)
  have go : ∀ x y : List Str, x.length + y.length ≤ 8000000 → ∀ p1, H p1 = none → ∀ p2, (upd H p1 (.lst (x.map V.str))) p2 = none → ∀ p3, (upd (upd H p1 (.lst (x.map V.str))) p2 (.lst (y.map V.str))) p3 = none → ((way : Int) = c → x ++ y = l.take i ++ l.drop (i + 1)) → (¬ (way : Int) = c → x ++ y = l.take (i + 1) ++ l.drop i) → Q (.ref p3) (upd (upd (upd H p1 (.lst (x.map V.str))) p2 (.lst (y.map V.str))) p3 (.lst (x.map V.str ++ y.map V.str))) := fun x y _ p1 n1 p2 n2 p3 n3 h1 h2 =>
    h (x ++ y) p3 _ ((Same.new n1).trans ((Same.new n2).trans (Same.new n3))) (by rw [upd_same, List.map_append]) h1 h2
  have t1 : (l.take i).length ≤ l.length := by rw [List.length_take]; omega
  have t2 : (l.take (i + 1)).length ≤ l.length := by rw [List.length_take]; omega
  have t3 : (l.drop i).length ≤ l.length := by rw [List.length_drop]; omega
  have t4 : (l.drop (i + 1)).length ≤ l.length := by rw [List.length_drop]; omega
  refine ⟨_, hw, rfl, _, rfl, ite2 (fun hc => ?_) fun hc => ?_⟩
  · have hc2 : (way : Int) = c := by simpa using hc
    refine ⟨_, hj, _, hk, i, rfl, a, _, rfl, .inl (.inl ha), fun p1 n1 => ?_⟩
    rw [cut_to]
    refine ⟨_, hj, _, hk, i, 1, rfl, rfl, _, rfl, a, _, rfl, .inl (.inl (Same.new n1 _ _ ha)), fun p2 n2 => ?_⟩
    rw [ef]
    exact ⟨p1, p2, _, _, rfl, rfl, Same.new n2 _ _ upd_same, upd_same, by rw [List.length_map, List.length_map]; unfold sizeLine; omega, fun p3 n3 => go _ _ (by omega) p1 n1 p2 n2 p3 n3 (fun _ => rfl) fun z => absurd hc2 z⟩
  · have hc2 : ¬ (way : Int) = c := by simpa using hc
    refine ⟨_, hj, _, hk, i, 1, rfl, rfl, _, rfl, a, _, rfl, .inl (.inl ha), fun p1 n1 => ?_⟩
    rw [et]
    refine ⟨_, hj, _, hk, i, rfl, a, _, rfl, .inl (.inl (Same.new n1 _ _ ha)), fun p2 n2 => ?_⟩
    rw [cut_from]
    exact ⟨p1, p2, _, _, rfl, rfl, Same.new n2 _ _ upd_same, upd_same, by rw [List.length_map, List.length_map]; unfold sizeLine; omega, fun p3 n3 => go _ _ (by omega) p1 n1 p2 n2 p3 n3 (fun z => absurd z hc2) fun _ => rfl⟩
def oddL : List Str := ["", "0", "-1", "01", "1", "a", "A", "out", "-", "place", "way", "slip", "move", "count", "99", "shelf"]
theorem odd_len : ∀ x ∈ oddL, x.length ≤ 5 := by decide +kernel
def spSpoilt (K : PySem.W.Frag) : Sp := fun vs H Q _ => ∃ (f l : Addr) (t : Str), vs = [.ref f, .str t] ∧ t.length ≤ 1000000 ∧ FeedL H f l ∧ ∀ (t' : Str) H', t'.length ≤ 2 * t.length + 20 → But f H H' → FeedL H' f l → Q (.str t') H'
section
variable {P : Program} {w : World} {K : PySem.W.Frag} {mg : Str → Option Value} {base : Heap}
theorem sc_law_spoilt : FnScope ["_law_feed_here", "_law_text_in", "_law_lines", "_law_spot", "_law_way", "_law_words", "_law_odd", "_law_k", "_law_word", "_law_told", "_law_at", "_law_more"] ["_law_feed_here", "_law_text_in"] (defScope s_law_spoilt) := ⟨rfl, rfl, rfl, by decide +kernel, rfl, by decide +kernel, by decide +kernel⟩
theorem ok_law_spoilt (T : TX K mg) : Cal P w K mg base 2 "_law_spoilt" ["_law_feed_here", "_law_text_in"] (spSpoilt K) := by
  refine T.def_ i_law_spoilt (d := d_law_spoilt) rfl rfl sc_law_spoilt (fun _ _ _ _ _ _ us hl => match us, hl with | [_, _], _ => rfl) (by rintro vs H Q E ⟨f, l, b, rfl, _⟩; rfl) (fun f cdv A outer s H vs Q E hr h => ?_)
  obtain ⟨f, l, t, rfl, htl, hf, q⟩ := h
  have nd := sc_law_spoilt.nd
  refine ⟨_, (pss_cons (ps_set (i := 2) nd rfl (.inl rfl) (pe_split (pv 1) (pS nl_is)))
    (pss_cons (ps_par (i := 3) (j := 4) rfl nd rfl rfl (by decide) rfl rfl (pa_cons (pc (ok_law_draw T) hr passB (pa_cons (pv 0) (pa_cons (pe_callB call_len_seq rfl T.free boot_len (pa_cons (pv 2) pa_nil)) pa_nil))) (pa_cons (pc (ok_law_draw T) hr passB (pa_cons (pv 0) (pa_cons pe_int pa_nil))) pa_nil)) rfl)
    (pss_cons (ps_set (i := 5) nd rfl (.inl rfl) (pe_split (pe_ix ix_list (pv 2) (pv 3) (fun _ _ => rfl)) (pS sp_is)))
    (pss_cons (ps_set (i := 6) nd rfl (.inl rfl) (pe_lst (pa_cons pe_str (pa_cons pe_str (pa_cons pe_str (pa_cons pe_str (pa_cons pe_str (pa_cons pe_str (pa_cons pe_str (pa_cons pe_str (pa_cons pe_str (pa_cons pe_str (pa_cons pe_str (pa_cons pe_str (pa_cons pe_str (pa_cons pe_str (pa_cons pe_str (pa_cons pe_str pa_nil))))))))))))))))))
    (pss_cons (ps_par (i := 7) (j := 8) rfl nd rfl rfl (by decide) rfl rfl (pa_cons (pc (ok_law_draw T) hr passB (pa_cons (pv 0) (pa_cons (pe_callB call_len_seq rfl T.free boot_len (pa_cons (pv 5) pa_nil)) pa_nil))) (pa_cons (pe_ix ix_list (pv 6) (pc (ok_law_draw T) hr passB (pa_cons (pv 0) (pa_cons pe_int pa_nil))) (fun _ _ => rfl)) pa_nil)) rfl)
    (pss_cons (ps_joinR (ps_if (pt_cmpR op_lt (pv 4) pe_int (nomark _)) (pss_one (ps_asg (pv 8) (pg_sub (pv 5) (pv 7) set_list))) pss_nil))
    (pss_cons (ps_joinR (ps_if (pt_cmpR op_in_seq (pv 4) (pe_tup (pa_cons pe_int (pa_cons pe_int pa_nil))) rfl) (pss_one (ps_set (i := 5) nd rfl (.inl rfl) (pe_ifExp (pt_cmpR op_eq (pv 4) pe_int (nomark _)) (pe_op op_cat (pe_slice sl_list (pv 5) po_none (po_some (pv 7))) (pe_slice sl_list (pv 5) (po_some (pe_op op_add (pv 7) pe_int)) po_none)) (pe_op op_cat (pe_slice sl_list (pv 5) po_none (po_some (pe_op op_add (pv 7) pe_int))) (pe_slice sl_list (pv 5) (po_some (pv 7)) po_none))))) pss_nil))
    (pss_cons (ps_set (i := 9) nd rfl (.inl rfl) (pe_join (pS sp_is) (pv 5)))
    (pss_cons (ps_set (i := 10) nd rfl (.inl rfl) (pc (ok_law_draw T) hr passB (pa_cons (pv 0) (pa_cons (pe_op op_add (pe_callB call_len_str rfl T.free boot_len (pa_cons (pv 9) pa_nil)) pe_int) pa_nil))))
    (pss_cons (ps_joinR (ps_if (pt_cmpR op_in_seq (pv 4) (pe_tup (pa_cons pe_int (pa_cons pe_int (pa_cons pe_int pa_nil)))) rfl) (pss_cons (ps_set (i := 11) nd rfl (.inl rfl) (pe_joinE (pe_ifExp (pt_cmpR op_eq (pv 4) pe_int (nomark _)) pe_str (pe_ix ix_str pe_str (pc (ok_law_draw T) hr passB (pa_cons (pv 0) (pa_cons pe_int pa_nil))) (fun _ _ => rfl)))))
    (pss_one (ps_set (i := 9) nd rfl (.inl rfl) (pe_op op_add_str (pe_op op_add_str (pe_slice C8.sl_txt (pv 9) po_none (po_some (pv 10))) (pv 11)) (pe_slice C8.sl_txt (pv 9) (po_some (pe_op op_add (pv 10) (pe_callTy call_int1 rfl T.free boot_int (pa_cons (pe_cmpR op_lt (pv 4) pe_int (nomark _)) pa_nil)))) po_none))))) pss_nil))
    (pss_cons (ps_asg (pv 9) (pg_sub (pv 2) (pv 3) set_list))
    (pss_cons (ps_joinR (ps_if (pt_cmpR op_in_seq (pv 4) (pe_tup (pa_cons pe_int (pa_cons pe_int pa_nil))) rfl) (pss_one (ps_set (i := 2) nd rfl (.inl rfl) (pe_ifExp (pt_cmpR op_eq (pv 4) pe_int (nomark _)) (pe_op op_cat (pe_slice sl_list (pv 2) po_none (po_some (pv 3))) (pe_slice sl_list (pv 2) (po_some (pe_op op_add (pv 3) pe_int)) po_none)) (pe_op op_cat (pe_slice sl_list (pv 2) po_none (po_some (pe_op op_add (pv 3) pe_int))) (pe_slice sl_list (pv 2) (po_some (pv 3)) po_none))))) pss_nil))
    (pss_one (ps_ret (pe_join (pS nl_is) (pe_ifExp (pt_cmpR op_eq (pv 4) pe_int (nomark _)) (pe_revL (pv 2)) (pv 2))))))))))))))))), ?_⟩
  have hLt : Wt (linesOf t) = t.length + 1 := by
    have z := wt_join (s := nl) rfl (cut_ne 10 t)
    rw [show Str.join nl (cut 10 t) = t from cut_join 10 t] at z
    exact z.symm
  have hLn : 1 ≤ (linesOf t).length := List.length_pos_iff.mpr (cut_ne 10 t)
  have hLl : (linesOf t).length ≤ t.length + 1 := cut_count
  have hml : ((linesOf t).map V.str).length = (linesOf t).length := List.length_map ..
  refine ⟨_, rfl, ⟨_, rfl⟩, t, nl, rfl, rfl, rfl, by unfold sizeLine; omega, fun L nL => ?_⟩
  have b1 : But f H (upd H L (.lst ((Txt.split t nl).map V.str))) := .of (Same.new nL)
  have hf1 : FeedL (upd H L (.lst ((Txt.split t nl).map V.str))) f l := hf.same (Same.new nL)
  have gL1 : (upd H L (.lst ((Txt.split t nl).map V.str))) L = some (.lst ((linesOf t).map V.str)) := upd_same
  obtain ⟨hcells, ha, hb, hcc, hf0, hl0, _⟩ := id hf
  have hLf : L ≠ f := Ne.symm (ne_of_none hf0 nL)
  have hlL : l ≠ L := ne_of_none hl0 nL
  generalize upd H L (.lst ((Txt.split t nl).map V.str)) = H1 at b1 hf1 gL1 ⊢
  refine ⟨_, rfl, _, rfl, L, _, rfl, .inl (.inl (.inl gL1)), f, l, _, rfl, hf1, by omega, by omega, fun d1 H2 hd1 b2 hf2 => ⟨_, rfl, f, l, 12, rfl, hf2, by decide, by decide, fun d2 H3 hd2 b3 hf3 => ⟨_, _, rfl, ?_⟩⟩⟩
  have hd1l : d1 < (linesOf t).length := by omega
  have b13 := b1.trans (b2.trans b3)
  have gL3 : H3 L = some (.lst ((linesOf t).map V.str)) := b3 _ _ hLf (b2 _ _ hLf gL1)
  have hline : (linesOf t)[d1].length ≤ t.length := cut_len _ (List.getElem_mem hd1l)
  refine ⟨_, rfl, _, rfl, L, _, _, .str (linesOf t)[d1], rfl, rfl, .inl (.inl gL3), atI_nat (by simp [hd1l]), ⟨_, rfl⟩, _, sp, rfl, rfl, rfl, by unfold sizeLine; omega, fun Wd nW => ?_⟩
  have b4 : But f H (upd H3 Wd (.lst ((Txt.split (linesOf t)[d1] sp).map V.str))) := b13.trans (.of (Same.new nW))
  have hf4 : FeedL (upd H3 Wd (.lst ((Txt.split (linesOf t)[d1] sp).map V.str))) f l := hf3.same (Same.new nW)
  have gL4 := Same.new (o := HO.lst ((Txt.split (linesOf t)[d1] sp).map V.str)) nW _ _ gL3
  have gW4 : (upd H3 Wd (.lst ((Txt.split (linesOf t)[d1] sp).map V.str))) Wd = some (.lst ((wordsOf (linesOf t)[d1]).map V.str)) := upd_same
  have hWf : Wd ≠ f := by
    obtain ⟨kv, hk⟩ := hf3.dict
    exact Ne.symm (ne_of_none hk nW)
  have hlW : l ≠ Wd := by
    obtain ⟨_, _, _, _, _, z, _⟩ := hf3
    exact ne_of_none z nW
  have hLW : L ≠ Wd := ne_of_none gL3 nW
  have hWH : ∀ b o, b ≠ f → H b = some o → b ≠ Wd := fun b o hb h => ne_of_none (b13 b o hb h) nW
  have hLH : ∀ b o, b ≠ f → H b = some o → b ≠ L := fun b o hb h => ne_of_none h nL
  generalize upd H3 Wd (.lst ((Txt.split (linesOf t)[d1] sp).map V.str)) = H4 at b4 hf4 gL4 gW4 ⊢
  have hWt : Wt (wordsOf (linesOf t)[d1]) = (linesOf t)[d1].length + 1 := by
    have z := wt_join (s := sp) rfl (cut_ne 32 (linesOf t)[d1])
    rw [show Str.join sp (cut 32 (linesOf t)[d1]) = (linesOf t)[d1] from cut_join 32 _] at z
    exact z.symm
  have hWj : Str.join sp (wordsOf (linesOf t)[d1]) = (linesOf t)[d1] := cut_join 32 _
  have hWn : 1 ≤ (wordsOf (linesOf t)[d1]).length := List.length_pos_iff.mpr (cut_ne 32 _)
  have hWl : (wordsOf (linesOf t)[d1]).length ≤ (linesOf t)[d1].length + 1 := cut_count
  generalize hws : wordsOf (linesOf t)[d1] = ws at hWt hWj hWn hWl gW4
  have hmw : (ws.map V.str).length = ws.length := List.length_map ..
  refine ⟨Nat.le_of_ble_eq_true rfl, fun od nod => ?_⟩
  have b5 := b4.trans (.of (Same.new (o := HO.lst (oddL.map V.str)) nod))
  have hf5 := hf4.same (Same.new (o := HO.lst (oddL.map V.str)) nod)
  have gL5 := Same.new (o := HO.lst (oddL.map V.str)) nod _ _ gL4
  have gW5 := Same.new (o := HO.lst (oddL.map V.str)) nod _ _ gW4
  have god : (upd H4 od (.lst (oddL.map V.str))) od = some (.lst (oddL.map V.str)) := upd_same
  have hof : od ≠ f := by
    obtain ⟨kv, hk⟩ := hf4.dict
    exact Ne.symm (ne_of_none hk nod)
  refine ⟨_, rfl, _, rfl, Wd, _, rfl, .inl (.inl (.inl gW5)), f, l, _, rfl, hf5, by omega, by omega, fun d3 H6 hd3 b6 hf6 => ⟨_, rfl, _, rfl, f, l, 16, rfl, hf6, by decide, by decide, fun d4 H7 hd4 b7 hf7 => ?_⟩⟩
  have god7 : H7 od = some (.lst (oddL.map V.str)) := b7 _ _ hof (b6 _ _ hof god)
  have hd4l : d4 < oddL.length := by
    have : oddL.length = 16 := rfl
    omega
  refine ⟨od, _, _, .str oddL[d4], rfl, rfl, .inl (.inl god7), atI_nat (by simp [hd4l]), _, _, rfl, ?_⟩
  have hwl : oddL[d4].length ≤ 5 := odd_len _ (List.getElem_mem hd4l)
  generalize oddL[d4] = wo at hwl ⊢
  have b8 := b5.trans (b6.trans b7)
  have gL7 := b7 _ _ hLf (b6 _ _ hLf gL5)
  have gW7 := b7 _ _ hWf (b6 _ _ hWf gW5)
  have hd3l : d3 < ws.length := by omega
  have inV2 : ∀ (a : Nat) (x y : Int), inV (.int (a : Nat)) [.int x, .int y] = true ↔ ((a : Int) = x ∨ (a : Int) = y) := fun a x y => by
    unfold inV
    simp [eqV]
    omega
  have inV3 : ∀ (a : Nat) (x y z : Int), inV (.int (a : Nat)) [.int x, .int y, .int z] = true ↔ ((a : Int) = x ∨ (a : Int) = y ∨ (a : Int) = z) := fun a x y z => by
    unfold inV
    simp [eqV]
    omega
  refine ⟨fun σ G => ∃ ws', σ = [some (.ref f), some (.str t), some (.ref L), some (.int (d1 : Nat)), some (.int (d2 : Nat)), some (.ref Wd), some (.ref od), some (.int (d3 : Nat)), some (.str wo), none, none, none] ∧ But f H G ∧ FeedL G f l ∧ G L = some (.lst ((linesOf t).map V.str)) ∧ G Wd = some (.lst (ws'.map V.str)) ∧ ws'.length = ws.length ∧ Wt ws' ≤ Wt ws + 5 ∧ (3 ≤ d2 → ws' = ws), ?_, ?_⟩
  rotate_left
  · refine ⟨_, rfl, _, _, rfl, rfl, _, rfl, ite2 (fun h => ⟨_, rfl, _, rfl, _, rfl, Wd, _, d3, d3, rfl, rfl, gW7, by rw [hmw]; exact ixN_nat hd3l, ws.set d3 wo, rfl, ?_, ?_, ?_, ?_, ?_, ?_, ?_⟩) fun h => ⟨ws, rfl, b8, hf7, gL7, gW7, rfl, by omega, fun _ => rfl⟩⟩
    · exact fun b o hb h => by rw [upd_ne (hWH b o hb h)]; exact b8 b o hb h
    · exact hf7.keep (fun o h => by rw [upd_ne (Ne.symm hWf)]; exact h) fun o h => by rw [upd_ne hlW]; exact h
    · rw [upd_ne hLW]; exact gL7
    · rw [upd_same, List.map_set]
    · exact List.length_set ..
    · have := wt_set hd3l wo
      omega
    · intro h3
      exfalso
      have := of_decide_eq_true h
      omega
  rintro σ G ⟨ws', rfl, bG, fG, gL, gW, hl', hw', h3⟩
  clear gL7 gW7 b8 hf7 god god7 gL5 gW5 hf5 b5 gL4 gW4 hf4 b4 gL3 hf3
  refine ⟨fun σ G => ∃ (wd : Addr) (ws2 : List Str), σ = [some (.ref f), some (.str t), some (.ref L), some (.int (d1 : Nat)), some (.int (d2 : Nat)), some (.ref wd), some (.ref od), some (.int (d3 : Nat)), some (.str wo), none, none, none] ∧ But f H G ∧ FeedL G f l ∧ G L = some (.lst ((linesOf t).map V.str)) ∧ G wd = some (.lst (ws2.map V.str)) ∧ Wt ws2 ≤ 2 * Wt ws + 5 ∧ (5 ≤ d2 → ws2 = ws), ?_, ?_⟩
  rotate_left
  · refine ⟨_, rfl, Nat.le_of_ble_eq_true rfl, fun p np => ⟨p, _, rfl, .inr (.inl (.inl upd_same)), rfl, rfl, _, rfl, ite2 (fun h => ?_) fun h => ⟨Wd, ws', rfl, bG.trans (.of (Same.new np)), fG.same (Same.new np), Same.new np _ _ gL, Same.new np _ _ gW, by omega, fun h5 => h3 (by omega)⟩⟩⟩
    have hd34 := (inV2 d2 3 4).mp h
    have hws' := h3 (by omega)
    subst hws'
    refine cut_rd (K := K) (j := 5) (k := 7) (i := d3) (way := d2) (c := 3) (l := ws') rfl rfl rfl (Same.new np _ _ gW) hd3l (by omega) fun r a G2 e ga h1 h2 => ⟨a, r, rfl, (bG.trans (.of (Same.new np))).trans (.of e), (fG.same (Same.new np)).same e, e _ _ (Same.new np _ _ gL), ga, ?_, fun h5 => by omega⟩
    by_cases hc : (d2 : Int) = 3
    · rw [h1 hc]
      have := wt_less hd3l
      omega
    · rw [h2 hc, wt_more hd3l]
      have := wt_mem hd3l
      omega
  clear gL gW fG bG
  rintro σ G ⟨wd, ws2, rfl, bG, fG, gL, gW, hw2, h5⟩
  refine ⟨⟨_, rfl⟩, _, rfl, sp, wd, ws2, rfl, rfl, .inl (.inl (.inl gW)), ?_, ?_⟩
  · have := wt_sum ws2
    have e1 : sp.length = 1 := rfl
    rw [e1]
    omega
  rw [join_txt]
  have ht1 := wt_le (s := sp) rfl ws2
  have ht5 : 5 ≤ d2 → Str.join sp ws2 = (linesOf t)[d1] := fun h => by rw [h5 h, hWj]
  generalize Str.join sp ws2 = told at ht1 ht5 ⊢
  refine ⟨_, rfl, _, rfl, told, rfl, by unfold sizeLine; omega, _, 1, rfl, rfl, f, l, _, rfl, fG, by omega, by omega, fun d5 G2 hd5 b9 hf9 => ?_⟩
  have bG2 := bG.trans b9
  have gL2 := b9 _ _ hLf gL
  clear gL gW fG bG
  refine ⟨fun σ G => ∃ (td : Str) (o11 : Option V), σ = [some (.ref f), some (.str t), some (.ref L), some (.int (d1 : Nat)), some (.int (d2 : Nat)), some (.ref wd), some (.ref od), some (.int (d3 : Nat)), some (.str wo), some (.str td), some (.int (d5 : Nat)), o11] ∧ But f H G ∧ FeedL G f l ∧ G L = some (.lst ((linesOf t).map V.str)) ∧ td.length ≤ 2 * (linesOf t)[d1].length + 7 ∧ (8 ≤ d2 → td = (linesOf t)[d1]), ?_, ?_⟩
  rotate_left
  · refine ⟨_, rfl, Nat.le_of_ble_eq_true rfl, fun p np => ⟨p, _, rfl, .inr (.inl (.inl upd_same)), rfl, rfl, _, rfl, ite2 (fun h => ?_) fun h => ⟨told, none, rfl, bG2.trans (.of (Same.new np)), hf9.same (Same.new np), Same.new np _ _ gL2, by omega, fun h8 => ht5 (by omega)⟩⟩⟩
    have hd567 := (inV3 d2 5 6 7).mp h
    have htl5 : told.length = (linesOf t)[d1].length := by rw [ht5 (by omega)]
    refine ⟨fun v G => ∃ m : Str, v = .str m ∧ m.length ≤ 1 ∧ But f H G ∧ FeedL G f l ∧ G L = some (.lst ((linesOf t).map V.str)), ?_, ?_⟩
    rotate_left
    · refine ⟨_, rfl, rfl, _, rfl, ite2 (fun _ => ⟨_, rfl, Nat.le_of_ble_eq_true rfl, bG2.trans (.of (Same.new np)), hf9.same (Same.new np), Same.new np _ _ gL2⟩) fun _ => ⟨_, rfl, f, l, 7, rfl, hf9.same (Same.new np), by decide, by decide, fun d6 G3 hd6 b10 hf10 => ?_⟩⟩
      have b11 := (bG2.trans (.of (Same.new np))).trans b10
      have gL3 := b10 _ _ hLf (Same.new np _ _ gL2)
      have hd67 : d6 < 7 := by omega
      refine ⟨_, d6, ([32, 45, 48, 49, 97, 10, 65] : List Nat).getD d6 0, rfl, rfl, Nat.le_of_ble_eq_true rfl, ?_, _, rfl, Nat.le_of_ble_eq_true rfl, b11, hf10, gL3⟩
      have e0 : (" -01a\nA" : Str).cps.toList = [32, 45, 48, 49, 97, 10, 65] := by decide +kernel
      rw [e0]
      refine atI_nat ?_
      match d6, hd67 with
      | 0, _ => rfl
      | 1, _ => rfl
      | 2, _ => rfl
      | 3, _ => rfl
      | 4, _ => rfl
      | 5, _ => rfl
      | 6, _ => rfl
    rintro v G3 ⟨m, rfl, hm1, b12, f12, gL12⟩
    have s1 := slice_pre told d5
    refine ⟨_, rfl, _, rfl, d5, rfl, told, rfl, by unfold sizeLine; omega, _, rfl, _, _, rfl, rfl, by unfold sizeLine; omega, _, rfl, _, rfl, _, rfl, _, _, rfl, rfl, .inr ⟨_, rfl, _, _, rfl, rfl, _, rfl, told, rfl, by unfold sizeLine; omega, _, _, rfl, rfl, ?_, _, _, rfl, b12, f12, gL12, ?_, fun h8 => by omega⟩⟩
    · have s2 := slice_suf told ((d5 : Int) + (if decide ((d2 : Int) < 7) = true then 1 else 0)) (by split <;> omega)
      have hx : told.length ≤ 1000000 := by omega
      simp only [len_l, app_l, List.length_append] at s1 s2 hm1 hx ⊢
      unfold sizeLine
      omega
    · have s2 := slice_suf told ((d5 : Int) + (if decide ((d2 : Int) < 7) = true then 1 else 0)) (by split <;> omega)
      simp only [len_l, app_l, List.length_append] at s1 s2 hm1 htl5 ⊢
      omega
  clear bG2 gL2 hf9
  rintro σ G ⟨td, o11, rfl, bG, fG, gL, htd, ht8⟩
  refine ⟨_, rfl, _, rfl, _, rfl, L, _, d1, d1, rfl, rfl, gL, by rw [hml]; exact ixN_nat hd1l, ?_⟩
  have b13 : But f H (upd G L (.lst (((linesOf t).map V.str).set d1 (.str td)))) := fun b o hb h => by rw [upd_ne (hLH b o hb h)]; exact bG b o hb h
  have f13 : FeedL (upd G L (.lst (((linesOf t).map V.str).set d1 (.str td)))) f l := fG.keep (fun o h => by rw [upd_ne (Ne.symm hLf)]; exact h) fun o h => by rw [upd_ne hlL]; exact h
  have g13 : (upd G L (.lst (((linesOf t).map V.str).set d1 (.str td)))) L = some (.lst (((linesOf t).set d1 td).map V.str)) := by rw [upd_same, List.map_set]
  generalize upd G L (.lst (((linesOf t).map V.str).set d1 (.str td))) = G4 at b13 f13 g13 ⊢
  have hset := wt_set hd1l td
  have hsl : ((linesOf t).set d1 td).length = (linesOf t).length := List.length_set ..
  refine ⟨fun σ G => ∃ (L2 : Addr) (l2 : List Str), σ = [some (.ref f), some (.str t), some (.ref L2), some (.int (d1 : Nat)), some (.int (d2 : Nat)), some (.ref wd), some (.ref od), some (.int (d3 : Nat)), some (.str wo), some (.str td), some (.int (d5 : Nat)), o11] ∧ But f H G ∧ FeedL G f l ∧ G L2 = some (.lst (l2.map V.str)) ∧ Wt l2 ≤ 2 * t.length + 20, ?_, ?_⟩
  rotate_left
  · refine ⟨_, rfl, Nat.le_of_ble_eq_true rfl, fun p np => ⟨p, _, rfl, .inr (.inl (.inl upd_same)), rfl, rfl, _, rfl, ite2 (fun h => ?_) fun h => ⟨L, _, rfl, b13.trans (.of (Same.new np)), f13.same (Same.new np), Same.new np _ _ g13, by omega⟩⟩⟩
    have hd89 := (inV2 d2 8 9).mp h
    have htl8 := congrArg Str.length (ht8 (by omega))
    refine cut_rd (K := K) (j := 2) (k := 3) (i := d1) (way := d2) (c := 8) (l := (linesOf t).set d1 td) rfl rfl rfl (Same.new np _ _ g13) (by omega) (by omega) fun r a G2 e ga h1 h2 => ⟨a, r, rfl, (b13.trans (.of (Same.new np))).trans (.of e), (f13.same (Same.new np)).same e, ga, ?_⟩
    have hd1s : d1 < ((linesOf t).set d1 td).length := by omega
    by_cases hc : (d2 : Int) = 8
    · rw [h1 hc]
      have := wt_less hd1s
      omega
    · rw [h2 hc, wt_more hd1s]
      have := wt_mem hd1s
      omega
  rintro σ G5 ⟨L2, l2, rfl, b15, f15, g15, hw15⟩
  have hsum : ∀ x : List Str, Wt x ≤ 2 * t.length + 20 → (x.map (·.length)).sum + x.length * nl.length ≤ 16777216 := fun x hx => by
    have := wt_sum x
    have e1 : nl.length = 1 := rfl
    rw [e1]
    omega
  refine ⟨⟨_, rfl⟩, _, rfl, rfl, _, rfl, ite2 (fun _ => ⟨_, rfl, L2, _, rfl, .inl (.inl g15), fun p np => ⟨nl, p, l2.reverse, rfl, rfl, .inl (.inl (.inl (by rw [upd_same, List.map_reverse]))), hsum _ (by rw [wt_rev]; exact hw15), ?_⟩⟩) fun _ => ⟨_, rfl, nl, L2, l2, rfl, rfl, .inl (.inl (.inl g15)), hsum _ hw15, ?_⟩⟩
  · rw [join_txt]
    have := wt_le (s := nl) rfl l2.reverse
    rw [wt_rev] at this
    exact q _ _ (by omega) (b15.trans (.of (Same.new np))) (f15.same (Same.new np))
  · rw [join_txt]
    have := wt_le (s := nl) rfl l2
    exact q _ _ (by omega) b15 f15

end
end K12

/-! isinstance of a caught exception that has its own dict. -/
namespace K12
open PySem PySem.Spec PySem.Calls PyProof.Rows
section
variable {prog : Program} {w : World} {A : Around} {E : Value → Shared → Prop} {s : Shared} {K : PySem.W.Frag} {x D : Addr} {ox od : Obj}
theorem class_exc {Q : Option Value → Shared → Prop} (C : L2.ExcC K D) (X : K.In s.heap) (I : PySem.W.InstAt s.heap x ox D (some od)) (h : Q (some (.ref D)) { s with toks := s.toks + 1 }) : wpAny (model prog w) A (getAttr? (.ref x) "__class__") Q E s := by
  have hcl : (PySem.W.clsIn K D).isSome = true := by
    obtain ⟨cd, hc, _⟩ := PySem.W.any_some C.hd
    rw [hc]
    rfl
  have hfo : PySem.W.findObj K D (some od) "__class__" = some (.bind (.builtin "getset_descriptor.__get__") (.builtin "object.__class__")) := PySem.W.findObj_data hcl C.ha C.hn C.ht
  obtain ⟨hp, g, dr, tk, os⟩ := s
  have la := I.type (M := model prog w)
  have lb := PySem.W.looks_findIn (M := model prog w) X C.hg
  have lc := PySem.W.looks_findIn (M := model prog w) X C.hk
  have ld := PySem.W.looks_find (M := model prog w) X I hfo
  have isB : PySem.W.Looks (model prog w) hp (isInstance (.ref x) (.type "BaseException")) true := la.andThen (PySem.W.looks_subIn X C.hs)
  have h1 : (Value.builtin "BaseException.__getattribute__" == Value.builtin "object.__getattribute__") = false := by decide +kernel
  have h2 : (onTheHeap (Value.ref D) && Value.builtin "BaseException.__getattribute__" == Value.builtin "object.__getattribute__") = false := by
    rw [h1]
    rfl
  unfold getAttr? getAttrBy? getAttrBy
  refine wpAny_bind (wpAny_mkText (wpAny_bind (wpAny_attempt (wpAny_holding (wpAny_bind (la.at (wpAny_bind (lb.at ?_))))))))
  show wpAny _ _ (if (onTheHeap (Value.ref D) && Value.builtin "BaseException.__getattribute__" == Value.builtin "object.__getattribute__") = true then _ else _) _ _ _
  rw [h2, if_neg Bool.false_ne_true]
  unfold getAttrByItsOwn hookBefore
  refine wpAny_bind ?_
  have h3 : onTheHeap (Value.ref D) = true := rfl
  rw [if_pos h3]
  refine lc.at ?_
  refine wpAny_bind (wpAny_attempt (wpAny_holding ?_))
  unfold callGetattribute
  rw [if_neg (show ¬ (false && onTheHeap (Value.builtin "BaseException.__getattribute__")) = true from Bool.false_ne_true)]
  unfold boundAndCalled
  rw [PySem.F.excAttr_ValueError.ga.bind (.ref x)]
  refine wpAny_bind (wpAny_pure ?_)
  show wpAny _ _ (call (.builtin "BaseException.__getattribute__") [.ref x, .str "__class__" tk]) _ _ _
  refine wpAny_call (codeAny_call_builtin PySem.F.excAttr_ValueError.ga.plain PySem.F.entry_bexc_ga ?_)
  refine @PySem.W.check_slot (model prog w) _ _ ⟨hp, g, dr, tk + 1, os⟩ "BaseException.__getattribute__" "BaseException" "__getattribute__" (.ref x) [.str "__class__" tk] [] _ (by decide +kernel) (by decide +kernel) isB (PySem.F.args_bexc_ga (.ref x) (.str "__class__" tk)) ?_
  unfold Builtin.«object.__getattribute__»
  refine wpAny_bind (wpAny_of_eq (a := ((Value.ref x : Value), [Value.str "__class__" tk])) (by first | rfl | (simp only [slotArgs]; rfl)) ?_)
  refine wpAny_bind (wpAny_pure (wpAny_bind (la.at (wpAny_bind (ld.at ?_)))))
  show wpAny _ _ (holding [Value.builtin "object.__class__"] (call (.builtin "getset_descriptor.__get__") [.builtin "object.__class__", .ref x, .ref D]) >>= ret) _ _ _
  refine wpAny_bind (wpAny_holding (wpAny_call (PySem.W.class_get (s := ⟨hp, g, dr, tk + 1, os⟩) (ox := ox) (od := some od) X I C.hm (wpAny_pure ?_))))
  show wpAny _ _ (handedOut (.ref D)) _ _ _
  rw [PySem.W.handedOut_of (v := .ref D) rfl]
  first
    | exact wpAny_pure (wpAny_pure h)
    | exact wpAny_pure h
    | exact wpAny_pure (wpAny_bind (wpAny_pure (wpAny_pure h)))
theorem kit_exc (C : L2.ExcC K D) : PySem.W.KitX K (.ref x) (.ref D) (fun h => PySem.W.InstAt h x ox D (some od)) where
  ty := fun _ _ _ I => I.type
  it := fun _ _ X _ => by
    obtain ⟨cd, hc, _⟩ := PySem.W.any_some C.hd
    unfold PySem.W.clsIn at hc
    split at hc
    · rename_i _ _ _ _ hk
      intro _ _ _ z k q
      unfold isType loadHead
      exact wpAny_bind (wpAny_loadPart (k _ _ (X _ _ hk)) (wpAny_pure q))
    · cases hc
  ne := (PySem.W.handS_kitx_exc (x := x) (ox := ox) C.hg C.hk C.hs C.hd C.ha C.hn C.ht C.hm).ne
  ca := fun X I k => class_exc C X I k
end
open L2 in
/-- isinstance(e, c), e the exception that the suite holds, its dict at d -/
def rIsD (K : PySem.W.Frag) (cls : Value) (d : Option Addr) (a : Addr) : List V → Hp → VK → Prop := fun xs H Q => ∃ (D : Addr) (c : V) (cv : Value) (b : Bool) (dd : Addr) (fs : List (Str × V)), xs = [.ref a, c] ∧ cls = .ref D ∧ ExcC K D ∧ d = some dd ∧ H dd = some (.xd fs) ∧ (∀ u, L2.RelV c u → u = cv) ∧ PySem.W.kitOne K (.ref D) cv = some b ∧ Q (.bl b) H
open L2 in
theorem call_isD {X : Cx} {a : Addr} {cls : Value} {d : Option Addr} {oe : Obj} {pn : List (Addr × Obj)} (hz : Zc cls d oe) (hf : ∃ vs, oe.data = .fields vs) : CallR (X.suite a ((a, oe) :: pn)) (.builtin "isinstance") (rIsD X.K cls d a) := by
  intro pins s σ H xs us Q I r h
  obtain ⟨D, c, cv, b, dd, fs, rfl, rfl, C, rfl, hxd, hcv, e, q⟩ := h
  cases r with
  | cons rx rr =>
    cases rr with
    | cons rt rr =>
      cases rr
      cases rx
      have ec := hcv _ rt
      subst ec
      obtain ⟨ha, _⟩ := I.pin (a, oe) (List.mem_append.mpr (.inl List.mem_cons_self))
      obtain ⟨vs, hv⟩ := hf
      have hx : ObjOk X.prog X.w H s.heap dd (.xd fs) := I.hok dd _ hxd
      obtain ⟨mA, hns, hr⟩ := hx
      obtain ⟨od, ho, hl⟩ := lookIn_ns hns
      have J : PySem.W.InstAt s.heap a oe D (some od) := ⟨ha, hz.1, by unfold PySem.W.notCls; rw [hv] <;> rfl, by rw [hz.2]; exact ho⟩
      exact PySem.W.kia_one (kit_exc C) I.kIn J e (fun z => nomatch z) fun tk => ⟨.bl b, H, I.kept (t' := tk) fun _ _ z => z, rfl, q⟩
end K12

/-! _law_heard: what a call told, or how it failed. -/
namespace K12
open PySem PySem.Spec PyProof.Rows L2
theorem takes_len {X : Cx} {W : WX} (t : L2.Takes X W) : L2.Takes X (fun c d σ H => σ.length = X.N.length → W c d σ H) := fun u s' ⟨a, B, sI, pn, σ, H, cls, d, e, I, nb, up, sky, na, os, ag, w⟩ => t u s' ⟨a, B, sI, pn, σ, H, cls, d, e, I, nb, up, sky, na, os, ag, w I.len⟩
/-- what the top leaves of the errors -/
structure TH (P : Program) (K : PySem.W.Frag) (mg : Str → Option Value) : Prop where
  tb : TB P K mg
  exT : ExcC K (cTx K)
  exP : ExcC K (cPa K)
  xfT : XfC K (cTx K)
  xfP : XfC K (cPa K)
  noT : PySem.W.findIn K (.ref (cTx K)) "line" = some none ∧ PySem.W.findIn K (.ref (cTx K)) "field" = some none
  noP : PySem.W.findIn K (.ref (cPa K)) "word" = some none ∧ PySem.W.findIn K (.ref (cPa K)) "at" = some none
  kT : ∀ x b, (x, b) ∈ ([("PaperError", false), ("BookError", false), ("StoreError", false), ("TextError", true), ("InvalidPaper", false), ("InvalidText", true), ("InvalidRow", false)] : List (Str × Bool)) → PySem.W.kitOne K (.ref (cTx K)) (.ref (He.ga K x)) = some b
  kP : ∀ x b, (x, b) ∈ ([("PaperError", true), ("BookError", false), ("StoreError", false), ("TextError", false), ("InvalidPaper", true)] : List (Str × Bool)) → PySem.W.kitOne K (.ref (cPa K)) (.ref (He.ga K x)) = some b
  xm : PySem.W.exmOne K (.ref (cTx K)) (.ref (He.ga K "UnbookedError")) = some true ∧ PySem.W.exmOne K (.ref (cPa K)) (.ref (He.ga K "UnbookedError")) = some true
abbrev Nh : List Str := ["_law_ask", "e_in", "_law_families", "_law_good"]
/-- what is made of a failure -/
def heardE (K : PySem.W.Frag) (Q : VK) : XK := fun cls d H1 => ∃ dd, d = some dd ∧ ((∃ l f : Int, cls = .ref (cTx K) ∧ H1 dd = some (.xd [("field", .int f), ("line", .int l)]) ∧ ∀ p G, Same H1 G → G p = some (.tup [.str "text", .int l, .int f]) → Q (.ref p) G) ∨
  ∃ (w : Str) (k : Int), cls = .ref (cPa K) ∧ H1 dd = some (.xd [("at", .int k), ("word", .str w)]) ∧ ∀ p G, Same H1 G → G p = some (.tup [.str "paper", .str w, .int k]) → Q (.ref p) G)
def TTh (K : PySem.W.Frag) : (XK → Hp → VK → Prop) → Hp → VK → Prop := fun tl H Q => tl (heardE K Q) H fun v H1 => [V.str "told", v].length ≤ sizeLine ∧ ∀ p, H1 p = none → Q (.ref p) (upd H1 p (.tup [.str "told", v]))
abbrev suiteH : List Stmt := match defBody s_law_heard with
  | [.Try _ [.ExceptHandler _ _ b _] _ _ _] => b
  | _ => []
theorem heard_suite {X : Cx} (Y : TH X.prog X.K X.mg) {g a : Addr} {cdg cls : Value} {d : Option Addr} {s : Shared} {H : Hp} {oe : Obj} {pn : List (Addr × Obj)} (hu : X.A.units + 200 < cLine) (hz : Zc cls d oe) (hvs : ∃ vs, oe.data = .fields vs) :
    PSs ((cxOf C8.CX0 X.prog X.w X.K X.mg X.base Nh "_law_heard" (defScope s_law_heard) g cdg X.A X.stack s H C8.E0).nox.suite a ((a, oe) :: pn)) suiteH (fun D σ H => σ[1]? = some (some (.ref a)) ∧ σ.length = 4 ∧ heardE X.K D.rt cls d H) := by
  refine ⟨fun pins s1 σ1 H1 D I h => ?_⟩
  have T := Y.tb.ty.tx
  have S : FnScope Nh ["_law_ask"] (defScope s_law_heard) := ⟨rfl, rfl, rfl, by decide +kernel, rfl, by decide +kernel, by decide +kernel⟩
  have nd := S.nd
  have hu : X.A.units + 3 + 64 < cLine := by omega
  have hS : ∃ t, PSs ((cxOf C8.CX0 X.prog X.w X.K X.mg X.base Nh "_law_heard" (defScope s_law_heard) g cdg X.A X.stack s H C8.E0).nox.suite a ((a, oe) :: pn)) suiteH t ∧ t D σ1 H1 := by
    refine ⟨_, (pss_cons (ps_set (i := 2) nd rfl (.inl rfl) (pe_lst (pa_cons (pe_callB (X := Cx.suite (cxOf C8.CX0 X.prog X.w X.K X.mg X.base Nh "_law_heard" (defScope s_law_heard) g cdg X.A X.stack s H C8.E0).nox a ((a, oe) :: pn)) (call_isD (X := (cxOf C8.CX0 X.prog X.w X.K X.mg X.base Nh "_law_heard" (defScope s_law_heard) g cdg X.A X.stack s H C8.E0).nox) (a := a) (pn := pn) hz hvs) rfl T.free boot_isi (pa_cons (pv 1) (pa_cons (gR (T.glo (x := "PaperError"))) pa_nil))) (pa_cons (pe_callB (X := Cx.suite (cxOf C8.CX0 X.prog X.w X.K X.mg X.base Nh "_law_heard" (defScope s_law_heard) g cdg X.A X.stack s H C8.E0).nox a ((a, oe) :: pn)) (call_isD (X := (cxOf C8.CX0 X.prog X.w X.K X.mg X.base Nh "_law_heard" (defScope s_law_heard) g cdg X.A X.stack s H C8.E0).nox) (a := a) (pn := pn) hz hvs) rfl T.free boot_isi (pa_cons (pv 1) (pa_cons (gR (T.glo (x := "BookError"))) pa_nil))) pa_nil))))
    (pss_cons (ps_expr (pe_bm PySem.F.plainAttrs_list PySem.F.slot_list_extend PySem.F.type_list_extend mt_extend (pv 2) (pa_cons (pe_lst (pa_cons (pe_callB (X := Cx.suite (cxOf C8.CX0 X.prog X.w X.K X.mg X.base Nh "_law_heard" (defScope s_law_heard) g cdg X.A X.stack s H C8.E0).nox a ((a, oe) :: pn)) (call_isD (X := (cxOf C8.CX0 X.prog X.w X.K X.mg X.base Nh "_law_heard" (defScope s_law_heard) g cdg X.A X.stack s H C8.E0).nox) (a := a) (pn := pn) hz hvs) rfl T.free boot_isi (pa_cons (pv 1) (pa_cons (gR (T.glo (x := "StoreError"))) pa_nil))) (pa_cons (pe_callB (X := Cx.suite (cxOf C8.CX0 X.prog X.w X.K X.mg X.base Nh "_law_heard" (defScope s_law_heard) g cdg X.A X.stack s H C8.E0).nox a ((a, oe) :: pn)) (call_isD (X := (cxOf C8.CX0 X.prog X.w X.K X.mg X.base Nh "_law_heard" (defScope s_law_heard) g cdg X.A X.stack s H C8.E0).nox) (a := a) (pn := pn) hz hvs) rfl T.free boot_isi (pa_cons (pv 1) (pa_cons (gR (T.glo (x := "TextError"))) pa_nil))) pa_nil))) pa_nil)))
    (pss_cons (ps_if (PW.pt (pw_and (pt_cmpR (op_eqD hu) (pv 2) (pe_lst (pa_cons pe_bl (pa_cons pe_bl (pa_cons pe_bl (pa_cons pe_bl pa_nil))))) (nomark _)) (pw_and1 (pt_val (pe_callB (X := Cx.suite (cxOf C8.CX0 X.prog X.w X.K X.mg X.base Nh "_law_heard" (defScope s_law_heard) g cdg X.A X.stack s H C8.E0).nox a ((a, oe) :: pn)) (call_isD (X := (cxOf C8.CX0 X.prog X.w X.K X.mg X.base Nh "_law_heard" (defScope s_law_heard) g cdg X.A X.stack s H C8.E0).nox) (a := a) (pn := pn) hz hvs) rfl T.free boot_isi (pa_cons (pv 1) (pa_cons (gR (T.glo (x := "InvalidPaper"))) pa_nil))))))) (pss_one (ps_ret (pe_tup (pa_cons pe_str (pa_cons (pe_xf (X := (cxOf C8.CX0 X.prog X.w X.K X.mg X.base Nh "_law_heard" (defScope s_law_heard) g cdg X.A X.stack s H C8.E0).nox) (a := a) (pn := pn) Y.xfP Y.noP.1 hz hvs (pv 1)) (pa_cons (pe_xf (X := (cxOf C8.CX0 X.prog X.w X.K X.mg X.base Nh "_law_heard" (defScope s_law_heard) g cdg X.A X.stack s H C8.E0).nox) (a := a) (pn := pn) Y.xfP Y.noP.2 hz hvs (pv 1)) pa_nil)))))) pss_nil)
    (pss_cons (ps_if (pt_cmpR (op_eqD hu) (pv 2) (pe_lst (pa_cons pe_bl (pa_cons pe_bl (pa_cons pe_bl (pa_cons pe_bl pa_nil))))) (nomark _)) (pss_cons (ps_set (i := 3) nd rfl (.inl rfl) (pe_and (pe_callB (X := Cx.suite (cxOf C8.CX0 X.prog X.w X.K X.mg X.base Nh "_law_heard" (defScope s_law_heard) g cdg X.A X.stack s H C8.E0).nox a ((a, oe) :: pn)) (call_isD (X := (cxOf C8.CX0 X.prog X.w X.K X.mg X.base Nh "_law_heard" (defScope s_law_heard) g cdg X.A X.stack s H C8.E0).nox) (a := a) (pn := pn) hz hvs) rfl T.free boot_isi (pa_cons (pv 1) (pa_cons (gR (T.glo (x := "InvalidText"))) pa_nil))) (pe_one (pe_not (pe_callB (X := Cx.suite (cxOf C8.CX0 X.prog X.w X.K X.mg X.base Nh "_law_heard" (defScope s_law_heard) g cdg X.A X.stack s H C8.E0).nox a ((a, oe) :: pn)) (call_isD (X := (cxOf C8.CX0 X.prog X.w X.K X.mg X.base Nh "_law_heard" (defScope s_law_heard) g cdg X.A X.stack s H C8.E0).nox) (a := a) (pn := pn) hz hvs) rfl T.free boot_isi (pa_cons (pv 1) (pa_cons (gR (T.glo (x := "InvalidRow"))) pa_nil)))))))
    (pss_one (ps_ret (pe_ifExp (pt_val (pv 3)) (pe_tup (pa_cons pe_str (pa_cons (pe_xf (X := (cxOf C8.CX0 X.prog X.w X.K X.mg X.base Nh "_law_heard" (defScope s_law_heard) g cdg X.A X.stack s H C8.E0).nox) (a := a) (pn := pn) Y.xfT Y.noT.1 hz hvs (pv 1)) (pa_cons (pe_xf (X := (cxOf C8.CX0 X.prog X.w X.K X.mg X.base Nh "_law_heard" (defScope s_law_heard) g cdg X.A X.stack s H C8.E0).nox) (a := a) (pn := pn) Y.xfT Y.noT.2 hz hvs (pv 1)) pa_nil)))) (pe_tup (pa_cons pe_str pa_nil)))))) pss_nil)
    (pss_cons (ps_if (PW.pt (pw_or (pt_cmpR (op_neD hu) (pv 2) (pe_lst (pa_cons pe_bl (pa_cons pe_bl (pa_cons pe_bl (pa_cons pe_bl pa_nil))))) (nomark _)) (pw_or1 (pt_val (pe_callB (X := Cx.suite (cxOf C8.CX0 X.prog X.w X.K X.mg X.base Nh "_law_heard" (defScope s_law_heard) g cdg X.A X.stack s H C8.E0).nox a ((a, oe) :: pn)) (call_isD (X := (cxOf C8.CX0 X.prog X.w X.K X.mg X.base Nh "_law_heard" (defScope s_law_heard) g cdg X.A X.stack s H C8.E0).nox) (a := a) (pn := pn) hz hvs) rfl T.free boot_isi (pa_cons (pv 1) (pa_cons (gR (T.glo (x := "NoTale"))) pa_nil))))))) (pss_one (ps_ret (pe_tup (pa_cons pe_str pa_nil)))) pss_nil)
    (pss_one (ps_ret (pe_ifExp (pt_val (pe_callB (X := Cx.suite (cxOf C8.CX0 X.prog X.w X.K X.mg X.base Nh "_law_heard" (defScope s_law_heard) g cdg X.A X.stack s H C8.E0).nox a ((a, oe) :: pn)) (call_isD (X := (cxOf C8.CX0 X.prog X.w X.K X.mg X.base Nh "_law_heard" (defScope s_law_heard) g cdg X.A X.stack s H C8.E0).nox) (a := a) (pn := pn) hz hvs) rfl T.free boot_isi (pa_cons (pv 1) (pa_cons (gR (T.glo (x := "NotUsable"))) pa_nil)))) (pe_tup (pa_cons pe_str (pa_cons (pe_xf (X := (cxOf C8.CX0 X.prog X.w X.K X.mg X.base Nh "_law_heard" (defScope s_law_heard) g cdg X.A X.stack s H C8.E0).nox) (a := a) (pn := pn) Y.xfP Y.noP.1 hz hvs (pv 1)) (pa_cons (pe_xf (X := (cxOf C8.CX0 X.prog X.w X.K X.mg X.base Nh "_law_heard" (defScope s_law_heard) g cdg X.A X.stack s H C8.E0).nox) (a := a) (pn := pn) Y.xfP Y.noP.2 hz hvs (pv 1)) pa_nil)))) (pe_tup (pa_cons pe_str pa_nil)))))))))), ?_⟩
    obtain ⟨h1, hl, dd, rfl, h⟩ := h
    obtain ⟨x0, x1, x2, x3, rfl⟩ : ∃ x0 x1 x2 x3, σ1 = [x0, x1, x2, x3] := by
      match σ1, hl with
      | [x0, x1, x2, x3], _ => exact ⟨x0, x1, x2, x3, rfl⟩
    cases h1
    have four : ∀ {G : Hp} {L : Addr} {b1 b2 b3 b4 : Bool}, G L = some (.lst [.bl b1, .bl b2, .bl b3, .bl b4]) → Dp X.K G (.ref L) (.list [.bool b1, .bool b2, .bool b3, .bool b4]) := fun h => .lst (.inl (.inl h)) (.cons (.bl _) (.cons (.bl _) (.cons (.bl _) (.cons (.bl _) .nil))))
    have fok : ∀ (b1 b2 b3 b4 : Bool), Shp 1 (.list [.bool b1, .bool b2, .bool b3, .bool b4]) := fun b1 b2 b3 b4 => shp_lst fun d hd => by
      simp at hd
      rcases hd with rfl | rfl | rfl | rfl <;> exact ⟨by simp [PyData.canLay0], by simp [PyData.depth]⟩
    rcases h with ⟨l, fl, rfl, hdd, q⟩ | ⟨wd, k, rfl, hdd, q⟩
    · refine ⟨_, rfl, _, _, _, _, dd, _, rfl, rfl, Y.exT, rfl, hdd, (fun u z => z), Y.kT "PaperError" false (by decide +kernel), _, rfl, _, _, _, _, dd, _, rfl, rfl, Y.exT, rfl, hdd, (fun u z => z), Y.kT "BookError" false (by decide +kernel), Nat.le_of_ble_eq_true rfl, fun L nL => ?_⟩
      have e2 := Same.new (o := HO.lst [.bl false, .bl false]) nL
      refine ⟨_, rfl, .inl ⟨rfl, _, .inl (.inl upd_same)⟩, _, rfl, _, _, _, _, dd, _, rfl, rfl, Y.exT, rfl, e2 _ _ hdd, (fun u z => z), Y.kT "StoreError" false (by decide +kernel), _, rfl, _, _, _, _, dd, _, rfl, rfl, Y.exT, rfl, e2 _ _ hdd, (fun u z => z), Y.kT "TextError" true (by decide +kernel), Nat.le_of_ble_eq_true rfl, fun M nM => ⟨L, M, _, _, rfl, rfl, Same.new nM _ _ upd_same, upd_same, Nat.le_of_ble_eq_true rfl, ?_⟩⟩
      have hL4 : (upd (upd (upd H1 L (.lst [.bl false, .bl false])) M (.lst [.bl false, .bl true])) L (.lst ([.bl false, .bl false] ++ [.bl false, .bl true]))) L = some (.lst [.bl false, .bl false, .bl false, .bl true]) := upd_same
      have s4 : Same H1 (upd (upd (upd H1 L (.lst [.bl false, .bl false])) M (.lst [.bl false, .bl true])) L (.lst ([.bl false, .bl false] ++ [.bl false, .bl true]))) := fun b o h => by
        rw [upd_ne (ne_of_none h nL)]
        exact Same.new nM _ _ (e2 _ _ h)
      generalize upd (upd (upd H1 L (.lst [.bl false, .bl false])) M (.lst [.bl false, .bl true])) L (.lst ([.bl false, .bl false] ++ [.bl false, .bl true])) = G at hL4 s4 ⊢
      refine ⟨_, rfl, Nat.le_of_ble_eq_true rfl, fun M2 nM2 => ⟨_, _, four (Same.new nM2 _ _ hL4), four upd_same, (fok _ _ _ _).ok, (fok _ _ _ _).ok, _, rfl, ?_⟩⟩
      refine iteN (by simp [PyData.eqv, PyData.eqvAll]) (iteF ?_)
      have s5 := s4.trans (Same.new (o := HO.lst [.bl true, .bl false, .bl false, .bl false]) nM2)
      refine ⟨_, rfl, Nat.le_of_ble_eq_true rfl, fun M3 nM3 => ⟨_, _, four (Same.new nM3 _ _ (Same.new nM2 _ _ hL4)), four upd_same, (fok _ _ _ _).ok, (fok _ _ _ _).ok, _, rfl, iteP (by simp [PyData.eqv, PyData.eqvAll]) ?_⟩⟩
      have s6 := s5.trans (Same.new (o := HO.lst [.bl false, .bl false, .bl false, .bl true]) nM3)
      refine ⟨_, rfl, _, _, _, _, dd, _, rfl, rfl, Y.exT, rfl, s6 _ _ hdd, (fun u z => z), Y.kT "InvalidText" true (by decide +kernel), _, rfl, iteT ⟨_, rfl, _, _, _, _, dd, _, rfl, rfl, Y.exT, rfl, s6 _ _ hdd, (fun u z => z), Y.kT "InvalidRow" false (by decide +kernel), _, rfl, ?_⟩⟩
      refine ⟨_, rfl, _, rfl, iteT ⟨_, rfl, rfl, rfl, dd, _, .int l, rfl, s6 _ _ hdd, rfl, _, rfl, rfl, rfl, dd, _, .int fl, rfl, s6 _ _ hdd, rfl, Nat.le_of_ble_eq_true rfl, fun p np => q p _ (s6.trans (Same.new np)) upd_same⟩⟩
    · refine ⟨_, rfl, _, _, _, _, dd, _, rfl, rfl, Y.exP, rfl, hdd, (fun u z => z), Y.kP "PaperError" true (by decide +kernel), _, rfl, _, _, _, _, dd, _, rfl, rfl, Y.exP, rfl, hdd, (fun u z => z), Y.kP "BookError" false (by decide +kernel), Nat.le_of_ble_eq_true rfl, fun L nL => ?_⟩
      have e2 := Same.new (o := HO.lst [.bl true, .bl false]) nL
      refine ⟨_, rfl, .inl ⟨rfl, _, .inl (.inl upd_same)⟩, _, rfl, _, _, _, _, dd, _, rfl, rfl, Y.exP, rfl, e2 _ _ hdd, (fun u z => z), Y.kP "StoreError" false (by decide +kernel), _, rfl, _, _, _, _, dd, _, rfl, rfl, Y.exP, rfl, e2 _ _ hdd, (fun u z => z), Y.kP "TextError" false (by decide +kernel), Nat.le_of_ble_eq_true rfl, fun M nM => ⟨L, M, _, _, rfl, rfl, Same.new nM _ _ upd_same, upd_same, Nat.le_of_ble_eq_true rfl, ?_⟩⟩
      have hL4 : (upd (upd (upd H1 L (.lst [.bl true, .bl false])) M (.lst [.bl false, .bl false])) L (.lst ([.bl true, .bl false] ++ [.bl false, .bl false]))) L = some (.lst [.bl true, .bl false, .bl false, .bl false]) := upd_same
      have s4 : Same H1 (upd (upd (upd H1 L (.lst [.bl true, .bl false])) M (.lst [.bl false, .bl false])) L (.lst ([.bl true, .bl false] ++ [.bl false, .bl false]))) := fun b o h => by
        rw [upd_ne (ne_of_none h nL)]
        exact Same.new nM _ _ (e2 _ _ h)
      generalize upd (upd (upd H1 L (.lst [.bl true, .bl false])) M (.lst [.bl false, .bl false])) L (.lst ([.bl true, .bl false] ++ [.bl false, .bl false])) = G at hL4 s4 ⊢
      refine ⟨_, rfl, Nat.le_of_ble_eq_true rfl, fun M2 nM2 => ⟨_, _, four (Same.new nM2 _ _ hL4), four upd_same, (fok _ _ _ _).ok, (fok _ _ _ _).ok, _, rfl, ?_⟩⟩
      have s5 := s4.trans (Same.new (o := HO.lst [.bl true, .bl false, .bl false, .bl false]) nM2)
      refine iteP (by simp [PyData.eqv, PyData.eqvAll]) ⟨_, rfl, _, _, _, _, dd, _, rfl, rfl, Y.exP, rfl, s5 _ _ hdd, (fun u z => z), Y.kP "InvalidPaper" true (by decide +kernel), _, rfl, iteT ?_⟩
      exact ⟨_, rfl, rfl, rfl, dd, _, .str wd, rfl, s5 _ _ hdd, rfl, _, rfl, rfl, rfl, dd, _, .int k, rfl, s5 _ _ hdd, rfl, Nat.le_of_ble_eq_true rfl, fun p np => q p _ (s5.trans (Same.new np)) upd_same⟩
  obtain ⟨t, h1, h2⟩ := hS
  exact h1.run pins s1 σ1 H1 D I h2
theorem heard_gives {X : Cx} (Y : TH X.prog X.K X.mg) {g : Addr} {cdg : Value} {q : Str} (hu : X.A.units + 200 < cLine) : LamX.GivesTo X Nh "_law_heard" (defScope s_law_heard) g cdg (defBody s_law_heard) "_law_ask" q (TTh X.K) := by
  intro f c' s H Q tl act hc h
  have T := Y.tb.ty.tx
  have S : FnScope Nh ["_law_ask"] (defScope s_law_heard) := ⟨rfl, rfl, rfl, by decide +kernel, rfl, by decide +kernel, by decide +kernel⟩
  have nd := S.nd
  refine ⟨_, pss_one (ps_try_as (X := (cxOf C8.CX0 X.prog X.w X.K X.mg X.base Nh "_law_heard" (defScope s_law_heard) g cdg X.A X.stack s H C8.E0).nox) (i := 1) (n := "e_in") (c := .ref (He.ga X.K "UnbookedError"))
    (tb := fun W D σ H => ∃ Ech : XK, (∀ cls d σ' H', Ech cls d H' → σ'.length = 4 → W cls d σ' H') ∧ σ[0]? = some (some (.ref f)) ∧ H c' = some (LamX.CodeO c' q) ∧ tl Ech H (fun v H1 => [V.str "told", v].length ≤ sizeLine ∧ ∀ p, H1 p = none → D.rt (.ref p) (upd H1 p (.tup [.str "told", v]))))
    (ts := fun a cls d D σ H => σ[1]? = some (some (.ref a)) ∧ σ.length = 4 ∧ heardE X.K D.rt cls d H)
    rfl rfl nd rfl rfl ⟨rfl, rfl, .inl (T.glo (x := "UnbookedError"))⟩ LamX.takes0 (fun W pn xe tk _ => ?_) (fun a oe cls d pn hz hvs => heard_suite Y hu hz hvs)), ?_⟩
  · refine ⟨fun pins s' σ H' D I h' => ?_⟩
    obtain ⟨Ech, hW, h1, h2, h3⟩ := h'
    exact PSs.run (pss_one (ps_ret (pe_tup (pa_cons pe_str (pa_cons (act _ pn xe Ech _ _ (takes_len tk) (fun cls d σ' H' e l => hW cls d σ' H' e l)) pa_nil))))) pins s' σ H' D I ⟨h1, h2, h3⟩
  · refine ⟨heardE X.K Q, fun cls d σ' H' e l => ⟨true, ?_, fun _ a na => ⟨?_, ?_, e⟩, fun z => nomatch z⟩, rfl, hc, h⟩
    · obtain ⟨dd, _, z⟩ := e
      rcases z with ⟨_, _, rfl, _⟩ | ⟨_, _, rfl, _⟩
      · exact Y.xm.1
      · exact Y.xm.2
    · rw [List.getElem?_set_self (by omega)]
    · rw [List.length_set]
      exact l
end K12

/-! The defs of the law that make lambdas. -/
namespace K12
open PySem PySem.Spec PyProof.Rows L2
/-- what the head leaves of such a def: its code object, its table -/
structure TL (P : Program) (K : PySem.W.Frag) (mg : Str → Option Value) (base : Heap) : Prop where
  th : TH P K mg
  tab : ∀ x ∈ lamN, LamX.TabB base mg (He.cT K (x, none)).1 (He.cT K (x, none)).2
  dist : (lamN.map fun x => (He.cT K (x, none)).2).Nodup
theorem def_code {K : PySem.W.Frag} {mg : Str → Option Value} (T : TX K mg) (i : Nat) {d : He.DefD} {x : Str} (hi : fnAll[i]? = some d) (hx : d.at_ = (x, none)) (hd : d.dfl = []) : ∃ (oc : Value) (od : Option Addr) (kV doc pm : Value) (an : Option Addr) (ct : Value) (osl : Array (Option Value)),
    K.lookup (He.ga K x) = some ⟨oc, od, .func (PySem.W.fnOf d.name d.qual d.params d.body d.scope .none kV doc pm an (.ref (He.cT K (x, none)).1) ct), osl⟩ ∧ PySem.W.codeIn K (.ref (He.cT K (x, none)).1) d.qual = true := by
  obtain ⟨fd, F⟩ := T.fn i d hi
  have e : He.fAd K d.at_ = He.ga K x := by
    rw [hx]
    rfl
  have e2 : d.dvs K = [] := by
    unfold He.DefD.dvs
    rw [hd]
    rfl
  rw [e, e2] at F
  obtain ⟨oc, od, dV, kV, doc, pm, an, cdv, ct, osl, rfl, lk, hcd, hdf, _⟩ := F.ex
  rcases hdf with ⟨_, rfl⟩ | ⟨z, _⟩
  · obtain ⟨c, rfl⟩ := He.codeIn_ref hcd
    have ec : (He.cT K (x, none)).1 = c := by
      show He.codeOf K (x, none) = c
      unfold He.codeOf
      rw [show He.fAd K (x, none) = He.ga K x from rfl, lk]
    rw [ec]
    exact ⟨oc, od, kV, doc, pm, an, ct, osl, lk, hcd⟩
  · exact absurd rfl z
/-- such a def, by its body; its code object is known -/
theorem TX.defC {P : Program} {w : World} {K : PySem.W.Frag} {mg : Str → Option Value} {base : Heap} {k : Nat} {x : Str} {N ps : List Str} {sp : Sp} (T : TX K mg) (i : Nat) {d : He.DefD} (hi : fnAll[i]? = some d) (hx : d.at_ = (x, none)) (S : FnScope N ps d.scope)
    (hb : ∀ (kV doc pm : Value) (an : Option Addr) (cdv ct : Value) (us : List Value), us.length = ps.length → bindArgs (PySem.W.fnOf d.name d.qual d.params d.body d.scope .none kV doc pm an cdv ct) ⟨us, []⟩ = pure (ps.zip us))
    (len : ∀ vs H Q E, sp vs H Q E → vs.length = ps.length)
    (hbody : ∀ (A : Around) (outer : List Env) (s : Shared) (H : Hp) (vs : List V) (Q : VK) (E : XK), Room k (A.deeper (envOfC d.qual d.scope s.heap.objs.size (He.ga K x) (.ref (He.cT K (x, none)).1))) → sp vs H Q E →
      ∃ t, PSs (cxOf (L2.CX P w) P w K mg base N d.qual d.scope (He.ga K x) (.ref (He.cT K (x, none)).1) A outer s H E) d.body t ∧ t { nx := fun _ H' => Q .non H', rt := Q } (L2.start N vs) H)
    (hd : d.dfl = [] := by rfl) (hg : x ∈ gloN := by decide +kernel) (hk : x ∈ keepN := by decide +kernel) : Cal P w K mg base (k + 1) x ps sp := by
  obtain ⟨oc, od, kV, doc, pm, an, ct, osl, lk, hcd⟩ := def_code T i hi hx hd
  exact ⟨_, _, fn_of lk hcd S len fun A outer s H vs Q E hr hsp => hbody A outer s H vs Q E hr hsp, T.glo hg, T.keep hk, .all fun us hl => hb kV doc pm an _ ct us hl⟩
theorem passLam {X : Cx} {A : Around} {outer : List Env} {s : Shared} {H : Hp} {E : XK} {scope : Scope} {f c' : Addr} : Passes (L2.CX X.prog X.w) (LamX.lamCx X A outer s H E scope f c') E :=
  passes_call (X := LamX.lamCx X A outer s H E scope f c') (W := fun c d _ H' => E c d H') (takes_of rfl rfl rfl rfl) fun _ _ _ _ z => z
/-- _law_heard(lambda: body) -/
theorem pHeard {X : Cx} {k : Nat} {c P : Addr} {T : List (Addr × Str)} {params : Arguments} {body : Expr} {scope : Scope} {t : XK → TE} {p lpos pos : Pos} (Y : TH X.prog X.K X.mg) (hr : Room (k + 2) X.A) (TB : LamX.TabB X.base X.mg c P) (hcode : X.env.code = .ref c)
    (hmT : (P, X.env.qual ++ "<lambda>") ∈ T) (hu : ∀ p ∈ T, p.1 = P → p.2 = X.env.qual ++ "<lambda>") (hbody : ∀ (A : Around) (outer : List Env) (s : Shared) (H : Hp) (E : XK) (f c' : Addr), Room k (A.deeper (LamX.lamEnv X scope s.heap.objs.size f c')) → Passes (L2.CX X.prog X.w) (LamX.lamCx X A outer s H E scope f c') E → PE (LamX.lamCx X A outer s H E scope f c') body (t E))
    (L : LamX.LamS X.env.scope scope) (hdef : defaultsOf params X.env = ([], []) := by rfl) (hbind : ∀ (q : Str) (cl : List (Str × Addr)) (pm cv ctv : Value), bindArgs (PySem.W.kla_fn "<lambda>" q params body scope cl pm cv ctv) ⟨[], []⟩ = pure [] := by intro _ _ _ _ _; rfl) (hg : Gl X "_law_heard" := by rfl) :
    PE X (.Call (.Name "_law_heard" p) [.Lambda params body scope lpos] [] pos) (LamX.tLam T (TTh X.K) t) := by
  have T' := Y.tb.ty.tx
  obtain ⟨oc, od, kV, doc, pm, an, ct, osl, lk, hcd⟩ := def_code T' i_law_heard (d := d_law_heard) rfl rfl rfl
  have S : FnScope Nh ["_law_ask"] (defScope s_law_heard) := ⟨rfl, rfl, rfl, by decide +kernel, rfl, by decide +kernel, by decide +kernel⟩
  exact LamX.pe_lamcall (x := "_law_heard") (a := "_law_ask") (Ng := Nh) (k := k) hg T'.glo T'.keep lk hcd (.all fun us hl => match us, hl with | [_], _ => rfl) S rfl (.inl rfl) (heard_gives Y (by have := hr.un; omega)) TB hcode hmT hu hr L hdef hbind fun A outer s H E f c' h => hbody A outer s H E f c' h passLam
end K12

/-! row_read called without keywords, with line, with field. -/
namespace K12
open PySem PySem.Spec PyProof.Rows L2
section
variable {X : Cx} {E : XK} {e : Expr} {es : List Expr} {t tk : TA} {p pos : Pos} {kws : List Keyword}
theorem rr0 (Y : TY X.prog X.K X.mg) (hr : Room 8 X.A) (hx : Passes (L2.CX X.prog X.w) X E) (ha : PA X [e] t) (hg : Gl X "row_read" := by rfl) (he : starEach [e] X.env = (false, eval e X.env) :: starEach [] X.env := by rfl) :
    PE X (.Call (.Name "row_read" p) [e] [] pos) (tCall (spRowRead X.K) [.int 0, .int 0] E t) := by
  obtain ⟨f, fd, F, D, hm, hk⟩ := ok_row_read (w := X.w) (base := X.base) Y
  obtain ⟨ds, hds, hb⟩ := FunD.binds0 (ps := ["text", "line", "field"]) D 1 (by simp) rfl fun Dd doc pm an cdv ct us ks hl hk => match us, hl, ks, hk with
    | [_], _, [_, _], _ => ⟨_, _, _, _, _, _, rfl, rfl, _, _, _, _, _, _, rfl, rfl, rfl⟩
  exact pe_call F hr hg hm hk hb hds hx ha (by decide) he rfl
theorem rrLine (Y : TY X.prog X.K X.mg) (hr : Room 8 X.A) (hx : Passes (L2.CX X.prog X.w) X E) (ha : PA X [e] t) (hkw : PK X kws tk) (hg : Gl X "row_read" := by rfl) (hall : (backToKw pos (keywordEach kws X.env)).all (·.1.isSome) = true := by rfl) (hks : (backToKw pos (keywordEach kws X.env)).filterMap (·.1) = (["line"] : List Str) := by rfl)
    (he : starEach [e] X.env = (false, eval e X.env) :: starEach [] X.env := by rfl) (hpl : ((backTo pos (starEach [e] X.env)).any (·.1) || (backToKw pos (keywordEach kws X.env)).any (·.1.isNone)) = false := by rfl) :
    PE X (.Call (.Name "row_read" p) [e] kws pos) (tCallN 1 1 (spRowRead X.K) (fun vs zs => vs ++ (zs ++ [.int 0])) E t tk) := by
  obtain ⟨f, fd, F, D, hm, hk⟩ := ok_row_read (w := X.w) (base := X.base) Y
  obtain ⟨mv, hb⟩ := FunD.kbinds0 (ps := ["text", "line", "field"]) D 1 ["line"] [("field", .int 0)] (fun vs mz zs => vs ++ (zs ++ mz)) (by simp) (by simp) (fun a b c => a.append (c.append b)) fun Dd doc pm an cdv ct us mv ws hl hm hw => match us, hl, mv, hm, ws, hw with
    | [_], _, [_], _, [_], _ => ⟨_, _, _, _, _, _, rfl, rfl, rfl⟩
  exact pe_callN F hr hg hm hk hb hx ha hkw hall hks (by decide) he hpl
theorem rrField (Y : TY X.prog X.K X.mg) (hr : Room 8 X.A) (hx : Passes (L2.CX X.prog X.w) X E) (ha : PA X [e] t) (hkw : PK X kws tk) (hg : Gl X "row_read" := by rfl) (hall : (backToKw pos (keywordEach kws X.env)).all (·.1.isSome) = true := by rfl) (hks : (backToKw pos (keywordEach kws X.env)).filterMap (·.1) = (["field"] : List Str) := by rfl)
    (he : starEach [e] X.env = (false, eval e X.env) :: starEach [] X.env := by rfl) (hpl : ((backTo pos (starEach [e] X.env)).any (·.1) || (backToKw pos (keywordEach kws X.env)).any (·.1.isNone)) = false := by rfl) :
    PE X (.Call (.Name "row_read" p) [e] kws pos) (tCallN 1 1 (spRowRead X.K) (fun vs zs => vs ++ ([.int 0] ++ zs)) E t tk) := by
  obtain ⟨f, fd, F, D, hm, hk⟩ := ok_row_read (w := X.w) (base := X.base) Y
  obtain ⟨mv, hb⟩ := FunD.kbinds0 (ps := ["text", "line", "field"]) D 1 ["field"] [("line", .int 0)] (fun vs mz zs => vs ++ (mz ++ zs)) (by simp) (by simp) (fun a b c => a.append (b.append c)) fun Dd doc pm an cdv ct us mv ws hl hm hw => match us, hl, mv, hm, ws, hw with
    | [_], _, [_], _, [_], _ => ⟨_, _, _, _, _, _, rfl, rfl, rfl⟩
  exact pe_callN F hr hg hm hk hb hx ha hkw hall hks (by decide) he hpl
theorem rr0K (K : PySem.W.Frag) (hK : X.K = K) (Y : TY X.prog X.K X.mg) (hr : Room 8 X.A) (hx : Passes (L2.CX X.prog X.w) X E) (ha : PA X [e] t) (hg : Gl X "row_read" := by rfl) (he : starEach [e] X.env = (false, eval e X.env) :: starEach [] X.env := by rfl) :
    PE X (.Call (.Name "row_read" p) [e] [] pos) (tCall (spRowRead K) [.int 0, .int 0] E t) := by
  subst hK
  exact rr0 Y hr hx ha hg he
theorem rrLineK (K : PySem.W.Frag) (hK : X.K = K) (Y : TY X.prog X.K X.mg) (hr : Room 8 X.A) (hx : Passes (L2.CX X.prog X.w) X E) (ha : PA X [e] t) (hkw : PK X kws tk) (hg : Gl X "row_read" := by rfl) (hall : (backToKw pos (keywordEach kws X.env)).all (·.1.isSome) = true := by rfl) (hks : (backToKw pos (keywordEach kws X.env)).filterMap (·.1) = (["line"] : List Str) := by rfl)
    (he : starEach [e] X.env = (false, eval e X.env) :: starEach [] X.env := by rfl) (hpl : ((backTo pos (starEach [e] X.env)).any (·.1) || (backToKw pos (keywordEach kws X.env)).any (·.1.isNone)) = false := by rfl) :
    PE X (.Call (.Name "row_read" p) [e] kws pos) (tCallN 1 1 (spRowRead K) (fun vs zs => vs ++ (zs ++ [.int 0])) E t tk) := by
  subst hK
  exact rrLine Y hr hx ha hkw hg hall hks he hpl
theorem rrFieldK (K : PySem.W.Frag) (hK : X.K = K) (Y : TY X.prog X.K X.mg) (hr : Room 8 X.A) (hx : Passes (L2.CX X.prog X.w) X E) (ha : PA X [e] t) (hkw : PK X kws tk) (hg : Gl X "row_read" := by rfl) (hall : (backToKw pos (keywordEach kws X.env)).all (·.1.isSome) = true := by rfl) (hks : (backToKw pos (keywordEach kws X.env)).filterMap (·.1) = (["field"] : List Str) := by rfl)
    (he : starEach [e] X.env = (false, eval e X.env) :: starEach [] X.env := by rfl) (hpl : ((backTo pos (starEach [e] X.env)).any (·.1) || (backToKw pos (keywordEach kws X.env)).any (·.1.isNone)) = false := by rfl) :
    PE X (.Call (.Name "row_read" p) [e] kws pos) (tCallN 1 1 (spRowRead K) (fun vs zs => vs ++ ([.int 0] ++ zs)) E t tk) := by
  subst hK
  exact rrField Y hr hx ha hkw hg hall hks he hpl
end
end K12

/-! What _law_heard tells, as data; heaps behind a lambda. -/
namespace K12
open PySem PySem.Spec PyProof.Rows L2
section
variable {K : PySem.W.Frag} {H G : Hp}
theorem ext_of (e : Same H G) : LamX.ExtN H G := fun b o h _ => e b o h
theorem tabs_same {T : List (Addr × Str)} (t : LamX.Tabs T H) (e : Same H G) : LamX.Tabs T G := t.ext e
theorem rd_ext {b : Addr} {o : HO} (e : LamX.ExtN H G) (h : Rd H b o) (ho : ∀ ps, o ≠ .tbl ps) : Rd G b o := by
  rcases h with h | ⟨u, h⟩
  · exact .inl (e _ _ h ho)
  · exact .inr ⟨u, e _ _ h fun ps z => by cases z⟩
theorem Dp.ext {v : V} {d : PyData} (e : LamX.ExtN H G) (h : Dp K H v d) : Dp K G v d :=
  Dp.seqs (fun b xs r => rd_ext e r fun ps z => by cases z) (fun b xs r => rd_ext e r fun ps z => by cases z) h
theorem SqL.ext {a : Addr} {xs : List V} (e : LamX.ExtN H G) (h : SqL K H a xs) : SqL K G a xs := by
  rcases h with h | h
  · exact .inl (rd_ext e h fun ps z => by cases z)
  · exact .inr h
theorem SqT.ext {a : Addr} {xs : List V} (e : LamX.ExtN H G) (h : SqT K H a xs) : SqT K G a xs := by
  rcases h with h | h
  · exact .inl (rd_ext e h fun ps z => by cases z)
  · exact .inr h
theorem FeedL.ext {f l : Addr} (e : LamX.ExtN H G) (h : FeedL H f l) : FeedL G f l := h.keep (fun o x => by
  obtain ⟨_, _, _, _, e1, _, _⟩ := h
  rw [e1] at x
  cases x
  exact e _ _ e1 fun ps z => by cases z) fun o x => by
  obtain ⟨_, _, _, _, _, e1, _⟩ := h
  rw [e1] at x
  cases x
  exact e _ _ e1 fun ps z => by cases z
theorem BkAt.ext {x : Addr} {b : Bk} (e : LamX.ExtN H G) (h : BkAt K H x b) : BkAt K G x b :=
  let ⟨dx, p, c, t, h1, h2, h3, h4⟩ := h
  ⟨dx, p, c, t, e _ _ h1 (fun ps z => by cases z), Dp.ext e h2, Dp.ext e h3, Dp.ext e h4⟩
end
/-! ### what is told -/
def hText (l f : Int) : PyData := .tuple [.str "text", .int l, .int f]
def hPaper (w : Str) (k : Int) : PyData := .tuple [.str "paper", .str w, .int k]
def hTold (d : PyData) : PyData := .tuple [.str "told", d]
def hRow (t : Str) (L F : Int) : PyData := match rRow (wordsOf t) with
  | .ok r => hTold (dRw r)
  | .error e => hText L (F + (e : Nat))
def hBk (t : Str) : PyData := match rBook t with
  | .ok b => hTold (dBk b)
  | .error (l, f) => hText (l : Nat) (f : Nat)
def hLets (b : Bk) : PyData := match lets b with
  | none => hTold (.int (b.rows.length : Nat))
  | some (w, k) => hPaper w k
section
variable {K : PySem.W.Frag} {H : Hp} {Q : VK}
theorem heard_text {l f : Int} (q : ∀ v G, Same H G → Dp K G v (hText l f) → Q v G) : RzT K l f H (heardE K Q) := fun d G nd e hd =>
  ⟨d, rfl, .inl ⟨l, f, rfl, hd, fun p G2 e2 hp => q _ _ (e.trans e2) (.tup (.inl (.inl hp)) (.cons (.str _) (.cons (.int _) (.cons (.int _) .nil))))⟩⟩
theorem heard_paper {w : Str} {k : Int} (q : ∀ v G, Same H G → Dp K G v (hPaper w k) → Q v G) : RzP K w k H (heardE K Q) := fun d G nd e hd =>
  ⟨d, rfl, .inr ⟨w, k, rfl, hd, fun p G2 e2 hp => q _ _ (e.trans e2) (.tup (.inl (.inl hp)) (.cons (.str _) (.cons (.str _) (.cons (.int _) .nil))))⟩⟩
theorem heard_told {G : Hp} {v : V} {d : PyData} (e : Same H G) (h : Dp K G v d) (q : ∀ v G, Same H G → Dp K G v (hTold d) → Q v G) : [V.str "told", v].length ≤ sizeLine ∧ ∀ p, G p = none → Q (.ref p) (upd G p (.tup [.str "told", v])) :=
  ⟨Nat.le_of_ble_eq_true rfl, fun p np => q _ _ (e.trans (Same.new np)) (.tup (.inl (.inl upd_same)) (.cons (.str _) (.cons (Dp.same (Same.new np) h) .nil)))⟩
/-- row_read within a lambda -/
theorem tth_row {t : Str} {L F : Int} (hz : t.length + 2 ≤ sizeLine) (q : ∀ v G, Same H G → Dp K G v (hRow t L F) → Q v G) : TTh K (fun E G R => spRowRead K [.str t, .int L, .int F] G R E) H Q := by
  refine ⟨t, L, F, rfl, hz, fun r hr v G e h => heard_told e h fun v G e h => q v G e ?_, fun e he => heard_text fun v G e h => q v G e ?_⟩
  · unfold hRow
    rw [hr]
    exact h
  · unfold hRow
    rw [he]
    exact h
/-- book_read within a lambda -/
theorem tth_book {t : Str} (hz : t.length < 4000000) (q : ∀ v G, Same H G → Dp K G v (hBk t) → Q v G) : TTh K (fun E G R => spBookRead K [.str t] G R E) H Q := by
  refine ⟨t, rfl, hz, fun r hr v G e h => heard_told e h fun v G e h => q v G e ?_, fun l f he => heard_text fun v G e h => q v G e ?_⟩
  · unfold hBk
    rw [hr]
    exact h
  · unfold hBk
    rw [he]
    exact h
/-- lets_book within a lambda -/
theorem tth_lets {v : V} {b : Bk} (hv : Dp K H v (dBk b)) (hb : OkBk b) (hz : b.places.length + b.ways.length + b.rows.length < 4000000) (q : ∀ v G, Same H G → Dp K G v (hLets b) → Q v G) : TTh K (fun E G R => spLets K [v] G R E) H Q := by
  refine ⟨v, b, rfl, hv, hb, hz, fun hr G e => heard_told (K := K) e (.int _) fun v G e h => q v G e ?_, fun w k he => heard_paper fun v G e h => q v G e ?_⟩
  · unfold hLets
    rw [hr]
    exact h
  · unfold hLets
    rw [he]
    exact h
/-- what Book.read tells -/
def hMade (t : Str) : PyData := match rBook t with
  | .ok b => hLets b
  | .error (l, f) => hText (l : Nat) (f : Nat)
/-- Book.read within a lambda -/
theorem tth_made {t : Str} (hz : t.length < 4000000) (q1 : ∀ b x p G, rBook t = .ok b → lets b = none → Same H G → BkAt K G x b → G p = some (.tup [.str "told", .ref x]) → Q (.ref p) G)
    (q2 : ∀ v G, (∀ b, rBook t = .ok b → lets b ≠ none) → Same H G → Dp K G v (hMade t) → Q v G) : TTh K (fun E G R => spBkRd K [.ref (cBk K), .str t] G R E) H Q := by
  refine ⟨t, rfl, hz, fun b hb => ⟨fun hl x G e hx => ⟨Nat.le_of_ble_eq_true rfl, fun p np => q1 b x p _ hb hl (e.trans (Same.new np)) (hx.same (Same.new np)) upd_same⟩, fun w k hw => heard_paper fun v G e h => q2 v G ?_ e ?_⟩, fun l f he => heard_text fun v G e h => q2 v G ?_ e ?_⟩
  · intro b2 hb2
    rw [hb] at hb2
    cases hb2
    rw [hw]
    exact fun z => nomatch z
  · unfold hMade
    rw [hb]
    show Dp K G v (hLets b)
    unfold hLets
    rw [hw]
    exact h
  · intro b hb
    rw [he] at hb
    cases hb
  · unfold hMade
    rw [he]
    exact h
end
/-! ### facts of such data -/
theorem shp_text (l f : Int) : Shp 1 (hText l f) := shp_tup fun d hd => by
  simp at hd
  rcases hd with rfl | rfl | rfl
  · exact shp_str (by decide +kernel)
  · exact shp_int _
  · exact shp_int _
theorem first_word {f : Nat → Option Str} {n k : Nat} {w : Str} (h : firstBad f n = some (w, k)) : f k = some w := by
  unfold firstBad at h
  obtain ⟨j, _, e⟩ := List.exists_of_findSome?_eq_some h
  cases e2 : f j with
  | none =>
    rw [e2] at e
    cases e
  | some v =>
    rw [e2] at e
    cases e
    exact e2
theorem words_lets {b : Bk} {w : Str} {k : Int} (h : lets b = some (w, k)) : w = sPlaces ∨ w = sWy ∨ w = sOrder ∨ w = sPl ∨ w = sCap := by
  unfold lets at h
  split at h
  · cases h
    exact .inl rfl
  · split at h
    · rename_i w2 k2 e
      cases h
      have z := first_word e
      unfold wayBad at z
      split at z
      · cases z
      · split at z
        · split at z
          · cases z
          · cases z
            exact .inr (.inr (.inl rfl))
        · cases z
          exact .inr (.inl rfl)
    · rename_i e
      cases e2 : firstBad (rowBad b) b.rows.length with
      | none =>
        rw [e2] at h
        cases h
      | some p =>
        obtain ⟨w2, k2⟩ := p
        rw [e2] at h
        cases h
        have z := first_word e2
        unfold rowBad at z
        split at z
        · cases z
        · split at z
          · split at z
            · cases z
            · cases z
              exact .inr (.inr (.inr (.inr rfl)))
          · cases z
            exact .inr (.inr (.inr (.inl rfl)))
theorem shp_paper {w : Str} (k : Int) (h : w = sPlaces ∨ w = sWy ∨ w = sOrder ∨ w = sPl ∨ w = sCap) : Shp 1 (hPaper w k) := shp_tup fun d hd => by
  simp at hd
  rcases hd with rfl | rfl | rfl
  · exact shp_str (by decide +kernel)
  · rcases h with rfl | rfl | rfl | rfl | rfl <;> exact shp_str (by decide +kernel)
  · exact shp_int _
/-! ### readings of _law_heard(lambda: ..) -/
/-- what is heard is the datum that D tells -/
def tHear (T : List (Addr × Str)) (K : PySem.W.Frag) (D : L2.St → Hp → PyData → Prop) : TE := fun σ H Q => LamX.Tabs T H ∧ ∀ H1, LamX.ExtN H H1 → LamX.Tabs T H1 → ∃ d, D σ H1 d ∧ ∀ v G, Same H1 G → Dp K G v d → Q v G
theorem pe_hear {X : Cx} {e : Expr} {T : List (Addr × Str)} {K : PySem.W.Frag} {t : XK → TE} (D : L2.St → Hp → PyData → Prop) (h : PE X e (LamX.tLam T (TTh K) t))
    (hD : ∀ σ H d (Q : VK), D σ H d → (∀ v G, Same H G → Dp K G v d → Q v G) → TTh K (fun E G R => t E σ G R) H Q) : PE X e (tHear T K D) :=
  ⟨fun pn z σ H Q I ⟨h1, h2⟩ => h.run pn z σ H Q I ⟨h1, fun H1 e1 T1 => let ⟨d, hd, q⟩ := h2 H1 e1 T1; hD σ H1 d Q hd q⟩⟩
/-- a Book is heard, or a datum -/
def MadeAt (K : PySem.W.Frag) (t : Str) (v : V) (G : Hp) : Prop :=
  (∃ b x p, rBook t = .ok b ∧ lets b = none ∧ BkAt K G x b ∧ v = .ref p ∧ SqT K G p [.str "told", .ref x]) ∨ ((∀ b, rBook t = .ok b → lets b ≠ none) ∧ Dp K G v (hMade t))
theorem MadeAt.ext {K : PySem.W.Frag} {t : Str} {v : V} {H G : Hp} (e : LamX.ExtN H G) (h : MadeAt K t v H) : MadeAt K t v G := by
  rcases h with ⟨b, x, p, h1, h2, h3, h4, h5⟩ | ⟨h1, h2⟩
  · exact .inl ⟨b, x, p, h1, h2, h3.ext e, h4, SqT.ext e h5⟩
  · exact .inr ⟨h1, Dp.ext e h2⟩
def tMade (T : List (Addr × Str)) (K : PySem.W.Frag) (D : L2.St → Hp → Str → Prop) : TE := fun σ H Q => LamX.Tabs T H ∧ ∀ H1, LamX.ExtN H H1 → LamX.Tabs T H1 → ∃ t, D σ H1 t ∧ t.length < 4000000 ∧ ∀ v G, Same H1 G → MadeAt K t v G → Q v G
theorem pe_made {X : Cx} {e : Expr} {T : List (Addr × Str)} {K : PySem.W.Frag} {t : XK → TE} (D : L2.St → Hp → Str → Prop) (h : PE X e (LamX.tLam T (TTh K) t))
    (hD : ∀ σ H x (Q : VK), D σ H x → TTh K (fun E G R => spBkRd K [.ref (cBk K), .str x] G R E) H Q → TTh K (fun E G R => t E σ G R) H Q) : PE X e (tMade T K D) :=
  ⟨fun pn z σ H Q I ⟨h1, h2⟩ => h.run pn z σ H Q I ⟨h1, fun H1 e1 T1 => let ⟨x, hd, hz, q⟩ := h2 H1 e1 T1; hD σ H1 x Q hd (tth_made hz (fun b y p G hb hl e hy hp => q _ G e (.inl ⟨b, y, p, hb, hl, hy, rfl, .inl (.inl hp)⟩)) fun v G hn e hv => q v G e (.inr ⟨hn, hv⟩))⟩⟩
/-! ### equal data -/
theorem eqv_self {d : PyData} (h : plain d = true) : PyData.eqv d d = true := by
  rw [eqv_dec (p := True) h h ⟨fun _ => trivial, fun _ => rfl⟩]
  rfl
theorem plain_text (l f : Int) : plain (hText l f) = true := rfl
theorem plain_paper (w : Str) (k : Int) : plain (hPaper w k) = true := rfl
theorem cut_last (l : List Str) : cutV (l.map V.str) none (some (-1)) = l.dropLast.map V.str := by
  have e : HT.sIx (l.map V.str).length (l.map V.str).length (some (-1)) = l.length - 1 := by
    show (if (-1 : Int) < 0 then ((-1 : Int) + ((l.map V.str).length : Int)).toNat else min (-1 : Int).toNat (l.map V.str).length) = _
    rw [if_pos (by decide), List.length_map]
    omega
  unfold cutV
  rw [e, HT.sIx_none, Nat.sub_zero, List.drop_zero, ← List.map_take, List.dropLast_eq_take]
/-- two equal data, compared -/
theorem rEqD_yes {K : PySem.W.Frag} {H : Hp} {x y : V} {d : PyData} {Q : VK} {n : Nat} (hx : Dp K H x d) (hy : Dp K H y d) (hp : plain d = true) (hs : Shp n d) (hn : n ≤ 64) (q : Q (.bl true) H) : rEqD K x y H Q := by
  refine ⟨d, d, hx, hy, hs.ok hn, hs.ok hn, ?_⟩
  rw [eqv_self hp]
  exact q
theorem rNeD_no {K : PySem.W.Frag} {H : Hp} {x y : V} {d : PyData} {Q : VK} {n : Nat} (hx : Dp K H x d) (hy : Dp K H y d) (hp : plain d = true) (hs : Shp n d) (hn : n ≤ 64) (q : Q (.bl false) H) : rNeD K x y H Q := by
  refine ⟨d, d, hx, hy, hs.ok hn, hs.ok hn, ?_⟩
  rw [eqv_self hp]
  exact q
theorem wt_take (l : List Str) (k : Nat) : Wt (l.take k) ≤ Wt l := by
  have e := wt_app (l.take k) (l.drop k)
  rw [List.take_append_drop] at e
  omega
theorem wt_last (l : List Str) : Wt l.dropLast ≤ Wt l := by
  rw [List.dropLast_eq_take]
  exact wt_take _ _
theorem wt_words (t : Str) : Wt (wordsOf t) = t.length + 1 := by
  have z := wt_join (s := sp) rfl (cut_ne 32 t)
  rw [show Str.join sp (cut 32 t) = t from cut_join 32 t] at z
  exact z.symm
theorem wt_lines (t : Str) : Wt (linesOf t) = t.length + 1 := by
  have z := wt_join (s := nl) rfl (cut_ne 10 t)
  rw [show Str.join nl (cut 10 t) = t from cut_join 10 t] at z
  exact z.symm
theorem sum_sp (l : List Str) {n : Nat} (h : Wt l ≤ n) : (l.map (·.length)).sum + l.length * sp.length ≤ n := by
  have e : sp.length = 1 := rfl
  rw [e, Nat.mul_one, ← wt_sum]
  exact h
theorem sum_nl (l : List Str) {n : Nat} (h : Wt l ≤ n) : (l.map (·.length)).sum + l.length * nl.length ≤ n := by
  have e : nl.length = 1 := rfl
  rw [e, Nat.mul_one, ← wt_sum]
  exact h
theorem plain_rw (r : Rw) : plain (dRw r) = true := by cases r <;> rfl
theorem shp_rw {r : Rw} (h : OkRw r) : Shp 1 (dRw r) := by
  cases r with
  | move a b n =>
    refine shp_tup fun d hd => ?_
    simp at hd
    rcases hd with rfl | rfl | rfl | rfl
    · exact shp_str (by decide +kernel)
    · exact shp_name h.1
    · exact shp_name h.2.1
    · exact shp_int _
  | count a n =>
    refine shp_tup fun d hd => ?_
    simp at hd
    rcases hd with rfl | rfl | rfl
    · exact shp_str (by decide +kernel)
    · exact shp_name (isName_of h.1)
    · exact shp_int _
theorem plain_bk (b : Bk) : plain (dBk b) = true := by
  have h1 := plains_map dPl (fun _ => rfl) b.places
  have h2 := plains_map dWy (fun _ => rfl) b.ways
  have h3 := plains_map dRw plain_rw b.rows
  have h4 : plain (dSl b.slip) = true := by cases b.slip <;> rfl
  simp [dBk, plain, plains, h1, h2, h3, h4]
theorem shp_bk {b : Bk} (h : OkBk b) : Shp 3 (dBk b) := shp_tup fun d hd => by
  simp at hd
  rcases hd with rfl | rfl | rfl | rfl
  · refine shp_tup fun d hd => ?_
    obtain ⟨p, hp, rfl⟩ := List.mem_map.mp hd
    refine shp_tup fun d hd => ?_
    simp at hd
    rcases hd with rfl | rfl | rfl
    · exact shp_name (isName_of (h.pl p hp).1)
    · exact shp_int _
    · exact shp_int _
  · refine shp_tup fun d hd => ?_
    obtain ⟨p, hp, rfl⟩ := List.mem_map.mp hd
    refine shp_tup fun d hd => ?_
    simp at hd
    rcases hd with rfl | rfl | rfl
    · exact shp_name (h.wy p hp).1
    · exact shp_name (h.wy p hp).2.1
    · exact shp_int _
  · cases b.slip with
    | none => exact shp_non
    | some n => exact shp_int _
  · refine shp_tup fun d hd => ?_
    obtain ⟨p, hp, rfl⟩ := List.mem_map.mp hd
    have z := shp_rw (h.rw' p hp)
    exact ⟨z.1, Nat.le_trans z.2 (by decide)⟩
/-- not f(x), x in slot i -/
def tFlt (K : PySem.W.Frag) (f : List PyData → PyData → Prop) (i : Nat) : TT := tNot (tB (tCall (Pur K f) [] E0 (tCons (tVar i) tNil)))
/-- nothing is left where every item passes -/
theorem lc_none {K : PySem.W.Frag} {f : List PyData → PyData → Prop} {σ : L2.St} {H : Hp} {Q : VK} {i j : Nat} {a : Addr} {xs : List V} {ds : List PyData} (hj : σ[j]? = some (some (.ref a))) (hi : i < σ.length) (hq : SqT K H a xs) (hd : DpAll K H xs ds) (ok : ∀ d ∈ ds, f [d] (.bool true)) (hl : ds.length < sizeLine)
    (q : ∀ v G, Same H G → Dp K G v (.list []) → Q v G) : tLc (iTup K (tVar j)) (gName i) (tFlt K f i) (tVar i) [i] σ H Q := by
  refine ⟨_, hj, a, rfl, ⟨_, hq⟩, fun D hD => ?_⟩
  refine lc_dat (K := K) walk_tup (fun _ => []) rfl (fun _ _ => .inl rfl) (by rw [DpAll.length hd]; exact hl) hD (fun G e => Same.tup e hq) (fun n G x G2 Nx hn e y k1 k0 => ?_) (fun G acc e h3 h4 => ?_)
  · obtain ⟨rfl, hx⟩ := y
    obtain ⟨d, hdd, hdp⟩ := DpAll.getV hd hx
    refine ⟨by simp [wipe, List.set_set], x, by simp [wipe, hi], [d], .bool true, .cons (Dp.same e hdp) .nil, ok d (List.mem_of_getElem? hdd), fun u G4 e4 hu => ?_⟩
    cases hu.blI
    exact ⟨true, rfl, iteN (by decide) (k0 _ e4 rfl)⟩
  · cases h4
    exact q _ G e (.lst (.inl (.inl h3)) .nil)
theorem shp_nil : Shp 1 (.list []) := shp_lst (n := 0) fun d hd => absurd hd (by simp)
def tNone (K : PySem.W.Frag) (j : Nat) (f : List PyData → PyData → Prop) (i : Nat) : TE := fun σ H Q => ∃ (a : Addr) (xs : List V) (ds : List PyData), σ[j]? = some (some (.ref a)) ∧ i < σ.length ∧ SqT K H a xs ∧ DpAll K H xs ds ∧ (∀ d ∈ ds, f [d] (.bool true)) ∧ ds.length < sizeLine ∧ ∀ v G, Same H G → Dp K G v (.list []) → Q v G
theorem pe_none {X : Cx} {e : Expr} {K : PySem.W.Frag} {j i : Nat} {f : List PyData → PyData → Prop} (h : PE X e (tLc (iTup K (tVar j)) (gName i) (tFlt K f i) (tVar i) [i])) : PE X e (tNone K j f i) :=
  ⟨fun pn z σ H Q I ⟨a, xs, ds, h1, h2, h3, h4, h5, h6, q⟩ => h.run pn z σ H Q I (lc_none h1 h2 h3 h4 h5 h6 q)⟩
theorem eqv_list {ds : List PyData} (h : plains ds = true) : PyData.eqv (.list ds) (.list ds) = true := by
  have e := eqv_self (d := .tuple ds) (by simpa [plain] using h)
  simpa [PyData.eqv] using e
theorem rNeD_noL {K : PySem.W.Frag} {H : Hp} {x y : V} {ds : List PyData} {Q : VK} {n : Nat} (hx : Dp K H x (.list ds)) (hy : Dp K H y (.list ds)) (hp : plains ds = true) (hs : Shp n (.list ds)) (hn : n ≤ 64) (q : Q (.bl false) H) : rNeD K x y H Q := by
  refine ⟨_, _, hx, hy, hs.ok hn, hs.ok hn, ?_⟩
  rw [eqv_list hp]
  exact q
end K12

/-! _law_any_line. -/
namespace K12
open PySem PySem.Spec PyProof.Rows L2
def qL (x : Str) : Str := (x ++ (".<locals>." : Str)) ++ ("<lambda>" : Str)
def tabsL (K : PySem.W.Frag) : List (Addr × Str) := lamN.map fun x => ((He.cT K (x, none)).2, qL x)
theorem tabs_mem {K : PySem.W.Frag} {x : Str} (h : x ∈ lamN) : ((He.cT K (x, none)).2, qL x) ∈ tabsL K := List.mem_map.mpr ⟨x, h, rfl⟩
theorem tabs_one {P : Program} {K : PySem.W.Frag} {mg : Str → Option Value} {base : Heap} (Y : TL P K mg base) {x : Str} (h : x ∈ lamN) : ∀ p ∈ tabsL K, p.1 = (He.cT K (x, none)).2 → p.2 = qL x := fun p hp e => by
  obtain ⟨y, hy, rfl⟩ := List.mem_map.mp hp
  have hn := Y.dist
  have : y = x := by
    obtain ⟨i, hi, rfl⟩ := List.mem_iff_getElem.mp hy
    obtain ⟨j, hj, rfl⟩ := List.mem_iff_getElem.mp h
    have e2 : (lamN.map fun x => (He.cT K (x, none)).2)[i]'(by simpa using hi) = (lamN.map fun x => (He.cT K (x, none)).2)[j]'(by simpa using hj) := by rw [List.getElem_map, List.getElem_map]; exact e
    have := (List.getElem_inj hn).mp e2
    subst this
    rfl
  rw [this]
def spAnyL (K : PySem.W.Frag) : Sp := fun vs H Q _ => ∃ t, vs = [.str t] ∧ t.length ≤ 3000000 ∧ LamX.Tabs (tabsL K) H ∧ ∀ H', LamX.ExtN H H' → LamX.Tabs (tabsL K) H' → Q (.bl true) H'
theorem oneT_len : (" 1" : Str).length = 2 := by decide +kernel
theorem one_room {t : Str} (h : t.length + 2 ≤ 4000000) : t.length + (" 1" : Str).length ≤ sizeLine := by
  rw [oneT_len]
  unfold sizeLine
  omega
theorem one_room2 {t : Str} (h : t.length + 2 ≤ 4000000) : (t ++ (" 1" : Str)).length + 2 ≤ sizeLine := by
  have e := oneT_len
  simp only [len_l, app_l, List.length_append] at h e ⊢
  unfold sizeLine
  omega
section
variable {P : Program} {w : World} {K : PySem.W.Frag} {mg : Str → Option Value} {base : Heap}
theorem ok_law_any_line (Y : TL P K mg base) : Cal P w K mg base 11 "_law_any_line" ["_law_text_in"] (spAnyL K) := by
  have Y' := Y.th.tb.ty
  have T := Y'.tx
  have S : FnScope ["_law_text_in", "_law_size", "_law_heard_here", "_law_fewer"] ["_law_text_in"] (defScope s_law_any_line) := ⟨rfl, rfl, rfl, by decide +kernel, rfl, by decide +kernel, by decide +kernel⟩
  have TB := Y.tab "_law_any_line" (by decide +kernel)
  have hmT := tabs_mem (K := K) (x := "_law_any_line") (by decide +kernel)
  have hun := tabs_one Y (x := "_law_any_line") (by decide +kernel)
  refine T.defC i_law_any_line (d := d_law_any_line) rfl rfl S (fun _ _ _ _ _ _ us hl => match us, hl with | [_], _ => rfl) (by rintro vs H Q E ⟨t, rfl, _⟩; rfl) (fun A outer s H vs Q E hr h => ?_)
  obtain ⟨t, rfl, htl, hT, q⟩ := h
  have nd := S.nd
  refine ⟨_, (pss_cons (ps_set (i := 1) nd rfl (.inl rfl) (pe_callB call_len_seq rfl T.free boot_len (pa_cons (pe_split (pv 0) (pS sp_is)) pa_nil)))
    (pss_cons (ps_set (i := 2) nd rfl (.inl rfl) (pe_hear (K := K) (fun σ _ d => ∃ t : Str, σ[0]? = some (some (.str t)) ∧ t.length + 2 ≤ sizeLine ∧ d = hRow t 0 0) (pHeard (k := 8) (T := tabsL K) Y.th hr TB rfl hmT hun (fun A outer s H E f c' hr' hx' => by exact rr0K K rfl Y' hr' hx' (pa_cons (pv 0) pa_nil)) (show LamX.LamS (defScope s_law_any_line) _ from LamX.lamS_by (by decide +kernel))) (by rintro σ H d Q ⟨t, h0, hz, rfl⟩ q; exact ⟨_, h0, tth_row hz q⟩)))
    (pss_cons (ps_if (pt_cmpR op_eq (pe_ix (ixT K) (pv 2) pe_int (fun _ _ => rfl)) pe_str (nomark _)) (pss_cons (ps_if (PW.pt (pw_or (pt_not (pt_val (pc (ok_is_row T) hr passB (pa_cons (pe_ix (ixT K) (pv 2) pe_int (fun _ _ => rfl)) pa_nil)))) (pw_or1 (pt_cmpR op_ne (pc (ok_row_text T) hr passB (pa_cons (pe_ix (ixT K) (pv 2) pe_int (fun _ _ => rfl)) pa_nil)) (pv 0) (nomark _))))) (pss_one (ps_ret pe_bl)) pss_nil)
    (pss_cons (ps_if (pt_cmpR (op_neD hr.units) (pe_hear (K := K) (fun σ _ d => ∃ t : Str, σ[0]? = some (some (.str t)) ∧ t.length + 2 ≤ 4000000 ∧ d = hRow (t ++ (" 1" : Str)) 2 0) (pHeard (k := 8) (T := tabsL K) Y.th hr TB rfl hmT hun (fun A outer s H E f c' hr' hx' => by exact rrLineK K rfl Y' hr' hx' (pa_cons (pe_op op_add_str (pv 0) pe_str) pa_nil) (pk_cons pe_int pk_nil)) (show LamX.LamS (defScope s_law_any_line) _ from LamX.lamS_by (by decide +kernel))) (by rintro σ H d Q ⟨t, h0, hz, rfl⟩ q; exact ⟨_, h0, _, _, rfl, rfl, one_room hz, rfl, rfl, tth_row (one_room2 hz) q⟩)) (pe_tup (pa_cons pe_str (pa_cons pe_int (pa_cons (pv 1) pa_nil)))) (nomark _)) (pss_one (ps_ret pe_bl)) pss_nil)
    (pss_cons (ps_set (i := 3) nd rfl (.inr rfl) (pe_join (pS sp_is) (pe_slice sl_list (pe_split (pv 0) (pS sp_is)) po_none (po_some (pe_un un_neg pe_int)))))
    (pss_one (ps_ret (pe_cmpR (op_eqD hr.units) (pe_hear (K := K) (fun σ _ d => ∃ t : Str, σ[3]? = some (some (.str t)) ∧ t.length + 2 ≤ sizeLine ∧ d = hRow t 0 3) (pHeard (k := 8) (T := tabsL K) Y.th hr TB rfl hmT hun (fun A outer s H E f c' hr' hx' => by exact rrFieldK K rfl Y' hr' hx' (pa_cons (pv 3) pa_nil) (pk_cons pe_int pk_nil)) (show LamX.LamS (defScope s_law_any_line) _ from LamX.lamS_by (by decide +kernel))) (by rintro σ H d Q ⟨t, h0, hz, rfl⟩ q; exact ⟨_, h0, rfl, rfl, tth_row hz q⟩)) (pe_tup (pa_cons pe_str (pa_cons pe_int (pa_cons (pe_op op_add (pv 1) pe_int) pa_nil)))) (nomark _))))))) pss_nil)
    (pss_one (ps_ret (pe_and (pe_cmpR (op_eqD hr.units) (pe_slice sl_tupA (pv 2) po_none (po_some pe_int)) (pe_tup (pa_cons pe_str (pa_cons pe_int pa_nil))) (nomark _)) (pe_one (pe_chain op_le op_le pe_int (pe_ix (ixT K) (pv 2) pe_int (fun _ _ => rfl)) (pv 1))))))))), ?_⟩
  have hLn : 1 ≤ (wordsOf t).length := List.length_pos_iff.mpr (cut_ne 32 t)
  have hLl : (wordsOf t).length ≤ t.length + 1 := cut_count
  have hml : ((wordsOf t).map V.str).length = (wordsOf t).length := List.length_map ..
  have hws : Txt.split t sp = wordsOf t := rfl
  refine ⟨_, rfl, ⟨_, rfl⟩, t, sp, rfl, rfl, rfl, by unfold sizeLine; omega, fun L nL => ⟨L, _, rfl, .inl (.inl (.inl upd_same)), ?_⟩⟩
  have s1 : Same H (upd H L (.lst ((Txt.split t sp).map V.str))) := Same.new nL
  rw [hws, hml]
  rw [hws] at s1
  generalize upd H L (.lst ((wordsOf t).map V.str)) = H1 at s1 ⊢
  refine ⟨tabs_same hT s1, fun H2 e2 T2 => ⟨_, ⟨t, rfl, by unfold sizeLine; omega, rfl⟩, fun v H3 e3 d3 => ?_⟩⟩
  have x3 : LamX.ExtN H H3 := (ext_of s1).trans (e2.trans (ext_of e3))
  have T3 := tabs_same T2 e3
  clear e2 T2 e3 s1 nL
  cases hr : rRow (wordsOf t) with
  | error e =>
    have ed : hRow t 0 0 = hText 0 (0 + (e : Nat)) := by
      unfold hRow
      rw [hr]
    rw [ed] at d3
    obtain ⟨a, xs, rfl, sq, dall⟩ := d3.tupI
    obtain ⟨x, y, z, rfl, d1, d2, d4⟩ := dall.three
    cases d1.strI
    cases d2.intI
    cases d4.intI
    have hle := rRow_le hr
    refine ⟨_, rfl, a, _, 0, _, rfl, rfl, sq, rfl, rfl, _, rfl, iteN (by decide +kernel) ?_⟩
    refine ⟨_, rfl, 2, rfl, a, _, rfl, sq, fun h => absurd h (show ¬ (HT.sIx 3 0 none = 0 ∧ HT.sIx 3 3 (some 2) = 3) by decide), fun _ p np => ⟨Nat.le_of_ble_eq_true rfl, fun p2 np2 => ?_⟩⟩
    have s4 := (Same.new (o := HO.tup (cutV [.str "text", .int 0, .int (0 + (e : Int))] none (some 2))) np).trans (Same.new (o := HO.tup [.str "text", .int 0]) np2)
    refine rEqD_yes (d := .tuple [.str "text", .int 0]) (n := 1) (.tup (.inl (.inl (Same.new np2 _ _ upd_same))) (.cons (.str _) (.cons (.int _) .nil))) (.tup (.inl (.inl upd_same)) (.cons (.str _) (.cons (.int _) .nil))) rfl (shp_tup fun d hd => ?_) (by decide) ?_
    · simp at hd
      rcases hd with rfl | rfl
      · exact shp_str (by decide +kernel)
      · exact shp_int _
    refine ⟨_, rfl, iteT ⟨_, rfl, a, _, 2, _, rfl, rfl, Same.tup s4 sq, rfl, _, _, rfl, rfl, _, rfl, iteP (by simp) ⟨_, rfl, _, _, rfl, rfl, ?_⟩⟩⟩
    have eb : decide (0 + (e : Int) ≤ ((wordsOf t).length : Int)) = true := decide_eq_true (by omega)
    show Q (.bl (decide (0 + (e : Int) ≤ ((wordsOf t).length : Int)))) _
    rw [eb]
    exact q _ (x3.trans (ext_of s4)) (tabs_same T3 s4)
  | ok r =>
    have ed : hRow t 0 0 = hTold (dRw r) := by
      unfold hRow
      rw [hr]
    rw [ed] at d3
    obtain ⟨a, xs, rfl, sq, dall⟩ := d3.tupI
    obtain ⟨x, y, rfl, d1, hy⟩ := dall.two
    cases d1.strI
    obtain ⟨hw, hok⟩ := rRow_ok hr
    have het : lineS (wRw r) = t := by rw [← hw]; exact line_words t
    have hw3 := wRw_len r
    refine ⟨_, rfl, a, _, 0, _, rfl, rfl, sq, rfl, rfl, _, rfl, iteP (by decide +kernel) ?_⟩
    refine ⟨_, rfl, a, _, 1, _, rfl, rfl, sq, rfl, [dRw r], _, .cons hy .nil, ⟨r, hok, rfl, rfl⟩, fun u H4 e4 hu => ?_⟩
    cases hu.blI
    refine ⟨_, rfl, iteN (by decide) ⟨_, rfl, a, _, 1, _, rfl, rfl, Same.tup e4 sq, rfl, [dRw r], _, .cons (Dp.same e4 hy) .nil, ⟨r, hok, rfl, rfl⟩, fun u H5 e5 hu => ?_⟩⟩
    cases hu.strI
    refine ⟨_, rfl, rfl, _, rfl, iteN (by rw [het]; simp) ?_⟩
    have x5 := x3.trans (ext_of (e4.trans e5))
    have T5 := tabs_same T3 (e4.trans e5)
    clear e4 e5
    refine ⟨T5, fun H6 e6 T6 => ⟨_, ⟨t, rfl, by omega, rfl⟩, fun v H7 e7 d7 => ?_⟩⟩
    have x7 := x5.trans (e6.trans (ext_of e7))
    have T7 := tabs_same T6 e7
    have ed1 : hRow (t ++ (" 1" : Str)) 2 0 = hText 2 ((wordsOf t).length : Nat) := by
      unfold hRow
      rw [words_more, hw, rRow_more hok]
      show hText 2 (0 + ((wRw r).length : Int)) = _
      rw [Int.zero_add]
    rw [ed1] at d7
    refine ⟨_, rfl, Nat.le_of_ble_eq_true rfl, fun p np => rNeD_no (n := 1) (Dp.same (Same.new np) d7) (.tup (.inl (.inl upd_same)) (.cons (.str _) (.cons (.int _) (.cons (.int _) .nil)))) (plain_text _ _) (shp_text _ _) (by decide) ⟨_, rfl, iteF ?_⟩⟩
    have x8 := x7.trans (ext_of (Same.new (o := HO.tup [.str "text", .int 2, .int ((wordsOf t).length : Nat)]) np))
    have T8 := tabs_same T7 (Same.new (o := HO.tup [.str "text", .int 2, .int ((wordsOf t).length : Nat)]) np)
    generalize upd H7 p (.tup [.str "text", .int 2, .int ((wordsOf t).length : Nat)]) = H8 at x8 T8 ⊢
    clear x7 T7 e6 T6 e7 d7 np
    refine ⟨⟨_, rfl⟩, _, rfl, ⟨_, rfl⟩, t, sp, rfl, rfl, rfl, by unfold sizeLine; omega, fun L2 nL2 => ⟨1, rfl, _, rfl, L2, _, rfl, .inl (.inl upd_same), fun p2 np2 => ?_⟩⟩
    have s9 : Same H8 (upd (upd H8 L2 (.lst ((Txt.split t sp).map V.str))) p2 (.lst (cutV ((Txt.split t sp).map V.str) none (some (-1))))) := (Same.new nL2).trans (Same.new np2)
    rw [hws, cut_last] at s9
    rw [hws, cut_last]
    refine ⟨sp, p2, (wordsOf t).dropLast, rfl, rfl, .inl (.inl (.inl upd_same)), ?_, ?_⟩
    · have := wt_last (wordsOf t)
      have e1 := wt_words t
      exact sum_sp _ (by omega)
    rw [join_txt]
    generalize upd (upd H8 L2 (.lst ((wordsOf t).map V.str))) p2 (.lst ((wordsOf t).dropLast.map V.str)) = H9 at s9 ⊢
    have x9 := x8.trans (ext_of s9)
    have T9 := tabs_same T8 s9
    refine ⟨T9, fun H10 e10 T10 => ⟨_, ⟨_, rfl, ?_, rfl⟩, fun v H11 e11 d11 => ?_⟩⟩
    · have := wt_last (wordsOf t)
      have e1 := wt_words t
      have e2 := wt_le (s := sp) rfl (wordsOf t).dropLast
      unfold sizeLine
      omega
    have ed2 : hRow (Str.join sp (wordsOf t).dropLast) 0 3 = hText 0 (((wordsOf t).length : Int) + 2) := by
      unfold hRow
      rw [words_less (by rw [hw]; omega), hw, rRow_less hok]
      show hText 0 (3 + (((wRw r).length - 1 : Nat) : Int)) = _
      congr 1
      omega
    rw [ed2] at d11
    have s12 : ∀ p o, H11 p = none → LamX.ExtN H (upd H11 p o) := fun p o np => x9.trans (e10.trans (ext_of (e11.trans (Same.new np))))
    refine ⟨_, rfl, _, _, rfl, rfl, Nat.le_of_ble_eq_true rfl, fun p np => rEqD_yes (n := 1) (Dp.same (Same.new np) d11) (.tup (.inl (.inl upd_same)) (.cons (.str _) (.cons (.int _) (.cons (.int _) .nil)))) (plain_text _ _) (shp_text _ _) (by decide) (q _ (s12 _ _ np) (tabs_same (tabs_same T10 e11) (Same.new np)))⟩
end
end K12

/-! _law_any_page. -/
namespace K12
open PySem PySem.Spec PyProof.Rows L2
section
variable {X : Cx} {E : XK} {e o : Expr} {es : List Expr} {t : TA} {to : TE} {p pos apos : Pos}
theorem pbkK (K : PySem.W.Frag) (hK : X.K = K) (Y : TY X.prog X.K X.mg) (hr : Room 11 X.A) (hx : Passes (L2.CX X.prog X.w) X E) (ha : PA X [e] t) (hg : Gl X "book_read" := by rfl) (he : starEach [e] X.env = (false, eval e X.env) :: starEach [] X.env := by rfl) :
    PE X (.Call (.Name "book_read" p) [e] [] pos) (tCall (spBookRead K) [] E t) := by
  subst hK
  exact pc (ok_book_read Y) hr hx ha (hg := hg) (he := he)
theorem pltK (K : PySem.W.Frag) (hK : X.K = K) (Y : TY X.prog X.K X.mg) (hr : Room 11 X.A) (hx : Passes (L2.CX X.prog X.w) X E) (ha : PA X [e] t) (hg : Gl X "lets_book" := by rfl) (he : starEach [e] X.env = (false, eval e X.env) :: starEach [] X.env := by rfl) :
    PE X (.Call (.Name "lets_book" p) [e] [] pos) (tCall (spLets K) [] E t) := by
  subst hK
  exact pc (ok_lets_book Y) hr hx ha (hg := hg) (he := he)
theorem prdK (K : PySem.W.Frag) (hK : X.K = K) (Y : TB X.prog X.K X.mg) (hr : Room 11 X.A) (hx : Passes (L2.CX X.prog X.w) X E) (ho : PE X o to) (ha : PA X [e] t) {pl : Sem Bool} (he : starEach [e] X.env = (false, eval e X.env) :: starEach [] X.env := by rfl)
    (ht : eval (.Call (.Attribute o "read" apos) [e] [] pos) X.env = (do
      let ov ← eval o X.env
      standAt apos.atName
      let (f, first) ← holding [ov] (getMethod ov "read" pl)
      callWith pos f first (backTo pos (starEach [e] X.env)) (backToKw pos (keywordEach [] X.env))) := by rfl) :
    PE X (.Call (.Attribute o "read" apos) [e] [] pos) (ClX.tCMeth (cBk K) (spBkRd K) E to t) := by
  subst hK
  exact pcm (ok_Book_read Y) hr hx ho ha (hst := he) (ht := ht)
end
def spAnyP (K : PySem.W.Frag) : Sp := fun vs H Q _ => ∃ t, vs = [.str t] ∧ t.length ≤ 3000000 ∧ LamX.Tabs (tabsL K) H ∧ ∀ H', LamX.ExtN H H' → LamX.Tabs (tabsL K) H' → Q (.bl true) H'
section
variable {P : Program} {w : World} {K : PySem.W.Frag} {mg : Str → Option Value} {base : Heap}
theorem ok_law_any_page (Y : TL P K mg base) : Cal P w K mg base 14 "_law_any_page" ["_law_text_in"] (spAnyP K) := by
  have Y' := Y.th.tb.ty
  have T := Y'.tx
  have S : FnScope ["_law_text_in", "_law_lines", "_law_made", "_law_spots", "_law_ways", "_law_slip_in", "_law_rows_in", "_law_told", "_law_heard_here", "_law_own", "_law_item"] ["_law_text_in"] (defScope s_law_any_page) := ⟨rfl, rfl, rfl, by decide +kernel, rfl, by decide +kernel, by decide +kernel⟩
  have TB := Y.tab "_law_any_page" (by decide +kernel)
  have hmT := tabs_mem (K := K) (x := "_law_any_page") (by decide +kernel)
  have hun := tabs_one Y (x := "_law_any_page") (by decide +kernel)
  obtain ⟨pF, gF, fdF, hpF, hFF, hbF⟩ := ok_Book_form (w := w) (mg := mg) (base := base) Y.th.tb
  have hST := ok_Book_str (w := w) (base := base) Y.th.tb
  refine T.defC i_law_any_page (d := d_law_any_page) rfl rfl S (fun _ _ _ _ _ _ us hl => match us, hl with | [_], _ => rfl) (by rintro vs H Q E ⟨t, rfl, _⟩; rfl) (fun A outer s H vs Q E hr h => ?_)
  obtain ⟨t, rfl, htl, hT, q⟩ := h
  have nd := S.nd
  refine ⟨_, (pss_cons (ps_set (i := 1) nd rfl (.inl rfl) (pe_split (pv 0) (pS nl_is)))
    (pss_cons (ps_set (i := 8) nd rfl (.inr rfl) (pe_hear (K := K) (fun σ _ d => ∃ t : Str, σ[0]? = some (some (.str t)) ∧ t.length < 4000000 ∧ d = hBk t) (pHeard (k := 11) (T := tabsL K) Y.th hr TB rfl hmT hun (fun A outer s H E f c' hr' hx' => by exact pbkK K rfl Y' hr' hx' (pa_cons (pv 0) pa_nil)) (show LamX.LamS (defScope s_law_any_page) _ from LamX.lamS_by (by decide +kernel))) (by rintro σ H d Q ⟨t, h0, hz, rfl⟩ q; exact ⟨_, h0, tth_book hz q⟩)))
    (pss_cons (ps_set (i := 2) nd rfl (.inl rfl) (pe_made (K := K) (fun σ _ t => σ[0]? = some (some (.str t))) (pHeard (k := 11) (T := tabsL K) Y.th hr TB rfl hmT hun (fun A outer s H E f c' hr' hx' => by exact prdK K rfl Y.th.tb hr' hx' (gR T.glo) (pa_cons (pv 0) pa_nil)) (show LamX.LamS (defScope s_law_any_page) _ from LamX.lamS_by (by decide +kernel))) (by intro σ H t Q h0 q; exact ⟨rfl, _, h0, q⟩)))
    (pss_cons (ps_if (pt_cmpR op_eq (pe_ix (ixT K) (pv 8) pe_int (fun _ _ => rfl)) pe_str (nomark _)) (pss_cons (ps_if (pt_cmpR (op_neD hr.units) (pv 2) (pv 8) (nomark _)) (pss_one (ps_ret pe_bl)) pss_nil)
    (pss_cons (ps_if (pt_cmpR op_eq (pe_ix (ixT K) (pv 8) pe_int (fun _ _ => rfl)) (pe_callB call_len_seq rfl T.free boot_len (pa_cons (pv 1) pa_nil)) (nomark _)) (pss_one (ps_ret (pe_cmpR op_eq (pe_ix (ixT K) (pv 8) pe_int (fun _ _ => rfl)) pe_int (nomark _)))) pss_nil)
    (pss_one (ps_ret (pe_and (pe_chain op_le op_lt pe_int (pe_ix (ixT K) (pv 8) pe_int (fun _ _ => rfl)) (pe_callB call_len_seq rfl T.free boot_len (pa_cons (pv 1) pa_nil))) (pe_one (pe_chain op_le op_le pe_int (pe_ix (ixT K) (pv 8) pe_int (fun _ _ => rfl)) (pe_callB call_len_seq rfl T.free boot_len (pa_cons (pe_split (pe_ix ix_list (pv 1) (pe_ix (ixT K) (pv 8) pe_int (fun _ _ => rfl)) (fun _ _ => rfl)) (pS sp_is)) pa_nil))))))))) pss_nil)
    (pss_cons (ps_if (PW.pt (pw_or (pt_cmpR op_ne (pe_ix (ixT K) (pv 8) pe_int (fun _ _ => rfl)) pe_str (nomark _)) (pw_or1 (pt_cmpR op_ne (pc (ok_book_text T) hr passB (pa_cons (pe_ix (ixT K) (pv 8) pe_int (fun _ _ => rfl)) pa_nil)) (pv 0) (nomark _))))) (pss_one (ps_ret pe_bl)) pss_nil)
    (pss_cons (ps_asg (pe_ix (ixT K) (pv 8) pe_int (fun _ _ => rfl)) (pg_tup rfl (pgs_cons (pg_name (i := 3) nd rfl (.inl rfl)) (pgs_cons (pg_name (i := 4) nd rfl (.inl rfl)) (pgs_cons (pg_name (i := 5) nd rfl (.inl rfl)) (pgs_cons (pg_name (i := 6) nd rfl (.inl rfl)) pgs_nil))))))
    (pss_cons (ps_if (PW.pt (pw_or (pt_cmpR (op_neD hr.units) (pe_none (K := K) (j := 3) (i := 9) (f := fPlace) (pe_lc (own := [("_law_own", 9)]) (g := gName 9) (tt := tFlt K fPlace 9) rfl nd (pi_tup (pv 3)) (blkOk_by (N := ["_law_text_in", "_law_lines", "_law_made", "_law_spots", "_law_ways", "_law_slip_in", "_law_rows_in", "_law_told", "_law_heard_here", "_law_own", "_law_item"]) (sc := defScope s_law_any_page) (by decide +kernel)) (fun _ _ _ _ _ => pg_name (i := 9) nd rfl (Or.inl rfl)) (fun _ _ _ _ _ => pts_one (pt_not (pt_val (pc (ok_is_place T) hr passL (pa_cons (pv 9) pa_nil))))) (fun _ _ _ _ _ => pv 9))) (pe_lst pa_nil) (nomark _)) (pw_or1 (pt_cmpR (op_neD hr.units) (pe_none (K := K) (j := 4) (i := 9) (f := fCost) (pe_lc (own := [("_law_own", 9)]) (g := gName 9) (tt := tFlt K fCost 9) rfl nd (pi_tup (pv 4)) (blkOk_by (N := ["_law_text_in", "_law_lines", "_law_made", "_law_spots", "_law_ways", "_law_slip_in", "_law_rows_in", "_law_told", "_law_heard_here", "_law_own", "_law_item"]) (sc := defScope s_law_any_page) (by decide +kernel)) (fun _ _ _ _ _ => pg_name (i := 9) nd rfl (Or.inl rfl)) (fun _ _ _ _ _ => pts_one (pt_not (pt_val (pc (ok_is_cost T) hr passL (pa_cons (pv 9) pa_nil))))) (fun _ _ _ _ _ => pv 9))) (pe_lst pa_nil) (nomark _))))) (pss_one (ps_ret pe_bl)) pss_nil)
    (pss_cons (ps_if (PW.pt (pw_or (pt_cmpR (op_neD hr.units) (pe_none (K := K) (j := 6) (i := 10) (f := fRow) (pe_lc (own := [("_law_item", 10)]) (g := gName 10) (tt := tFlt K fRow 10) rfl nd (pi_tup (pv 6)) (blkOk_by (N := ["_law_text_in", "_law_lines", "_law_made", "_law_spots", "_law_ways", "_law_slip_in", "_law_rows_in", "_law_told", "_law_heard_here", "_law_own", "_law_item"]) (sc := defScope s_law_any_page) (by decide +kernel)) (fun _ _ _ _ _ => pg_name (i := 10) nd rfl (Or.inl rfl)) (fun _ _ _ _ _ => pts_one (pt_not (pt_val (pc (ok_is_row T) hr passL (pa_cons (pv 10) pa_nil))))) (fun _ _ _ _ _ => pv 10))) (pe_lst pa_nil) (nomark _)) (pw_or1 (pt_cmpR op_ne (pe_callB call_len_seq rfl T.free boot_len (pa_cons (pv 1) pa_nil)) (pe_op op_add (pe_op op_add (pe_op op_add pe_int (pe_callB call_len_seq rfl T.free boot_len (pa_cons (pv 3) pa_nil))) (pe_callB call_len_seq rfl T.free boot_len (pa_cons (pv 4) pa_nil))) (pe_callB call_len_seq rfl T.free boot_len (pa_cons (pv 6) pa_nil))) (nomark _))))) (pss_one (ps_ret pe_bl)) pss_nil)
    (pss_cons (ps_set (i := 7) nd rfl (.inl rfl) (pe_hear (K := K) (fun σ H d => ∃ (a : Addr) (v y : V) (b : Bk), σ[8]? = some (some (.ref a)) ∧ SqT K H a [y, v] ∧ Dp K H v (dBk b) ∧ OkBk b ∧ b.places.length + b.ways.length + b.rows.length < 4000000 ∧ d = hLets b) (pHeard (k := 11) (T := tabsL K) Y.th hr TB rfl hmT hun (fun A outer s H E f c' hr' hx' => by exact pltK K rfl Y' hr' hx' (pa_cons (pe_ix (ixT K) (pv 8) pe_int (fun _ _ => rfl)) pa_nil)) (show LamX.LamS (defScope s_law_any_page) _ from LamX.lamS_by (by decide +kernel))) (by rintro σ H d Q ⟨a, v, y, b, h0, hq, hv, hb, hz, rfl⟩ q; exact ⟨_, h0, a, _, 1, _, rfl, rfl, hq, rfl, tth_lets hv hb hz q⟩)))
    (pss_cons (ps_if (pt_cmpR op_eq (pe_ix (ixT K) (pv 7) pe_int (fun _ _ => rfl)) pe_str (nomark _)) (pss_one (ps_ret (pe_and (pe_cmpR op_eq (pe_ix (ixT K) (pv 2) pe_int (fun _ _ => rfl)) pe_str (nomark _)) (pe_and (pe_cmpR (op_eqD hr.units) (pe_prop (pe_ix (ixT K) (pv 2) pe_int (fun _ _ => rfl)) Y'.clsB hpF hFF (hr.mono (by decide)) hbF .nil passL rfl) (pe_ix (ixT K) (pv 8) pe_int (fun _ _ => rfl)) (nomark _)) (pe_one (pe_cmpR op_eq (pe_callTy (cr_strO hST hr passB Y.th.tb.str.1 Y.th.tb.str.2) rfl T.free boot_str (pa_cons (pe_ix (ixT K) (pv 2) pe_int (fun _ _ => rfl)) pa_nil)) (pv 0) (nomark _))))))) pss_nil)
    (pss_one (ps_ret (pe_and (pe_cmpR op_eq (pe_ix (ixT K) (pv 7) pe_int (fun _ _ => rfl)) pe_str (nomark _)) (pe_and (pe_cmpR op_ne (pe_ix (ixT K) (pv 7) pe_int (fun _ _ => rfl)) pe_str (nomark _)) (pe_one (pe_cmpR (op_eqD hr.units) (pv 2) (pv 7) (nomark _))))))))))))))))), ?_⟩
  have hLl : (linesOf t).length ≤ t.length + 1 := cut_count
  have hml : ((linesOf t).map V.str).length = (linesOf t).length := List.length_map ..
  have hls : Txt.split t nl = linesOf t := rfl
  refine ⟨_, rfl, ⟨_, rfl⟩, t, nl, rfl, rfl, rfl, by unfold sizeLine; omega, fun L nL => ?_⟩
  have s1 : Same H (upd H L (.lst ((Txt.split t nl).map V.str))) := Same.new nL
  have g1 : SqL K (upd H L (.lst ((Txt.split t nl).map V.str))) L ((linesOf t).map V.str) := .inl (.inl upd_same)
  generalize upd H L (.lst ((Txt.split t nl).map V.str)) = H1 at s1 g1 ⊢
  refine ⟨tabs_same hT s1, fun H2 e2 T2 => ⟨_, ⟨t, rfl, by omega, rfl⟩, fun v H3 e3 d3 => ?_⟩⟩
  refine ⟨tabs_same T2 e3, fun H4 e4 T4 => ⟨t, rfl, by omega, fun u H5 e5 m5 => ?_⟩⟩
  have x5 : LamX.ExtN H H5 := (ext_of s1).trans (e2.trans ((ext_of e3).trans (e4.trans (ext_of e5))))
  have T5 := tabs_same T4 e5
  have g5 : SqL K H5 L ((linesOf t).map V.str) := SqL.ext (e2.trans ((ext_of e3).trans (e4.trans (ext_of e5)))) g1
  replace d3 := Dp.ext (e4.trans (ext_of e5)) d3
  clear e2 T2 e3 e4 T4 e5 s1 g1 nL
  cases hr : rBook t with
  | error lf =>
    obtain ⟨l, fl⟩ := lf
    have ed : hBk t = hText (l : Nat) (fl : Nat) := by
      unfold hBk
      rw [hr]
    have em : hMade t = hText (l : Nat) (fl : Nat) := by
      unfold hMade
      rw [hr]
    rw [ed] at d3
    rcases m5 with ⟨b, _, _, hb, _⟩ | ⟨_, du⟩
    · rw [hr] at hb
      cases hb
    rw [em] at du
    have d3' := d3
    obtain ⟨a, xs, rfl, sq, dall⟩ := d3.tupI
    obtain ⟨x, y, z, rfl, d1, d2, d4⟩ := dall.three
    cases d1.strI
    cases d2.intI
    cases d4.intI
    refine ⟨_, rfl, a, _, 0, _, rfl, rfl, sq, rfl, rfl, _, rfl, iteP (by decide +kernel) ?_⟩
    refine ⟨_, rfl, _, rfl, rNeD_no (n := 1) du d3' (plain_text _ _) (shp_text _ _) (by decide) ⟨_, rfl, iteF ?_⟩⟩
    refine ⟨_, rfl, a, _, 1, _, rfl, rfl, sq, rfl, _, rfl, L, _, rfl, .inl g5, rfl, _, rfl, ?_⟩
    rw [hml]
    rcases rBook_err hr with ⟨h1, h2⟩ | ⟨line, h1, h2⟩
    · refine iteP (by rw [h1]; simp) ⟨_, rfl, a, _, 2, _, rfl, rfl, sq, rfl, rfl, ?_⟩
      rw [h2]
      exact q _ x5 T5
    · have hlt : l < (linesOf t).length := (List.getElem?_eq_some_iff.mp h1).1
      have hlen : line.length ≤ t.length := cut_len _ (List.mem_of_getElem? h1)
      have hwl : (wordsOf line).length ≤ line.length + 1 := cut_count
      refine iteN (by simp; omega) ?_
      refine ⟨_, rfl, a, _, 1, _, rfl, rfl, sq, rfl, _, _, rfl, rfl, _, rfl, iteP (by simp) ⟨_, rfl, L, _, rfl, .inl g5, _, _, rfl, rfl, _, rfl, iteP (by rw [hml]; simp; omega) ?_⟩⟩
      refine ⟨_, rfl, a, _, 2, _, rfl, rfl, sq, rfl, _, _, rfl, rfl, _, rfl, iteP (by simp) ?_⟩
      refine ⟨_, rfl, _, rfl, a, _, 1, _, rfl, rfl, sq, rfl, L, _, _, .str line, rfl, rfl, g5, atI_nat (by rw [List.getElem?_map, h1]; rfl), ⟨_, rfl⟩, _, sp, rfl, rfl, rfl, by unfold sizeLine; omega, fun Wd nW => ⟨Wd, _, rfl, .inl (.inl (.inl upd_same)), _, _, rfl, rfl, ?_⟩⟩
      have s6 := Same.new (o := HO.lst ((Txt.split line sp).map V.str)) nW
      have eb : decide (((fl : Nat) : Int) ≤ ((((Txt.split line sp).map V.str).length : Nat) : Int)) = true := decide_eq_true (by
        rw [List.length_map]
        have : (Txt.split line sp).length = (wordsOf line).length := rfl
        omega)
      show Q (.bl (decide (((fl : Nat) : Int) ≤ ((((Txt.split line sp).map V.str).length : Nat) : Int)))) _
      rw [eb]
      exact q _ (x5.trans (ext_of s6)) (tabs_same T5 s6)
  | ok b =>
    obtain ⟨hok, hbt, hbl⟩ := rBook_ok hr
    have hsz := bk_size hr (by omega)
    have ed : hBk t = hTold (dBk b) := by
      unfold hBk
      rw [hr]
    have em : hMade t = hLets b := by
      unfold hMade
      rw [hr]
    rw [ed] at d3
    obtain ⟨a, xs, rfl, sq, dall⟩ := d3.tupI
    obtain ⟨x, y, rfl, d1, hy⟩ := dall.two
    cases d1.strI
    refine ⟨_, rfl, a, _, 0, _, rfl, rfl, sq, rfl, rfl, _, rfl, iteN (by decide +kernel) ?_⟩
    refine ⟨_, rfl, a, _, 0, _, rfl, rfl, sq, rfl, rfl, _, rfl, iteN (by decide +kernel) ⟨_, rfl, a, _, 1, _, rfl, rfl, sq, rfl, [dBk b], _, .cons hy .nil, ⟨b, hok, rfl, by rw [hbt]; omega, rfl⟩, fun u6 H6 e6 hu => ?_⟩⟩
    cases hu.strI
    refine ⟨_, rfl, rfl, _, rfl, iteN (by rw [hbt]; simp) ?_⟩
    replace x5 := x5.trans (ext_of e6)
    replace T5 := tabs_same T5 e6
    replace m5 := m5.ext (ext_of e6)
    replace g5 := SqL.ext (ext_of e6) g5
    replace sq := Same.tup e6 sq
    replace hy := Dp.same e6 hy
    clear dall d1 d3 hu e6
    obtain ⟨ta, p, w2, r, ps, ws, rs, rfl, ht, tp, dp, tw, dw, tr, dr⟩ := hy.bkI
    refine ⟨_, rfl, a, _, 1, _, rfl, rfl, sq, rfl, ta, _, rfl, ht, rfl, _, _, rfl, _, _, rfl, _, _, rfl, _, _, rfl, rfl, ?_⟩
    have lp : ps.length = b.places.length := by rw [DpAll.length dp, List.length_map]
    have lw : ws.length = b.ways.length := by rw [DpAll.length dw, List.length_map]
    have lr : rs.length = b.rows.length := by rw [DpAll.length dr, List.length_map]
    have sl4 : (4000000 : Nat) < sizeLine := by decide
    refine ⟨p, ps, _, rfl, Nat.le_of_ble_eq_true rfl, tp, dp, fun d hd => ?_, by rw [List.length_map]; omega, fun v7 H7 e7 h7 => ?_⟩
    · obtain ⟨x, hx, rfl⟩ := List.mem_map.mp hd
      exact ⟨x, hok.pl x hx, rfl, rfl⟩
    refine ⟨Nat.zero_le _, fun q7 n7 => rNeD_noL (n := 1) (Dp.same (Same.new n7) h7) (.lst (.inl (.inl upd_same)) .nil) rfl shp_nil (by decide) ⟨_, rfl, iteF ?_⟩⟩
    have e8 := e7.trans (Same.new (o := HO.lst []) n7)
    refine ⟨w2, ws, _, rfl, Nat.le_of_ble_eq_true rfl, Same.tup e8 tw, DpAll.same e8 dw, fun d hd => ?_, by rw [List.length_map]; omega, fun v9 H9 e9 h9 => ?_⟩
    · obtain ⟨x, hx, rfl⟩ := List.mem_map.mp hd
      exact ⟨x, hok.wy x hx, rfl, rfl⟩
    refine ⟨Nat.zero_le _, fun q9 n9 => rNeD_noL (n := 1) (Dp.same (Same.new n9) h9) (.lst (.inl (.inl upd_same)) .nil) rfl shp_nil (by decide) ⟨_, rfl, iteF ?_⟩⟩
    have e10 := e8.trans (e9.trans (Same.new (o := HO.lst []) n9))
    refine ⟨r, rs, _, rfl, Nat.le_of_ble_eq_true rfl, Same.tup e10 tr, DpAll.same e10 dr, fun d hd => ?_, by rw [List.length_map]; omega, fun v11 H11 e11 h11 => ?_⟩
    · obtain ⟨x, hx, rfl⟩ := List.mem_map.mp hd
      exact ⟨x, hok.rw' x hx, rfl, rfl⟩
    refine ⟨Nat.zero_le _, fun q11 n11 => rNeD_noL (n := 1) (Dp.same (Same.new n11) h11) (.lst (.inl (.inl upd_same)) .nil) rfl shp_nil (by decide) ⟨_, rfl, iteF ?_⟩⟩
    have e12 := e10.trans (e11.trans (Same.new (o := HO.lst []) n11))
    generalize upd H11 q11 (.lst []) = H12 at e12 ⊢
    clear e7 e8 e9 e10 e11 h7 h9 h11 n7 n9 n11
    replace x5 := x5.trans (ext_of e12)
    replace T5 := tabs_same T5 e12
    replace m5 := m5.ext (ext_of e12)
    replace g5 := SqL.ext (ext_of e12) g5
    replace sq := Same.tup e12 sq
    replace hy := Dp.same e12 hy
    replace tp := Same.tup e12 tp
    replace tw := Same.tup e12 tw
    replace tr := Same.tup e12 tr
    have el : ((((linesOf t).map V.str).length : Nat) : Int) = 1 + (ps.length : Int) + (ws.length : Int) + (rs.length : Int) := by
      rw [hml, hbl, length_bk]
      omega
    refine ⟨_, rfl, L, _, rfl, .inl g5, _, rfl, p, ps, rfl, .inr tp, _, _, rfl, rfl, _, rfl, w2, ws, rfl, .inr tw, _, _, rfl, rfl, _, rfl, r, rs, rfl, .inr tr, _, _, rfl, rfl, rfl, _, rfl, iteN (by rw [el]; simp) ?_⟩
    refine ⟨T5, fun H13 e13 T13 => ⟨_, ⟨a, _, _, b, rfl, SqT.ext e13 sq, Dp.ext e13 hy, hok, hsz, rfl⟩, fun v14 H14 e14 d14 => ?_⟩⟩
    have x14 := e13.trans (ext_of e14)
    replace x5 := x5.trans x14
    replace T5 := tabs_same T13 e14
    replace m5 := m5.ext x14
    replace sq := SqT.ext x14 sq
    replace hy := Dp.ext x14 hy
    clear g5 tp tw tr dp dw dr e12 e13 e14 T13 x14 ht
    cases hl : lets b with
    | none =>
      have ed2 : hLets b = hTold (.int (b.rows.length : Nat)) := by
        unfold hLets
        rw [hl]
      rw [ed2] at d14
      obtain ⟨c, xs, rfl, sc, dall⟩ := d14.tupI
      obtain ⟨y1, y2, rfl, d1, d2⟩ := dall.two
      cases d1.strI
      rcases m5 with ⟨b2, x, p2, hb2, _, hx, rfl, sp2⟩ | ⟨hn, _⟩
      rotate_left
      · exact absurd hl (hn b hr)
      rw [hr] at hb2
      cases hb2
      refine ⟨_, rfl, c, _, 0, _, rfl, rfl, sc, rfl, rfl, _, rfl, iteP (by decide +kernel) ?_⟩
      refine ⟨_, rfl, p2, _, 0, _, rfl, rfl, sp2, rfl, rfl, _, rfl, iteP (by decide +kernel) ?_⟩
      have hx' := hx
      obtain ⟨dx, pp, cc, tt, hx1, _⟩ := hx'
      refine ⟨_, rfl, p2, _, 1, _, rfl, rfl, sp2, rfl, x, dx, _, rfl, hx1, x, b, rfl, hx, fun f15 H15 e15 h15 => ?_⟩
      refine ⟨_, rfl, a, _, 1, _, rfl, rfl, Same.tup e15 sq, rfl, rEqD_yes h15 (Dp.same e15 hy) (plain_bk b) (shp_bk hok) (by decide) ⟨_, rfl, iteT ?_⟩⟩
      refine ⟨_, rfl, p2, _, 1, _, rfl, rfl, Same.tup e15 sp2, rfl, x, dx, _, rfl, e15 _ _ hx1, x, b, rfl, hx.same e15, hok, by rw [hbt]; omega, fun H16 e16 => ⟨⟨_, rfl⟩, _, rfl, rfl, ?_⟩⟩
      rw [hbt]
      have eb : decide (V.str t = V.str t) = true := decide_eq_true rfl
      show Q (.bl (decide (V.str t = V.str t))) _
      rw [eb]
      exact q _ (x5.trans (ext_of (e15.trans e16))) (tabs_same T5 (e15.trans e16))
    | some wk =>
      obtain ⟨wd, k⟩ := wk
      have hwd := words_lets hl
      have ed2 : hLets b = hPaper wd k := by
        unfold hLets
        rw [hl]
      rw [ed2] at d14
      rcases m5 with ⟨b2, _, _, hb2, hl2, _⟩ | ⟨_, du⟩
      · rw [hr] at hb2
        cases hb2
        rw [hl] at hl2
        cases hl2
      rw [em, ed2] at du
      have d14' := d14
      obtain ⟨c, xs, rfl, sc, dall⟩ := d14.tupI
      obtain ⟨y1, y2, y3, rfl, d1, d2, d3⟩ := dall.three
      cases d1.strI
      cases d2.strI
      refine ⟨_, rfl, c, _, 0, _, rfl, rfl, sc, rfl, rfl, _, rfl, iteN (by decide +kernel) ?_⟩
      refine ⟨_, rfl, c, _, 0, _, rfl, rfl, sc, rfl, rfl, _, rfl, iteP (by decide +kernel) ?_⟩
      refine ⟨_, rfl, c, _, 1, _, rfl, rfl, sc, rfl, rfl, _, rfl, iteP ?_ ?_⟩
      · rcases hwd with rfl | rfl | rfl | rfl | rfl <;> decide +kernel
      exact ⟨_, rfl, _, rfl, rEqD_yes du d14' (plain_paper _ _) (shp_paper _ hwd) (by decide) (q _ x5 T5)⟩
end
end K12

/-! repr of data; calls of a def that wants to know that no repr is under way. -/
namespace K12
open PySem PySem.Spec PyProof.Rows L2
/-- data whose text is short -/
structure Shw (n w : Nat) (d : PyData) : Prop where
  shp : Shp n d
  shortI : d.intsShort 13 = true
  vis : d.showable = true
  wgt : d.weight ≤ w
theorem shw_tup {n w k : Nat} {ds : List PyData} (h : ∀ d ∈ ds, Shw n w d) (hk : ds.length ≤ k) : Shw (n + 1) ((w + 1) * k) (.tuple ds) := by
  have key : ∀ {l : List PyData}, (∀ d ∈ l, Shw n w d) → PyData.intsShortAll 13 l = true ∧ PyData.showableAll l = true ∧ PyData.weightAll l ≤ (w + 1) * l.length := by
    intro l
    induction l with
    | nil => intro _; exact ⟨rfl, rfl, Nat.zero_le _⟩
    | cons x r ih =>
      intro hx
      obtain ⟨a, b, c⟩ := ih fun d hd => hx d (List.mem_cons_of_mem _ hd)
      obtain ⟨_, a1, b1, c1⟩ := hx x List.mem_cons_self
      refine ⟨by simp [PyData.intsShortAll, a, a1], by simp [PyData.showableAll, b, b1], ?_⟩
      simp only [PyData.weightAll, List.length_cons, Nat.mul_add]
      omega
  obtain ⟨a, b, c⟩ := key h
  refine ⟨shp_tup fun d hd => (h d hd).shp, by simpa [PyData.intsShort] using a, by simpa [PyData.showable] using b, ?_⟩
  simp only [PyData.weight]
  exact Nat.le_trans c (Nat.mul_le_mul_left _ hk)
theorem Shw.up {n w v : Nat} {d : PyData} (h : Shw n w d) (hv : w ≤ v := by decide) {m : Nat} (hm : n ≤ m := by decide) : Shw m v d := ⟨⟨h.shp.1, Nat.le_trans h.shp.2 hm⟩, h.shortI, h.vis, Nat.le_trans h.wgt hv⟩
theorem shw_int {n i : Nat} (h : i ≤ 100) : Shw n 8 (.int (i : Int)) := by
  have hl : i.log2 < 7 ∨ i = 0 := by
    by_cases h0 : i = 0
    · exact .inr h0
    · exact .inl ((Nat.log2_lt h0).mpr (by omega))
  refine ⟨shp_int _, ?_, ?_, ?_⟩
  · simp only [PyData.intsShort, decide_eq_true_eq]
    refine PyData.shown_int_le ?_
    rw [Int.natAbs_natCast]
    have : (10 : Nat) ^ 12 = 1000000000000 := by decide
    omega
  · simp only [PyData.showable, decide_eq_true_eq, Int.natAbs_natCast]
    rcases hl with z | z
    · omega
    · rw [z]
      decide
  · simp only [PyData.weight, Int.natAbs_natCast]
    split <;> rcases hl with z | z
    all_goals first | omega | (rw [z]; decide)
theorem shw_non {n : Nat} : Shw n 8 .none := ⟨shp_non, rfl, rfl, Nat.zero_le _⟩
theorem shw_name {n : Nat} {z : Str} (h : isName z = true) : Shw n 8 (.str z) := by
  refine ⟨shp_name h, rfl, rfl, ?_⟩
  unfold isName at h
  simp only [Bool.and_eq_true, decide_eq_true_eq] at h
  simp only [PyData.weight]
  exact h.1.2
theorem shw_pl {p : Pl} (h : OkPl p) (h1 : p.2.2 ≤ 100) : Shw 1 27 (dPl p) := shw_tup (k := 3) (w := 8) (fun d hd => by
  simp at hd
  rcases hd with rfl | rfl | rfl
  · exact shw_name (isName_of h.1)
  · exact shw_int (Nat.le_trans h.2.1 h1)
  · exact shw_int h1) (Nat.le_refl _)
theorem shw_wy {p : Wy} (h : OkWy p) (h1 : p.2.2 ≤ 100) : Shw 1 27 (dWy p) := shw_tup (k := 3) (w := 8) (fun d hd => by
  simp at hd
  rcases hd with rfl | rfl | rfl
  · exact shw_name h.1
  · exact shw_name h.2.1
  · exact shw_int h1) (Nat.le_refl _)
theorem shw_rw {r : Rw} (h : OkRw r) (h1 : rowN r ≤ 100) : Shw 1 36 (dRw r) := by
  cases r with
  | move a b n => exact shw_tup (k := 4) (w := 8) (fun d hd => by
      simp at hd
      rcases hd with rfl | rfl | rfl | rfl
      · exact shw_name (by decide +kernel)
      · exact shw_name h.1
      · exact shw_name h.2.1
      · exact shw_int h1) (Nat.le_refl _)
  | count a n => exact shw_tup (k := 4) (w := 8) (fun d hd => by
      simp at hd
      rcases hd with rfl | rfl | rfl
      · exact shw_name (by decide +kernel)
      · exact shw_name (isName_of h.1)
      · exact shw_int h1) (show 3 ≤ 4 by decide)
theorem Sheet.shw {b : Bk} {size : Nat} (h : Sheet b size) (hs : size ≤ 5) : Shw 3 744 (dBk b) := by
  have ok := h.ok
  obtain ⟨i, hi, hp, hw, hr⟩ := h.ex
  obtain ⟨h1, _, _, _, _, h6, _⟩ := menu_all hi
  refine shw_tup (n := 2) (w := 185) (k := 4) (fun d hd => ?_) (Nat.le_refl _)
  simp at hd
  rcases hd with rfl | rfl | rfl | rfl
  · refine (shw_tup (n := 1) (w := 27) (k := 4) (fun d hd => ?_) (by rw [List.length_map, hp]; exact h6)).up
    obtain ⟨p, hpm, rfl⟩ := List.mem_map.mp hd
    refine shw_pl (ok.pl p hpm) ?_
    rw [hp] at hpm
    have := (h1 p hpm).2.2.1
    omega
  · refine (shw_tup (n := 1) (w := 27) (k := 5) (fun d hd => ?_) (by rw [List.length_map]; exact h.few)).up
    obtain ⟨p, hpm, rfl⟩ := List.mem_map.mp hd
    refine shw_wy (ok.wy p hpm) ?_
    have := (hw p hpm).2.2.2.2
    omega
  · rcases h.slip with e | e | e | e <;> rw [e]
    · exact (shw_non (n := 2)).up
    · exact (shw_int (n := 2) (i := 4) (by decide)).up (hm := Nat.le_refl _)
    · exact (shw_int (n := 2) (i := 1) (by decide)).up (hm := Nat.le_refl _)
    · exact (shw_int (n := 2) (i := 9) (by decide)).up (hm := Nat.le_refl _)
  · refine (shw_tup (n := 1) (w := 36) (k := 5) (fun d hd => ?_) (by rw [List.length_map, h.rows]; exact hs)).up
    obtain ⟨p, hpm, rfl⟩ := List.mem_map.mp hd
    refine shw_rw (ok.rw' p hpm) ?_
    have z := hr p hpm
    cases p with
    | move x y n => exact Nat.le_trans z.2.2.2.2.2.2 (by decide)
    | count x n =>
      obtain ⟨k1, k2, k3⟩ := z
      obtain ⟨c, _, _, hc, e, _⟩ := name_cap hi k1 k2
      show n ≤ 100
      omega
theorem Shw.fits {n w : Nat} {d : PyData} (h : Shw n w d) (hn : n ≤ 60 := by decide) (hw : w ≤ 1000000 := by decide) : d.hasDict = false ∧ d.shown.length ≤ sizeLine := by
  have hl : PyData.layable0 d = true := by
    unfold PyData.layable0
    have h1 := h.shp.2
    have h2 := h.wgt
    have e : (2 : Nat) ^ 20 = 1048576 := by decide
    simp only [Bool.and_eq_true, decide_eq_true_eq]
    exact ⟨⟨h.shp.1, by omega⟩, by omega⟩
  exact ⟨PyData.hasDict_of_layable hl, PyData.shown_fits_of_layable0 (B := 13) (by decide) (by decide) hl h.shortI⟩
theorem call_reprD {X : Cx} (K : PySem.W.Frag) (hK : X.K = K) (hg : X.A.guards = some []) (hu : X.A.units + 70 < cLine) : CallR X (.builtin "repr") (fun xs H Q => ∃ v d, xs = [v] ∧ Dp K H v d ∧ (∃ ds, d = .tuple ds) ∧ (∃ w, Shw 60 w d ∧ w ≤ 1000000) ∧ Q (.str d.shown) H) := by
  subst hK
  intro pn z σ G xs us Q I r ⟨v, d, ex, hd, ⟨ds, ed⟩, ⟨w, hs, hw⟩, q⟩
  subst ex
  subst ed
  obtain ⟨u, rfl, ru⟩ := vals1 r
  obtain ⟨a, _, rfl, _, _⟩ := hd.tupI
  obtain rfl : u = Value.ref a := ru
  obtain ⟨as, hr⟩ := Dp.reads I _ _ _ hd rfl
  obtain ⟨hn, hf⟩ := hs.fits (hw := hw)
  have h60 := hs.shp.2
  exact repr_of_reads' hr hs.vis (PyData.noDict_hsm hn) hg (by omega) (fun _ _ e => e) (fun h' u tk hk => ⟨.str _, G, I.kept hk, ⟨u, rfl⟩, q⟩) hf
/-! ### a def called where no repr is under way -/
/-- a def of the module that is only called where no repr is under way -/
def CalG (P : Program) (w : World) (K : PySem.W.Frag) (mg : Str → Option Value) (base : Heap) (k : Nat) (x : Str) (sp : Sp) : Prop :=
  ∃ f : Addr, (∀ (A : Around) (outer : List Env) (s : Shared) (H : Hp) (us : List Value) (vs : List V) (Q : VK) (E : XK), A.guards = some [] → Room k A → Env0 P w K mg base A outer s H → Vals vs us → sp vs H Q E →
    codeAny (model P w) A (.call (.ref f) ⟨us, []⟩) (CR (L2.CX P w) outer P w H s Q E) s) ∧ mg x = some (.ref f) ∧ PySem.W.keepIn K (.ref f) = true
theorem pcG {X : Cx} {k : Nat} {x : Str} {sp : Sp} {E : XK} {e : Expr} {es : List Expr} {t : TA} {p pos : Pos} (c : CalG X.prog X.w X.K X.mg X.base k x sp) (hgu : X.A.guards = some []) (hr : Room k X.A) (hx : Passes (L2.CX X.prog X.w) X E) (ha : PA X (e :: es) t) (hg : Gl X x := by rfl) (hdb : (x == ("__debug__" : Str)) = false := by decide)
    (he : starEach (e :: es) X.env = (false, eval e X.env) :: starEach es X.env := by rfl) (hpl : (backTo pos (starEach es X.env)).any (·.1) = false := by rfl) : PE X (.Call (.Name x p) (e :: es) [] pos) (fun σ H Q => t σ H fun vs H1 => sp vs H1 Q E) := by
  obtain ⟨f, F, hm, hkp⟩ := c
  refine ⟨fun pins s σ H Q I h => ?_⟩
  refine wpAny_Call_Name_kw (ld_glob I hg hm ?_ hdb)
  refine PySem.W.callWith_K (h₀ := X.base) I.ok.mod.kin hkp (thn (ha.run pos pins s σ H _ I h) fun us s1 ⟨vs, H1, I1, r, q⟩ => ⟨I1.kIn, ?_⟩) he hpl
  refine wpAny_call (codeAny_mono (F X.A X.stack s1 H1 us vs Q E hgu hr I1.env0 r q) fun rr z hq => ?_)
  cases rr with
  | error er => exact hx pins σ H1 s1 er z I1 hq
  | ok fl =>
    cases fl with
    | ret u => exact I1.after hq
    | next => exact False.elim hq
    | brk => exact False.elim hq
    | cont => exact False.elim hq
/-- such a def, by its body; its code object is known -/
theorem TX.defG {P : Program} {w : World} {K : PySem.W.Frag} {mg : Str → Option Value} {base : Heap} {k : Nat} {x : Str} {N ps : List Str} {sp : Sp} (T : TX K mg) (i : Nat) {d : He.DefD} (hi : fnAll[i]? = some d) (hx : d.at_ = (x, none)) (S : FnScope N ps d.scope)
    (hb : ∀ (kV doc pm : Value) (an : Option Addr) (cdv ct : Value) (us : List Value), us.length = ps.length → bindArgs (PySem.W.fnOf d.name d.qual d.params d.body d.scope .none kV doc pm an cdv ct) ⟨us, []⟩ = pure (ps.zip us))
    (len : ∀ vs H Q E, sp vs H Q E → vs.length = ps.length)
    (hbody : ∀ (A : Around) (outer : List Env) (s : Shared) (H : Hp) (vs : List V) (Q : VK) (E : XK), A.guards = some [] → Room k (A.deeper (envOfC d.qual d.scope s.heap.objs.size (He.ga K x) (.ref (He.cT K (x, none)).1))) → sp vs H Q E →
      ∃ t, PSs (cxOf (L2.CX P w) P w K mg base N d.qual d.scope (He.ga K x) (.ref (He.cT K (x, none)).1) A outer s H E) d.body t ∧ t { nx := fun _ H' => Q .non H', rt := Q } (L2.start N vs) H)
    (hd : d.dfl = [] := by rfl) (hg : x ∈ gloN := by decide +kernel) (hk : x ∈ keepN := by decide +kernel) : CalG P w K mg base (k + 1) x sp := by
  obtain ⟨oc, od, kV, doc, pm, an, ct, osl, lk, hcd⟩ := def_code T i hi hx hd
  refine ⟨_, fun A outer s H us vs Q E hgu hr e0 r h => ?_, T.glo hg, T.keep hk⟩
  have hl := len _ _ _ _ h
  have hul : us.length = ps.length := by rw [← Paired.length r]; exact hl
  exact LamX.run_ofS lk hcd S hr e0 (.of_eq (hb kV doc pm an _ ct us hul)) r hl fun hr' => hbody A outer s H vs Q E hgu hr' h
end K12

/-! The end of a law's row whose defs want to know that no repr is under way: the law is called by the caller itself. -/
namespace K12
open PySem PySem.Spec PyProof.Rows L2
theorem law_callG {P : Program} {w : World} {K : PySem.W.Frag} {mg mb : Str → Option Value} {fa a : Addr} {cs : List (Addr × Addr)} {z : Shared} {vs : List Value} {ns : List Int}
    (kin : K.In z.heap) (ng : z.heap.Ns mainGlobals mg) (nb : z.heap.Ns builtinsNs mb) (bb : ∀ x : Str, x ≠ "__name__" → mb x = bootBuiltins x) (nol : z.heap.NoLimit) (gn : z.gens = #[])
    (tE : ∀ p ∈ cs, z.heap.get? p.2 = some { cls := .none, data := .fields #[] }) (tN : ∀ p ∈ cs, K.lookup p.2 = none) (tC : ∀ p ∈ cs, PySem.W.CodeHd z.heap p.1 p.2)
    (bmn : ∃ (m : Addr) (o : Obj), mg "__builtins__" = some (.ref m) ∧ m ≠ builtinsNs ∧ z.heap.get? m = some o ∧ o.cls = .type "module" ∧ o.dict = some builtinsNs ∧ o.data = .plain)
    (la : z.heap.get? a = some { cls := .type "list", data := .seq vs.toArray }) (li : IntsAre vs ns) (ll : ns.length ≤ sizeLine)
    (F : ∀ (base : Heap) (H : Hp), K.In base → base.Ns mainGlobals mg → (∀ p ∈ cs, LamX.TabB base mg p.1 p.2) → Env0 P w K mg base callerA [] z H → (∀ p ∈ cs, H p.2 = some (.tbl #[])) → SqL K H a (ns.map V.int) →
      codeAny (model P w) callerA (.call (.ref fa) ⟨[.ref a], []⟩) (CR (L2.CX P w) [] P w H z (fun v _ => v = .bl true) fun _ _ _ => False) z) :
    codeAny (model P w) callerA (.call (.ref fa) ⟨[.ref a], []⟩) (fun r y => r = .ok (.ret (.bool true)) ∧ OldK z.heap y.heap ∧ y.os = z.os ∧ AllBare y.gens) z := by
  have vv := vals_ints li
  obtain ⟨T, hT⟩ : ∃ T : List Addr, T = cs.map (·.2) := ⟨_, rfl⟩
  have inT : ∀ p ∈ cs, p.2 ∈ T := fun p hp => by rw [hT]; exact List.mem_map_of_mem hp
  have outT : ∀ b ∈ T, ∃ p ∈ cs, p.2 = b := fun b hb => by rw [hT] at hb; exact List.mem_map.mp hb
  have tabO : ∀ b ∈ T, z.heap.get? b = some { cls := .none, data := .fields #[] } := fun b hb => by
    obtain ⟨p, hp, rfl⟩ := outT b hb
    exact tE p hp
  have aT : a ∉ T := fun hm => by
    have e := (tabO a hm).symm.trans la
    injection e with e
    injection e with _ _ e _
    cases e
  -- tracked are the tables, and the script where it is not written
  obtain ⟨H, hH⟩ : ∃ H : Hp, H = fun b => if b ∈ T then some (.tbl #[]) else if b = a ∧ K.lookup a = none then some (.frz { cls := .type "list", data := .seq vs.toArray } (.lst (ns.map V.int))) else none := ⟨_, rfl⟩
  have hTab : ∀ b ∈ T, H b = some (.tbl #[]) := fun b hb => by rw [hH]; exact if_pos hb
  have hScr : K.lookup a = none → H a = some (.frz { cls := .type "list", data := .seq vs.toArray } (.lst (ns.map V.int))) := fun hk => by
    rw [hH]
    exact (if_neg aT).trans (if_pos ⟨rfl, hk⟩)
  have ways : ∀ b, H b = none ∨ b ∈ T ∨ (b = a ∧ K.lookup a = none) := fun b => by
    by_cases h1 : b ∈ T
    · exact .inr (.inl h1)
    · by_cases h2 : b = a ∧ K.lookup a = none
      · exact .inr (.inr h2)
      · refine .inl ?_
        rw [hH]
        exact (if_neg h1).trans (if_neg h2)
  have loose : ∀ {b : Addr} {o : Obj}, z.heap.get? b = some o → o.data ≠ .fields #[] → (∀ xs n, o.data ≠ .seq xs n) → H b = none := fun {b o} e d1 d2 => by
    rcases ways b with h | h | ⟨rfl, _⟩
    · exact h
    · rw [tabO b h] at e
      cases e
      exact absurd rfl d1
    · rw [la] at e
      cases e
      exact absurd rfl (d2 _ _)
  have seen : ∀ {b : Addr} {o : Obj}, z.heap.get? b = some o → o.data ≠ .fields #[] → (∀ xs n, o.data ≠ .seq xs n) → (hidT z.heap H).get? b = some o := fun e d1 d2 => hidT_get e (loose e d1 d2)
  have ns' : ∀ {b : Addr} {m : Str → Option Value}, z.heap.Ns b m → (hidT z.heap H).Ns b m := fun {b m} h => by
    obtain ⟨o, es, ep, e, d, rest⟩ := h
    refine ⟨o, es, ep, seen e ?_ ?_, d, rest⟩
    · rw [d]
      exact fun q => nomatch q
    · rw [d]
      exact fun _ _ q => nomatch q
  have kinB : K.In (hidT z.heap H) := fun b o e => by
    refine hidT_get (kin b o e) ?_
    rcases ways b with h | h | ⟨rfl, h⟩
    · exact h
    · obtain ⟨p, hp, rfl⟩ := outT b h
      rw [tN p hp] at e
      cases e
    · rw [h] at e
      cases e
  have hok : HOk P w H z.heap := fun b u e => by
    rcases ways b with h | h | ⟨rfl, h⟩
    · rw [h] at e
      cases e
    · rw [hTab b h] at e
      cases e
      exact tabO b h
    · rw [hScr h] at e
      cases e
      exact ⟨la, by rw [List.length_map]; exact ll, vs, _, vv, la⟩
  have sql : SqL K H a (ns.map V.int) := by
    cases hk : K.lookup a with
    | none => exact .inl (.inr ⟨_, hScr hk⟩)
    | some o =>
      obtain rfl := Option.some.inj (la.symm.trans (kin a o hk))
      exact .inr ⟨_, vs.toArray, _, hk, rfl, rfl, rfl, by rw [List.size_toArray, li.length]; exact ll, by simpa using vv⟩
  have tb : ∀ p ∈ cs, LamX.TabB (hidT z.heap H) mg p.1 p.2 := fun p hp => by
    refine ⟨?_, ?_, fun q => ?_⟩
    · obtain ⟨o, us, file, tf, flags, tg, inF, text, tt, e, ec, ed, e11, rest⟩ := tC p hp
      refine ⟨o, us, file, tf, flags, tg, inF, text, tt, seen e (fun q => ?_) (fun xs n q => ?_), ec, ed, e11, rest⟩
      · obtain rfl : us = #[] := by
          rw [ed] at q
          injection q
        simp at e11
      · rw [ed] at q
        cases q
    · obtain ⟨m, o, m1, m2, m3, m4, m5, m6⟩ := bmn
      refine ⟨m, o, m1, m2, fun q => ?_, fun q => ?_, seen m3 (by rw [m6]; exact fun q => nomatch q) (by rw [m6]; exact fun _ _ q => nomatch q), m4, m5, m6⟩
      · obtain ⟨og, es, ep, e, d, _⟩ := ng
        subst q
        obtain rfl := Option.some.inj (m3.symm.trans e)
        rw [m6] at d
        cases d
      · subst q
        obtain rfl := Option.some.inj (m3.symm.trans (tE p hp))
        cases m6
    · obtain ⟨og, es, ep, e, d, _⟩ := ng
      rw [q, tE p hp] at e
      cases e
      cases d
  have e0 : Env0 P w K mg (hidT z.heap H) callerA [] z H := {
    frames := rfl
    mod := ⟨kinB, ns' ng, ⟨mb, ns' nb, bb⟩, by obtain ⟨mc, h1, h2⟩ := nol; exact ⟨mc, ns' h1, h2⟩⟩
    bs := fun b o e => of_hidT e
    bsz := Nat.le_of_eq (hidT_size _ _)
    funs := trivial
    frf := fun b hb => absurd hb (List.not_mem_nil)
    hok := hok
    bare := .of_eq gn }
  refine codeAny_mono (F _ H kinB (ns' ng) tb e0 (fun p hp => hTab _ (inT p hp)) sql) fun r y h => ?_
  cases r with
  | error e =>
    obtain ⟨_, _, _, _, _, _, _, _, _, _, _, _, no⟩ := h
    exact no.elim
  | ok fl =>
    cases fl with
    | next => exact False.elim h
    | brk => exact False.elim h
    | cont => exact False.elim h
    | ret u =>
      obtain ⟨v, G, eos, bare, un, gok, rv, q⟩ := h
      have q' : v = .bl true := q
      subst q'
      obtain rfl : u = Value.bool true := rv
      have stay : ∀ b o, b ∉ T → z.heap.get? b = some o → y.heap.get? b = some o := fun b o hb e => by
        rcases ways b with h | h | ⟨rfl, h⟩
        · exact un.keep b o e h (List.not_mem_nil) (List.not_mem_nil)
        · exact absurd h hb
        · have g := (gok b _ (un.frzs b _ _ (hScr h))).1
          rw [la] at e
          cases e
          exact g
      refine ⟨rfl, ⟨fun b o e => ?_, fun b o e => ?_⟩, eos, bare⟩
      · by_cases hb : b ∈ T
        · obtain ⟨p, hp, rfl⟩ := outT b hb
          obtain ⟨more, g⟩ := un.tbls p.2 #[] (hTab _ hb)
          obtain rfl := Option.some.inj ((tE p hp).symm.trans e)
          have g2 := gok p.2 _ g
          exact .inr (.inl ⟨((tC p hp).tab (tE p hp)).isCodeTable, rfl, #[], more, rfl, g2⟩)
        · exact .inl (stay b o hb e)
      · by_cases hb : b ∈ T
        · obtain ⟨more, g⟩ := un.tbls b #[] (hTab _ hb)
          exact ⟨_, gok b _ g⟩
        · exact ⟨o, stay b o hb e⟩
end K12

/-! _law_book_right. -/
namespace K12
open PySem PySem.Spec PyProof.Rows L2
theorem units70 {k : Nat} {A : Around} (r : Room k A) : A.units + 70 < cLine := by
  have := r.un
  omega
theorem not_same (x : V) : ¬ (!decide (x = x)) = true := by simp
section
variable {X : Cx} {o e : Expr} {to te : TE}
theorem slLK (K : PySem.W.Frag) (hK : X.K = K := by rfl) : SlR X (rSlL K) := by
  subst hK
  exact sl_list
/-- sep.join(l), K named -/
def tJoinK (K : PySem.W.Frag) (to te : TE) : TE := tM1 (fun x xs H Q => ∃ a p, ∃ ys : List Str, x = .str a ∧ xs = [.ref p] ∧ (SqL K H p (ys.map V.str) ∨ SqT K H p (ys.map V.str)) ∧ (ys.map (·.length)).sum + ys.length * a.length ≤ 16777216 ∧ Q (.str (Txt.join a ys)) H) to te
theorem pe_joinK (K : PySem.W.Frag) (hK : X.K = K) {apos pos : Pos} (ho : PE X o to) (he : PE X e te) (hs : starEach [e] X.env = [(false, eval e X.env)] := by rfl) (hbase : attributeBase o "join" X.env (eval o X.env) = eval o X.env := by rfl) (hline : (apos.endLine == pos.line) = true := by rfl) :
    PE X (.Call (.Attribute o "join" apos) [e] [] pos) (tJoinK K to te) := by
  subst hK
  exact pe_join ho he hs hbase hline
end
theorem more_room {t x : Str} (hx : x.length ≤ 20) (h : t.length ≤ 3000000) : t.length + x.length ≤ sizeLine := by
  unfold sizeLine
  omega
theorem more_room2 {t x : Str} (hx : x.length ≤ 20) (h : t.length ≤ 3000000) : (t ++ x).length < 4000000 := by
  simp only [len_l, app_l, List.length_append] at hx h ⊢
  omega
/-- a text of the first lines, within a lambda -/
theorem tth_join {K : PySem.W.Frag} {σ : L2.St} {H : Hp} {Q : VK} {L : Addr} {l : List Str} {j : Nat} (h5 : σ[5]? = some (some (.ref L))) (h4 : σ[4]? = some (some (.int (j : Nat)))) (hL : SqL K H L (l.map V.str)) (hz : Wt l ≤ 3000000)
    (q : ∀ v G, Same H G → Dp K G v (hBk (Str.join nl (l.take j))) → Q v G) : TTh K (fun E G R => tCall (spBookRead K) [] E (tCons (tJoinK K (tC (.str nl)) (tSl (rSlL K) (tVar 5) tNoPart (tPart (tVar 4)))) tNil) σ G R) H Q := by
  have hw := wt_take l j
  have hj := wt_le (s := nl) rfl (l.take j)
  refine ⟨⟨_, rfl⟩, _, h5, _, h4, j, rfl, L, _, rfl, hL, fun p np => ?_⟩
  rw [cut_to]
  refine ⟨nl, p, l.take j, rfl, rfl, .inl (.inl (.inl upd_same)), sum_nl _ (by omega), ?_⟩
  rw [join_txt]
  exact tth_book (by omega) fun v G e h => q v G ((Same.new np).trans e) h
def okS (w : Str) : Prop := ∀ c ∈ w.cps.toList, c < 1114112
theorem okS_ok {w : Str} (h : okS w) : PyData.strOk w = true := by
  unfold PyData.strOk
  rw [← Array.all_toList, List.all_eq_true]
  intro c hc
  have := h c hc
  simpa using this
theorem okS_name {w : Str} (h : isName w = true) : okS w := fun c hc => by
  unfold isName at h
  simp only [Bool.and_eq_true, List.all_eq_true, decide_eq_true_eq] at h
  have := mem_let.mp (h.2 c hc)
  omega
theorem okS_num (n : Nat) : okS (numS n) := fun c hc => by
  rw [numS_l] at hc
  have := TL.numL_digits n c hc
  omega
theorem okS_join {s : Str} (hs : okS s) : ∀ {l : List Str}, (∀ w ∈ l, okS w) → okS (Str.join s l)
  | [], _ => fun c hc => absurd (show c ∈ ([] : List Nat) from hc) (by simp)
  | [x], h => h x List.mem_cons_self
  | x :: y :: r, h => by
    have ih := okS_join hs (l := y :: r) fun w hw => h w (List.mem_cons_of_mem _ hw)
    intro c hc
    rw [join_cons s x (y :: r) (by simp), app_l, app_l, List.mem_append, List.mem_append] at hc
    rcases hc with (z | z) | z
    · exact h x List.mem_cons_self c z
    · exact hs c z
    · exact ih c z
theorem okS_row {r : Rw} (h : OkRw r) : okS (lineS (wRw r)) := by
  refine okS_join (by unfold okS; decide +kernel) fun w hw => ?_
  cases r with
  | move a b n =>
    simp [wRw] at hw
    rcases hw with rfl | rfl | rfl | rfl
    · unfold okS; decide +kernel
    · exact okS_name h.1
    · exact okS_name h.2.1
    · exact okS_num n
  | count a n =>
    simp [wRw] at hw
    rcases hw with rfl | rfl | rfl
    · unfold okS; decide +kernel
    · exact okS_name (isName_of h.1)
    · exact okS_num n
theorem row_line {b : Bk} {x : Rw} (h : x ∈ b.rows) : lineS (wRw x) ∈ bkLines b := by
  unfold bkLines itsOf
  refine List.mem_map.mpr ⟨.row x, ?_, rfl⟩
  simp
  exact h
theorem noLsts_strs : ∀ l : List Str, noLsts (l.map PyData.str) = true
  | [] => rfl
  | _ :: r => by simp [noLsts, noLst, noLsts_strs r]
theorem plains_strs : ∀ l : List Str, plains (l.map PyData.str) = true
  | [] => rfl
  | _ :: r => by simp [plains, plain, plains_strs r]
def cutD (ds : List PyData) (lo hi : Option Int) : List PyData := (ds.drop (HT.sIx ds.length 0 lo)).take (HT.sIx ds.length ds.length hi - HT.sIx ds.length 0 lo)
theorem cutD_to (ds : List PyData) (k : Nat) : cutD ds none (some (k : Int)) = ds.take k := by
  unfold cutD
  rw [HT.sIx_nat, HT.sIx_none, Nat.sub_zero, List.drop_zero]
  by_cases h : k ≤ ds.length
  · rw [Nat.min_eq_left h]
  · rw [Nat.min_eq_right (by omega), List.take_of_length_le (by omega), List.take_of_length_le (by omega)]
theorem cutD_from (ds : List PyData) (k : Nat) : cutD ds (some (k : Int)) none = ds.drop k := by
  unfold cutD
  rw [HT.sIx_nat, HT.sIx_none]
  by_cases h : k ≤ ds.length
  · rw [Nat.min_eq_left h, List.take_of_length_le (by simp)]
  · rw [Nat.min_eq_right (by omega), List.drop_eq_nil_of_le (by omega), List.drop_eq_nil_of_le (by omega)]
    simp
theorem sl_data {K : PySem.W.Frag} {H : Hp} {a : Addr} {xs : List V} {ds es : List PyData} {lo hi : Option Int} {Q : VK} (hq : SqT K H a xs) (hd : DpAll K H xs ds) (he : cutD ds lo hi = es) (q : ∀ p G ys, Same H G → SqT K G p ys → DpAll K G ys es → Q (.ref p) G) : rSlA K (.ref a) lo hi H Q := by
  have e := DpAll.length hd
  subst he
  have hc : DpAll K H (cutV xs lo hi) (cutD ds lo hi) := by
    unfold cutV cutD
    rw [e]
    exact DpAll.take _ (DpAll.drop _ hd)
  refine ⟨a, xs, rfl, hq, fun h => q a H xs (Same.refl _) hq ?_, fun _ p np => q p _ _ (Same.new np) (.inl (.inl upd_same)) (DpAll.same (Same.new np) hc)⟩
  rw [e] at h
  unfold cutD
  rw [h.1, h.2, Nat.sub_zero, List.drop_zero, List.take_length]
  exact hd
theorem sl_dataF {K : PySem.W.Frag} {σ : L2.St} {H : Hp} {a : Addr} {xs : List V} {ds es : List PyData} {lo : Option Int} {Q : VK} (hq : SqT K H a xs) (hd : DpAll K H xs ds) (he : cutD ds lo none = es) (q : ∀ p G ys, Same H G → SqT K G p ys → DpAll K G ys es → Q (.ref p) G) : tNoPart σ H fun u G => rSlA K (.ref a) lo u G Q := sl_data hq hd he q
theorem cat_data {K : PySem.W.Frag} {H : Hp} {a c : Addr} {xs ys : List V} {ds es fs : List PyData} {Q : VK} (ha : SqT K H a xs) (hd : DpAll K H xs ds) (hc : SqT K H c ys) (he : DpAll K H ys es) (hl : xs.length + ys.length ≤ sizeLine) (hf : ds ++ es = fs) (q : ∀ p G zs, Same H G → SqT K G p zs → DpAll K G zs fs → Q (.ref p) G) : rCatA K (.ref a) (.ref c) H Q := by
  subst hf
  refine ⟨a, c, xs, ys, rfl, rfl, ha, hc, hl, fun h => q c H ys (Same.refl _) hc ?_, fun _ h => q a H xs (Same.refl _) ha ?_, fun _ _ p np => q p _ _ (Same.new np) (.inl (.inl upd_same)) (DpAll.same (Same.new np) (DpAll.app hd he))⟩
  · subst h
    cases hd
    exact he
  · subst h
    cases he
    rw [List.append_nil]
    exact hd
def spRight (K : PySem.W.Frag) : Sp := fun vs H Q _ => ∃ v b size, vs = [v] ∧ Dp K H v (dBk b) ∧ Sheet b size ∧ size ≤ 5 ∧ LamX.Tabs (tabsL K) H ∧ ∀ H', LamX.ExtN H H' → LamX.Tabs (tabsL K) H' → Q (.bl true) H'

section
variable {P : Program} {w : World} {K : PySem.W.Frag} {mg : Str → Option Value} {base : Heap}
theorem ok_law_book_right (Y : TL P K mg base) : CalG P w K mg base 14 "_law_book_right" (spRight K) := by
  have Y' := Y.th.tb.ty
  have T := Y'.tx
  have S : FnScope ["_law_sheet", "_law_head", "_law_k", "_law_late", "_law_j", "_law_lines", "_law_text_in", "_law_item", "_law_part"] ["_law_sheet"] (defScope s_law_book_right) := ⟨rfl, rfl, rfl, by decide +kernel, rfl, by decide +kernel, by decide +kernel⟩
  have TB := Y.tab "_law_book_right" (by decide +kernel)
  have hmT := tabs_mem (K := K) (x := "_law_book_right") (by decide +kernel)
  have hun := tabs_one Y (x := "_law_book_right") (by decide +kernel)
  obtain ⟨pF, gF, fdF, hpF, hFF, hbF⟩ := ok_Book_form (w := w) (mg := mg) (base := base) Y.th.tb
  have hST := ok_Book_str (w := w) (base := base) Y.th.tb
  refine T.defG i_law_book_right (d := d_law_book_right) rfl rfl S (fun _ _ _ _ _ _ us hl => match us, hl with | [_], _ => rfl) (by rintro vs H Q E ⟨v, b, size, rfl, _⟩; rfl) (fun A outer s H vs Q E hgu hr h => ?_)
  obtain ⟨v, b, size, rfl, hv, hsh, hsz, hT, q⟩ := h
  have nd := S.nd
  refine ⟨_, (pss_cons (ps_set (i := 6) nd rfl (.inr rfl) (pc (ok_book_text T) hr passB (pa_cons (pv 0) pa_nil)))
    (pss_cons (ps_joinR (ps_asg (pe_tup (pa_cons (pe_split (pv 6) (pS nl_is)) (pa_cons (pe_op op_add (pe_op op_add pe_int (pe_callB call_len_seq rfl T.free boot_len (pa_cons (pe_ix (ixT K) (pv 0) pe_int (fun _ _ => rfl)) pa_nil))) (pe_callB call_len_seq rfl T.free boot_len (pa_cons (pe_ix (ixT K) (pv 0) pe_int (fun _ _ => rfl)) pa_nil))) pa_nil))) (pg_tup rfl (pgs_cons (pg_name (i := 5) nd rfl (.inr rfl)) (pgs_cons (pg_name (i := 1) nd rfl (.inl rfl)) pgs_nil)))))
    (pss_cons (ps_if (PW.pt (pw_or (pt_cmpR op_ne (pe_callB (call_reprD K rfl hgu (units70 hr)) rfl T.free boot_repr (pa_cons (pc (ok_book_read Y') hr passB (pa_cons (pv 6) pa_nil)) pa_nil)) (pe_callB (call_reprD K rfl hgu (units70 hr)) rfl T.free boot_repr (pa_cons (pv 0) pa_nil)) (nomark _)) (pw_or (pt_cmpR op_ne (pe_callTy (cr_strO hST hr passB Y.th.tb.str.1 Y.th.tb.str.2) rfl T.free boot_str (pa_cons (pcm (ok_Book_of Y.th.tb) hr passB (gR T.glo) (pa_cons (pv 0) pa_nil)) pa_nil)) (pv 6) (nomark _)) (pw_or1 (pt_cmpR (op_neD hr.units) (pe_prop (pcm (ok_Book_read Y.th.tb) hr passB (gR T.glo) (pa_cons (pv 6) pa_nil)) Y'.clsB hpF hFF (hr.mono (by decide)) hbF .nil passL rfl) (pv 0) (nomark _)))))) (pss_one (ps_ret pe_bl)) pss_nil)
    (pss_cons (ps_if (pt_cmpR (op_neD hr.units) (pe_slice sl_list (pv 5) (po_some (pv 1)) po_none) (pe_lc (own := [("_law_item", 7)]) (g := gName 7) (tt := tYes) rfl nd (pi_tup (pe_ix (ixT K) (pv 0) pe_int (fun _ _ => rfl))) (blkOk_by (N := ["_law_sheet", "_law_head", "_law_k", "_law_late", "_law_j", "_law_lines", "_law_text_in", "_law_item", "_law_part"]) (sc := defScope s_law_book_right) (by decide +kernel)) (fun _ _ _ _ _ => pg_name (i := 7) nd rfl (Or.inl rfl)) (fun _ _ _ _ _ => pts_nil) (fun _ _ _ _ _ => pc (ok_row_text T) hr passL (pa_cons (pv 7) pa_nil))) (nomark _)) (pss_one (ps_ret pe_bl)) pss_nil)
    (pss_cons (ps_if (pt_cmpR (op_neD hr.units) (pe_lc (own := [("_law_part", 8)]) (g := gName 8) (tt := tYes) rfl nd (pi_list (pe_slice sl_list (pv 5) (po_some (pv 1)) po_none)) (blkOk_by (N := ["_law_sheet", "_law_head", "_law_k", "_law_late", "_law_j", "_law_lines", "_law_text_in", "_law_item", "_law_part"]) (sc := defScope s_law_book_right) (by decide +kernel)) (fun _ _ _ _ _ => pg_name (i := 8) nd rfl (Or.inl rfl)) (fun _ _ _ _ _ => pts_nil) (fun _ _ _ _ _ => by exact rr0K K rfl Y' (hr.mono (show 8 ≤ 13 by decide)) passL (pa_cons (pv 8) pa_nil))) (pe_callTy call_list_of rfl T.free boot_list (pa_cons (pe_ix (ixT K) (pv 0) pe_int (fun _ _ => rfl)) pa_nil)) (nomark _)) (pss_one (ps_ret pe_bl)) pss_nil)
    (pss_cons (ps_for (passes_of rfl) rfl (pi_range1 rfl T.free (pa_cons (pe_callB call_len_seq rfl T.free boot_len (pa_cons (pe_ix (ixT K) (pv 0) pe_int (fun _ _ => rfl)) pa_nil)) pa_nil)) (pg_name (i := 2) nd rfl (.inl rfl))
      (pss_cons (ps_set (i := 3) nd rfl (.inl rfl) (pc (ok_book_read Y') hr passB (pa_cons (pe_join (pS nl_is) (pe_op op_cat (pe_slice sl_list (pv 5) po_none (po_some (pe_op op_add (pv 1) (pv 2)))) (pe_slice sl_list (pv 5) (po_some (pe_op op_add (pe_op op_add (pv 1) (pv 2)) pe_int)) po_none))) pa_nil)))
    (pss_one (ps_if (pt_cmpR (op_neD hr.units) (pv 3) (pe_op op_catA (pe_slice (slT K) (pv 0) po_none (po_some pe_int)) (pe_tup (pa_cons (pe_op op_catA (pe_slice (slT K) (pe_ix (ixT K) (pv 0) pe_int (fun _ _ => rfl)) po_none (po_some (pv 2))) (pe_slice (slT K) (pe_ix (ixT K) (pv 0) pe_int (fun _ _ => rfl)) (po_some (pe_op op_add (pv 2) pe_int)) po_none)) pa_nil))) (nomark _)) (pss_one (ps_ret pe_bl)) pss_nil))))
    (pss_cons (ps_for (passes_of rfl) rfl (pi_range2 rfl T.free (pa_cons pe_int (pa_cons (pv 1) pa_nil))) (pg_name (i := 4) nd rfl (.inr rfl))
      (pss_one (ps_if (pt_cmpR (op_neD hr.units) (pe_hear (K := K) (fun σ H d => ∃ (L : Addr) (l : List Str) (j : Nat), σ[5]? = some (some (.ref L)) ∧ σ[4]? = some (some (.int (j : Nat))) ∧ SqL K H L (l.map V.str) ∧ Wt l ≤ 3000000 ∧ d = hBk (Str.join nl (l.take j))) (pHeard (k := 11) (T := tabsL K) Y.th hr TB rfl hmT hun (fun A outer s H E f c' hr' hx' => by exact pbkK K rfl Y' hr' hx' (pa_cons (pe_joinK K rfl (pS nl_is) (pe_slice (slLK K) (pv 5) po_none (po_some (pv 4)))) pa_nil)) (show LamX.LamS (defScope s_law_book_right) _ from LamX.lamS_by (by decide +kernel))) (by rintro σ H d Q ⟨L, l, j, h5, h4, hL, hz, rfl⟩ q; exact tth_join h5 h4 hL hz q)) (pe_tup (pa_cons pe_str (pa_cons (pv 4) (pa_cons pe_int pa_nil)))) (nomark _)) (pss_one (ps_ret pe_bl)) pss_nil)))
    (pss_cons (ps_if (pt_cmpR (op_neD hr.units) (pe_hear (K := K) (fun σ _ d => ∃ t : Str, σ[6]? = some (some (.str t)) ∧ t.length ≤ 3000000 ∧ d = hBk (t ++ ("\nslip 1" : Str))) (pHeard (k := 11) (T := tabsL K) Y.th hr TB rfl hmT hun (fun A outer s H E f c' hr' hx' => by exact pbkK K rfl Y' hr' hx' (pa_cons (pe_op op_add_str (pv 6) pe_str) pa_nil)) (show LamX.LamS (defScope s_law_book_right) _ from LamX.lamS_by (by decide +kernel))) (by rintro σ H d Q ⟨t, h0, hz, rfl⟩ q; exact ⟨_, h0, _, _, rfl, rfl, more_room (x := ("\nslip 1" : Str)) (by decide +kernel) hz, tth_book (more_room2 (x := ("\nslip 1" : Str)) (by decide +kernel) hz) q⟩)) (pe_tup (pa_cons pe_str (pa_cons (pe_callB call_len_seq rfl T.free boot_len (pa_cons (pv 5) pa_nil)) (pa_cons pe_int pa_nil)))) (nomark _)) (pss_one (ps_ret pe_bl)) pss_nil)
    (pss_one (ps_ret (pe_cmpR (op_eqD hr.units) (pe_hear (K := K) (fun σ _ d => ∃ t : Str, σ[6]? = some (some (.str t)) ∧ t.length ≤ 3000000 ∧ d = hBk (t ++ ("\n" : Str))) (pHeard (k := 11) (T := tabsL K) Y.th hr TB rfl hmT hun (fun A outer s H E f c' hr' hx' => by exact pbkK K rfl Y' hr' hx' (pa_cons (pe_op op_add_str (pv 6) pe_str) pa_nil)) (show LamX.LamS (defScope s_law_book_right) _ from LamX.lamS_by (by decide +kernel))) (by rintro σ H d Q ⟨t, h0, hz, rfl⟩ q; exact ⟨_, h0, _, _, rfl, rfl, more_room (x := ("\n" : Str)) (by decide +kernel) hz, tth_book (more_room2 (x := ("\n" : Str)) (by decide +kernel) hz) q⟩)) (pe_tup (pa_cons pe_str (pa_cons (pe_callB call_len_seq rfl T.free boot_len (pa_cons (pv 5) pa_nil)) (pa_cons pe_int pa_nil)))) (nomark _)))))))))))), ?_⟩
  have hok := hsh.ok
  have hlets := hsh.lets
  have htx := hsh.text hsz
  have hrd := rBook_is hok
  have hlb := lines_bk hok
  obtain ⟨a, p, w2, r, ps, ws, rs, rfl, ht, tp, dp, tw, dw, tr, dr⟩ := id hv.bkI
  have lp : ps.length = b.places.length := by rw [DpAll.length dp, List.length_map]
  have lw : ws.length = b.ways.length := by rw [DpAll.length dw, List.length_map]
  have lr : rs.length = b.rows.length := by rw [DpAll.length dr, List.length_map]
  have hrl := hsh.rows
  have hsz4 : b.places.length + b.ways.length + b.rows.length < 4000000 := bk_size hrd (by omega)
  have hWl : Wt (bkLines b) = (bkText b).length + 1 := by rw [← hlb]; exact wt_lines _
  refine ⟨_, rfl, [dBk b], _, .cons hv .nil, ⟨b, hok, rfl, by omega, rfl⟩, fun u H1 e1 hu => ?_⟩
  cases hu.strI
  refine ⟨fun σ G => ∃ L, σ = [some (.ref a), some (.int (headN b : Nat)), none, none, none, some (.ref L), some (.str (bkText b)), none, none] ∧ Same H1 G ∧ SqL K G L ((bkLines b).map V.str), ?_, ?_⟩
  rotate_left
  · refine ⟨_, rfl, ⟨_, rfl⟩, bkText b, nl, rfl, rfl, rfl, by unfold sizeLine; omega, fun L nL => ?_⟩
    have s1 := Same.new (o := HO.lst ((Txt.split (bkText b) nl).map V.str)) nL
    have s2 := e1.trans s1
    refine ⟨_, rfl, a, _, 0, _, rfl, rfl, Same.tup s2 ht, rfl, p, ps, rfl, .inr (Same.tup s2 tp), _, _, rfl, rfl, _, rfl, a, _, 1, _, rfl, rfl, Same.tup s2 ht, rfl, w2, ws, rfl, .inr (Same.tup s2 tw), _, _, rfl, rfl, Nat.le_of_ble_eq_true rfl, fun q1 n1 => ⟨q1, _, rfl, .inl (.inl upd_same), rfl, _, _, rfl, _, _, rfl, rfl, L, ?_, s1.trans (Same.new n1), ?_⟩⟩
    · have e : (1 : Int) + (ps.length : Int) + (ws.length : Int) = (headN b : Nat) := by
        unfold headN
        omega
      show [_, some (V.int ((1 : Int) + (ps.length : Int) + (ws.length : Int))), _, _, _, _, _, _, _] = _
      rw [e]
    · have e : Txt.split (bkText b) nl = bkLines b := hlb
      exact .inl (.inl (by rw [← e]; exact Same.new n1 _ _ upd_same))
  rintro σ H2 ⟨L, rfl, s2, gL⟩
  replace e1 := e1.trans s2
  clear s2
  have shw : Shw 60 744 (dBk b) := (hsh.shw hsz).up (hv := Nat.le_refl _)
  have hv2 := Dp.same e1 hv
  refine ⟨_, rfl, bkText b, rfl, by omega, fun b' hb' v3 H3 e3 d3 => ?_, fun l f he => by rw [hrd] at he; cases he⟩
  rw [hrd] at hb'
  cases hb'
  refine ⟨v3, dBk b, rfl, d3, ⟨_, rfl⟩, ⟨744, shw, by decide⟩, ?_⟩
  generalize hsw : PyData.shown (dBk b) = sw
  refine ⟨_, rfl, _, dBk b, rfl, Dp.same e3 hv2, ⟨_, rfl⟩, ⟨744, shw, by decide⟩, ?_⟩
  rw [hsw]
  refine ⟨rfl, ?_⟩
  refine ⟨_, rfl, ?_⟩
  refine iteN (not_same _) ?_
  have hv3 := Dp.same e3 hv2
  refine ⟨rfl, _, rfl, _, b, rfl, hv3, hok, hsz4, fun _ x H4 e4 hx => ?_, fun w k h => by rw [hlets] at h; cases h⟩
  obtain ⟨dx, pp, cc, tt, hx1, _⟩ := id hx
  refine ⟨x, dx, _, rfl, hx1, x, b, rfl, hx, hok, by omega, fun H5 e5 => ⟨⟨_, rfl⟩, _, rfl, rfl, _, rfl, iteN (not_same _) ?_⟩⟩
  refine ⟨rfl, _, rfl, bkText b, rfl, by omega, fun b' hb' => ⟨fun _ y H6 e6 hy => ?_, fun w k h => ?_⟩, fun l f he => by rw [hrd] at he; cases he⟩
  rotate_left
  · rw [hrd] at hb'
    cases hb'
    rw [hlets] at h
    cases h
  rw [hrd] at hb'
  cases hb'
  obtain ⟨dy, pp2, cc2, tt2, hy1, _⟩ := id hy
  have e26 := e3.trans (e4.trans (e5.trans e6))
  refine ⟨y, dy, _, rfl, hy1, y, b, rfl, hy, fun fv H7 e7 hf => ⟨_, rfl, rNeD_no hf (Dp.same (e26.trans e7) hv2) (plain_bk b) (shp_bk hok) (by decide) ⟨_, rfl, iteF ?_⟩⟩⟩
  replace e1 := e1.trans (e26.trans e7)
  replace gL := SqL.ext (ext_of (e26.trans e7)) gL
  clear hv2 hv3 d3 e3 hx hx1 e4 e5 e6 hy hy1 e26 hf e7
  clear hu sw hsw
  have shS : Shp 1 (.list ((b.rows.map fun x => lineS (wRw x)).map .str)) := shp_lst fun d hd => by
    obtain ⟨z, hz, rfl⟩ := List.mem_map.mp hd
    obtain ⟨x, hx, rfl⟩ := List.mem_map.mp hz
    exact shp_str (okS_ok (okS_row (hok.rw' x hx)))
  have shR : Shp 2 (.list (b.rows.map dRw)) := shp_lst fun d hd => by
    obtain ⟨x, hx, rfl⟩ := List.mem_map.mp hd
    exact shp_rw (hok.rw' x hx)
  have hr5 : b.rows.length ≤ 5 := by omega
  refine ⟨_, rfl, _, rfl, headN b, rfl, L, _, rfl, gL, fun p4 n4 => ?_⟩
  rw [cut_from, head_lines]
  have e8 : Same H7 (upd H7 p4 (.lst ((b.rows.map fun x => lineS (wRw x)).map V.str))) := Same.new n4
  have g8 : (upd H7 p4 (.lst ((b.rows.map fun x => lineS (wRw x)).map V.str))) p4 = some (.lst ((b.rows.map fun x => lineS (wRw x)).map V.str)) := upd_same
  generalize upd H7 p4 (.lst ((b.rows.map fun x => lineS (wRw x)).map V.str)) = H8 at e8 g8 ⊢
  replace e1 := e1.trans e8
  replace gL := SqL.ext (ext_of e8) gL
  clear e8 n4
  refine ⟨_, rfl, a, _, 3, _, rfl, rfl, Same.tup e1 ht, rfl, r, rfl, ⟨_, Same.tup e1 tr⟩, fun D hD => ?_⟩
  refine lc_map (K := K) walk_tup ((b.rows.map fun x => lineS (wRw x)).map .str) (by simp [lr]) (noLsts_strs _) (by unfold sizeLine; omega) hD (fun G e => Same.tup (e1.trans e) tr) (fun j G x G2 Nx hj e y k1 => ?_) (fun G acc e h3 h4 => ?_)
  · obtain ⟨rfl, hx⟩ := y
    have hjl : j < b.rows.length := by omega
    obtain ⟨d, hd, hdp⟩ := DpAll.getV dr hx
    rw [List.getElem?_map, List.getElem?_eq_getElem hjl] at hd
    cases hd
    refine ⟨rfl, _, rfl, [dRw b.rows[j]], _, .cons (Dp.same (e1.trans e) hdp) .nil, ⟨_, hok.rw' _ (List.getElem_mem hjl), rfl, rfl⟩, fun u G4 e4 hu => k1 u G4 (.str (lineS (wRw b.rows[j]))) ?_ e4 hu⟩
    simp [hjl]
  refine rNeD_noL (n := 1) (.lst (.inl (.inl (e _ _ g8))) (Dp.strs _)) (.lst (.inl (.inl h3)) h4) (plains_strs _) shS (by decide) ⟨_, rfl, iteF ?_⟩
  replace e1 := e1.trans e
  replace gL := SqL.ext (ext_of e) gL
  clear e h3 h4 g8 hD
  refine ⟨_, rfl, _, rfl, headN b, rfl, L, _, rfl, gL, fun p5 n5 => ?_⟩
  rw [cut_from, head_lines]
  have e9 : Same G (upd G p5 (.lst ((b.rows.map fun x => lineS (wRw x)).map V.str))) := Same.new n5
  have g9 : (upd G p5 (.lst ((b.rows.map fun x => lineS (wRw x)).map V.str))) p5 = some (.lst ((b.rows.map fun x => lineS (wRw x)).map V.str)) := upd_same
  generalize upd G p5 (.lst ((b.rows.map fun x => lineS (wRw x)).map V.str)) = H9 at e9 g9 ⊢
  replace e1 := e1.trans e9
  replace gL := SqL.ext (ext_of e9) gL
  clear e9 n5
  refine ⟨p5, rfl, ⟨_, .inl (.inl g9)⟩, fun D2 hD2 => ?_⟩
  refine lc_map (K := K) (walk_list (K := K) (a := p5) (xs := (b.rows.map fun x => lineS (wRw x)).map V.str)) (b.rows.map dRw) (by simp) (noLsts_map _ nl_rw _) (by simp; unfold sizeLine; omega) hD2 (fun G2 e => .inl (.inl (e _ _ g9))) (fun j G2 x G3 Nx hj e y k1 => ?_) (fun G2 acc2 e h3 h4 => ?_)
  · obtain ⟨rfl, hx⟩ := y
    have hjl : j < b.rows.length := by simpa using hj
    rw [List.getElem?_map, List.getElem?_map, List.getElem?_eq_getElem hjl] at hx
    cases hx
    have hmem := List.getElem_mem hjl
    have hrr : rRow (wordsOf (lineS (wRw b.rows[j]))) = .ok b.rows[j] := by
      have e0 : wordsOf (lineS (wRw b.rows[j])) = wRw b.rows[j] := words_line (it := .row b.rows[j]) (hok.rw' _ hmem)
      rw [e0]
      exact rRow_is (hok.rw' _ hmem)
    have hln : (lineS (wRw b.rows[j])).length ≤ (bkText b).length := cut_len (c := 10) (t := bkText b) _ (by
      have z := row_line hmem
      rw [← hlb] at z
      exact z)
    refine ⟨rfl, _, rfl, lineS (wRw b.rows[j]), 0, 0, rfl, by unfold sizeLine; omega, fun r' hr' u G4 e4 hu => k1 u G4 (dRw r') ?_ e4 hu, fun e' he' => ?_⟩
    · rw [hrr] at hr'
      cases hr'
      simp [hjl]
    · rw [hrr] at he'
      cases he'
  refine ⟨_, rfl, a, _, 3, _, rfl, rfl, Same.tup (e1.trans e) ht, rfl, r, rs, rfl, .inr (Same.tup (e1.trans e) tr), fun l2 n2 => rNeD_noL (n := 2) (Dp.same (Same.new n2) (.lst (.inl (.inl h3)) h4)) (.lst (.inl (.inl upd_same)) (DpAll.same (e1.trans (e.trans (Same.new n2))) dr)) (plains_map _ plain_rw _) shR (by decide) ⟨_, rfl, iteF ?_⟩⟩
  have e10 := e.trans (Same.new (o := HO.lst rs) n2)
  generalize upd G2 l2 (.lst rs) = H10 at e10 ⊢
  replace e1 := e1.trans e10
  replace gL := SqL.ext (ext_of e10) gL
  clear e h3 h4 e10 n2 g9 hD2
  have hWd : ∀ k, k < b.rows.length → Wt (bkLines (dropR b k)) ≤ Wt (bkLines b) := fun k hk => by
    rw [← drop_lines]
    exact wt_less (by rw [length_bk]; unfold headN; omega)
  have hbd : DpAll K H [.ref p, .ref w2, vSl b.slip, .ref r] [.tuple (b.places.map dPl), .tuple (b.ways.map dWy), dSl b.slip, .tuple (b.rows.map dRw)] := .cons (.tup tp dp) (.cons (.tup tw dw) (.cons Dp.slM (.cons (.tup tr dr) .nil)))
  refine ⟨_, rfl, a, _, 3, _, rfl, rfl, Same.tup e1 ht, rfl, r, rs, rfl, .inr (Same.tup e1 tr), _, rfl, by omega, by omega, ?_⟩
  rw [Int.toNat_natCast]
  refine for_it (walk_range (lo := 0) (n := rs.length)) (fun k σ G => ∃ o2 o3, σ = [some (.ref a), some (.int (headN b : Nat)), o2, o3, none, some (.ref L), some (.str (bkText b)), none, none] ∧ Same H10 G) ⟨none, none, rfl, Same.refl _⟩ (fun _ _ _ _ _ => True.intro) ?_ ?_
  · rintro k x σ G G' hk ⟨o2, o3, rfl, eG⟩ ⟨rfl, hx⟩
    have hx2 : x = V.int (k : Int) := by rw [← Int.zero_add (k : Int)]; exact hx
    subst hx2
    clear hx
    have hkr : k < b.rows.length := by omega
    have hWk := hWd k hkr
    have ek1 : ((headN b : Nat) : Int) + (k : Int) = ((headN b + k : Nat) : Int) := by omega
    have ek2 : ((headN b : Nat) : Int) + (k : Int) + 1 = ((headN b + k + 1 : Nat) : Int) := by omega
    have eg := e1.trans eG
    refine ⟨⟨_, rfl⟩, _, rfl, _, rfl, _, rfl, _, _, rfl, rfl, _, rfl, L, _, rfl, SqL.ext (ext_of eG) gL, fun p1 n1 => ?_⟩
    rw [ek1, cut_to]
    have s1 := eG.trans (Same.new (o := HO.lst (((bkLines b).take (headN b + k)).map V.str)) n1)
    refine ⟨_, rfl, _, rfl, _, rfl, _, _, rfl, rfl, _, _, rfl, rfl, _, rfl, L, _, rfl, SqL.ext (ext_of s1) gL, fun p2 n2 => ?_⟩
    rw [ek2, cut_from]
    refine ⟨p1, p2, _, _, rfl, rfl, Same.new n2 _ _ upd_same, upd_same, ?_, fun p3 n3 => ?_⟩
    · rw [List.length_map, List.length_map, List.length_take, List.length_drop, length_bk]
      unfold sizeLine
      omega
    rw [← List.map_append, drop_lines]
    have s2 := s1.trans ((Same.new (o := HO.lst (((bkLines b).drop (headN b + k + 1)).map V.str)) n2).trans (Same.new (o := HO.lst ((bkLines (dropR b k)).map V.str)) n3))
    refine ⟨nl, p3, bkLines (dropR b k), rfl, rfl, .inl (.inl (.inl upd_same)), sum_nl _ (by omega), ?_⟩
    rw [join_txt]
    have hlk := wt_le (s := nl) rfl (bkLines (dropR b k))
    have hrk := rBook_is (drop_bk hok k)
    refine ⟨bkText (dropR b k), rfl, by unfold bkText; omega, fun b' hb' v4 G4 e4 d4 => ?_, fun l f he => by rw [hrk] at he; cases he⟩
    rw [hrk] at hb'
    cases hb'
    have s4 := s2.trans e4
    clear s1 s2 n1 n2 n3 e4
    have eg4 := e1.trans s4
    refine ⟨_, rfl, _, rfl, 3, rfl, sl_data (K := K) (Same.tup eg4 ht) (DpAll.same eg4 hbd) (es := [.tuple (b.places.map dPl), .tuple (b.ways.map dWy), dSl b.slip]) rfl fun p5 G5 y5 e5 t5 d5 => ?_⟩
    have eg5 := eg4.trans e5
    refine ⟨_, rfl, a, _, 3, _, rfl, rfl, Same.tup eg5 ht, rfl, _, rfl, k, rfl, sl_data (K := K) (Same.tup eg5 tr) (DpAll.same eg5 dr) (cutD_to _ k) fun p6 G6 y6 e6 t6 d6 => ?_⟩
    have eg6 := eg5.trans e6
    refine ⟨_, rfl, a, _, 3, _, rfl, rfl, Same.tup eg6 ht, rfl, _, rfl, _, _, rfl, rfl, ((k + 1 : Nat) : Int), rfl, sl_dataF (K := K) (Same.tup eg6 tr) (DpAll.same eg6 dr) (cutD_from _ (k + 1)) fun p7 G7 y7 e7 t7 d7 => ?_⟩
    have l6 := DpAll.length d6
    have l7 := DpAll.length d7
    rw [List.length_take, List.length_map] at l6
    rw [List.length_drop, List.length_map] at l7
    have l5 := DpAll.length d5
    refine cat_data (K := K) (Same.tup e7 t6) (DpAll.same e7 d6) t7 d7 (by unfold sizeLine; omega) (fs := (dropR b k).rows.map dRw) (by unfold dropR; rw [← List.map_take, ← List.map_drop, ← List.map_append]) fun p8 G8 y8 e8 t8 d8 => ?_
    refine ⟨Nat.le_of_ble_eq_true rfl, fun p9 n9 => ?_⟩
    have e59 := e6.trans (e7.trans (e8.trans (Same.new (o := HO.tup [.ref p8]) n9)))
    refine cat_data (K := K) (Same.tup e59 t5) (DpAll.same e59 d5) (.inl (.inl upd_same)) (.cons (Dp.same (Same.new n9) (.tup t8 d8)) .nil) (by rw [l5]; exact (by decide : 3 + 1 ≤ sizeLine)) (fs := [.tuple (b.places.map dPl), .tuple (b.ways.map dWy), dSl b.slip, .tuple ((dropR b k).rows.map dRw)]) rfl fun p10 G10 y10 e10 t10 d10 => ?_
    have e410 := e5.trans (e59.trans e10)
    exact rNeD_no (d := dBk (dropR b k)) (Dp.same e410 d4) (.tup t10 d10) (plain_bk _) (shp_bk (drop_bk hok k)) (by decide) ⟨_, rfl, iteF ⟨_, _, rfl, s4.trans e410⟩⟩
  rintro σ H11 ⟨o2, o3, rfl, e11⟩
  replace e1 := e1.trans e11
  replace gL := SqL.ext (ext_of e11) gL
  clear e11
  have hh : 1 ≤ headN b := by unfold headN; omega
  have hhz : headN b ≤ 4000000 := by unfold headN; omega
  refine ⟨_, rfl, 1, _, rfl, ⟨by omega, by omega, by omega, by omega⟩, ?_⟩
  rw [show (((headN b : Nat) : Int) - 1).toNat = headN b - 1 by omega]
  refine for_it (walk_range (lo := 1) (n := headN b - 1)) (fun k σ G => ∃ o4, σ = [some (.ref a), some (.int (headN b : Nat)), o2, o3, o4, some (.ref L), some (.str (bkText b)), none, none] ∧ LamX.ExtN H11 G ∧ LamX.Tabs (tabsL K) G) ⟨none, rfl, LamX.ExtN.refl _, tabs_same hT e1⟩ (fun _ _ _ _ _ => True.intro) ?_ ?_
  · rintro k x σ G G' hk ⟨o4, rfl, eG, TG⟩ ⟨rfl, hx⟩
    have hx2 : x = V.int ((1 + k : Nat) : Int) := hx
    subst hx2
    clear hx
    refine ⟨TG, fun H12 e12 T12 => ⟨_, ⟨L, bkLines b, 1 + k, rfl, rfl, SqL.ext (eG.trans e12) gL, by omega, rfl⟩, fun v13 H13 e13 d13 => ?_⟩⟩
    have ed : hBk (Str.join nl ((bkLines b).take (1 + k))) = hText ((1 + k : Nat) : Int) ((0 : Nat) : Int) := by
      unfold hBk
      rw [cut_bk hok (by omega) (by omega)]
    rw [ed] at d13
    exact ⟨_, rfl, Nat.le_of_ble_eq_true rfl, fun p np => rNeD_no (n := 1) (Dp.same (Same.new np) d13) (.tup (.inl (.inl upd_same)) (.cons (.str _) (.cons (.int _) (.cons (.int _) .nil)))) (plain_text _ _) (shp_text _ _) (by decide) ⟨_, rfl, iteF ⟨_, rfl, eG.trans (e12.trans (ext_of (e13.trans (Same.new np)))), tabs_same (tabs_same T12 e13) (Same.new np)⟩⟩⟩
  rintro σ H14 ⟨o4, rfl, x14, T14⟩
  replace gL := SqL.ext x14 gL
  replace x14 := (ext_of e1).trans x14
  have hml : ((bkLines b).map V.str).length = (bkLines b).length := List.length_map ..
  have em1 : hBk (bkText b ++ ("\nslip 1" : Str)) = hText ((bkLines b).length : Nat) ((0 : Nat) : Int) := by
    unfold hBk
    rw [more_slip hok]
  have em2 : hBk (bkText b ++ ("\n" : Str)) = hText ((bkLines b).length : Nat) ((0 : Nat) : Int) := by
    unfold hBk
    rw [nl_is, more_empty hok]
  refine ⟨T14, fun H15 e15 T15 => ⟨_, ⟨bkText b, rfl, by omega, rfl⟩, fun v16 H16 e16 d16 => ?_⟩⟩
  rw [em1] at d16
  have x16 := e15.trans (ext_of e16)
  refine ⟨_, rfl, L, _, rfl, .inl (SqL.ext x16 gL), Nat.le_of_ble_eq_true rfl, fun p17 n17 => ?_⟩
  rw [hml]
  refine rNeD_no (n := 1) (Dp.same (Same.new n17) d16) (.tup (.inl (.inl upd_same)) (.cons (.str _) (.cons (.int _) (.cons (.int _) .nil)))) (plain_text _ _) (shp_text _ _) (by decide) ⟨_, rfl, iteF ?_⟩
  have x17 := x16.trans (ext_of (Same.new (o := HO.tup [.str "text", .int ((bkLines b).length : Nat), .int 0]) n17))
  refine ⟨tabs_same (tabs_same T15 e16) (Same.new n17), fun H18 e18 T18 => ⟨_, ⟨bkText b, rfl, by omega, rfl⟩, fun v19 H19 e19 d19 => ?_⟩⟩
  rw [em2] at d19
  have x19 := x17.trans (e18.trans (ext_of e19))
  refine ⟨_, rfl, L, _, rfl, .inl (SqL.ext x19 gL), Nat.le_of_ble_eq_true rfl, fun p20 n20 => ?_⟩
  rw [hml]
  exact rEqD_yes (n := 1) (Dp.same (Same.new n20) d19) (.tup (.inl (.inl upd_same)) (.cons (.str _) (.cons (.int _) (.cons (.int _) .nil)))) (plain_text _ _) (shp_text _ _) (by decide) (q _ (x14.trans (x19.trans (ext_of (Same.new n20)))) (tabs_same (tabs_same T18 e19) (Same.new n20)))
end
end K12

/-! law. -/
namespace K12
open PySem PySem.Spec PyProof.Rows L2
theorem Tabs.but {T : List (Addr × Str)} {H G : Hp} {f : Addr} {kvs : List (Key × V)} (t : LamX.Tabs T H) (e : But f H G) (hf : H f = some (.dK kvs)) : LamX.Tabs T G := fun p hp => by
  obtain ⟨ps, h1, h2, h3⟩ := t p hp
  refine ⟨ps, e _ _ (ne_of h1 hf (by intro z; cases z)) h1, h2, fun pos cv hc => ?_⟩
  obtain ⟨c, e1, e2⟩ := h3 pos cv hc
  exact ⟨c, e1, e _ _ (ne_of e2 hf (by unfold LamX.CodeO; intro z; cases z)) e2⟩
theorem Tabs.updL {T : List (Addr × Str)} {H : Hp} {D : Addr} {xs ys : List V} (t : LamX.Tabs T H) (hD : H D = some (.lst xs)) : LamX.Tabs T (upd H D (.lst ys)) := fun p hp => by
  obtain ⟨ps, h1, h2, h3⟩ := t p hp
  refine ⟨ps, by rw [upd_ne (ne_of h1 hD (by intro z; cases z))]; exact h1, h2, fun pos cv hc => ?_⟩
  obtain ⟨c, e1, e2⟩ := h3 pos cv hc
  exact ⟨c, e1, by rw [upd_ne (ne_of e2 hD (by unfold LamX.CodeO; intro z; cases z))]; exact e2⟩
theorem FeedL.updL {H : Hp} {f l D : Addr} {xs ys : List V} (h : FeedL H f l) (hD : H D = some (.lst xs)) (hl : l ≠ D) : FeedL (upd H D (.lst ys)) f l := by
  obtain ⟨kv, hk⟩ := h.dict
  exact h.keep (fun o x => by rw [upd_ne (ne_of hk hD (by intro z; cases z))]; exact x) fun o x => by rw [upd_ne hl]; exact x
theorem wt_few {l m : List Str} {n : Nat} (hl : ∀ x ∈ l, x.length + 1 ≤ n) : Wt l ≤ l.length * n := by
  induction l with
  | nil => exact Nat.zero_le _
  | cons x r ih =>
    have h1 := ih fun y hy => hl y (List.mem_cons_of_mem _ hy)
    have h2 := hl x List.mem_cons_self
    rw [wt_cons, List.length_cons, Nat.succ_mul]
    omega
theorem ixLK {X : Cx} (K : PySem.W.Frag) (hK : X.K = K := by rfl) : IxR X (rIxL K) := by
  subst hK
  exact ix_list
theorem lenK {X : Cx} (K : PySem.W.Frag) (hK : X.K = K := by rfl) : CallR X (.builtin "len") (fun xs H Q => ∃ p ys, xs = [V.ref p] ∧ (SqL K H p ys ∨ SqT K H p ys) ∧ Q (.int (ys.length : Nat)) H) := by
  subst hK
  exact call_len_seq
theorem atI_last {xs : List V} {x : V} (h : xs[xs.length - 1]? = some x) (hl : 1 ≤ xs.length) : atI xs (-1) = some x := by
  unfold atI ixN
  rw [if_neg (by decide), if_pos (by omega)]
  show xs[((-1 : Int) + (xs.length : Int)).toNat]? = some x
  rw [show ((-1 : Int) + (xs.length : Int)).toNat = xs.length - 1 by omega]
  exact h
def spLaw (K : PySem.W.Frag) : Sp := fun vs H Q _ => ∃ (a : Addr) (ns : List Int), vs = [.ref a] ∧ SqL K H a (ns.map V.int) ∧ LamX.Tabs (tabsL K) H ∧ ∀ H', Q (.bl true) H'
section
variable {P : Program} {w : World} {K : PySem.W.Frag} {mg : Str → Option Value} {base : Heap}
theorem ok_law (Y : TL P K mg base) : CalG P w K mg base 15 "law" (spLaw K) := by
  have Y' := Y.th.tb.ty
  have T := Y'.tx
  have S : FnScope ["_law_script", "_law_feed_here", "_law_sheet", "_law_late", "_law_part", "_law_k", "_law_pool", "_law_some"] ["_law_script"] (defScope s_law) := ⟨rfl, rfl, rfl, by decide +kernel, rfl, by decide +kernel, by decide +kernel⟩
  refine T.defG i_law (d := d_law) rfl rfl S (fun _ _ _ _ _ _ us hl => match us, hl with | [_], _ => rfl) (by rintro vs H Q E ⟨v, ns, rfl, _⟩; rfl) (fun A outer s H vs Q E hgu hr h => ?_)
  obtain ⟨a, ns, rfl, ha, hT, q⟩ := h
  have nd := S.nd
  refine ⟨_, (pss_cons (ps_set (i := 1) nd rfl (.inr rfl) (pc (ok_law_feed T) hr passB (pa_cons (pv 0) pa_nil)))
    (pss_cons (ps_set (i := 2) nd rfl (.inl rfl) (pc (ok_law_book T) hr passB (pa_cons (pv 1) (pa_cons (pe_op op_add pe_int (pc (ok_law_draw T) hr passB (pa_cons (pv 1) (pa_cons pe_int pa_nil)))) pa_nil))))
    (pss_cons (ps_if (pt_not (pt_val (pcG (ok_law_book_right Y) hgu hr passB (pa_cons (pv 2) pa_nil)))) (pss_one (ps_ret pe_bl)) pss_nil)
    (pss_cons (ps_par (i := 3) (j := 4) rfl nd rfl rfl (by decide) rfl rfl (pa_cons (pc (ok_book_text T) hr passB (pa_cons (pv 2) pa_nil)) (pa_cons (pc (ok_row_text T) hr passB (pa_cons (pe_ix (ixT K) (pe_ix (ixT K) (pv 2) pe_int (fun _ _ => rfl)) (pe_un un_neg pe_int) (fun _ _ => rfl)) pa_nil)) pa_nil)) rfl)
    (pss_cons (ps_for (passes_of rfl) rfl (pi_range1 rfl T.free (pa_cons pe_int pa_nil)) (pg_name (i := 5) nd rfl (.inl rfl))
      (pss_cons (ps_if (PW.pt (pw_or (pt_not (pt_val (pc (ok_law_any_page Y) hr passB (pa_cons (pv 3) pa_nil)))) (pw_or1 (pt_not (pt_val (pc (ok_law_any_line Y) hr passB (pa_cons (pv 4) pa_nil))))))) (pss_one (ps_ret pe_bl)) pss_nil)
    (pss_one (ps_par (i := 3) (j := 4) rfl nd rfl rfl (by decide) rfl rfl (pa_cons (pc (ok_law_spoilt T) hr passB (pa_cons (pv 1) (pa_cons (pv 3) pa_nil))) (pa_cons (pc (ok_law_spoilt T) hr passB (pa_cons (pv 1) (pa_cons (pv 4) pa_nil))) pa_nil)) rfl))))
    (pss_cons (ps_set (i := 6) nd rfl (.inr rfl) (pe_split (pc (ok_book_text T) hr passB (pa_cons (pv 2) pa_nil)) (pS nl_is)))
    (pss_cons (ps_set (i := 7) nd rfl (.inl rfl) (pe_op op_cat (pe_slice sl_list (pv 6) po_none (po_some pe_int)) (pe_lc (own := [("_law_k", 5)]) (g := gName 5) (tt := tYes) rfl nd (pi_range1 rfl T.free (pa_cons pe_int pa_nil)) (blkOk_by (N := ["_law_script", "_law_feed_here", "_law_sheet", "_law_late", "_law_part", "_law_k", "_law_pool", "_law_some"]) (sc := defScope s_law) (by decide +kernel)) (fun _ _ _ _ _ => pg_name (i := 5) nd rfl (Or.inl rfl)) (fun _ _ _ _ _ => pts_nil) (fun _ _ _ _ _ => pe_ix (ixLK K) (pv 6) (pc (ok_law_draw T) hr passL (pa_cons (pv 1) (pa_cons (pe_callB (lenK K) rfl T.free boot_len (pa_cons (pv 6) pa_nil)) pa_nil))) (fun _ _ => rfl)))))
    (pss_one (ps_ret (pe_and (pc (ok_law_any_page Y) hr passB (pa_cons (pe_join (pS nl_is) (pv 7)) pa_nil)) (pe_and (pc (ok_law_any_page Y) hr passB (pa_cons (pe_join (pS nl_is) (pe_revL (pv 7))) pa_nil)) (pe_one (pc (ok_law_any_page Y) hr passB (pa_cons (pv 3) pa_nil)))))))))))))), ?_⟩
  refine ⟨_, rfl, a, ns, rfl, ha, fun f l H1 e1 hf1 => ?_⟩
  have T1 := tabs_same hT e1
  refine ⟨_, rfl, _, rfl, f, l, 4, rfl, hf1, by decide, by decide, fun d H2 hd b2 hf2 => ⟨2, d, rfl, rfl, f, l, 2 + d, rfl, by omega, hf2, fun b v H3 hsh b3 hf3 hv => ?_⟩⟩
  obtain ⟨kv1, k1⟩ := hf1.dict
  obtain ⟨kv2, k2⟩ := hf2.dict
  have T3 := Tabs.but (Tabs.but T1 b2 k1) b3 k2
  have hd4 : d < 4 := by omega
  clear k1 k2 b2 b3 e1
  have hok := hsh.ok
  have htx := hsh.text (by omega)
  have hrd := rBook_is hok
  have hlb := lines_bk hok
  have hWl : Wt (bkLines b) = (bkText b).length + 1 := by rw [← hlb]; exact wt_lines _
  refine ⟨_, rfl, v, b, 2 + d, rfl, hv, hsh, by omega, T3, fun H4 e4 T4 => ⟨true, rfl, iteN (by decide) ?_⟩⟩
  have hf4 := hf3.ext e4
  have hv4 := Dp.ext e4 hv
  clear e4 hv hf3 T3
  refine ⟨_, rfl, [dBk b], _, .cons hv4 .nil, ⟨b, hok, rfl, by omega, rfl⟩, fun u5 H5 e5 hu => ?_⟩
  cases hu.strI
  have hv5 := Dp.same e5 hv4
  obtain ⟨sa, p, w2, r, ps, ws, rs, rfl, ht, tp, dp, tw, dw, tr, dr⟩ := id hv5.bkI
  have lr : rs.length = b.rows.length := by rw [DpAll.length dr, List.length_map]
  have hrl := hsh.rows
  have hlast : rs.length - 1 < b.rows.length := by omega
  obtain ⟨xl, hxl, hdl⟩ := DpAll.get dr (i := rs.length - 1) (d := dRw b.rows[rs.length - 1]) (by simp [hlast])
  have hmem := List.getElem_mem hlast
  refine ⟨_, rfl, sa, _, 3, _, rfl, rfl, ht, rfl, 1, rfl, r, rs, _, xl, rfl, rfl, tr, atI_last hxl (by omega), [dRw b.rows[rs.length - 1]], _, .cons hdl .nil, ⟨_, hok.rw' _ hmem, rfl, rfl⟩, fun u6 H6 e6 hu6 => ?_⟩
  cases hu6.strI
  refine ⟨_, _, rfl, ?_⟩
  have hln : (lineS (wRw b.rows[rs.length - 1])).length ≤ (bkText b).length := cut_len (c := 10) (t := bkText b) _ (by
    have z := row_line hmem
    rw [← hlb] at z
    exact z)
  have e46 := e5.trans e6
  have hf6 := hf4.same e46
  have T6 := tabs_same T4 e46
  have hv6 := Dp.same e6 hv5
  clear e5 hu hu6 hdl hxl e46 hv5 hv4 hf4 T4 ht tp dp tw dw tr dr e6
  generalize lineS (wRw b.rows[rs.length - 1]) = u0 at hln ⊢
  refine ⟨5, rfl, by decide, by decide, ?_⟩
  refine for_it (walk_range (lo := 0) (n := 5)) (fun k σ G => ∃ o5 t u, σ = [some (.ref a), some (.ref f), some (.ref sa), some (.str t), some (.str u), o5, none, none] ∧ t.length + 20 ≤ 2 ^ k * 3695 ∧ u.length + 20 ≤ 2 ^ k * 3695 ∧ FeedL G f l ∧ LamX.Tabs (tabsL K) G ∧ Dp K G (.ref sa) (dBk b)) ⟨none, _, _, rfl, by omega, by omega, hf6, T6, hv6⟩ (fun _ _ _ _ _ => True.intro) ?_ ?_
  · rintro k x σ G G' hk ⟨o5, t, u, rfl, ht, hu, hfG, TG, hvG⟩ ⟨rfl, hx⟩
    have hp : (2 : Nat) ^ (k + 1) = 2 ^ k * 2 := Nat.pow_succ ..
    have hm : (2 : Nat) ^ k ≤ 16 := Nat.le_trans (Nat.pow_le_pow_right (by decide) (show k ≤ 4 by omega)) (by decide)
    generalize (2 : Nat) ^ k = m at hp hm ht hu
    refine ⟨_, rfl, t, rfl, by omega, TG, fun H7 e7 T7 => ⟨true, rfl, iteN (by decide) ⟨_, rfl, u, rfl, by omega, T7, fun H8 e8 T8 => ⟨true, rfl, iteN (by decide) ?_⟩⟩⟩⟩
    have x8 := e7.trans e8
    have hf8 := hfG.ext x8
    have hv8 := Dp.ext x8 hvG
    refine ⟨_, rfl, _, rfl, f, l, t, rfl, by omega, hf8, fun t' H9 ht' b9 hf9 => ⟨_, rfl, _, rfl, f, l, u, rfl, by omega, hf9, fun u' H10 hu' b10 hf10 => ⟨_, _, rfl, ?_⟩⟩⟩
    obtain ⟨kv8, k8⟩ := hf8.dict
    obtain ⟨kv9, k9⟩ := hf9.dict
    exact ⟨_, t', u', rfl, by rw [hp]; omega, by rw [hp]; omega, hf10, Tabs.but (Tabs.but T8 b9 k8) b10 k9, But.dp b10 k9 (But.dp b9 k8 hv8)⟩
  rintro σ G ⟨o5, t, u, rfl, ht, hu, hfG, TG, hvG⟩
  have h32 : (2 : Nat) ^ 5 = 32 := by decide
  rw [h32] at ht hu
  clear hf6 T6 hv6 hln
  refine ⟨_, rfl, [dBk b], _, .cons hvG .nil, ⟨b, hok, rfl, by omega, rfl⟩, fun u11 H11 e11 hu11 => ?_⟩
  cases hu11.strI
  refine ⟨⟨_, rfl⟩, bkText b, nl, rfl, rfl, rfl, by unfold sizeLine; omega, fun Lp nLp => ?_⟩
  have hls : Txt.split (bkText b) nl = bkLines b := hlb
  rw [hls]
  have e12 := e11.trans (Same.new (o := HO.lst ((bkLines b).map V.str)) nLp)
  have gL : (upd H11 Lp (.lst ((bkLines b).map V.str))) Lp = some (.lst ((bkLines b).map V.str)) := upd_same
  generalize upd H11 Lp (.lst ((bkLines b).map V.str)) = H12 at e12 gL ⊢
  have hf12 := hfG.same e12
  have T12 := tabs_same TG e12
  clear e11 hu11 nLp hls hfG TG hvG e12
  have hlen := length_bk b
  have hml : ((bkLines b).map V.str).length = (bkLines b).length := List.length_map ..
  have hcnt : (bkLines b).length ≤ 3676 := by
    have := wt_sum (bkLines b)
    omega
  refine ⟨_, rfl, ((1 : Nat) : Int), rfl, Lp, _, rfl, .inl (.inl gL), fun p1 n1 => ?_⟩
  rw [cut_to]
  have e13 := Same.new (o := HO.lst (((bkLines b).take 1).map V.str)) n1
  have g1 : (upd H12 p1 (.lst (((bkLines b).take 1).map V.str))) p1 = some (.lst (((bkLines b).take 1).map V.str)) := upd_same
  have gL13 := e13 _ _ gL
  generalize upd H12 p1 (.lst (((bkLines b).take 1).map V.str)) = H13 at e13 g1 gL13 ⊢
  have hf13 := hf12.same e13
  have T13 := tabs_same T12 e13
  clear gL hf12 T12 n1 e13
  refine ⟨4, rfl, by decide, by decide, fun D hD => ?_⟩
  have hlD : l ≠ D := by
    obtain ⟨_, _, _, _, _, z, _⟩ := hf13
    exact ne_of_none z hD
  have hLD : Lp ≠ D := ne_of_none gL13 hD
  have h1D : p1 ≠ D := ne_of_none g1 hD
  have e14 := Same.new (o := HO.lst []) hD
  refine lc_it (walk_range (lo := 0) (n := 4)) (fun i G => ∃ acc : List Str, G D = some (.lst (acc.map V.str)) ∧ acc.length = i ∧ (∀ x ∈ acc, x ∈ bkLines b) ∧ FeedL G f l ∧ LamX.Tabs (tabsL K) G ∧ G Lp = some (.lst ((bkLines b).map V.str)) ∧ G p1 = some (.lst (((bkLines b).take 1).map V.str))) ⟨[], upd_same, rfl, fun x hx => absurd hx (by simp), hf13.same e14, tabs_same T13 e14, e14 _ _ gL13, e14 _ _ g1⟩ (fun _ _ _ _ => True.intro) ?_ ?_
  · rintro i x G G' hi ⟨acc, hD1, hl, hm, hfG, TG, gLG, g1G⟩ ⟨rfl, hx⟩
    refine ⟨rfl, _, rfl, _, rfl, _, rfl, Lp, _, rfl, .inl (.inl (.inl gLG)), f, l, _, rfl, hfG, by rw [hml]; omega, by rw [hml]; omega, fun d G2 hd b2 hf2 => ?_⟩
    rw [hml] at hd
    obtain ⟨kvG, kG⟩ := hfG.dict
    have hDf : D ≠ f := ne_of hD1 kG (by intro z; cases z)
    have hLf : Lp ≠ f := ne_of gLG kG (by intro z; cases z)
    have h1f : p1 ≠ f := ne_of g1G kG (by intro z; cases z)
    have hdl : d < (bkLines b).length := by omega
    have hD2 := b2 _ _ hDf hD1
    refine ⟨Lp, _, _, .str (bkLines b)[d], rfl, rfl, .inl (.inl (b2 _ _ hLf gLG)), atI_nat (by simp [hdl]), acc.map V.str, hD2, by rw [List.length_map]; unfold sizeLine; omega, acc ++ [(bkLines b)[d]], by rw [upd_same, List.map_append]; rfl, by simp [hl], fun y hy => ?_, hf2.updL hD2 hlD, Tabs.updL (Tabs.but TG b2 kG) hD2, by rw [upd_ne hLD]; exact b2 _ _ hLf gLG, by rw [upd_ne h1D]; exact b2 _ _ h1f g1G⟩
    rcases List.mem_append.mp hy with hy | hy
    · exact hm y hy
    · simp at hy
      rw [hy]
      exact List.getElem_mem hdl
  rintro G ⟨acc, hD1, hl, hm, hfG, TG, gLG, g1G⟩
  have ha4 : (acc.map V.str).length = 4 := by rw [List.length_map]; exact hl
  have ht1 : ((bkLines b).take 1).length ≤ 1 := by rw [List.length_take]; omega
  have hWt : Wt ((bkLines b).take 1 ++ acc) ≤ 5 * 3676 := by
    refine Nat.le_trans (wt_few (m := []) (n := 3676) fun x hx => ?_) ?_
    · have hin : x ∈ bkLines b := by
        rcases List.mem_append.mp hx with z | z
        · exact List.mem_of_mem_take z
        · exact hm x z
      obtain ⟨i, hi, rfl⟩ := List.mem_iff_getElem.mp hin
      have := wt_mem hi
      omega
    · rw [List.length_append]
      omega
  refine ⟨p1, D, _, _, rfl, rfl, g1G, hD1, by rw [ha4, List.length_map]; unfold sizeLine; omega, fun q1 nq => ?_⟩
  rw [← List.map_append]
  have e20 := Same.new (o := HO.lst (((bkLines b).take 1 ++ acc).map V.str)) nq
  have g20 : (upd G q1 (.lst (((bkLines b).take 1 ++ acc).map V.str))) q1 = some (.lst (((bkLines b).take 1 ++ acc).map V.str)) := upd_same
  have T20 := tabs_same TG e20
  generalize upd G q1 (.lst (((bkLines b).take 1 ++ acc).map V.str)) = H20 at g20 T20 ⊢
  generalize (bkLines b).take 1 ++ acc = sm at hWt g20
  have hj1 := wt_le (s := nl) rfl sm
  have hj2 := wt_le (s := nl) rfl sm.reverse
  rw [wt_rev] at hj2
  refine ⟨⟨_, rfl⟩, _, rfl, nl, q1, sm, rfl, rfl, .inl (.inl (.inl g20)), sum_nl _ (by omega), ?_⟩
  rw [join_txt]
  refine ⟨_, rfl, by omega, T20, fun H21 e21 T21 => ⟨true, rfl, iteT ?_⟩⟩
  have g21 := e21 _ _ g20 (fun ps z => by cases z)
  refine ⟨⟨_, rfl⟩, _, rfl, q1, _, rfl, .inl (.inl g21), fun q2 nq2 => ⟨nl, q2, sm.reverse, rfl, rfl, .inl (.inl (.inl (by rw [upd_same, List.map_reverse]))), sum_nl _ (by rw [wt_rev]; omega), ?_⟩⟩
  rw [join_txt]
  refine ⟨_, rfl, by omega, tabs_same T21 (Same.new nq2), fun H22 e22 T22 => ⟨true, rfl, iteT ?_⟩⟩
  exact ⟨_, rfl, t, rfl, by omega, T22, fun H23 _ _ => q H23⟩
end
end K12

/-! What the head tells: facts by names. -/
namespace K12
open PySem PySem.Spec PyProof.Rows L2
/-! ### an own exception class with its own __init__ -/
theorem oexB_ok {K : PySem.W.Frag} {C : Addr} (h : oexB K C = true) : OexC K C := by
  obtain ⟨h0, h⟩ := He.ba h
  obtain ⟨h1, h⟩ := He.ba h
  obtain ⟨h2, h⟩ := He.ba h
  obtain ⟨h3, h4⟩ := He.ba h
  refine ⟨?_, He.eqO_ok h1, of_decide_eq_true h2, of_decide_eq_true h3, h4⟩
  cases q : K.lookup C with
  | none =>
    rw [q] at h0
    cases h0
  | some o =>
    obtain ⟨oc, od, dt, sl⟩ := o
    rw [q] at h0
    cases oc with
    | type t =>
      cases dt with
      | cls cd =>
        obtain ⟨k1, k⟩ := He.ba h0
        obtain rfl := of_decide_eq_true k1
        obtain ⟨nm, bs, mro, ns, qn, hd, sn, sb, ab, col, del⟩ := cd
        obtain ⟨l⟩ := sl
        split at k
        · rename_i D bm x0 x1 x2 x3 n x5 e1 e2
          obtain ⟨j1, k⟩ := He.ba k
          obtain ⟨j2, k⟩ := He.ba k
          obtain ⟨j3, k⟩ := He.ba k
          obtain ⟨j4, j5⟩ := He.ba k
          obtain rfl := of_decide_eq_true j1
          obtain rfl := of_decide_eq_true j2
          have e1' : mro = .ref D :: bm := e1
          have e2' : l = [x0, x1, x2, x3, some (.builtin "ValueError.__new__"), x5] := e2
          have j4' : hd = true := j4
          have j3' : del = false := by
            cases del with
            | false => rfl
            | true => cases j3
          subst e1' e2' j4' j3'
          exact ⟨_, _, _, _, _, _, _, _, _, _, _, _, _, _, _, rfl, j5⟩
        · cases k
      | _ => cases h0
    | _ => cases dt <;> cases h0
theorem cellB_ok {K : PySem.W.Frag} {C cc : Addr} (h : cellB K C cc = true) : ∃ o, K.lookup cc = some o ∧ o.data = .cell (some (.ref C)) := by
  unfold cellB at h
  split at h
  · rename_i oc od D sl e
    obtain rfl := of_decide_eq_true h
    exact ⟨_, e, rfl⟩
  · cases h
theorem fileB_ok {K : PySem.W.Frag} {cda : Addr} (h : fileB K cda = true) : ∃ o vs tf, K.lookup cda = some o ∧ o.data = .fields vs ∧ vs[2]? = some (.str fileN tf) := by
  unfold fileB at h
  split at h
  · rename_i oc od vs sl e
    split at h
    · rename_i z tf e2
      obtain rfl := of_decide_eq_true h
      exact ⟨_, vs, tf, e, rfl, e2⟩
    · cases h
  · cases h
theorem supB_ok {K : PySem.W.Frag} {C : Addr} {q : Str} {st : Stmt} (h : supB K C q = true) (e : supW K (He.ma K C "__init__") = supV q st) : ∃ f cc cda fd, SupD K C f cc cda fileN "__init__" q (defArgs st) (defBody st) (defScope st) fd ∧ PySem.W.findIn K (.ref C) "__init__" = some (some (.ref f)) ∧ PySem.W.typeIn K (.ref f) = some (.type "function") := by
  obtain ⟨h0, h⟩ := He.ba h
  obtain ⟨h1, h⟩ := He.ba h
  obtain ⟨h2, h⟩ := He.ba h
  obtain ⟨h3, h⟩ := He.ba h
  obtain ⟨h4, h⟩ := He.ba h
  obtain ⟨h5, h⟩ := He.ba h
  obtain ⟨h6, h7⟩ := He.ba h
  unfold supW at e
  cases ql : K.lookup (He.ma K C "__init__") with
  | none =>
    rw [ql] at h0
    cases h0
  | some o =>
    obtain ⟨oc, od, dt, osl⟩ := o
    rw [ql] at h0 e
    cases dt with
    | func fd =>
      obtain ⟨n1, n2, n3, n4, n5, n6, n7, n8, n9, n10, n11, n12, n13, n14, n15⟩ := fd
      have e2 : (some (n1, n2, n3, n4, n5, n6, n7.map (·.1), n15) : SupW) = supV q st := e
      unfold supV at e2
      simp only [Option.some.injEq, Prod.mk.injEq] at e2
      obtain ⟨rfl, rfl, rfl, rfl, rfl, rfl, g7, rfl⟩ := e2
      dsimp only at h0
      split at h0
      · rename_i x cc cda
        obtain ⟨k1, k⟩ := He.ba h0
        obtain ⟨k2, k3⟩ := He.ba k
        obtain rfl : x = "__class__" := by simpa using g7
        exact ⟨_, cc, cda, _, { lk := ⟨oc, od, osl, _, _, _, _, _, rfl, ql⟩, code := k1, at_ := fileB_ok k3, cell := cellB_ok k2, ini := of_decide_eq_true h3, sub := of_decide_eq_true h4, subS := of_decide_eq_true h5, opq := of_decide_eq_true h6, exn := oexB_ok h7 }, He.eqO_ok h1, of_decide_eq_true h2⟩
      · cases h0
    | _ => cases h0
/-! ### what isinstance asks -/
theorem excCB_ok {K : PySem.W.Frag} {D : Addr} (h : excCB K D = true) : ExcC K D := by
  obtain ⟨h1, h⟩ := He.ba h
  obtain ⟨h2, h⟩ := He.ba h
  obtain ⟨h3, h⟩ := He.ba h
  obtain ⟨h4, h⟩ := He.ba h
  obtain ⟨h5, h⟩ := He.ba h
  obtain ⟨h6, h⟩ := He.ba h
  obtain ⟨h7, h8⟩ := He.ba h
  exact ⟨He.eqO_ok h1, He.eqO_ok h2, of_decide_eq_true h3, h4, He.eqO_ok h5, He.eqO_ok h6, of_decide_eq_true h7, of_decide_eq_true h8⟩
/-! ### the class Book -/
theorem propB_ok {K : PySem.W.Frag} {C : Addr} {m : Str} (h : propB K C m = true) : PropOf K C m (He.ma K C m) (He5.wf K C "property" m) := by
  obtain ⟨h1, h⟩ := He.ba h
  obtain ⟨h2, h⟩ := He.ba h
  obtain ⟨h3, h4⟩ := He.ba h
  refine ⟨He.eqO_ok h1, He.eqO_ok h2, of_decide_eq_true h3, ?_⟩
  unfold He5.wf
  split at h4
  · rename_i f r e
    exact ⟨r, by rw [e]⟩
  · cases h4
/-! ### all of it -/
/-! ### the facts -/
theorem facts {P : Program} {K : PySem.W.Frag} {h : Heap} {mg : Str → Option Value} (kin : K.In h) (G : h.Ns mainGlobals mg) (hP : FileF P fileN) (c : SaysK h K) : TH P K mg := by
  have fa : ∀ f ∈ faK, He.Fa.ok K f = true := fun f hf => c.d.facts hf
  have fa1 : ∀ f ∈ faAll, He.Fa.ok K f = true := fun f hf => fa f (List.mem_append_left _ hf)
  have fa2 : ∀ f ∈ ([.glo "ROW_WORDS", .noat "InvalidText" "line", .noat "InvalidText" "field", .noat "InvalidPaper" "word", .noat "InvalidPaper" "at", .exm "InvalidText" "UnbookedError" true, .exm "InvalidPaper" "UnbookedError" true] : List He.Fa), He.Fa.ok K f = true := fun f hf => fa f (List.mem_append_right _ hf)
  obtain ⟨x1, h0⟩ := He.ba c.ex
  obtain ⟨x2, h0⟩ := He.ba h0
  obtain ⟨x3, h0⟩ := He.ba h0
  obtain ⟨x4, h0⟩ := He.ba h0
  obtain ⟨x5, h0⟩ := He.ba h0
  obtain ⟨x6, h0⟩ := He.ba h0
  obtain ⟨x7, h0⟩ := He.ba h0
  obtain ⟨x8, h0⟩ := He.ba h0
  obtain ⟨x9, h0⟩ := He.ba h0
  obtain ⟨x10, h0⟩ := He.ba h0
  obtain ⟨x11, x12⟩ := He.ba h0
  have tx : TX K mg := { at_ := ⟨h, kin, G⟩, fa := fa1, fn := fun i d hd => c.d.def_ i hd, rows := x10 }
  have n1 : PySem.W.findIn K (.ref (cTx K)) "line" = some none := He.noat_ok (fa2 (.noat "InvalidText" "line") (List.mem_of_getElem? (i := 1) rfl))
  have n2 : PySem.W.findIn K (.ref (cTx K)) "field" = some none := He.noat_ok (fa2 (.noat "InvalidText" "field") (List.mem_of_getElem? (i := 2) rfl))
  have n3 : PySem.W.findIn K (.ref (cPa K)) "word" = some none := He.noat_ok (fa2 (.noat "InvalidPaper" "word") (List.mem_of_getElem? (i := 3) rfl))
  have n4 : PySem.W.findIn K (.ref (cPa K)) "at" = some none := He.noat_ok (fa2 (.noat "InvalidPaper" "at") (List.mem_of_getElem? (i := 4) rfl))
  have ty : TY P K mg := { tx := tx, rowsG := He.glo_ok kin G (fa2 (.glo "ROW_WORDS") (List.mem_of_getElem? (i := 0) rfl)), fl := ⟨fileN, hP, { mgC := tx.glo, sup := supB_ok x1 c.sT, no1 := n1, no2 := n2 }, { mgC := tx.glo, sup := supB_ok x2 c.sP, no1 := n3, no2 := n4 }⟩ }
  obtain ⟨b1, h0⟩ := He.ba x9
  obtain ⟨b2, h0⟩ := He.ba h0
  obtain ⟨b3, h0⟩ := He.ba h0
  obtain ⟨b4, h0⟩ := He.ba h0
  obtain ⟨b5, h0⟩ := He.ba h0
  obtain ⟨b6, h0⟩ := He.ba h0
  obtain ⟨b7, h0⟩ := He.ba h0
  obtain ⟨b8, b9⟩ := He.ba h0
  have da : ∀ d ∈ dA, d.ok K = true := fun d hd => List.all_eq_true.mp x12 d hd
  have a1 : He5.fnA K (dOf.at_ K) = dOf.val := congrArg (fun l : List He.FnW => l.headD none) c.a
  have a2 : He5.fnA K (dRead.at_ K) = dRead.val := congrArg (fun l : List He.FnW => l.tail.headD none) c.a
  have a3 : He5.fnA K (dForm.at_ K) = dForm.val := congrArg (fun l : List He.FnW => l.tail.tail.headD none) c.a
  have tb : TB P K mg := {
    ty := ty
    cr := ⟨b1, He.eqO_ok b2⟩
    of_ := by
      obtain ⟨fd, F⟩ := He5.DefA.funD a1 (da dOf (List.mem_of_getElem? (i := 0) rfl))
      exact ⟨_, _, fd, He5.cmet_of b3 b5, F⟩
    read := by
      obtain ⟨fd, F⟩ := He5.DefA.funD a2 (da dRead (List.mem_of_getElem? (i := 1) rfl))
      exact ⟨_, _, fd, He5.cmet_of b4 b6, F⟩
    form := by
      obtain ⟨fd, F⟩ := He5.DefA.funD a3 (da dForm (List.mem_of_getElem? (i := 2) rfl))
      exact ⟨_, _, fd, propB_ok b7, F⟩
    str := ⟨He.eqO_ok b8, b9⟩ }
  exact {
    tb := tb
    exT := excCB_ok x3
    exP := excCB_ok x4
    xfT := xfB_ok x5
    xfP := xfB_ok x6
    noT := ⟨n1, n2⟩
    noP := ⟨n3, n4⟩
    kT := fun x b hm => of_decide_eq_true (List.all_eq_true.mp x7 (x, b) hm)
    kP := fun x b hm => of_decide_eq_true (List.all_eq_true.mp x8 (x, b) hm)
    xm := ⟨He.exm_ok (fa2 (.exm "InvalidText" "UnbookedError" true) (List.mem_of_getElem? (i := 5) rfl)), He.exm_ok (fa2 (.exm "InvalidPaper" "UnbookedError" true) (List.mem_of_getElem? (i := 6) rfl))⟩ }
end K12

/-! The end. -/
namespace K12
open PySem PySem.Spec PyProof.Rows L2
theorem file_ok : FileF RW.prog fileN := ⟨by kernel_rfl, by kernel_rfl⟩
theorem dist_ok {K : PySem.W.Frag} {h : Heap} (c : SaysK h K) : (lamN.map fun x => (He.cT K (x, none)).2).Nodup := by
  obtain ⟨_, h0⟩ := He.ba c.ex
  obtain ⟨_, h0⟩ := He.ba h0
  obtain ⟨_, h0⟩ := He.ba h0
  obtain ⟨_, h0⟩ := He.ba h0
  obtain ⟨_, h0⟩ := He.ba h0
  obtain ⟨_, h0⟩ := He.ba h0
  obtain ⟨_, h0⟩ := He.ba h0
  obtain ⟨_, h0⟩ := He.ba h0
  obtain ⟨_, h0⟩ := He.ba h0
  obtain ⟨_, h0⟩ := He.ba h0
  obtain ⟨h1, _⟩ := He.ba h0
  exact of_decide_eq_true h1
theorem tabs_nil {K : PySem.W.Frag} {H : Hp} (h : ∀ p ∈ lamN.map (fun x => He.cT K (x, none)), H p.2 = some (.tbl #[])) : LamX.Tabs (tabsL K) H := fun p hp => by
  obtain ⟨x, hx, rfl⟩ := List.mem_map.mp hp
  exact LamX.TabS.nil (h _ (List.mem_map.mpr ⟨x, hx, rfl⟩))
theorem law_run {w : World} {K : PySem.W.Frag} {mg : Str → Option Value} {base : Heap} {fa a : Addr} {z : Shared} {H : Hp} {ns : List Int} (Y : TL RW.prog K mg base) (hmg : mg "law" = some (.ref fa)) (e0 : Env0 RW.prog w K mg base callerA [] z H)
    (hH : ∀ p ∈ lamN.map (fun x => He.cT K (x, none)), H p.2 = some (.tbl #[])) (hS : SqL K H a (ns.map V.int)) :
    codeAny (model RW.prog w) callerA (.call (.ref fa) ⟨[.ref a], []⟩) (CR (L2.CX RW.prog w) [] RW.prog w H z (fun v _ => v = .bl true) fun _ _ _ => False) z := by
  obtain ⟨f, F, hm, _⟩ := ok_law (w := w) Y
  rw [hmg] at hm
  cases hm
  exact F callerA [] z H [.ref a] [.ref a] _ _ rfl ⟨rfl, by decide, by decide⟩ e0 (.cons rfl .nil) ⟨a, ns, rfl, hS, tabs_nil hH, fun _ => rfl⟩
end K12
open PySem PySem.W PySem.Calls PyProof.Rows
set_option maxHeartbeats 0 in
theorem PySem.Challenge.cw_unbooked_k12_whole_texts_there_and_back_holds : PySem.Challenge.rw_unbooked_k12_whole_texts_there_and_back.Holds := by
  w_on; o_law
  refine HandSHeadRun.head_any (r := K12.RR) (q := view K12.RR.prog [76]) (H := K12.hookK) (ob := K12.ob) (M := 20000) (loose := K12.looseK) (d := HandSHeadRun.topDef K12.RR.prog 76) (kwd := []) K12.ob_eq
    (by kernel_rfl) (fun s => by kernel_rfl) K12.run (by kernel_rfl) (by kernel_rfl) (by kernel_rfl) (by rfl) (by first | assumption | decide +kernel) (by decide +kernel) ⟨rfl, rfl, rfl, rfl, rfl, by decide +kernel⟩ ?hw ?hc
  case hw => w_witness2
  case hc =>
    refine Att.attach_callB (l := K12.RW) (n := 63) rfl (by kernel_rfl) fun w s₀ s₁ mg mb fa o pm cd doc a vs ns G Y ho hd hcd hmg0 hobj hints hlen hbits hg => ?_
    obtain ⟨K, KX, c⟩ := Y
    have hmg : mg ("law" : PySem.Str) = some (.ref fa) := by
      have e : (HandSHeadRun.topDef K12.RR.prog 76).name = ("law" : PySem.Str) := by kernel_rfl
      rw [← e]
      exact hmg0
    refine K12.law_callG (cs := K12.lamN.map fun x => He.cT K (x, none)) KX G.T.g G.T.b G.T.builtins G.T.nolimit hg ?h1 ?h2 ?h3 G.T.bmain hobj hints (Nat.le_trans hlen (by decide)) fun base H kb nb TB e0 hH hS => ?h4
    case h1 =>
      intro p hp
      obtain ⟨x, hx, rfl⟩ := List.mem_map.mp hp
      exact c.empty _ (List.mem_map.mpr ⟨x, hx, rfl⟩)
    case h2 =>
      intro p hp
      obtain ⟨x, hx, rfl⟩ := List.mem_map.mp hp
      exact c.out _ (List.mem_map.mpr ⟨x, hx, rfl⟩)
    case h3 =>
      intro p hp
      obtain ⟨x, hx, rfl⟩ := List.mem_map.mp hp
      exact codeHd_of_K KX (c.hd _ (List.mem_map.mpr ⟨x, hx, rfl⟩))
    case h4 =>
      refine K12.law_run { th := K12.facts KX G.T.g K12.file_ok c, tab := fun x hx => TB _ (List.mem_map.mpr ⟨x, hx, rfl⟩), dist := K12.dist_ok c } hmg e0 hH hS

