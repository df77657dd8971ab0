import PyProof.Rows.All
import Wide.All
import OpenK.AllK
import Wide.FinOn
import PySem.Challenge.RW_plinth_k93_whole_journals_that_are_cut_o
import HandS.Head2
import KE.IntTextLaws
import HandS.Text
import PyProof.EqAt
import PyProof.EqKinds
import PyProof.TupleCall
import KE.GoesZip
import KE.GoesMore
import HandS.ForMost
import HandS.Exc
import HandS.TryOnly
import HandS.ExcOwn
import HandS.WordsExc
import HandS.Defaults
import HandS.More
import HandS.FStr
import HandS.Codes
import HandS.IsInst
import HandS.Walk
import HandS.HeadHook1
import HandS.HeadHook2
import HandS.HeadHook3
import HandS.Zip
import HandS.Words
import HandS.HeadEnd
set_option Elab.async false
set_option linter.all false
set_option maxRecDepth 100000
set_option maxHeartbeats 0
namespace J93H
open PySem PySem.W PySem.Calls PyProof.Rows
/-! ### the sides of the end: looks at the text alone (first in the file: they want the most room) -/
abbrev R : OpenRow := OpenLaw.row PySem.Challenge.rw_plinth_k93_whole_journals_that_are_cut_o
abbrev qv : Program := view R.prog [200]
theorem law_from (h : R.wellSaid = true → R.Holds) : PySem.Challenge.rw_plinth_k93_whole_journals_that_are_cut_o.Holds := by
  w_on; o_law
  exact h (by assumption)
theorem side1 : defOf qv R.name = some (HandSHeadRun.topDef R.prog 200, []) := by kernel_rfl
theorem side2 : R.prog.theDef R.name = some ((HandSHeadRun.topDef R.prog 200).params, (HandSHeadRun.topDef R.prog 200).body, (HandSHeadRun.topDef R.prog 200).scope) := by kernel_rfl
theorem side3 : kwWritten? (HandSHeadRun.topDef R.prog 200).params.kwonlyargs (HandSHeadRun.topDef R.prog 200).params.kw_defaults = some [] := by kernel_rfl
theorem side4a : chainsOk qv = true := by decide +kernel
theorem side4b : opensWell R.prog = true := by decide +kernel
theorem side4c : (frees R.toRowW && R.within.isEmpty) = true := by decide +kernel
theorem side4 : (chainsOk qv && opensWell R.prog && (frees R.toRowW && R.within.isEmpty)) = true := by rw [side4a, side4b, side4c]; rfl
theorem side5 : R.prog.bare := ⟨rfl, rfl, rfl, rfl, rfl, by decide +kernel⟩
theorem side6 : R.toRowW.promised := by w_witness2
end J93H
namespace J93
open PySem

/-! ### texts by their codes -/
def mk (l : List Nat) : Str := ⟨l.toArray⟩
theorem tl_mk (l : List Nat) : TL.tl (mk l) = l := rfl
theorem mk_tl (x : Str) : mk (TL.tl x) = x := TL.mk_tl x
theorem len_mk (l : List Nat) : (mk l).length = l.length := rfl
/-- the numeral of an integer -/
def str (n : Int) : Str := Str.ofString (toString n)
theorem tl_str_nat (n : Nat) : TL.tl (str (n : Int)) = TL.numL n := TL.tl_num n
theorem tl_str_neg (m : Nat) : TL.tl (str (Int.negSucc m)) = 45 :: TL.numL (m + 1) := by
  have h := TL.tl_ofString (toString (Int.negSucc m))
  have e : toString (Int.negSucc m) = "-" ++ Nat.repr (m + 1) := rfl
  have e2 : (toString ((m + 1 : Nat) : Int)) = Nat.repr (m + 1) := rfl
  have h3 := TL.tl_num (m + 1)
  rw [e2, TL.tl_ofString] at h3
  show TL.tl (Str.ofString (toString (Int.negSucc m))) = _
  rw [h, e, String.toList_append, List.map_append, h3]
  rfl
theorem str_mem {n : Int} {c : Nat} (h : c ∈ TL.tl (str n)) : c = 45 ∨ (48 ≤ c ∧ c ≤ 57) := by
  cases n with
  | ofNat m =>
    have h1 : c ∈ TL.tl (str (m : Int)) := h
    rw [tl_str_nat] at h1
    exact .inr (TL.numL_digits m c h1)
  | negSucc m =>
    rw [tl_str_neg] at h
    rcases List.mem_cons.mp h with e | h
    · exact .inl e
    · exact .inr (TL.numL_digits _ c h)
theorem str_ne (n : Int) : TL.tl (str n) ≠ [] := by
  cases n with
  | ofNat m =>
    show TL.tl (str (m : Int)) ≠ []
    rw [tl_str_nat]
    exact TL.numL_ne m
  | negSucc m =>
    rw [tl_str_neg]
    simp
theorem str_len {n : Int} (h1 : -500 ≤ n) (h2 : n < 10 ^ 9) : (str n).length ≤ 9 := by
  rw [TL.len_tl]
  cases n with
  | ofNat m =>
    show (TL.tl (str (m : Int))).length ≤ 9
    rw [tl_str_nat]
    refine TL.numL_len (by decide) ?_
    have e : (Int.ofNat m) = (m : Int) := rfl
    rw [e] at h2
    omega
  | negSucc m =>
    rw [tl_str_neg, List.length_cons]
    have h3 : (TL.numL (m + 1)).length ≤ 3 := TL.numL_len (by decide) (by omega)
    omega

/-! ### names, lines -/
inductive Nm where
  | a | b | cc
  deriving DecidableEq
def Nm.s : Nm → Str
  | .a => "a"
  | .b => "b"
  | .cc => "cc"
inductive Om where
  | nm (n : Nm)
  | no
  deriving DecidableEq
def Om.s : Om → Str
  | .nm n => n.s
  | .no => "none"
/-- the lines that the law draws -/
inductive Ln where
  | nums (n : Nm) (ns : List Int)
  | text (n : Nm) (cs : List Nat)
  | text0 (n : Nm)
  | shw (o : Om)
  | dig (n : Nm) (o : Om)
  | odd0 | odd1 | odd2 | odd3
/-- the allowed signs -/
def PR : List Nat := TL.tl (" !\"#$&'()*+,-./0123456789:;<=>?@ABCDEFGHIJKLMNOPQRSTUVWXYZ[\\]^_`abcdefghijklmnopqrstuvwxyz{|}~" : Str)
def Ln.Ok : Ln → Prop
  | .nums _ ns => ns.length ≤ 4 ∧ ∀ n ∈ ns, -500 ≤ n ∧ n ≤ 499
  | .text _ cs => cs.length ≤ 8 ∧ ∀ c ∈ cs, c ∈ PR
  | _ => True
/-- the words of a line that is not a text line; a text line's first two words -/
def Ln.wd : Ln → List Str
  | .nums n ns => "numbers" :: n.s :: ns.map str
  | .text n cs => ["text", n.s, mk cs]
  | .text0 n => ["text", n.s]
  | .shw o => ["show", o.s]
  | .dig n o => ["digits", n.s, o.s]
  | .odd0 => [Str.empty]
  | .odd1 => ["show", Str.empty, "a"]
  | .odd2 => ["nothing"]
  | .odd3 => ["numbers", "A", "1"]
/-- the line's signs -/
def Ln.l (l : Ln) : List Nat := TL.joinL [32] (l.wd.map TL.tl)
def Ln.tx (l : Ln) : Str := mk l.l
def Ln.isText : Ln → Bool
  | .text _ _ => true
  | .text0 _ => true
  | _ => false

theorem nm_ok (n : Nm) : ∀ c ∈ TL.tl n.s, 97 ≤ c ∧ c ≤ 122 := by cases n <;> decide +kernel
theorem om_ok (o : Om) : ∀ c ∈ TL.tl o.s, 97 ≤ c ∧ c ≤ 122 := by
  cases o with
  | nm n => exact nm_ok n
  | no => decide +kernel
theorem nm_len (n : Nm) : 1 ≤ n.s.length ∧ n.s.length ≤ 2 := by cases n <;> decide +kernel
theorem om_len (o : Om) : 1 ≤ o.s.length ∧ o.s.length ≤ 4 := by
  cases o with
  | nm n => have := nm_len n; exact ⟨this.1, Nat.le_trans this.2 (by decide)⟩
  | no => decide +kernel
theorem nm_inj {n m : Nm} (h : n.s = m.s) : n = m := by
  cases n <;> cases m <;> first | rfl | (exfalso; revert h; decide +kernel)
/-- small letters are allowed -/
theorem PR_az : ∀ c, 97 ≤ c → c ≤ 122 → c ∈ PR := by
  have h : ∀ k, k < 26 → 97 + k ∈ PR := by decide +kernel
  intro c h1 h2
  have := h (c - 97) (by omega)
  rwa [show 97 + (c - 97) = c by omega] at this
theorem PR_09 : ∀ c, 48 ≤ c → c ≤ 57 → c ∈ PR := by
  have h : ∀ k, k < 10 → 48 + k ∈ PR := by decide +kernel
  intro c h1 h2
  have := h (c - 48) (by omega)
  rwa [show 48 + (c - 48) = c by omega] at this
theorem PR_32 : 32 ∈ PR := by decide +kernel
theorem PR_45 : 45 ∈ PR := by decide +kernel
theorem PR_lt : ∀ c ∈ PR, 32 ≤ c ∧ c ≤ 126 ∧ c ≠ 37 := by decide +kernel
theorem PR_len : PR.length = 94 := by decide +kernel

/-! ### joined lists -/
theorem mem_joinL {S : List Nat} {c : Nat} : ∀ {ps : List (List Nat)}, c ∈ TL.joinL S ps → c ∈ S ∨ ∃ p ∈ ps, c ∈ p
  | [], h => by cases h
  | [p], h => .inr ⟨p, List.mem_cons_self, h⟩
  | p :: q :: r, h => by
    have h1 : c ∈ p ++ (S ++ TL.joinL S (q :: r)) := h
    rcases List.mem_append.mp h1 with h2 | h2
    · exact .inr ⟨p, List.mem_cons_self, h2⟩
    · rcases List.mem_append.mp h2 with h3 | h3
      · exact .inl h3
      · rcases mem_joinL h3 with h4 | ⟨z, hz, h4⟩
        · exact .inl h4
        · exact .inr ⟨z, List.mem_cons_of_mem _ hz, h4⟩
theorem len_joinL {m : Nat} : ∀ {ps : List (List Nat)}, (∀ p ∈ ps, p.length ≤ m) → (TL.joinL [32] ps).length ≤ ps.length * (m + 1)
  | [], _ => Nat.zero_le _
  | [p], h => by
    have := h p List.mem_cons_self
    show p.length ≤ _
    rw [List.length_singleton]
    omega
  | p :: q :: r, h => by
    have h1 := h p List.mem_cons_self
    have h2 := len_joinL (ps := q :: r) fun z hz => h z (List.mem_cons_of_mem _ hz)
    show (p ++ ([32] ++ TL.joinL [32] (q :: r))).length ≤ _
    rw [List.length_append, List.length_append, List.length_singleton, List.length_cons, Nat.add_mul]
    omega
/-- each line has only allowed signs -/
theorem wd_ok {l : Ln} (h : l.Ok) : ∀ p ∈ l.wd, ∀ c ∈ TL.tl p, c ∈ PR := by
  intro p hp c hc
  have nm : ∀ {n : Nm}, c ∈ TL.tl n.s → c ∈ PR := fun {n} q => have := nm_ok n c q; PR_az c this.1 this.2
  have om : ∀ {o : Om}, c ∈ TL.tl o.s → c ∈ PR := fun {o} q => have := om_ok o c q; PR_az c this.1 this.2
  have lit : ∀ {x : Str}, (∀ c ∈ TL.tl x, c ∈ PR) → c ∈ TL.tl x → c ∈ PR := fun a q => a c q
  cases l with
  | nums n ns =>
    simp only [Ln.wd, List.mem_cons, List.mem_map] at hp
    rcases hp with rfl | rfl | ⟨k, hk, rfl⟩
    · exact lit (by decide +kernel) hc
    · exact nm hc
    · rcases str_mem hc with rfl | ⟨h1, h2⟩
      · exact PR_45
      · exact PR_09 c h1 h2
  | text n cs =>
    simp only [Ln.wd, List.mem_cons, List.mem_nil_iff, or_false] at hp
    rcases hp with rfl | rfl | rfl
    · exact lit (by decide +kernel) hc
    · exact nm hc
    · exact h.2 c hc
  | text0 n =>
    simp only [Ln.wd, List.mem_cons, List.mem_nil_iff, or_false] at hp
    rcases hp with rfl | rfl
    · exact lit (by decide +kernel) hc
    · exact nm hc
  | shw o =>
    simp only [Ln.wd, List.mem_cons, List.mem_nil_iff, or_false] at hp
    rcases hp with rfl | rfl
    · exact lit (by decide +kernel) hc
    · exact om hc
  | dig n o =>
    simp only [Ln.wd, List.mem_cons, List.mem_nil_iff, or_false] at hp
    rcases hp with rfl | rfl | rfl
    · exact lit (by decide +kernel) hc
    · exact nm hc
    · exact om hc
  | odd0 =>
    simp only [Ln.wd, List.mem_cons, List.mem_nil_iff, or_false] at hp
    rcases hp with rfl
    cases hc
  | odd1 =>
    simp only [Ln.wd, List.mem_cons, List.mem_nil_iff, or_false] at hp
    rcases hp with rfl | rfl | rfl
    · exact lit (by decide +kernel) hc
    · cases hc
    · exact lit (by decide +kernel) hc
  | odd2 =>
    simp only [Ln.wd, List.mem_cons, List.mem_nil_iff, or_false] at hp
    rcases hp with rfl
    exact lit (by decide +kernel) hc
  | odd3 =>
    simp only [Ln.wd, List.mem_cons, List.mem_nil_iff, or_false] at hp
    rcases hp with rfl | rfl | rfl <;> exact lit (by decide +kernel) hc
theorem l_ok {l : Ln} (h : l.Ok) : ∀ c ∈ l.l, c ∈ PR := by
  intro c hc
  rcases mem_joinL hc with h1 | ⟨p, hp, h1⟩
  · rw [List.mem_singleton.mp h1]
    exact PR_32
  · obtain ⟨x, hx, rfl⟩ := List.mem_map.mp hp
    exact wd_ok h x hx c h1
theorem l_no10 {l : Ln} (h : l.Ok) : 10 ∉ l.l := fun hc => by
  have := PR_lt 10 (l_ok h 10 hc)
  omega
theorem wd_len {l : Ln} (h : l.Ok) : l.wd.length ≤ 6 ∧ ∀ p ∈ l.wd, p.length ≤ 9 := by
  have nm : ∀ n : Nm, n.s.length ≤ 9 := fun n => Nat.le_trans (nm_len n).2 (by decide)
  have om : ∀ o : Om, o.s.length ≤ 9 := fun o => Nat.le_trans (om_len o).2 (by decide)
  cases l with
  | nums n ns =>
    refine ⟨?_, fun p hp => ?_⟩
    · show (ns.map str).length + 2 ≤ 6
      rw [List.length_map]
      have := h.1
      omega
    · simp only [Ln.wd, List.mem_cons, List.mem_map] at hp
      rcases hp with rfl | rfl | ⟨k, hk, rfl⟩
      · decide +kernel
      · exact nm n
      · have := h.2 k hk
        exact str_len (by omega) (by omega)
  | text n cs =>
    refine ⟨(by show 3 ≤ 6; decide), fun p hp => ?_⟩
    simp only [Ln.wd, List.mem_cons, List.mem_nil_iff, or_false] at hp
    rcases hp with rfl | rfl | rfl
    · decide +kernel
    · exact nm n
    · have := h.1
      rw [len_mk]
      omega
  | text0 n =>
    refine ⟨(by show 2 ≤ 6; decide), fun p hp => ?_⟩
    simp only [Ln.wd, List.mem_cons, List.mem_nil_iff, or_false] at hp
    rcases hp with rfl | rfl
    · decide +kernel
    · exact nm n
  | shw o =>
    refine ⟨(by show 2 ≤ 6; decide), fun p hp => ?_⟩
    simp only [Ln.wd, List.mem_cons, List.mem_nil_iff, or_false] at hp
    rcases hp with rfl | rfl
    · decide +kernel
    · exact om o
  | dig n o =>
    refine ⟨(by show 3 ≤ 6; decide), fun p hp => ?_⟩
    simp only [Ln.wd, List.mem_cons, List.mem_nil_iff, or_false] at hp
    rcases hp with rfl | rfl | rfl
    · decide +kernel
    · exact nm n
    · exact om o
  | odd0 => exact ⟨by decide, by decide +kernel⟩
  | odd1 => exact ⟨by decide, by decide +kernel⟩
  | odd2 => exact ⟨by decide, by decide +kernel⟩
  | odd3 => exact ⟨by decide, by decide +kernel⟩
theorem l_len {l : Ln} (h : l.Ok) : l.l.length ≤ 60 := by
  obtain ⟨h1, h2⟩ := wd_len h
  have h3 := len_joinL (m := 9) (ps := l.wd.map TL.tl) fun p hp => by
    obtain ⟨x, hx, rfl⟩ := List.mem_map.mp hp
    have := h2 x hx
    rw [TL.len_tl] at this
    exact this
  rw [List.length_map] at h3
  show (TL.joinL [32] (l.wd.map TL.tl)).length ≤ 60
  omega
theorem tx_len {l : Ln} (h : l.Ok) : l.tx.length ≤ 60 := l_len h
end J93
namespace J93
open PySem

/-! ### slices, heads -/
theorem cut_from (z : Str) (k : Nat) : L2.cutS z (some (k : Int)) none = mk ((TL.tl z).drop k) := by
  have hz := TL.len_tl z
  unfold L2.cutS
  rw [HT.sIx_nat, HT.sIx_none, hz]
  show mk (((TL.tl z).drop (min k (TL.tl z).length)).take ((TL.tl z).length - min k (TL.tl z).length)) = _
  refine congrArg mk ?_
  rw [List.take_of_length_le (by rw [List.length_drop]; exact Nat.le_refl _)]
  by_cases h : k ≤ (TL.tl z).length
  · rw [Nat.min_eq_left h]
  · rw [Nat.min_eq_right (by omega), List.drop_length, List.drop_eq_nil_of_le (by omega)]
theorem cut_to (z : Str) (k : Nat) : L2.cutS z none (some (k : Int)) = mk ((TL.tl z).take k) := by
  have hz := TL.len_tl z
  unfold L2.cutS
  rw [HT.sIx_nat, HT.sIx_none, hz]
  show mk (((TL.tl z).drop 0).take (min k (TL.tl z).length - 0)) = _
  refine congrArg mk ?_
  rw [List.drop_zero, Nat.sub_zero]
  by_cases h : k ≤ (TL.tl z).length
  · rw [Nat.min_eq_left h]
  · rw [Nat.min_eq_right (by omega), List.take_length, List.take_of_length_le (by omega)]
theorem starts (x y : Str) : Txt.startswith x y = TL.pre (TL.tl y) (TL.tl x) := by
  have hx := TL.len_tl x
  have hy := TL.len_tl y
  unfold Txt.startswith
  rw [StrLaws.subAt_eq, List.drop_zero, Nat.zero_add]
  show (decide (y.length ≤ x.length) && ((TL.tl x).take y.length == TL.tl y)) = ((TL.tl x).take (TL.tl y).length == TL.tl y)
  rw [hy]
  by_cases h : (TL.tl y).length ≤ x.length
  · rw [decide_eq_true h, Bool.true_and]
  · rw [decide_eq_false h, Bool.false_and]
    symm
    apply beq_eq_false_iff_ne.mpr
    intro e
    have e2 := congrArg List.length e
    rw [List.length_take] at e2
    omega

/-! ### the written words -/
theorem w_numbers : TL.tl ("numbers" : Str) = [110, 117, 109, 98, 101, 114, 115] := by decide +kernel
theorem w_text : TL.tl ("text" : Str) = [116, 101, 120, 116] := by decide +kernel
theorem w_textB : TL.tl ("text " : Str) = [116, 101, 120, 116, 32] := by decide +kernel
theorem w_show : TL.tl ("show" : Str) = [115, 104, 111, 119] := by decide +kernel
theorem w_showB : TL.tl ("show " : Str) = [115, 104, 111, 119, 32] := by decide +kernel
theorem w_digits : TL.tl ("digits" : Str) = [100, 105, 103, 105, 116, 115] := by decide +kernel
theorem w_digitsB : TL.tl ("digits " : Str) = [100, 105, 103, 105, 116, 115, 32] := by decide +kernel
theorem w_nothing : TL.tl ("nothing" : Str) = [110, 111, 116, 104, 105, 110, 103] := by decide +kernel
theorem w_B : TL.tl (" " : Str) = [32] := by decide +kernel
theorem w_N : TL.tl ("\n" : Str) = [10] := by decide +kernel
theorem w_A : TL.tl ("A" : Str) = [65] := by decide +kernel
theorem w_a : TL.tl ("a" : Str) = [97] := by decide +kernel
theorem w_1 : TL.tl ("1" : Str) = [49] := by decide +kernel
theorem w_nil : TL.tl Str.empty = [] := rfl
theorem w_nil2 : ("" : Str) = Str.empty := by decide +kernel
theorem w_in : TL.tl ("> " : Str) = [62, 32] := by decide +kernel
theorem w_out : TL.tl ("< " : Str) = [60, 32] := by decide +kernel
theorem w_Nout : TL.tl ("\n< " : Str) = [10, 60, 32] := by decide +kernel

/-! ### a line, split at the blanks -/
theorem tx_join (l : Ln) : l.tx = Txt.join " " l.wd := by
  refine TL.ext_tl ?_
  rw [TL.join_eq, TL.tl_join, w_B]
  rfl
theorem noB {x : Str} (h : ∀ c ∈ TL.tl x, 33 ≤ c) : 32 ∉ TL.tl x := fun q => by have := h 32 q; omega
theorem str_noB (n : Int) : 32 ∉ TL.tl (str n) := fun q => by have := str_mem q; omega
theorem nm_noB (n : Nm) : 32 ∉ TL.tl n.s := fun q => by have := nm_ok n 32 q; omega
theorem om_noB (o : Om) : 32 ∉ TL.tl o.s := fun q => by have := om_ok o 32 q; omega
theorem wd_noB {l : Ln} (h : l.isText = false) : ∀ p ∈ l.wd, 32 ∉ TL.tl p := by
  intro p hp
  cases l with
  | nums n ns =>
    simp only [Ln.wd, List.mem_cons, List.mem_map] at hp
    rcases hp with rfl | rfl | ⟨k, hk, rfl⟩
    · rw [w_numbers]; decide
    · exact nm_noB n
    · exact str_noB k
  | text n cs => cases h
  | text0 n => cases h
  | shw o =>
    simp only [Ln.wd, List.mem_cons, List.mem_nil_iff, or_false] at hp
    rcases hp with rfl | rfl
    · rw [w_show]; decide
    · exact om_noB o
  | dig n o =>
    simp only [Ln.wd, List.mem_cons, List.mem_nil_iff, or_false] at hp
    rcases hp with rfl | rfl | rfl
    · rw [w_digits]; decide
    · exact nm_noB n
    · exact om_noB o
  | odd0 =>
    simp only [Ln.wd, List.mem_cons, List.mem_nil_iff, or_false] at hp
    rcases hp with rfl
    rw [w_nil]; decide
  | odd1 =>
    simp only [Ln.wd, List.mem_cons, List.mem_nil_iff, or_false] at hp
    rcases hp with rfl | rfl | rfl
    · rw [w_show]; decide
    · rw [w_nil]; decide
    · rw [w_a]; decide
  | odd2 =>
    simp only [Ln.wd, List.mem_cons, List.mem_nil_iff, or_false] at hp
    rcases hp with rfl
    rw [w_nothing]; decide
  | odd3 =>
    simp only [Ln.wd, List.mem_cons, List.mem_nil_iff, or_false] at hp
    rcases hp with rfl | rfl | rfl
    · rw [w_numbers]; decide
    · rw [w_A]; decide
    · rw [w_1]; decide
theorem wd_ne (l : Ln) : l.wd ≠ [] := by cases l <;> simp [Ln.wd]
theorem B_small : ((" " : Str)).cps.all (· < 256) = true := by decide +kernel
theorem N_small : (("\n" : Str)).cps.all (· < 256) = true := by decide +kernel
theorem split_wd {l : Ln} (h : l.isText = false) : Txt.split l.tx " " = l.wd := by
  rw [tx_join]
  exact TL.split_join w_B B_small (wd_ne l) (wd_noB h)
theorem split_text0 (n : Nm) : Txt.split (Ln.text0 n).tx " " = [("text" : Str), n.s] := by
  rw [tx_join]
  refine TL.split_join w_B B_small (by simp [Ln.wd]) fun p hp => ?_
  simp only [Ln.wd, List.mem_cons, List.mem_nil_iff, or_false] at hp
  rcases hp with rfl | rfl
  · rw [w_text]; decide
  · exact nm_noB n
theorem split_text (n : Nm) (cs : List Nat) : Txt.split (Ln.text n cs).tx " " = ("text" : Str) :: n.s :: Txt.split (mk cs) " " := by
  have hB : TL.tl (" " : Str) ≠ [] := by rw [w_B]; simp
  refine TL.map_tl_inj ?_
  rw [List.map_cons, List.map_cons, TL.split_spl _ _ hB (TL.kind_ok B_small), TL.split_spl _ _ hB (TL.kind_ok B_small), w_B]
  show TL.spl [32] 0 [] (TL.tl ("text" : Str) ++ ([32] ++ (TL.tl n.s ++ ([32] ++ cs)))) = _ :: _ :: TL.spl [32] 0 [] cs
  rw [TL.spl_part1 (S := []) (by rw [w_text]; decide), TL.spl_part1 (S := []) (nm_noB n)]
  rfl
theorem split_len (x : Str) : (Txt.split x " ").length ≤ x.length + 2 := PyProof.Rows.split_le x " "

/-! ### the desk's own reading -/
theorem starts_text (l : Ln) : Txt.startswith l.tx "text " = l.isText := by
  rw [starts, w_textB]
  show TL.pre _ l.l = _
  cases l with
  | nums n ns =>
    show TL.pre _ (TL.joinL [32] (TL.tl ("numbers" : Str) :: TL.tl n.s :: (ns.map str).map TL.tl)) = false
    rw [w_numbers]
    rfl
  | text n cs =>
    show TL.pre _ (TL.tl ("text" : Str) ++ ([32] ++ (TL.tl n.s ++ ([32] ++ cs)))) = true
    rw [w_text]
    rfl
  | text0 n =>
    show TL.pre _ (TL.tl ("text" : Str) ++ ([32] ++ TL.tl n.s)) = true
    rw [w_text]
    rfl
  | shw o =>
    show TL.pre _ (TL.tl ("show" : Str) ++ ([32] ++ TL.tl o.s)) = false
    rw [w_show]
    rfl
  | dig n o =>
    show TL.pre _ (TL.tl ("digits" : Str) ++ ([32] ++ (TL.tl n.s ++ ([32] ++ TL.tl o.s)))) = false
    rw [w_digits]
    rfl
  | odd0 => rfl
  | odd1 =>
    show TL.pre _ (TL.tl ("show" : Str) ++ ([32] ++ ([] ++ ([32] ++ TL.tl ("a" : Str))))) = false
    rw [w_show]
    rfl
  | odd2 =>
    show TL.pre _ (TL.tl ("nothing" : Str)) = false
    rw [w_nothing]
    rfl
  | odd3 =>
    show TL.pre _ (TL.tl ("numbers" : Str) ++ ([32] ++ (TL.tl ("A" : Str) ++ ([32] ++ TL.tl ("1" : Str))))) = false
    rw [w_numbers]
    rfl
theorem part_text (n : Nm) (cs : List Nat) : Txt.partition (L2.cutS (Ln.text n cs).tx (some 5) none) " " = (n.s, (" " : Str), mk cs) := by
  have e : L2.cutS (Ln.text n cs).tx (some 5) none = n.s ++ (" " : Str) ++ mk cs := by
    rw [show (5 : Int) = ((5 : Nat) : Int) from rfl, cut_from]
    refine TL.ext_tl ?_
    rw [TL.tl_append, TL.tl_append, w_B]
    show (TL.tl ("text" : Str) ++ ([32] ++ (TL.tl n.s ++ ([32] ++ cs)))).drop 5 = TL.tl n.s ++ [32] ++ cs
    rw [w_text, List.append_assoc]
    rfl
  rw [e]
  exact TL.partition_app w_B (nm_noB n)
theorem part_text0 (n : Nm) : Txt.partition (L2.cutS (Ln.text0 n).tx (some 5) none) " " = (n.s, Str.empty, Str.empty) := by
  have e : L2.cutS (Ln.text0 n).tx (some 5) none = n.s := by
    rw [show (5 : Int) = ((5 : Nat) : Int) from rfl, cut_from]
    refine TL.ext_tl ?_
    show (TL.tl ("text" : Str) ++ ([32] ++ TL.tl n.s)).drop 5 = TL.tl n.s
    rw [w_text]
    rfl
  rw [e]
  exact TL.partition_none w_B (nm_noB n)
/-- line[6 + len(name):] -/
theorem rest_text (n : Nm) (cs : List Nat) : L2.cutS (Ln.text n cs).tx (some (6 + (n.s.length : Int))) none = mk cs := by
  rw [show (6 + (n.s.length : Int)) = ((6 + n.s.length : Nat) : Int) by omega, cut_from]
  refine congrArg mk ?_
  show (TL.tl ("text" : Str) ++ ([32] ++ (TL.tl n.s ++ ([32] ++ cs)))).drop (6 + n.s.length) = cs
  rw [w_text, TL.len_tl, Nat.add_comm]
  have e : ([116, 101, 120, 116] ++ ([32] ++ (TL.tl n.s ++ ([32] ++ cs)))) = ([116, 101, 120, 116, 32] ++ TL.tl n.s ++ [32]) ++ cs := by simp
  rw [e]
  exact List.drop_left' (by simp)
theorem rest_text0 (n : Nm) : L2.cutS (Ln.text0 n).tx (some (6 + (n.s.length : Int))) none = Str.empty := by
  rw [show (6 + (n.s.length : Int)) = ((6 + n.s.length : Nat) : Int) by omega, cut_from]
  show mk _ = mk []
  refine congrArg mk ?_
  refine List.drop_eq_nil_of_le ?_
  show (TL.tl ("text" : Str) ++ ([32] ++ TL.tl n.s)).length ≤ _
  rw [w_text, TL.len_tl]
  simp
  omega

/-! ### numerals read -/
theorem int_str {n : Int} (h1 : -500 ≤ n) (h2 : n ≤ 499) : intText? (str n) = some n := by
  have hl : (str n).length ≤ 4300 := Nat.le_trans (str_len h1 (by omega)) (by decide)
  cases n with
  | ofNat m =>
    refine TL.int_num ?_
    rw [TL.len_tl] at hl
    rw [← tl_str_nat]
    exact hl
  | negSucc m =>
    have e := intText_neg (x := str (Int.negSucc m)) (cs := TL.numL (m + 1)) (tl_str_neg m) (TL.numL_digits _) (TL.numL_ne _) hl
    rw [e, TL.numL_val]
    rfl
theorem numL_head : ∀ {n c : Nat} {r : List Nat}, 0 < n → TL.numL n = c :: r → c ≠ 48 := by
  intro n
  induction n using Nat.strongRecOn with
  | _ n ih =>
    intro c r h0 e
    by_cases h : n < 10
    · rw [TL.numL_lt h] at e
      injection e with e1 e2
      omega
    · rw [TL.numL_step (by omega)] at e
      cases q : TL.numL (n / 10) with
      | nil => exact absurd q (TL.numL_ne _)
      | cons d r2 =>
        rw [q] at e
        injection e with e1 e2
        rw [← e1]
        exact ih (n / 10) (by omega) (by omega) q
theorem numL_zero : TL.numL 0 = [48] := TL.numL_lt (by decide)
end J93
namespace J93
open PySem

/-! ### the numerals of a list of codes -/
def isD (c : Int) : Bool := decide (48 ≤ c) && decide (c ≤ 57)
def dg : Option Int → List Int → List Int
  | st, [] => st.toList
  | st, c :: r => if c < 0 then st.toList else if isD c = true then dg (some (10 * st.getD 0 + c - 48)) r else st.toList ++ dg none r
def digs (ns : List Int) : List Int := dg none ns
/-- the part before the first negative integer -/
def rd : List Int → List Int
  | [] => []
  | c :: r => if c < 0 then [] else c :: rd r
theorem dg_neg {st : Option Int} {c : Int} {r : List Int} (h : c < 0) : dg st (c :: r) = st.toList := by
  show (if c < 0 then st.toList else _) = _
  rw [if_pos h]
theorem dg_dig {st : Option Int} {c : Int} {r : List Int} (h : ¬ c < 0) (hd : isD c = true) : dg st (c :: r) = dg (some (10 * st.getD 0 + c - 48)) r := by
  show (if c < 0 then st.toList else if isD c = true then dg (some (10 * st.getD 0 + c - 48)) r else st.toList ++ dg none r) = _
  rw [if_neg h, if_pos hd]
theorem dg_oth {st : Option Int} {c : Int} {r : List Int} (h : ¬ c < 0) (hd : ¬ isD c = true) : dg st (c :: r) = st.toList ++ dg none r := by
  show (if c < 0 then st.toList else if isD c = true then dg (some (10 * st.getD 0 + c - 48)) r else st.toList ++ dg none r) = _
  rw [if_neg h, if_neg hd]
theorem dg_rd : ∀ (ns : List Int) (st : Option Int), dg st (rd ns) = dg st ns
  | [], _ => rfl
  | c :: r, st => by
    by_cases h : c < 0
    · rw [dg_neg h]
      show dg st (if c < 0 then [] else c :: rd r) = _
      rw [if_pos h]
      rfl
    · have e : rd (c :: r) = c :: rd r := if_neg h
      rw [e]
      by_cases hd : isD c = true
      · rw [dg_dig h hd, dg_dig h hd, dg_rd r]
      · rw [dg_oth h hd, dg_oth h hd, dg_rd r]
theorem rd_pos : ∀ (ns : List Int), ∀ c ∈ rd ns, ¬ c < 0
  | [], c, h => by cases h
  | d :: r, c, h => by
    by_cases hd : d < 0
    · have e : rd (d :: r) = [] := if_pos hd
      rw [e] at h
      cases h
    · have e : rd (d :: r) = d :: rd r := if_neg hd
      rw [e] at h
      rcases List.mem_cons.mp h with rfl | h
      · exact hd
      · exact rd_pos r c h
theorem rd_len : ∀ (ns : List Int), (rd ns).length ≤ ns.length
  | [] => Nat.le_refl _
  | d :: r => by
    by_cases hd : d < 0
    · have e : rd (d :: r) = [] := if_pos hd
      rw [e]
      exact Nat.zero_le _
    · have e : rd (d :: r) = d :: rd r := if_neg hd
      rw [e]
      exact Nat.succ_le_succ (rd_len r)
theorem isD_iff {c : Int} : isD c = true ↔ 48 ≤ c ∧ c ≤ 57 := by
  unfold isD
  simp
/-- how many, and how large -/
theorem dg_bound : ∀ (ns : List Int) (st : Option Int) (k : Nat), (∀ v, st = some v → 0 ≤ v ∧ v < 10 ^ k) → ((dg st ns).length ≤ ns.length + st.toList.length) ∧ ∀ v ∈ dg st ns, 0 ≤ v ∧ v < 10 ^ (k + ns.length)
  | [], st, k, h => by
    refine ⟨by show st.toList.length ≤ _; omega, fun v hv => ?_⟩
    cases st with
    | none => cases hv
    | some w =>
      have e : v = w := List.mem_singleton.mp hv
      rw [e]
      exact h w rfl
  | c :: r, st, k, h => by
    have stb : ∀ v ∈ st.toList, 0 ≤ v ∧ v < 10 ^ (k + (c :: r).length) := fun v hv => by
      cases st with
      | none => cases hv
      | some w =>
        have e : v = w := List.mem_singleton.mp hv
        rw [e]
        obtain ⟨h1, h2⟩ := h w rfl
        refine ⟨h1, Int.lt_of_lt_of_le h2 ?_⟩
        have := Nat.pow_le_pow_right (show 0 < 10 by decide) (Nat.le_add_right k (c :: r).length)
        exact_mod_cast this
    by_cases hc : c < 0
    · rw [dg_neg hc]
      exact ⟨by omega, stb⟩
    · by_cases hd : isD c = true
      · rw [dg_dig hc hd]
        obtain ⟨d1, d2⟩ := isD_iff.mp hd
        have hv : ∀ v, (some (10 * st.getD 0 + c - 48) : Option Int) = some v → 0 ≤ v ∧ v < 10 ^ (k + 1) := fun v e => by
          have e2 := Option.some.inj e
          have hs : 0 ≤ st.getD 0 ∧ st.getD 0 < 10 ^ k := by
            cases st with
            | none =>
              refine ⟨Int.le_refl _, ?_⟩
              have := Nat.pow_pos (n := k) (show 0 < 10 by decide)
              show (0 : Int) < 10 ^ k
              exact_mod_cast this
            | some w => exact h w rfl
          have ep : (10 : Int) ^ (k + 1) = 10 ^ k * 10 := Int.pow_succ 10 k
          rw [ep]
          generalize (10 : Int) ^ k = P at hs
          omega
        obtain ⟨h1, h2⟩ := dg_bound r _ (k + 1) hv
        refine ⟨?_, fun v hv => ?_⟩
        · have : ((some (10 * st.getD 0 + c - 48) : Option Int)).toList.length = 1 := rfl
          rw [List.length_cons]
          omega
        · have := h2 v hv
          rw [show k + (c :: r).length = k + 1 + r.length by rw [List.length_cons]; omega]
          exact this
      · rw [dg_oth hc hd]
        obtain ⟨h1, h2⟩ := dg_bound r none k fun v e => by cases e
        refine ⟨?_, fun v hv => ?_⟩
        · rw [List.length_append, List.length_cons]
          have : (none : Option Int).toList.length = 0 := rfl
          omega
        · rcases List.mem_append.mp hv with hv | hv
          · exact stb v hv
          · obtain ⟨a1, a2⟩ := h2 v hv
            refine ⟨a1, Int.lt_of_lt_of_le a2 ?_⟩
            have := Nat.pow_le_pow_right (show 0 < 10 by decide) (show k + r.length ≤ k + (c :: r).length by rw [List.length_cons]; omega)
            exact_mod_cast this

/-! ### the items, an answer -/
abbrev Itm := Str → Option (List Int)
def noItm : Itm := fun _ => none
def putI (m : Itm) (k : Str) (v : List Int) : Itm := fun x => if x = k then some v else m x
/-- the contents that come up -/
def Cont (ns : List Int) : Prop := ns.length ≤ 8 ∧ ∀ n ∈ ns, -500 ≤ n ∧ n < 10 ^ 8
def Itm.Good (m : Itm) : Prop := ∀ x ns, m x = some ns → Cont ns
def shown (ns : List Int) : Str := if ns = [] then "empty" else Txt.join " " (ns.map str)
def ans (m : Itm) : Ln → Str
  | .nums _ _ => "ok"
  | .text _ _ => "ok"
  | .text0 _ => "ok"
  | .shw o => match m o.s with
    | none => ("unknown " : Str) ++ o.s
    | some ns => shown ns
  | .dig _ o => match m o.s with
    | none => ("unknown " : Str) ++ o.s
    | some ns => str ((digs ns).length : Int)
  | _ => "bad"
def nxt (m : Itm) : Ln → Itm
  | .nums n ns => putI m n.s ns
  | .text n cs => putI m n.s (cs.map Int.ofNat)
  | .text0 n => putI m n.s []
  | .dig n o => match m o.s with
    | none => m
    | some ns => putI m n.s (digs ns)
  | _ => m
theorem good_put {m : Itm} {k : Str} {v : List Int} (h : m.Good) (hv : Cont v) : (putI m k v).Good := fun x ns e => by
  unfold putI at e
  by_cases hx : x = k
  · rw [if_pos hx] at e
    rw [← Option.some.inj e]
    exact hv
  · rw [if_neg hx] at e
    exact h x ns e
theorem good_no : noItm.Good := fun _ _ e => by cases e
theorem digs_cont {ns : List Int} (h : Cont ns) : Cont (digs ns) := by
  obtain ⟨h1, h2⟩ := dg_bound ns none 0 fun v e => by cases e
  have e : (none : Option Int).toList.length = 0 := rfl
  have h8 := h.1
  refine ⟨by show (dg none ns).length ≤ 8; omega, fun n hn => ?_⟩
  obtain ⟨a1, a2⟩ := h2 n hn
  refine ⟨by omega, Int.lt_of_lt_of_le a2 ?_⟩
  have := Nat.pow_le_pow_right (show 0 < 10 by decide) (show 0 + ns.length ≤ 8 by omega)
  exact_mod_cast this
theorem codes_cont {cs : List Nat} (h1 : cs.length ≤ 8) (h2 : ∀ c ∈ cs, c ∈ PR) : Cont (cs.map Int.ofNat) := by
  refine ⟨by rw [List.length_map]; exact h1, fun n hn => ?_⟩
  obtain ⟨c, hc, rfl⟩ := List.mem_map.mp hn
  have := PR_lt c (h2 c hc)
  have e : Int.ofNat c = (c : Int) := rfl
  rw [e]
  omega
theorem nums_cont {ns : List Int} (h1 : ns.length ≤ 4) (h2 : ∀ n ∈ ns, -500 ≤ n ∧ n ≤ 499) : Cont ns :=
  ⟨by omega, fun n hn => by have := h2 n hn; omega⟩
theorem good_nxt {m : Itm} {l : Ln} (h : m.Good) (hl : l.Ok) : (nxt m l).Good := by
  cases l with
  | nums n ns => exact good_put h (nums_cont hl.1 hl.2)
  | text n cs => exact good_put h (codes_cont hl.1 hl.2)
  | text0 n => exact good_put h ⟨Nat.zero_le _, fun n hn => by cases hn⟩
  | dig n o =>
    show Itm.Good (match m o.s with | none => m | some ns => putI m n.s (digs ns))
    cases e : m o.s with
    | none => exact h
    | some ns => exact good_put h (digs_cont (h _ _ e))
  | shw o => exact h
  | odd0 => exact h
  | odd1 => exact h
  | odd2 => exact h
  | odd3 => exact h
/-- the answers' signs and lengths -/
theorem shown_ok {ns : List Int} (h : Cont ns) : 10 ∉ TL.tl (shown ns) ∧ (shown ns).length ≤ 100 := by
  unfold shown
  by_cases e : ns = []
  · rw [if_pos e]
    decide +kernel
  · rw [if_neg e, TL.join_eq]
    refine ⟨fun q => ?_, ?_⟩
    · rw [TL.tl_join, w_B] at q
      rcases mem_joinL q with h1 | ⟨p, hp, h1⟩
      · have := List.mem_singleton.mp h1
        omega
      · obtain ⟨x, hx, rfl⟩ := List.mem_map.mp hp
        obtain ⟨n, hn, rfl⟩ := List.mem_map.mp hx
        have := str_mem h1
        omega
    · rw [TL.len_tl, TL.tl_join, w_B]
      have h3 := len_joinL (m := 9) (ps := (ns.map str).map TL.tl) fun p hp => by
        obtain ⟨x, hx, rfl⟩ := List.mem_map.mp hp
        obtain ⟨n, hn, rfl⟩ := List.mem_map.mp hx
        have h4 := h.2 n hn
        have h5 := str_len (n := n) h4.1 (by omega)
        rw [TL.len_tl] at h5
        exact h5
      rw [List.length_map, List.length_map] at h3
      have := h.1
      omega
theorem unk_ok (o : Om) : 10 ∉ TL.tl (("unknown " : Str) ++ o.s) ∧ (("unknown " : Str) ++ o.s).length ≤ 100 := by
  cases o with
  | no => decide +kernel
  | nm n => cases n <;> decide +kernel
theorem ans_ok {m : Itm} {l : Ln} (h : m.Good) : 10 ∉ TL.tl (ans m l) ∧ (ans m l).length ≤ 100 := by
  cases l with
  | shw o =>
    show 10 ∉ TL.tl (match m o.s with | none => ("unknown " : Str) ++ o.s | some ns => shown ns) ∧ (match m o.s with | none => ("unknown " : Str) ++ o.s | some ns => shown ns).length ≤ 100
    cases e : m o.s with
    | none => exact unk_ok o
    | some ns => exact shown_ok (h _ _ e)
  | dig n o =>
    show 10 ∉ TL.tl (match m o.s with | none => ("unknown " : Str) ++ o.s | some ns => str ((digs ns).length : Int)) ∧ (match m o.s with | none => ("unknown " : Str) ++ o.s | some ns => str ((digs ns).length : Int)).length ≤ 100
    cases e : m o.s with
    | none => exact unk_ok o
    | some ns =>
      have h8 := (digs_cont (h _ _ e)).1
      refine ⟨fun q => by have := str_mem q; omega, Nat.le_trans (str_len (by omega) (by omega)) (by decide)⟩
  | nums n ns => exact (by decide +kernel : 10 ∉ TL.tl ("ok" : Str) ∧ (("ok" : Str)).length ≤ 100)
  | text n cs => exact (by decide +kernel : 10 ∉ TL.tl ("ok" : Str) ∧ (("ok" : Str)).length ≤ 100)
  | text0 n => exact (by decide +kernel : 10 ∉ TL.tl ("ok" : Str) ∧ (("ok" : Str)).length ≤ 100)
  | odd0 => exact (by decide +kernel : 10 ∉ TL.tl ("bad" : Str) ∧ (("bad" : Str)).length ≤ 100)
  | odd1 => exact (by decide +kernel : 10 ∉ TL.tl ("bad" : Str) ∧ (("bad" : Str)).length ≤ 100)
  | odd2 => exact (by decide +kernel : 10 ∉ TL.tl ("bad" : Str) ∧ (("bad" : Str)).length ≤ 100)
  | odd3 => exact (by decide +kernel : 10 ∉ TL.tl ("bad" : Str) ∧ (("bad" : Str)).length ≤ 100)
end J93
namespace J93
open PySem

/-! ### the run of some lines -/
def itm : Itm → List Ln → Itm
  | m, [] => m
  | m, l :: r => itm (nxt m l) r
def anss : Itm → List Ln → List Str
  | _, [] => []
  | m, l :: r => ans m l :: anss (nxt m l) r
theorem itm_app : ∀ (a b : List Ln) (m : Itm), itm m (a ++ b) = itm (itm m a) b
  | [], _, _ => rfl
  | l :: a, b, m => itm_app a b (nxt m l)
theorem anss_app : ∀ (a b : List Ln) (m : Itm), anss m (a ++ b) = anss m a ++ anss (itm m a) b
  | [], _, _ => rfl
  | l :: a, b, m => congrArg (fun z => ans m l :: z) (anss_app a b (nxt m l))
theorem itm_one (m : Itm) (a : List Ln) (l : Ln) : itm m (a ++ [l]) = nxt (itm m a) l := itm_app a [l] m
theorem anss_one (m : Itm) (a : List Ln) (l : Ln) : anss m (a ++ [l]) = anss m a ++ [ans (itm m a) l] := anss_app a [l] m
theorem anss_len : ∀ (a : List Ln) (m : Itm), (anss m a).length = a.length
  | [], _ => rfl
  | l :: a, m => congrArg Nat.succ (anss_len a (nxt m l))
def LOk (ls : List Ln) : Prop := ∀ l ∈ ls, l.Ok
theorem itm_good : ∀ (a : List Ln) (m : Itm), m.Good → LOk a → (itm m a).Good
  | [], _, h, _ => h
  | l :: a, m, h, hl => itm_good a (nxt m l) (good_nxt h (hl l List.mem_cons_self)) fun z hz => hl z (List.mem_cons_of_mem _ hz)
theorem take_one {α : Type} {ls : List α} {i : Nat} {x : α} (h : ls[i]? = some x) : ls.take (i + 1) = ls.take i ++ [x] := by
  obtain ⟨hi, e⟩ := List.getElem?_eq_some_iff.mp h
  rw [List.take_succ, h]
  rfl
theorem itm_take {ls : List Ln} {i : Nat} {l : Ln} (m : Itm) (h : ls[i]? = some l) : itm m (ls.take (i + 1)) = nxt (itm m (ls.take i)) l := by
  rw [take_one h, itm_one]
theorem anss_take {ls : List Ln} {i : Nat} {l : Ln} (m : Itm) (h : ls[i]? = some l) : anss m (ls.take (i + 1)) = anss m (ls.take i) ++ [ans (itm m (ls.take i)) l] := by
  rw [take_one h, anss_one]
theorem LOk.take {ls : List Ln} (h : LOk ls) (n : Nat) : LOk (ls.take n) := fun l hl => h l (List.mem_of_mem_take hl)
theorem LOk.drop {ls : List Ln} (h : LOk ls) (n : Nat) : LOk (ls.drop n) := fun l hl => h l (List.mem_of_mem_drop hl)

/-! ### entries, rows, the record -/
/-- an entry, as the law writes it -/
def entS (l a : Str) : Str := ("> " : Str) ++ l ++ ("\n< " : Str) ++ a ++ ("\n" : Str)
/-- its signs -/
def entL (l a : List Nat) : List Nat := [62, 32] ++ l ++ [10, 60, 32] ++ a ++ [10]
theorem tl_ent (l a : Str) : TL.tl (entS l a) = entL (TL.tl l) (TL.tl a) := by
  unfold entS entL
  rw [TL.tl_append, TL.tl_append, TL.tl_append, TL.tl_append, w_in, w_Nout, w_N]
def ents : Itm → List Ln → List Str
  | _, [] => []
  | m, l :: r => entS l.tx (ans m l) :: ents (nxt m l) r
theorem ents_app : ∀ (a b : List Ln) (m : Itm), ents m (a ++ b) = ents m a ++ ents (itm m a) b
  | [], _, _ => rfl
  | l :: a, b, m => congrArg (fun z => entS l.tx (ans m l) :: z) (ents_app a b (nxt m l))
theorem ents_one (m : Itm) (a : List Ln) (l : Ln) : ents m (a ++ [l]) = ents m a ++ [entS l.tx (ans (itm m a) l)] := ents_app a [l] m
theorem ents_len : ∀ (a : List Ln) (m : Itm), (ents m a).length = a.length
  | [], _ => rfl
  | l :: a, m => congrArg Nat.succ (ents_len a (nxt m l))
theorem ents_takes (ls : List Ln) (m : Itm) (n : Nat) : (ents m ls).take n = ents m (ls.take n) := by
  have h := ents_app (ls.take n) (ls.drop n) m
  rw [List.take_append_drop] at h
  rw [h]
  by_cases hn : n ≤ ls.length
  · rw [List.take_left']
    rw [ents_len, List.length_take]
    omega
  · rw [List.take_of_length_le (by rw [List.length_append, ents_len, ents_len, List.length_take, List.length_drop]; omega), List.drop_eq_nil_of_le (by omega)]
    show ents m (ls.take n) ++ [] = _
    rw [List.append_nil]
/-- the whole record -/
def recS (m : Itm) (ls : List Ln) : Str := Txt.join Str.empty (ents m ls)
theorem joinL_nil : ∀ (ps : List (List Nat)), TL.joinL [] ps = ps.flatten
  | [] => rfl
  | [p] => by
    show p = _
    simp
  | p :: q :: r => by
    show p ++ ([] ++ TL.joinL [] (q :: r)) = p ++ (q :: r).flatten
    rw [joinL_nil (q :: r), List.nil_append]
theorem tl_join0 (ps : List Str) : TL.tl (Txt.join Str.empty ps) = (ps.map TL.tl).flatten := by
  rw [TL.join_eq, TL.tl_join, w_nil, joinL_nil]
/-- the rows of a record -/
def rows : Itm → List Ln → List (List Nat)
  | _, [] => []
  | m, l :: r => ([62, 32] ++ l.l) :: ([60, 32] ++ TL.tl (ans m l)) :: rows (nxt m l) r
/-- rows, each with its newline -/
def lines (rs : List (List Nat)) : List Nat := (rs.map (· ++ [10])).flatten
theorem lines_cons (p : List Nat) (r : List (List Nat)) : lines (p :: r) = p ++ ([10] ++ lines r) := by
  unfold lines
  rw [List.map_cons, List.flatten_cons, List.append_assoc]
theorem tl_rec : ∀ (ls : List Ln) (m : Itm), TL.tl (recS m ls) = lines (rows m ls) := by
  intro ls
  induction ls with
  | nil => intro m; rfl
  | cons l r ih =>
    intro m
    have h := ih (nxt m l)
    unfold recS at h ⊢
    rw [tl_join0] at h ⊢
    show (TL.tl (entS l.tx (ans m l)) :: (ents (nxt m l) r).map TL.tl).flatten = lines (([62, 32] ++ l.l) :: ([60, 32] ++ TL.tl (ans m l)) :: rows (nxt m l) r)
    rw [List.flatten_cons, h, tl_ent, lines_cons, lines_cons]
    show entL l.l (TL.tl (ans m l)) ++ lines (rows (nxt m l) r) = _
    unfold entL
    simp only [List.append_assoc, List.cons_append, List.nil_append]
theorem rows_len : ∀ (ls : List Ln) (m : Itm), (rows m ls).length = 2 * ls.length
  | [], _ => rfl
  | l :: r, m => by
    show (rows (nxt m l) r).length + 1 + 1 = 2 * (r.length + 1)
    rw [rows_len r]
    omega
theorem rows_no10 : ∀ (ls : List Ln) (m : Itm), m.Good → LOk ls → ∀ p ∈ rows m ls, 10 ∉ p
  | [], _, _, _, p, hp => by cases hp
  | l :: r, m, h, hl, p, hp => by
    have hl0 := hl l List.mem_cons_self
    rcases List.mem_cons.mp hp with rfl | hp
    · intro q
      rcases List.mem_append.mp q with q | q
      · revert q; decide
      · exact l_no10 hl0 q
    · rcases List.mem_cons.mp hp with rfl | hp
      · intro q
        rcases List.mem_append.mp q with q | q
        · revert q; decide
        · exact (ans_ok h).1 q
      · exact rows_no10 r (nxt m l) (good_nxt h hl0) (fun z hz => hl z (List.mem_cons_of_mem _ hz)) p hp
/-- the rows by their places -/
theorem rows_even : ∀ (ls : List Ln) (m : Itm) (i : Nat) (l : Ln), ls[i]? = some l → (rows m ls)[2 * i]? = some ([62, 32] ++ l.l)
  | [], _, i, l, h => by simp at h
  | x :: r, m, 0, l, h => by
    have e : x = l := by simpa using h
    subst e
    rfl
  | x :: r, m, i + 1, l, h => by
    have h2 : r[i]? = some l := by simpa using h
    have := rows_even r (nxt m x) i l h2
    show (([62, 32] ++ x.l) :: ([60, 32] ++ TL.tl (ans m x)) :: rows (nxt m x) r)[2 * (i + 1)]? = _
    rw [show 2 * (i + 1) = 2 * i + 1 + 1 by omega, List.getElem?_cons_succ, List.getElem?_cons_succ]
    exact this
theorem rows_odd : ∀ (ls : List Ln) (m : Itm) (i : Nat) (l : Ln), ls[i]? = some l → (rows m ls)[2 * i + 1]? = some ([60, 32] ++ TL.tl (ans (itm m (ls.take i)) l))
  | [], _, i, l, h => by simp at h
  | x :: r, m, 0, l, h => by
    have e : x = l := by simpa using h
    subst e
    rfl
  | x :: r, m, i + 1, l, h => by
    have h2 : r[i]? = some l := by simpa using h
    have := rows_odd r (nxt m x) i l h2
    show (([62, 32] ++ x.l) :: ([60, 32] ++ TL.tl (ans m x)) :: rows (nxt m x) r)[2 * (i + 1) + 1]? = _
    rw [show 2 * (i + 1) + 1 = 2 * i + 1 + 1 + 1 by omega, List.getElem?_cons_succ, List.getElem?_cons_succ]
    exact this
/-- the record's length -/
theorem ent_len {m : Itm} {l : Ln} (h : m.Good) (hl : l.Ok) : (entS l.tx (ans m l)).length ≤ 200 := by
  rw [TL.len_tl, tl_ent]
  unfold entL
  have h1 := l_len hl
  have h2 := (ans_ok (m := m) (l := l) h).2
  rw [TL.len_tl] at h2
  simp only [List.length_append, List.length_cons, List.length_nil]
  show 2 + l.l.length + 3 + _ + 1 ≤ 200
  omega
theorem sum_le : ∀ {ps : List Nat} {k : Nat}, (∀ p ∈ ps, p ≤ k) → ps.sum ≤ ps.length * k
  | [], _, _ => Nat.zero_le _
  | p :: r, k, h => by
    have h1 := h p List.mem_cons_self
    have h2 := sum_le (ps := r) fun z hz => h z (List.mem_cons_of_mem _ hz)
    rw [List.sum_cons, List.length_cons, Nat.add_mul]
    omega
theorem ents_le : ∀ (ls : List Ln) (m : Itm), m.Good → LOk ls → ∀ e ∈ ents m ls, e.length ≤ 200
  | [], _, _, _, e, he => by cases he
  | l :: r, m, h, hl, e, he => by
    have hl0 := hl l List.mem_cons_self
    rcases List.mem_cons.mp he with rfl | he
    · exact ent_len h hl0
    · exact ents_le r (nxt m l) (good_nxt h hl0) (fun z hz => hl z (List.mem_cons_of_mem _ hz)) e he
theorem ents_sum {ls : List Ln} {m : Itm} (h : m.Good) (hl : LOk ls) : ((ents m ls).map (·.length)).sum ≤ ls.length * 200 := by
  have := sum_le (ps := (ents m ls).map (·.length)) (k := 200) fun p hp => by
    obtain ⟨e, he, rfl⟩ := List.mem_map.mp hp
    exact ents_le ls m h hl e he
  rw [List.length_map, ents_len] at this
  exact this
theorem rec_len {ls : List Ln} {m : Itm} (h : m.Good) (hl : LOk ls) : (recS m ls).length ≤ ls.length * 200 := by
  have := ents_sum h hl
  rw [TL.len_tl]
  unfold recS
  rw [tl_join0, List.length_flatten, List.map_map]
  have e : (ents m ls).map (List.length ∘ TL.tl) = (ents m ls).map (·.length) := List.map_congr_left fun x _ => (TL.len_tl x).symm
  rw [e]
  exact this

/-! ### a record, cut -/
theorem cut_lines : ∀ (rs : List (List Nat)) (c : Nat), (∀ p ∈ rs, 10 ∉ p) → ∃ k t, k ≤ rs.length ∧ 10 ∉ t ∧ (lines rs).take c = lines (rs.take k) ++ t
  | [], c, _ => ⟨0, [], Nat.le_refl _, by simp, by show ([] : List Nat).take c = [] ++ []; simp⟩
  | p :: r, c, h => by
    by_cases hc : c ≤ p.length
    · refine ⟨0, p.take c, Nat.zero_le _, fun q => h p List.mem_cons_self (List.mem_of_mem_take q), ?_⟩
      rw [lines_cons, List.take_append_of_le_length hc]
      rfl
    · obtain ⟨k, t, h1, h2, h3⟩ := cut_lines r (c - p.length - 1) fun z hz => h z (List.mem_cons_of_mem _ hz)
      refine ⟨k + 1, t, Nat.succ_le_succ h1, h2, ?_⟩
      rw [List.take_succ_cons, lines_cons, lines_cons, List.take_append, List.take_of_length_le (by omega), List.append_assoc, List.append_assoc]
      refine congrArg (fun z => p ++ z) ?_
      have e : c - p.length = (c - p.length - 1) + 1 := by omega
      rw [e]
      show 10 :: (lines r).take (c - p.length - 1) = 10 :: (lines (r.take k) ++ t)
      rw [h3]
theorem spl_lines : ∀ (rs : List (List Nat)) (t : List Nat), (∀ p ∈ rs, 10 ∉ p) → 10 ∉ t → TL.spl [10] 0 [] (lines rs ++ t) = rs ++ [t]
  | [], t, _, ht => by
    show TL.spl [10] 0 [] t = [t]
    rw [TL.spl_last1 (S := []) ht]
    rfl
  | p :: r, t, h, ht => by
    rw [lines_cons, List.append_assoc, List.append_assoc, TL.spl_part1 (S := []) (h p List.mem_cons_self), spl_lines r t (fun z hz => h z (List.mem_cons_of_mem _ hz)) ht]
    rfl
/-- THE CUT: the cut record, split at the newlines, is so many rows and a rest -/
theorem cut_rec {ls : List Ln} (hl : LOk ls) (c : Nat) : ∃ k t, k ≤ 2 * ls.length ∧
    Txt.split (mk ((TL.tl (recS noItm ls)).take c)) "\n" = ((rows noItm ls).take k).map mk ++ [mk t] := by
  have hn := rows_no10 ls noItm good_no hl
  obtain ⟨k, t, h1, h2, h3⟩ := cut_lines (rows noItm ls) c hn
  rw [rows_len] at h1
  refine ⟨k, t, h1, ?_⟩
  refine TL.map_tl_inj ?_
  rw [TL.split_spl _ _ (by rw [w_N]; simp) (TL.kind_ok N_small), w_N, tl_mk, tl_rec, h3, spl_lines _ _ (fun p hp => hn p (List.mem_of_mem_take hp)) h2, List.map_append, List.map_map]
  have e : ((rows noItm ls).take k).map (TL.tl ∘ mk) = (rows noItm ls).take k := by
    rw [show (TL.tl ∘ mk) = id from rfl, List.map_id]
  rw [e]
  rfl
end J93
namespace J93
open PySem PySem.Spec PyProof.Rows L2 He

/-! ### the text by places -/
def top (i : Nat) : Stmt := PySem.Challenge.pw_plinth_k93_whole_journals_that_are_cut_o.main.body.getD i (.Pass ⟨0, 0, 0, 0⟩)
abbrev s_codes_of : Stmt := top 21
abbrev s_readable : Stmt := top 24
abbrev s_numeral : Stmt := top 25
abbrev s_number_of : Stmt := top 26
abbrev s_is_digit : Stmt := top 28
abbrev s_read_digits : Stmt := top 29
abbrev s_Shelf_init : Stmt := inClass (top 142) 0
abbrev s_u_is_line : Stmt := top 168
abbrev s_words_of : Stmt := top 169
abbrev s_is_name : Stmt := top 170
abbrev s_integer_of : Stmt := top 171
abbrev s_marks : Stmt := top 175
abbrev s_fits : Stmt := top 176
abbrev s_defined : Stmt := top 177
abbrev s_Desk_init : Stmt := inClass (top 178) 0
abbrev s_Desk_content : Stmt := inClass (top 178) 2
abbrev s_Desk_answer : Stmt := inClass (top 178) 4
abbrev s_Desk_knows : Stmt := inClass (top 178) 5
abbrev s_Desk_done : Stmt := inClass (top 178) 6
abbrev s_Desk_kept : Stmt := inClass (top 178) 7
abbrev s_Desk_of_items : Stmt := inClass (top 178) 8
abbrev s_Desk_shown : Stmt := inClass (top 178) 9
abbrev s_is_line : Stmt := top 183
abbrev s_Pages_init : Stmt := inClass (top 184) 0
abbrev s_Pages_answer : Stmt := inClass (top 184) 1
abbrev s_Pages_record : Stmt := inClass (top 184) 2
abbrev s_Journal_init : Stmt := inClass (top 186) 0
abbrev s_Journal_answer : Stmt := inClass (top 186) 4
abbrev s_Journal_record : Stmt := inClass (top 186) 5
abbrev s_Journal_lines : Stmt := inClass (top 186) 6
abbrev s_Journal_content : Stmt := inClass (top 186) 7
abbrev s_rows_of : Stmt := top 187
abbrev s_resume : Stmt := top 188
abbrev s_number : Stmt := top 190
abbrev s_draws : Stmt := top 191
abbrev s_next : Stmt := top 192
abbrev s_char : Stmt := top 193
abbrev s_line : Stmt := top 194
abbrev s_digits : Stmt := top 195
abbrev s_answer : Stmt := top 196
abbrev s_recorded : Stmt := top 197
abbrev s_given : Stmt := top 198
abbrev s_items : Stmt := top 199
abbrev s_law : Stmt := top 200

abbrev FnP (K : PySem.W.Frag) (x qual : Str) (st : Stmt) (f : Addr) (fd : FuncData) : Prop := FunD K x qual (defArgs st) (defBody st) (defScope st) [] [] f fd
/-- a def of the text that stands at f -/
abbrev Df (K : PySem.W.Frag) (x qual : Str) (st : Stmt) (f : Addr) : Prop := ∃ fd, FnP K x qual st f fd
section
variable {P : Program} {w : World} {K : PySem.W.Frag} {mg : Str → Option Value} {base : Heap} {x qual : Str} {st : Stmt} {f : Addr} {fd : FuncData}
/-- the rule for a def that lets no exception out -/
theorem ok0 {N ps : List Str} {k : Nat} {sp : Sp} (F : FnP K x qual st f fd) (S : FnScope N ps (defScope st)) (len : ∀ vs H Q E, sp vs H Q E → vs.length = ps.length)
    (hbody : ∀ (cdv : Value) (A : Around) (outer : List Env) (s : Shared) (H : Hp) (vs : List V) (Q : VK) (E : XK), Room k (A.deeper (envOfC qual (defScope st) s.heap.objs.size f cdv)) → sp vs H Q E →
      ∃ t, PSs (cxOf CX0 P w K mg base N qual (defScope st) f cdv A outer s H E).nox (defBody st) t ∧ t { nx := fun _ H' => Q .non H', rt := Q } (start N vs) H) : FnOk P w K mg base CX0 (k + 1) f fd ps sp :=
  F.ok S len fun cdv A outer s H vs Q E hr h => by
    obtain ⟨t, p, q⟩ := hbody cdv A outer s H vs Q E hr h
    exact ⟨t, p.nox, q⟩
end

/-! ### what the written part is known to hold -/
structure Tx (K : PySem.W.Frag) (w : World) (mg : Str → Option Value) : Prop where
  -- plain names of the module
  gPRINTABLE : ∃ t, mg "PRINTABLE" = some (.str " !\"#$&'()*+,-./0123456789:;<=>?@ABCDEFGHIJKLMNOPQRSTUVWXYZ[\\]^_`abcdefghijklmnopqrstuvwxyz{|}~" t)
  gDIGITS : ∃ t, mg "DIGITS_signs" = some (.str "0123456789" t)
  gLETTERS : ∃ t, mg "LETTERS" = some (.str "abcdefghijklmnopqrstuvwxyz" t)
  gLINE : ∃ t, mg "LINE" = some (.str "> " t)
  gANSWER : ∃ t, mg "ANSWER" = some (.str "< " t)
  gBAD : ∃ t, mg "BAD" = some (.str "bad" t)
  gLIMIT : ∃ t, mg "LIMIT" = some (.int (10 ^ 60) t)
  -- built-ins that no line of the text binds
  f_ord : mg "ord" = none
  f_str : mg "str" = none
  f_len : mg "len" = none
  f_int : mg "int" = none
  f_all : mg "all" = none
  f_zip : mg "zip" = none
  f_list : mg "list" = none
  f_enumerate : mg "enumerate" = none
  f_range : mg "range" = none
  f_isinstance : mg "isinstance" = none
  -- the exception class
  eNT : PySem.W.excIn K (ga K "NotText") veBase "ValueError.__new__" = true ∧ PySem.W.keepIn K (.ref (ga K "NotText")) = true ∧ PySem.W.subIn K (.ref (ga K "NotText")) (.type "BaseException") = some true ∧ PySem.W.typeIn K (.ref (ga K "NotText")) = some (.type "type")
  mNT : PySem.W.exmOne K (.ref (ga K "NotText")) (.ref (ga K "NotText")) = some true
  gNT : mg "NotText" = some (.ref (ga K "NotText"))
  -- the defs
  d_codes_of : Df K "codes_of" "codes_of" s_codes_of (ga K "codes_of")
  d_readable : Df K "readable" "readable" s_readable (ga K "readable")
  d_numeral : Df K "numeral" "numeral" s_numeral (ga K "numeral")
  d_number_of : Df K "number_of" "number_of" s_number_of (ga K "number_of")
  d_is_digit : Df K "is_digit" "is_digit" s_is_digit (ga K "is_digit")
  d_read_digits : Df K "read_digits" "read_digits" s_read_digits (ga K "read_digits")
  d_u_is_line : Df K "_is_line" "_is_line" s_u_is_line (ga K "_is_line")
  d_words_of : Df K "words_of" "words_of" s_words_of (ga K "words_of")
  d_is_name : Df K "is_name" "is_name" s_is_name (ga K "is_name")
  d_integer_of : ∃ fd, FunD K "integer_of" "integer_of" (defArgs s_integer_of) (defBody s_integer_of) (defScope s_integer_of) [] [("least", .non), ("most", .non)] (ga K "integer_of") fd
  d_marks : Df K "_marks" "_marks" s_marks (ga K "_marks")
  d_fits : Df K "_fits" "_fits" s_fits (ga K "_fits")
  d_defined : Df K "_defined" "_defined" s_defined (ga K "_defined")
  d_is_line : Df K "is_line" "is_line" s_is_line (ga K "is_line")
  d_rows_of : Df K "rows_of" "rows_of" s_rows_of (ga K "rows_of")
  d_resume : Df K "resume" "resume" s_resume (ga K "resume")
  d_number : Df K "_law_number" "_law_number" s_number (ga K "_law_number")
  d_draws : Df K "_law_draws" "_law_draws" s_draws (ga K "_law_draws")
  d_next : Df K "_law_next" "_law_next" s_next (ga K "_law_next")
  d_char : Df K "_law_char" "_law_char" s_char (ga K "_law_char")
  d_line : Df K "_law_line" "_law_line" s_line (ga K "_law_line")
  d_digits : Df K "_law_digits" "_law_digits" s_digits (ga K "_law_digits")
  d_answer : Df K "_law_answer" "_law_answer" s_answer (ga K "_law_answer")
  d_recorded : Df K "_law_recorded" "_law_recorded" s_recorded (ga K "_law_recorded")
  d_given : Df K "_law_given" "_law_given" s_given (ga K "_law_given")
  d_items : Df K "_law_items" "_law_items" s_items (ga K "_law_items")
  d_law : Df K "law" "law" s_law (ga K "law")
  g_codes_of : mg "codes_of" = some (.ref (ga K "codes_of"))
  g_readable : mg "readable" = some (.ref (ga K "readable"))
  g_numeral : mg "numeral" = some (.ref (ga K "numeral"))
  g_number_of : mg "number_of" = some (.ref (ga K "number_of"))
  g_is_digit : mg "is_digit" = some (.ref (ga K "is_digit"))
  g_read_digits : mg "read_digits" = some (.ref (ga K "read_digits"))
  g_u_is_line : mg "_is_line" = some (.ref (ga K "_is_line"))
  g_words_of : mg "words_of" = some (.ref (ga K "words_of"))
  g_is_name : mg "is_name" = some (.ref (ga K "is_name"))
  g_integer_of : mg "integer_of" = some (.ref (ga K "integer_of"))
  g_marks : mg "_marks" = some (.ref (ga K "_marks"))
  g_fits : mg "_fits" = some (.ref (ga K "_fits"))
  g_defined : mg "_defined" = some (.ref (ga K "_defined"))
  g_is_line : mg "is_line" = some (.ref (ga K "is_line"))
  g_rows_of : mg "rows_of" = some (.ref (ga K "rows_of"))
  g_resume : mg "resume" = some (.ref (ga K "resume"))
  g_number : mg "_law_number" = some (.ref (ga K "_law_number"))
  g_draws : mg "_law_draws" = some (.ref (ga K "_law_draws"))
  g_next : mg "_law_next" = some (.ref (ga K "_law_next"))
  g_char : mg "_law_char" = some (.ref (ga K "_law_char"))
  g_line : mg "_law_line" = some (.ref (ga K "_law_line"))
  g_digits : mg "_law_digits" = some (.ref (ga K "_law_digits"))
  g_answer : mg "_law_answer" = some (.ref (ga K "_law_answer"))
  g_recorded : mg "_law_recorded" = some (.ref (ga K "_law_recorded"))
  g_given : mg "_law_given" = some (.ref (ga K "_law_given"))
  g_items : mg "_law_items" = some (.ref (ga K "_law_items"))
  g_law : mg "law" = some (.ref (ga K "law"))
  -- the classes
  gShelf : mg "Shelf" = some (.ref (ga K "Shelf"))
  gDesk : mg "Desk" = some (.ref (ga K "Desk"))
  gPages : mg "Pages" = some (.ref (ga K "Pages"))
  gJournal : mg "Journal" = some (.ref (ga K "Journal"))
  cShelf : Cls K (ga K "Shelf")
  cDesk : Cls K (ga K "Desk")
  cPages : Cls K (ga K "Pages")
  cJournal : Cls K (ga K "Journal")
  kShelf : Mk K (ga K "Shelf") (ma K (ga K "Shelf") "__init__")
  kDesk : Mk K (ga K "Desk") (ma K (ga K "Desk") "__init__")
  kPages : Mk K (ga K "Pages") (ma K (ga K "Pages") "__init__")
  kJournal : Mk K (ga K "Journal") (ma K (ga K "Journal") "__init__")
  nShelf_entries : NoAttr K (ga K "Shelf") "entries"
  nDesk_items : NoAttr K (ga K "Desk") "_items"
  nDesk_rules : NoAttr K (ga K "Desk") "_rules"
  nDesk_shelf : NoAttr K (ga K "Desk") "_shelf"
  nDesk_claims : NoAttr K (ga K "Desk") "_claims"
  nPages_desk : NoAttr K (ga K "Pages") "desk"
  nPages_given : NoAttr K (ga K "Pages") "given"
  nPages_told : NoAttr K (ga K "Pages") "told"
  nJournal_pages : NoAttr K (ga K "Journal") "pages"
  nJournal_earlier : NoAttr K (ga K "Journal") "earlier"
  nJournal_kept : NoAttr K (ga K "Journal") "kept"
  d_Shelf_init : Df K "__init__" "Shelf.__init__" s_Shelf_init (ma K (ga K "Shelf") "__init__")
  d_Desk_init : Df K "__init__" "Desk.__init__" s_Desk_init (ma K (ga K "Desk") "__init__")
  d_Desk_content : Df K "content" "Desk.content" s_Desk_content (ma K (ga K "Desk") "content")
  d_Desk_answer : Df K "answer" "Desk.answer" s_Desk_answer (ma K (ga K "Desk") "answer")
  d_Desk_knows : Df K "_knows" "Desk._knows" s_Desk_knows (ma K (ga K "Desk") "_knows")
  d_Desk_done : Df K "_done" "Desk._done" s_Desk_done (ma K (ga K "Desk") "_done")
  d_Desk_kept : Df K "_kept" "Desk._kept" s_Desk_kept (ma K (ga K "Desk") "_kept")
  d_Desk_of_items : Df K "_of_items" "Desk._of_items" s_Desk_of_items (ma K (ga K "Desk") "_of_items")
  d_Desk_shown : Df K "_shown" "Desk._shown" s_Desk_shown (ma K (ga K "Desk") "_shown")
  d_Pages_init : Df K "__init__" "Pages.__init__" s_Pages_init (ma K (ga K "Pages") "__init__")
  d_Pages_answer : Df K "answer" "Pages.answer" s_Pages_answer (ma K (ga K "Pages") "answer")
  d_Pages_record : Df K "record" "Pages.record" s_Pages_record (ma K (ga K "Pages") "record")
  d_Journal_init : Df K "__init__" "Journal.__init__" s_Journal_init (ma K (ga K "Journal") "__init__")
  d_Journal_answer : Df K "answer" "Journal.answer" s_Journal_answer (ma K (ga K "Journal") "answer")
  d_Journal_record : Df K "record" "Journal.record" s_Journal_record (ma K (ga K "Journal") "record")
  d_Journal_lines : Df K "lines" "Journal.lines" s_Journal_lines (ma K (ga K "Journal") "lines")
  d_Journal_content : Df K "content" "Journal.content" s_Journal_content (ma K (ga K "Journal") "content")
  mDesk_content : Meth K (ga K "Desk") "content" (ma K (ga K "Desk") "content")
  mDesk_answer : Meth K (ga K "Desk") "answer" (ma K (ga K "Desk") "answer")
  mDesk_knows : Meth K (ga K "Desk") "_knows" (ma K (ga K "Desk") "_knows")
  mDesk_done : Meth K (ga K "Desk") "_done" (ma K (ga K "Desk") "_done")
  mDesk_kept : Meth K (ga K "Desk") "_kept" (ma K (ga K "Desk") "_kept")
  mDesk_of_items : Meth K (ga K "Desk") "_of_items" (ma K (ga K "Desk") "_of_items")
  mDesk_shown : Meth K (ga K "Desk") "_shown" (ma K (ga K "Desk") "_shown")
  mPages_answer : Meth K (ga K "Pages") "answer" (ma K (ga K "Pages") "answer")
  mPages_record : Meth K (ga K "Pages") "record" (ma K (ga K "Pages") "record")
  mJournal_answer : Meth K (ga K "Journal") "answer" (ma K (ga K "Journal") "answer")
  mJournal_record : Meth K (ga K "Journal") "record" (ma K (ga K "Journal") "record")
  mJournal_lines : Meth K (ga K "Journal") "lines" (ma K (ga K "Journal") "lines")
  mJournal_content : Meth K (ga K "Journal") "content" (ma K (ga K "Journal") "content")
  -- the table of the commands
  gFORMS : mg "FORMS" = some (.ref (ga K "FORMS"))
  dFORMS : ∃ es n, KDict K w (ga K "FORMS") es n
  vFORMS : ∀ q ∈ ([("numbers", "nz*"), ("text", "nk"), ("show", "i"), ("digits", "ni")] : List (Str × Str)), ∃ t, PySem.W.nsIn K (ga K "FORMS") q.1 = some (some (.str q.2 t))
  oFORMS : PySem.W.nsIn K (ga K "FORMS") "nothing" = some none
end J93
namespace J93
open PySem PySem.Spec PyProof.Rows L2 He

abbrev hInts (ns : List Int) : HO := .lst (ns.map V.int)
abbrev hStrs (ys : List Str) : HO := .lst (ys.map V.str)
theorem hInts_app (a b : List Int) : hInts (a ++ b) = .lst (a.map V.int ++ b.map V.int) := by
  show HO.lst _ = _
  rw [List.map_append]
theorem hStrs_app (a b : List Str) : hStrs (a ++ b) = .lst (a.map V.str ++ b.map V.str) := by
  show HO.lst _ = _
  rw [List.map_append]
/-- all signs are allowed (a newline is) -/
def goodS (z : Str) : Prop := ∀ c ∈ TL.tl z, c = 10 ∨ c ∈ PR
def sp_codes (K : PySem.W.Frag) : Sp := fun vs H Q E => ∃ z : Str, vs = [.str z] ∧ z.length ≤ 100000 ∧
  (goodS z → ∀ p H', Same H H' → H p = none → H' p = some (hInts ((TL.tl z).map Int.ofNat)) → Q (.ref p) H') ∧
  (¬ goodS z → ∀ H', Same H H' → E (.ref (ga K "NotText")) none H')
theorem Same.upd {H : Hp} {p : Addr} {o : HO} (h : H p = none) : Same H (L2.upd H p o) := fun b u e => by
  rw [upd_ne (ne_of_none e h)]
  exact e
theorem small {n : Nat} (h : n ≤ 200000) : n < sizeLine := Nat.lt_of_le_of_lt h (by decide)
theorem smallE {n : Nat} (h : n ≤ 200000) : n ≤ sizeLine := Nat.le_of_lt (small h)
/-- a text, an int of the module -/
theorem pe_gs {X : Cx} {x z : Str} {t : Tok} {pos : Pos} (hg : Gl X x) (hm : X.mg x = some (.str z t)) (hd : (x == ("__debug__" : Str)) = false := by decide) : PE X (.Name x pos) (tC (.str z)) := pe_glob (v := .str z) hg hm ⟨_, rfl⟩ hd
theorem pe_gi {X : Cx} {x : Str} {i : Int} {t : Tok} {pos : Pos} (hg : Gl X x) (hm : X.mg x = some (.int i t)) (hd : (x == ("__debug__" : Str)) = false := by decide) : PE X (.Name x pos) (tC (.int i)) := pe_glob (v := .int i) hg hm ⟨_, rfl⟩ hd
theorem iteB {b : Bool} {A B : Prop} (h1 : b = true → A) (h2 : b = false → B) : if b = true then A else B := by
  cases b with
  | true => exact iteT (h1 rfl)
  | false => exact iteF (h2 rfl)
section
variable {P : Program} {w : World} {K : PySem.W.Frag} {mg : Str → Option Value} {base : Heap}
theorem sc_codes : FnScope ["text", "codes", "char"] ["text"] (defScope s_codes_of) := ⟨rfl, rfl, rfl, by decide +kernel, rfl, by decide +kernel, by decide +kernel⟩
theorem str_char_ne {c : Nat} : decide (V.str ⟨#[c]⟩ = V.str ("\n" : Str)) = decide (c = 10) := by
  have e : ("\n" : Str) = ⟨#[10]⟩ := by decide +kernel
  rw [e]
  by_cases h : c = 10
  · rw [h]; simp
  · rw [decide_eq_false h]
    apply decide_eq_false
    intro q
    simp at q
    exact h q
theorem ok_codes (T : Tx K w mg) : ∃ fd, FnOk P w K mg base (L2.CX P w) 1 (ga K "codes_of") fd ["text"] (sp_codes K) ∧ Binds K fd ["text"] [] := by
  obtain ⟨fd, F⟩ := T.d_codes_of
  refine ⟨fd, F.ok sc_codes (fun vs H Q E h => ?_) (fun cdv A outer s H vs Q E hr h => ?_), F.bindsN fun _ _ _ _ _ _ us hl => match us, hl with | [_], _ => rfl⟩
  · obtain ⟨z, rfl, _⟩ := h
    rfl
  · obtain ⟨z, rfl, hl, kQ, kE⟩ := h
    obtain ⟨tP, gP⟩ := T.gPRINTABLE
    obtain ⟨x1, x2, x3, x4⟩ := T.eNT
    refine ⟨_, pss_cons (ps_set (i := 1) sc_codes.nd rfl (.inl rfl) (pe_lst pa_nil))
      (pss_cons (ps_for (passes_of rfl) rfl (pi_str (pv 0)) (pg_name (i := 2) sc_codes.nd rfl (.inl rfl))
        (pss_cons (ps_if (PW.pt (pw_and (pt_cmpR op_ne (pv 2) pe_str (nomark _)) (pw_and1 (pt_cmpR op_notIn_sign (pv 2) (pe_gs rfl gP) (by rfl)))))
            (pss_one (ps_raise rfl (takes_of rfl rfl rfl rfl) (pmk_own PySem.F.excBase_ValueError x1 T.gNT x2 (raises_own x3 x4) rfl))) pss_nil)
        (pss_one (ps_expr (pe_bm PySem.F.plainAttrs_list PySem.F.slot_list_append PySem.F.type_list_append mt_append (pv 1)
          (pa_cons (pe_callB call_ord (by rfl) T.f_ord (by decide +kernel) (pa_cons (pv 2) pa_nil)) pa_nil))))))
      (pss_one (ps_ret (pv 1)))), ?_⟩
    refine ⟨Nat.zero_le _, fun p np => ?_⟩
    refine ⟨_, rfl, z, rfl, for_it walk_str (fun i σ H' => ∃ v : Option V, σ = [some (.str z), some (.ref p), v] ∧ Same H H' ∧ H' p = some (hInts (((TL.tl z).take i).map Int.ofNat)) ∧ ∀ c ∈ (TL.tl z).take i, c = 10 ∨ c ∈ PR)
      ⟨none, rfl, Same.upd np, upd_same, fun c hc => by simp at hc⟩ (fun _ _ _ _ _ => trivial) ?_ ?_⟩
    · rintro i x σ H1 H' hi ⟨v, rfl, s1, hp, hg⟩ ⟨rfl, c, hc, rfl⟩
      have hc' : (TL.tl z)[i]? = some c := by
        show z.cps.toList[i]? = some c
        rw [Array.getElem?_toList]
        exact hc
      have hci : Int.ofNat c = ((c : Nat) : Int) := rfl
      have tk1 : (TL.tl z).take (i + 1) = (TL.tl z).take i ++ [c] := take_one hc'
      have hlen : (((TL.tl z).take i).map Int.ofNat).length < 100000 := by
        have hh : i < z.length := hi
        rw [List.length_map, List.length_take]
        omega
      -- the sign is kept
      have keepC : (c = 10 ∨ c ∈ PR) → ∃ v : Option V, [some (V.str z), some (V.ref p), some (V.str ⟨#[c]⟩)] = [some (.str z), some (.ref p), v] ∧ Same H (L2.upd H' p (.lst (((((TL.tl z).take i).map Int.ofNat).map V.int) ++ [V.int ((c : Nat) : Int)]))) ∧
          (L2.upd H' p (.lst (((((TL.tl z).take i).map Int.ofNat).map V.int) ++ [V.int ((c : Nat) : Int)]))) p = some (hInts (((TL.tl z).take (i + 1)).map Int.ofNat)) ∧ ∀ d ∈ (TL.tl z).take (i + 1), d = 10 ∨ d ∈ PR := fun hok => by
        refine ⟨_, rfl, fun b o e => ?_, ?_, fun d hd => ?_⟩
        · rw [upd_ne (ne_of_none e np)]
          exact s1 b o e
        · rw [upd_same, tk1, List.map_append, hInts_app]
          rfl
        · rw [tk1] at hd
          rcases List.mem_append.mp hd with hd | hd
          · exact hg d hd
          · rw [List.mem_singleton.mp hd]
            exact hok
      refine ⟨_, rfl, rfl, _, rfl, ?_⟩
      refine iteB (fun h10 => ?_) (fun h10 => ?_)
      · refine ⟨_, rfl, c, _, rfl, rfl, _, rfl, ?_⟩
        refine iteB (fun hn => ?_) (fun hn => ?_)
        · -- not allowed
          have hbad : ¬ goodS z := fun hz => by
            have h1 := hz c (List.mem_of_getElem? hc')
            rw [str_char_ne] at h10
            have h2 : ¬ c = 10 := by simpa using h10
            have h3 : ¬ c ∈ PR := by simpa [PR, TL.tl] using hn
            rcases h1 with h1 | h1
            · exact h2 h1
            · exact h3 h1
          exact kE hbad _ s1
        · refine ⟨_, rfl, .inl ⟨rfl, _, SqL.of hp⟩, _, rfl, _, rfl, rfl, p, _, _, rfl, rfl, hp, by rw [List.length_map]; exact small (by omega), keepC (.inr ?_)⟩
          simpa [PR, TL.tl] using hn
      · refine ⟨_, rfl, .inl ⟨rfl, _, SqL.of hp⟩, _, rfl, _, rfl, rfl, p, _, _, rfl, rfl, hp, by rw [List.length_map]; exact small (by omega), keepC (.inl ?_)⟩
        rw [str_char_ne] at h10
        simpa using h10
    · rintro σ H1 ⟨v, rfl, s1, hp, hg⟩
      rw [List.take_of_length_le (by rw [← TL.len_tl]; exact Nat.le_refl _)] at hp hg
      exact ⟨_, rfl, kQ hg p H1 s1 np hp⟩
end
end J93
namespace J93
open PySem PySem.Spec PyProof.Rows L2 He

theorem drop_one {α : Type} {ls : List α} {i : Nat} {x : α} (h : ls[i]? = some x) : ls.drop i = x :: ls.drop (i + 1) := by
  obtain ⟨hi, e⟩ := List.getElem?_eq_some_iff.mp h
  rw [List.drop_eq_getElem_cons hi, e]
theorem lt_of_at {α : Type} {ls : List α} {i : Nat} {x : α} (h : ls[i]? = some x) : i < ls.length := (List.getElem?_eq_some_iff.mp h).1
theorem at_map {α β : Type} {f : α → β} {ls : List α} {i : Nat} {y : β} (h : (ls.map f)[i]? = some y) : ∃ x, ls[i]? = some x ∧ y = f x := by
  rw [List.getElem?_map] at h
  cases e : ls[i]? with
  | none => rw [e] at h; cases h
  | some x => rw [e] at h; exact ⟨x, rfl, (Option.some.inj h).symm⟩

/-! ### promises -/
def sp_readable (K : PySem.W.Frag) : Sp := fun vs H Q _ => ∃ (a : Addr) (ns : List Int), vs = [.ref a] ∧ SqL K H a (ns.map V.int) ∧ ns.length ≤ 100000 ∧
  ∀ p H', Same H H' → H p = none → H' p = some (hInts (rd ns)) → Q (.ref p) H'
def sp_numeral : Sp := fun vs H Q _ => ∃ n : Int, vs = [.int n] ∧ -500 ≤ n ∧ n < 10 ^ 9 ∧ Q (.str (str n)) H
def sp_number_of : Sp := fun vs H Q _ => ∃ n : Int, vs = [.str (str n)] ∧ -500 ≤ n ∧ n ≤ 499 ∧ Q (.int n) H
def sp_is_digit : Sp := fun vs H Q _ => ∃ c : Int, vs = [.int c] ∧ Q (.bl (isD c)) H
def sp_read_digits (K : PySem.W.Frag) : Sp := fun vs H Q _ => ∃ (a : Addr) (ns : List Int), vs = [.ref a] ∧ SqL K H a (ns.map V.int) ∧ ns.length ≤ 100000 ∧
  ∀ p H', Same H H' → H p = none → H' p = some (hInts (digs ns)) → Q (.ref p) H'
section
variable {P : Program} {w : World} {K : PySem.W.Frag} {mg : Str → Option Value} {base : Heap}
theorem sc_readable : FnScope ["codes", "result", "code"] ["codes"] (defScope s_readable) := ⟨rfl, rfl, rfl, by decide +kernel, rfl, by decide +kernel, by decide +kernel⟩
theorem ok_readable (T : Tx K w mg) : ∃ fd, FnOk P w K mg base CX0 1 (ga K "readable") fd ["codes"] (sp_readable K) ∧ Binds K fd ["codes"] [] := by
  obtain ⟨fd, F⟩ := T.d_readable
  refine ⟨fd, ok0 F sc_readable (fun vs H Q E h => ?_) (fun cdv A outer s H vs Q E hr h => ?_), F.bindsN fun _ _ _ _ _ _ us hl => match us, hl with | [_], _ => rfl⟩
  · obtain ⟨a, ns, rfl, _⟩ := h
    rfl
  · obtain ⟨a, ns, rfl, hS, hl, k⟩ := h
    refine ⟨_, pss_cons (ps_set (i := 1) sc_readable.nd rfl (.inl rfl) (pe_lst pa_nil))
      (pss_cons (ps_for PassesOwn.never rfl (pi_list (pv 0)) (pg_name (i := 2) sc_readable.nd rfl (.inl rfl))
        (pss_cons (ps_if (pt_cmpR op_lt (pv 2) pe_int (nomark _)) (pss_one ps_break) pss_nil)
        (pss_one (ps_expr (pe_bm PySem.F.plainAttrs_list PySem.F.slot_list_append PySem.F.type_list_append mt_append (pv 1) (pa_cons (pv 2) pa_nil))))))
      (pss_one (ps_ret (pv 1)))), ?_⟩
    refine ⟨Nat.zero_le _, fun p np => ?_⟩
    refine ⟨_, rfl, a, rfl, ⟨_, (Same.upd np).seq hS⟩, for_it (walk_list (xs := ns.map V.int)) (fun i σ H' => ∃ v : Option V, σ = [some (.ref a), some (.ref p), v] ∧ Same H H' ∧ H' p = some (hInts (ns.take i)) ∧ rd ns = ns.take i ++ rd (ns.drop i))
      ⟨none, rfl, Same.upd np, upd_same, rfl⟩ (fun i σ H' _ ⟨_, _, s1, _⟩ => s1.seq hS) ?_ ?_⟩
    · rintro i x σ H1 H' hi ⟨v, rfl, s1, hp, hg⟩ ⟨rfl, hx⟩
      obtain ⟨c, hc, rfl⟩ := at_map hx
      refine ⟨_, rfl, _, _, rfl, rfl, _, rfl, ?_⟩
      refine iteB (fun hn => ?_) (fun hn => ?_)
      · have hn' : c < 0 := of_decide_eq_true hn
        have e : rd (ns.drop i) = [] := by
          rw [drop_one hc]
          exact if_pos hn'
        rw [e, List.append_nil] at hg
        exact ⟨_, rfl, k p H' s1 np (by rw [hg]; exact hp)⟩
      · have hn' : ¬ c < 0 := of_decide_eq_false hn
        have e : rd (ns.drop i) = c :: rd (ns.drop (i + 1)) := by
          rw [drop_one hc]
          exact if_neg hn'
        have ht := take_one hc
        have hle := lt_of_at hc
        refine ⟨_, rfl, .inl ⟨rfl, _, SqL.of hp⟩, _, rfl, p, _, _, rfl, rfl, hp, by rw [List.length_map, List.length_take]; exact small (by omega), _, rfl, fun b o q => ?_, ?_, ?_⟩
        · rw [upd_ne (ne_of_none q np)]
          exact s1 b o q
        · rw [upd_same, ht, hInts_app]
          rfl
        · rw [hg, e, ht, List.append_assoc]
          rfl
    · rintro σ H1 ⟨v, rfl, s1, hp, hg⟩
      rw [List.length_map] at hp hg
      rw [List.drop_length, List.take_length] at hg
      rw [List.take_length] at hp
      refine ⟨_, rfl, k p H1 s1 np ?_⟩
      rw [hg]
      show _ = some (hInts (ns ++ []))
      rw [List.append_nil]
      exact hp
theorem sc_numeral : FnScope ["number"] ["number"] (defScope s_numeral) := ⟨rfl, rfl, rfl, by decide +kernel, rfl, by decide +kernel, by decide +kernel⟩
theorem log_small {n : Int} (h1 : -500 ≤ n) (h2 : n < 10 ^ 9) : n.natAbs.log2 < 1920 := by
  have h : n.natAbs < 2 ^ 30 := by omega
  by_cases h0 : n.natAbs = 0
  · rw [h0]; decide
  · have := (Nat.log2_lt h0).mpr h
    omega
theorem ok_numeral (T : Tx K w mg) : ∃ fd, FnOk P w K mg base CX0 1 (ga K "numeral") fd ["number"] sp_numeral ∧ Binds K fd ["number"] [] := by
  obtain ⟨fd, F⟩ := T.d_numeral
  refine ⟨fd, ok0 F sc_numeral (fun vs H Q E h => ?_) (fun cdv A outer s H vs Q E hr h => ?_), F.bindsN fun _ _ _ _ _ _ us hl => match us, hl with | [_], _ => rfl⟩
  · obtain ⟨n, rfl, _⟩ := h
    rfl
  · obtain ⟨n, rfl, h1, h2, k⟩ := h
    obtain ⟨tL, gL⟩ := T.gLIMIT
    refine ⟨_, pss_cons (ps_if (pt_not (pt_chain op_lt op_lt (pe_un un_neg (pe_gi rfl gL)) (pv 0) (pe_gi rfl gL))) pss_never pss_nil)
      (pss_one (ps_ret (pe_callTy call_str_int (by rfl) T.f_str (by decide +kernel) (pa_cons (pv 0) pa_nil)))), ?_⟩
    refine ⟨_, rfl, _, rfl, _, _, rfl, rfl, _, rfl, ?_⟩
    refine iteB (fun ha => ?_) (fun ha => ?_)
    · refine ⟨_, _, rfl, rfl, _, rfl, ?_⟩
      refine iteB (fun hb => ?_) (fun hb => ?_)
      · have hb' : (!decide (n < 10 ^ 60)) = true := hb
        rw [decide_eq_true (show n < 10 ^ 60 by omega)] at hb'
        cases hb'
      · exact ⟨_, rfl, _, rfl, log_small h1 h2, k⟩
    · have ha' : decide (-(10 ^ 60 : Int) < n) = false := ha
      rw [decide_eq_true (show -(10 ^ 60 : Int) < n by omega)] at ha'
      cases ha'
theorem sc_is_digit : FnScope ["code"] ["code"] (defScope s_is_digit) := ⟨rfl, rfl, rfl, by decide +kernel, rfl, by decide +kernel, by decide +kernel⟩
theorem ok_is_digit (T : Tx K w mg) : ∃ fd, FnOk P w K mg base CX0 1 (ga K "is_digit") fd ["code"] sp_is_digit ∧ Binds K fd ["code"] [] := by
  obtain ⟨fd, F⟩ := T.d_is_digit
  refine ⟨fd, ok0 F sc_is_digit (fun vs H Q E h => ?_) (fun cdv A outer s H vs Q E hr h => ?_), F.bindsN fun _ _ _ _ _ _ us hl => match us, hl with | [_], _ => rfl⟩
  · obtain ⟨n, rfl, _⟩ := h
    rfl
  · obtain ⟨c, rfl, k⟩ := h
    refine ⟨_, pss_one (ps_ret (pe_chain op_le op_le pe_int (pv 0) pe_int)), ?_⟩
    refine ⟨_, rfl, _, _, rfl, rfl, _, rfl, ?_⟩
    refine iteB (fun ha => ?_) (fun ha => ?_)
    · have ha' : decide (48 ≤ c) = true := ha
      refine ⟨_, _, rfl, rfl, ?_⟩
      unfold isD at k
      rw [ha', Bool.true_and] at k
      exact k
    · have ha' : decide (48 ≤ c) = false := ha
      unfold isD at k
      rw [ha', Bool.false_and] at k
      exact k
end
end J93
namespace J93
open PySem PySem.Spec PyProof.Rows L2 He

theorem eqS_ne {a b : Str} (h : TL.tl a ≠ TL.tl b) : decide (V.str a = V.str b) = false := decide_eq_false fun q => h (by injection q with q; rw [q])
theorem eqS_eq {a b : Str} (h : a = b) : decide (V.str a = V.str b) = true := decide_eq_true (by rw [h])
theorem w_dash : TL.tl ("-" : Str) = [45] := by decide +kernel
theorem w_0 : TL.tl ("0" : Str) = [48] := by decide +kernel
theorem w_09 : TL.tl ("0123456789" : Str) = [48, 49, 50, 51, 52, 53, 54, 55, 56, 57] := by decide +kernel
theorem numL_three {n : Int} (h1 : -500 ≤ n) (h2 : n ≤ 499) : (TL.numL n.natAbs).length ≤ 3 := TL.numL_len (by decide) (by omega)
theorem str_parts (n : Int) : (n < 0 ∧ TL.tl (str n) = 45 :: TL.numL n.natAbs) ∨ (0 ≤ n ∧ TL.tl (str n) = TL.numL n.natAbs) := by
  cases n with
  | ofNat m => exact .inr ⟨Int.natCast_nonneg m, tl_str_nat m⟩
  | negSucc m => exact .inl ⟨Int.negSucc_lt_zero m, tl_str_neg m⟩
theorem pre_dash_yes (l : List Nat) : TL.pre [45] (45 :: l) = true := rfl
theorem pre_dash_no {l : List Nat} (h : NumText.AllDigits l) : TL.pre [45] l = false := by
  cases l with
  | nil => rfl
  | cons c r => exact TL.pre_of_head [] r (by have := h c List.mem_cons_self; omega)
theorem str_zero : str 0 = ("0" : Str) := TL.ext_tl (by rw [w_0]; exact (tl_str_nat 0).trans numL_zero)
section
variable {P : Program} {w : World} {K : PySem.W.Frag} {mg : Str → Option Value} {base : Heap}
theorem sc_number_of : FnScope ["text", "digits", "char"] ["text"] (defScope s_number_of) := ⟨rfl, rfl, rfl, by decide +kernel, rfl, by decide +kernel, by decide +kernel⟩
theorem ok_number_of (T : Tx K w mg) : ∃ fd, FnOk P w K mg base CX0 1 (ga K "number_of") fd ["text"] sp_number_of ∧ Binds K fd ["text"] [] := by
  obtain ⟨fd, F⟩ := T.d_number_of
  refine ⟨fd, ok0 F sc_number_of (fun vs H Q E h => ?_) (fun cdv A outer s H vs Q E hr h => ?_), F.bindsN fun _ _ _ _ _ _ us hl => match us, hl with | [_], _ => rfl⟩
  · obtain ⟨n, rfl, _⟩ := h
    rfl
  · obtain ⟨n, rfl, h1, h2, k⟩ := h
    obtain ⟨tD, gD⟩ := T.gDIGITS
    have h3 := numL_three h1 h2
    have hne : (TL.numL n.natAbs).length ≠ 0 := fun q => TL.numL_ne _ (List.length_eq_zero_iff.mp q)
    have hdg : NumText.AllDigits (TL.numL n.natAbs) := TL.numL_digits _
    have hsl : (str n).length ≤ 9 := str_len h1 (by omega)
    refine ⟨_, pss_cons (ps_set (i := 1) sc_number_of.nd rfl (.inl rfl) (pv 0))
      (C8.pss_cut (ps_if (pt_val (pe_m1 PySem.F.slot_str_startswith PySem.F.type_str_startswith mt_startswith (pv 0) pe_str)) (pss_one (ps_set (i := 1) sc_number_of.nd rfl (.inl rfl) (pe_slice sl_str (pv 0) (po_some pe_int) po_none))) pss_nil)
      (pss_cons (ps_if (pt_not (pt_chain op_le op_le pe_int (pe_callB call_len_str (by rfl) T.f_len PySem.boot_len (pa_cons (pv 1) pa_nil)) pe_int)) pss_never pss_nil)
      (pss_cons (ps_for PassesOwn.never rfl (pi_str (pv 1)) (pg_name (i := 2) sc_number_of.nd rfl (.inl rfl))
        (pss_one (ps_if (pt_cmpR op_notIn_sign (pv 2) (pe_gs rfl gD) (by rfl)) pss_never pss_nil)))
      (pss_cons (ps_if (PW.pt (pw_and (pt_cmpR op_eq (pe_ix ix_str (pv 1) pe_int (fun _ _ => rfl)) pe_str (nomark _)) (pw_and1 (pt_cmpR op_ne (pv 0) pe_str (nomark _))))) pss_never pss_nil)
      (pss_one (ps_ret (pe_callTy call_int_str (by rfl) T.f_int (by decide +kernel) (pa_cons (pv 0) pa_nil)))))))), ?_⟩
    refine ⟨_, rfl, fun σ H' => H' = H ∧ ∃ d : Str, TL.tl d = TL.numL n.natAbs ∧ σ = [some (.str (str n)), some (.str d), none], ?_, ?_⟩
    · -- if text.startswith("-")
      refine ⟨_, rfl, ⟨_, rfl⟩, _, _, rfl, rfl, _, rfl, ?_⟩
      refine iteB (fun hb => ?_) (fun hb => ?_)
      · rw [starts, w_dash] at hb
        refine ⟨_, rfl, 1, rfl, _, rfl, Nat.le_trans hsl (by decide), rfl, _, ?_, rfl⟩
        rw [show (1 : Int) = ((1 : Nat) : Int) from rfl, cut_from, tl_mk]
        rcases str_parts n with ⟨_, e⟩ | ⟨_, e⟩
        · rw [e]
          rfl
        · rw [e, pre_dash_no hdg] at hb
          cases hb
      · rw [starts, w_dash] at hb
        refine ⟨rfl, _, ?_, rfl⟩
        rcases str_parts n with ⟨_, e⟩ | ⟨_, e⟩
        · rw [e] at hb
          cases hb
        · exact e
    · rintro σ H' ⟨rfl, d, hd, rfl⟩
      have dl : d.length = (TL.numL n.natAbs).length := by rw [TL.len_tl, hd]
      -- not 1 <= len(digits) <= 60
      refine ⟨_, rfl, _, rfl, by rw [dl]; exact Nat.le_trans h3 (by decide), _, _, rfl, rfl, _, rfl, ?_⟩
      refine iteB (fun ha => ?_) (fun ha => absurd (of_decide_eq_false ha) (by omega))
      refine ⟨_, _, rfl, rfl, _, rfl, ?_⟩
      refine iteB (fun hb => absurd (show (d.length : Int) ≤ 60 by omega) (by simpa using hb)) (fun hb => ?_)
      refine ⟨_, rfl, d, rfl, for_it walk_str (fun i σ H1 => H1 = H' ∧ ∃ v : Option V, σ = [some (.str (str n)), some (.str d), v]) ⟨rfl, _, rfl⟩ (fun _ _ _ _ _ => trivial) ?_ ?_⟩
      · rintro i x σ H1 H2 hi ⟨rfl, v, rfl⟩ ⟨rfl, c, hc, rfl⟩
        refine ⟨_, rfl, c, _, rfl, rfl, _, rfl, ?_⟩
        refine iteB (fun hn => ?_) (fun hn => ⟨rfl, _, rfl⟩)
        exfalso
        have hc' : c ∈ TL.tl d := List.mem_of_getElem? (by show d.cps.toList[i]? = some c; rw [Array.getElem?_toList]; exact hc)
        rw [hd] at hc'
        have hr := hdg c hc'
        have hm : ¬ c ∈ TL.tl ("0123456789" : Str) := by simpa using hn
        rw [w_09] at hm
        apply hm
        have : c = 48 ∨ c = 49 ∨ c = 50 ∨ c = 51 ∨ c = 52 ∨ c = 53 ∨ c = 54 ∨ c = 55 ∨ c = 56 ∨ c = 57 := by omega
        rcases this with rfl | rfl | rfl | rfl | rfl | rfl | rfl | rfl | rfl | rfl <;> decide
      · rintro σ H1 ⟨rfl, v, rfl⟩
        obtain ⟨c, r, hcr⟩ : ∃ c r, TL.numL n.natAbs = c :: r := by
          cases q : TL.numL n.natAbs with
          | nil => exact absurd q (TL.numL_ne _)
          | cons c r => exact ⟨c, r, rfl⟩
        have hat : atI d.cps.toList 0 = some c := by
          have e : (0 : Int) = ((0 : Nat) : Int) := rfl
          rw [e]
          refine atI_nat ?_
          show (TL.tl d)[0]? = some c
          rw [hd, hcr]
          rfl
        refine ⟨_, rfl, d, 0, c, rfl, rfl, by rw [dl]; exact Nat.le_trans h3 (by decide), hat, rfl, _, rfl, ?_⟩
        refine iteB (fun h0 => ?_) (fun h0 => ?_)
        · refine ⟨_, rfl, rfl, _, rfl, ?_⟩
          refine iteB (fun hz => ?_) (fun hz => ?_)
          · exfalso
            have hc48 : c = 48 := by
              have h0' := of_decide_eq_true h0
              have e2 : (⟨#[c]⟩ : Str) = ("0" : Str) := by injection h0'
              have e3 := congrArg TL.tl e2
              rw [w_0] at e3
              have e4 : [c] = [48] := e3
              injection e4
            have hn0 : n.natAbs = 0 := by
              by_cases q : 0 < n.natAbs
              · exact absurd hc48 (numL_head q hcr)
              · omega
            have hn1 : n = 0 := by omega
            rw [hn1, eqS_eq str_zero] at hz
            cases hz
          · exact ⟨_, rfl, _, n, rfl, int_str h1 h2, Nat.le_trans hsl (by decide), k⟩
        · exact ⟨_, rfl, _, n, rfl, int_str h1 h2, Nat.le_trans hsl (by decide), k⟩
theorem sc_read_digits : FnScope ["codes", "numbers", "value", "code"] ["codes"] (defScope s_read_digits) := ⟨rfl, rfl, rfl, by decide +kernel, rfl, by decide +kernel, by decide +kernel⟩
def vOpt : Option Int → V
  | none => .non
  | some v => .int v
theorem ok_read_digits (T : Tx K w mg) : ∃ fd, FnOk P w K mg base CX0 2 (ga K "read_digits") fd ["codes"] (sp_read_digits K) ∧ Binds K fd ["codes"] [] := by
  obtain ⟨fd, F⟩ := T.d_read_digits
  obtain ⟨fR, GR, bR⟩ := ok_readable (P := P) (base := base) T
  obtain ⟨fI, GI, bI⟩ := ok_is_digit (P := P) (base := base) T
  obtain ⟨_, FR⟩ := T.d_readable
  obtain ⟨_, FI⟩ := T.d_is_digit
  refine ⟨fd, ok0 F sc_read_digits (fun vs H Q E h => ?_) (fun cdv A outer s H vs Q E hr h => ?_), F.bindsN fun _ _ _ _ _ _ us hl => match us, hl with | [_], _ => rfl⟩
  · obtain ⟨a, ns, rfl, _⟩ := h
    rfl
  · obtain ⟨a, ns, rfl, hS, hl, k⟩ := h
    have nd := sc_read_digits.nd
    refine ⟨_, pss_cons (ps_set (i := 1) nd rfl (.inl rfl) (pe_lst pa_nil))
      (pss_cons (ps_set (i := 2) nd rfl (.inl rfl) pe_non)
      (pss_cons (ps_for PassesOwn.never rfl (pi_list (pe_call GR hr (by rfl) T.g_readable FR.kp bR .nil pass0 (pa_cons (pv 0) pa_nil))) (pg_name (i := 3) nd rfl (.inl rfl))
        (pss_one (ps_if (pt_val (pe_call GI hr (by rfl) T.g_is_digit FI.kp bI .nil pass0 (pa_cons (pv 3) pa_nil)))
          (pss_cons (ps_if (pt_cmp (pc_isN (pv 2))) (pss_one (ps_set (i := 2) nd rfl (.inl rfl) pe_int)) pss_nil)
          (pss_one (ps_set (i := 2) nd rfl (.inl rfl) (pe_op op_sub (pe_op op_add (pe_op op_mul pe_int (pv 2)) (pv 3)) pe_int))))
          (pss_one (ps_if (pt_cmp (pc_notN (pv 2)))
            (pss_cons (ps_expr (pe_bm PySem.F.plainAttrs_list PySem.F.slot_list_append PySem.F.type_list_append mt_append (pv 1) (pa_cons (pv 2) pa_nil)))
            (pss_one (ps_set (i := 2) nd rfl (.inl rfl) pe_non))) pss_nil)))))
      (pss_cons (ps_if (pt_cmp (pc_notN (pv 2)))
        (pss_one (ps_expr (pe_bm PySem.F.plainAttrs_list PySem.F.slot_list_append PySem.F.type_list_append mt_append (pv 1) (pa_cons (pv 2) pa_nil)))) pss_nil)
      (pss_one (ps_ret (pv 1)))))), ?_⟩
    refine ⟨Nat.zero_le _, fun p np => ?_⟩
    refine ⟨_, rfl, a, ns, rfl, (Same.upd np).seq hS, hl, fun q H1 s1 nq hq => ?_⟩
    have npq : q ≠ p := fun e => by rw [e, upd_same] at nq; cases nq
    have s0 : Same H H1 := (Same.upd np).trans s1
    have hp1 : H1 p = some (hInts []) := s1 _ _ upd_same
    have rl := rd_len ns
    refine ⟨q, rfl, ⟨_, SqL.of hq⟩, for_it (walk_list (xs := (rd ns).map V.int)) (fun i σ H' => ∃ (L : List Int) (st : Option Int) (v : Option V), σ = [some (.ref a), some (.ref p), some (vOpt st), v] ∧ Same H H' ∧ H' q = some (hInts (rd ns)) ∧ H' p = some (hInts L) ∧ L.length ≤ i ∧
        L ++ dg st ((rd ns).drop i) = digs ns)
      ⟨[], none, none, rfl, s0, hq, hp1, Nat.zero_le _, dg_rd ns none⟩ (fun i σ H' _ ⟨_, _, _, _, _, hq', _⟩ => SqL.of hq') ?_ ?_⟩
    · rintro i x σ H2 H' hi ⟨L, st, v, rfl, s2, hq2, hp2, hL, hD⟩ ⟨rfl, hx⟩
      obtain ⟨c, hc, rfl⟩ := at_map hx
      have hi' := lt_of_at hc
      have hpos : ¬ c < 0 := rd_pos ns c (List.mem_of_getElem? hc)
      rw [drop_one hc] at hD
      refine ⟨_, rfl, c, rfl, _, rfl, ?_⟩
      refine iteB (fun hd => ?_) (fun hd => ?_)
      · -- a digit
        rw [dg_dig hpos hd] at hD
        cases st with
        | none =>
          refine ⟨_, rfl, _, rfl, iteT ?_⟩
          refine ⟨_, rfl, _, _, rfl, rfl, .inl ⟨by decide, by decide⟩, _, rfl, _, _, rfl, rfl, _, _, rfl, rfl, ?_⟩
          exact ⟨L, some (10 * 0 + c - 48), _, rfl, s2, hq2, hp2, by omega, hD⟩
        | some u =>
          refine ⟨_, rfl, _, rfl, iteF ?_⟩
          refine ⟨_, rfl, _, _, rfl, rfl, .inl ⟨by decide, by decide⟩, _, rfl, _, _, rfl, rfl, _, _, rfl, rfl, ?_⟩
          exact ⟨L, some (10 * u + c - 48), _, rfl, s2, hq2, hp2, by omega, hD⟩
      · rw [dg_oth hpos (by rw [hd]; exact Bool.false_ne_true)] at hD
        cases st with
        | none =>
          refine ⟨_, rfl, _, rfl, iteF ?_⟩
          exact ⟨L, none, _, rfl, s2, hq2, hp2, by omega, hD⟩
        | some u =>
          refine ⟨_, rfl, _, rfl, iteT ?_⟩
          refine ⟨_, rfl, .inl ⟨rfl, _, SqL.of hp2⟩, _, rfl, p, _, _, rfl, rfl, hp2, by rw [List.length_map]; exact small (by omega), ?_⟩
          refine ⟨L ++ [u], none, _, rfl, fun b o e => ?_, by rw [upd_ne npq]; exact hq2, by rw [upd_same, hInts_app]; rfl, by rw [List.length_append, List.length_singleton]; omega, by rw [List.append_assoc]; exact hD⟩
          rw [upd_ne (ne_of_none e np)]
          exact s2 b o e
    · rintro σ H2 ⟨L, st, v, rfl, s2, hq2, hp2, hL, hD⟩
      rw [List.length_map] at hL hD
      rw [List.drop_length] at hD
      cases st with
      | none =>
        refine ⟨_, rfl, _, rfl, iteF ?_⟩
        refine ⟨_, rfl, k p H2 s2 np ?_⟩
        have e : digs ns = L := by rw [← hD]; exact List.append_nil L
        rw [e]
        exact hp2
      | some u =>
        refine ⟨_, rfl, _, rfl, iteT ?_⟩
        refine ⟨_, rfl, .inl ⟨rfl, _, SqL.of hp2⟩, _, rfl, p, _, _, rfl, rfl, hp2, by rw [List.length_map]; exact small (by omega), ?_⟩
        refine ⟨_, rfl, k p _ (fun b o e => ?_) np ?_⟩
        · rw [upd_ne (ne_of_none e np)]
          exact s2 b o e
        · have e : digs ns = L ++ [u] := by rw [← hD]; rfl
          rw [e, upd_same, hInts_app]
          rfl
end
end J93
namespace J93
open PySem PySem.Spec PyProof.Rows L2 He

theorem flat_strs (ys : List Str) : (ys.map V.str).all flatV = true := by
  rw [List.all_map, List.all_eq_true]
  intro x _
  rfl
theorem inV_strs (x : Str) (ys : List Str) : inV (.str x) (ys.map V.str) = decide (x ∈ ys) := by
  unfold inV
  rw [List.any_map]
  show ys.any (fun y => y == x) = _
  by_cases h : x ∈ ys
  · rw [decide_eq_true h]
    exact List.any_eq_true.mpr ⟨x, h, beq_self_eq_true x⟩
  · rw [decide_eq_false h]
    rw [List.any_eq_false]
    intro y hy e
    exact h (by rw [← eq_of_beq e]; exact hy)
theorem eN : ("\n" : Str) = ⟨#[10]⟩ := by decide +kernel
/-- what a recordable text is -/
def lineS (z : Str) : Prop := goodS z ∧ 10 ∉ TL.tl z
theorem line_of {l : Ln} (h : l.Ok) : lineS l.tx := ⟨fun c hc => .inr (l_ok h c hc), l_no10 h⟩

/-! ### promises -/
def sp_is_line0 : Sp := fun vs H Q _ => ∃ z : Str, vs = [.str z] ∧ z.length ≤ 100000 ∧ lineS z ∧ ∀ H', Same H H' → Q (.bl true) H'
def sp_is_line : Sp := fun vs H Q _ => ∃ z : Str, vs = [.str z] ∧ z.length ≤ 100000 ∧ (lineS z → ∀ H', Same H H' → Q (.bl true) H') ∧ (¬ lineS z → ∀ H', Same H H' → Q (.bl false) H')
def LT : List Nat := TL.tl ("abcdefghijklmnopqrstuvwxyz" : Str)
def isNm (x : Str) : Bool := (TL.tl x).all fun c => decide (c ∈ LT)
def sp_is_name : Sp := fun vs H Q _ => ∃ z : Str, vs = [.str z] ∧ 1 ≤ z.length ∧ z.length ≤ 12 ∧ ∀ H', Same H H' → Q (.bl (isNm z)) H'
def wordsOf : Ln → Option (List Str)
  | .text n cs => some [("text" : Str), n.s, mk cs]
  | .text0 n => some [("text" : Str), n.s, Str.empty]
  | .odd0 => none
  | .odd1 => none
  | l => some l.wd
def sp_words_of : Sp := fun vs H Q _ => ∃ l : Ln, vs = [.str l.tx] ∧ l.Ok ∧ (wordsOf l = none → ∀ H', Same H H' → Q .non H') ∧
  ∀ ws, wordsOf l = some ws → ∀ p H', Same H H' → H p = none → H' p = some (hStrs ws) → Q (.ref p) H'
section
variable {P : Program} {w : World} {K : PySem.W.Frag} {mg : Str → Option Value} {base : Heap}
theorem sc_u_is_line : FnScope ["line"] ["line"] (defScope s_u_is_line) := ⟨rfl, rfl, rfl, by decide +kernel, rfl, by decide +kernel, by decide +kernel⟩
theorem ok_u_is_line (T : Tx K w mg) : ∃ fd, FnOk P w K mg base CX0 2 (ga K "_is_line") fd ["line"] sp_is_line0 ∧ Binds K fd ["line"] [] := by
  obtain ⟨fd, F⟩ := T.d_u_is_line
  obtain ⟨fC, GC, bC⟩ := ok_codes (P := P) (base := base) T
  obtain ⟨_, FC⟩ := T.d_codes_of
  refine ⟨fd, ok0 F sc_u_is_line (fun vs H Q E h => ?_) (fun cdv A outer s H vs Q E hr h => ?_), F.bindsN fun _ _ _ _ _ _ us hl => match us, hl with | [_], _ => rfl⟩
  · obtain ⟨z, rfl, _⟩ := h
    rfl
  · obtain ⟨z, rfl, hl, hz, k⟩ := h
    refine ⟨_, pss_cons (ps_if (pt_cmpR op_in_sign pe_str (pv 0) (by rfl)) (pss_one (ps_ret pe_bl)) pss_nil)
      (pss_cons (ps_try_thru0 (pss_one (ps_expr (pe_call GC hr (by rfl) T.g_codes_of FC.kp bC .nil passL (pa_cons (pv 0) pa_nil)))))
      (pss_one (ps_ret pe_bl))), ?_⟩
    refine ⟨_, rfl, 10, z, congrArg V.str eN, rfl, _, rfl, ?_⟩
    refine iteB (fun hb => absurd (of_decide_eq_true hb) hz.2) (fun hb => ?_)
    exact ⟨_, rfl, z, rfl, hl, fun _ p H' s1 _ _ => k H' s1, fun hg => absurd hz.1 hg⟩
theorem sc_is_line : FnScope ["line"] ["line"] (defScope s_is_line) := ⟨rfl, rfl, rfl, by decide +kernel, rfl, by decide +kernel, by decide +kernel⟩
theorem ok_is_line (T : Tx K w mg) : ∃ fd, FnOk P w K mg base CX0 2 (ga K "is_line") fd ["line"] sp_is_line ∧ Binds K fd ["line"] [] := by
  obtain ⟨fd, F⟩ := T.d_is_line
  obtain ⟨fC, GC, bC⟩ := ok_codes (P := P) (base := base) T
  obtain ⟨_, FC⟩ := T.d_codes_of
  refine ⟨fd, ok0 F sc_is_line (fun vs H Q E h => ?_) (fun cdv A outer s H vs Q E hr h => ?_), F.bindsN fun _ _ _ _ _ _ us hl => match us, hl with | [_], _ => rfl⟩
  · obtain ⟨z, rfl, _⟩ := h
    rfl
  · obtain ⟨z, rfl, hl, kT, kF⟩ := h
    refine ⟨_, pss_cons (ps_if (pt_cmpR op_in_sign pe_str (pv 0) (by rfl)) (pss_one (ps_ret pe_bl)) pss_nil)
      (pss_cons (ps_try_only (tb := fun W => tDrop (tCallS (sp_codes K) (WE W) (tCons (tVar 0) tNil))) (ts := fun _ _ _ => tRet (tC (.bl false))) (Wout := fun _ _ _ _ => False) rfl rfl ⟨rfl, by decide, .inl T.gNT⟩ takes0
        (fun W pn xe tk _ => pss_one (ps_expr (pe_callS GC hr rfl T.g_codes_of FC.kp bC (fun σ => passAt tk σ) (by exact (pa_cons (pv 0) pa_nil)))))
        (fun _ _ _ _ _ _ _ => pss_one (ps_ret pe_bl)))
      (pss_one (ps_ret pe_bl))), ?_⟩
    refine ⟨_, rfl, 10, z, congrArg V.str eN, rfl, _, rfl, ?_⟩
    refine iteB (fun hb => kF (fun q => q.2 (of_decide_eq_true hb)) H (Same.refl H)) (fun hb => ?_)
    have h10 := of_decide_eq_false hb
    refine ⟨_, rfl, z, rfl, hl, fun hg p H' s1 _ _ => kT ⟨hg, h10⟩ H' s1, fun hg H' s1 => ?_⟩
    exact ⟨true, T.mNT, fun _ a _ => kF (fun q => hg q.1) H' s1, fun q => nomatch q⟩
theorem sc_is_name : FnScope ["word", "char"] ["word"] (defScope s_is_name) := ⟨rfl, rfl, rfl, by decide +kernel, rfl, by decide +kernel, by decide +kernel⟩
theorem ok_is_name (T : Tx K w mg) : ∃ fd, FnOk P w K mg base CX0 1 (ga K "is_name") fd ["word"] sp_is_name ∧ Binds K fd ["word"] [] := by
  obtain ⟨fd, F⟩ := T.d_is_name
  refine ⟨fd, ok0 F sc_is_name (fun vs H Q E h => ?_) (fun cdv A outer s H vs Q E hr h => ?_), F.bindsN fun _ _ _ _ _ _ us hl => match us, hl with | [_], _ => rfl⟩
  · obtain ⟨z, rfl, _⟩ := h
    rfl
  · obtain ⟨z, rfl, h1, h2, k⟩ := h
    obtain ⟨tL, gL⟩ := T.gLETTERS
    have nd := sc_is_name.nd
    refine ⟨_, pss_one (ps_ret (pe_and (pe_chain op_le op_le pe_int (pe_callB call_len_str (by rfl) T.f_len PySem.boot_len (pa_cons (pv 0) pa_nil)) pe_int)
      (pe_one (pe_callB (cr_all rfl) (by rfl) T.f_all (by decide +kernel) (pa_cons
        (pe_lc (own := [("char", 1)]) (g := gName 1) (tt := tYes) rfl nd (pi_str (pv 0)) (blkOk_by (N := ["word", "char"]) (sc := defScope s_is_name) (by decide +kernel))
          (fun _ _ _ _ _ => pg_name (i := 1) nd rfl (Or.inl rfl)) (fun _ _ _ _ _ => pts_nil) (fun _ _ _ _ _ => pe_cmpR op_in_sign (pv 1) (pe_gs rfl gL) (by rfl))) pa_nil))))), ?_⟩
    refine ⟨_, rfl, _, rfl, Nat.le_trans h2 (by decide), _, _, rfl, rfl, _, rfl, ?_⟩
    refine iteB (fun ha => ?_) (fun ha => absurd (of_decide_eq_false ha) (by omega))
    refine ⟨_, _, rfl, rfl, ?_⟩
    have hd : decide ((z.length : Int) ≤ 12) = true := decide_eq_true (by omega)
    refine ⟨_, rfl, ?_⟩
    rw [hd]
    refine iteT ?_
    refine ⟨_, rfl, z, rfl, fun D nD => lc_it walk_str (fun i H' => Same H H' ∧ H' D = some (.lst ((((TL.tl z).take i).map fun c => decide (c ∈ LT)).map V.bl))) ⟨Same.upd nD, upd_same⟩ (fun _ _ _ _ => trivial) ?_ ?_⟩
    · rintro i x H1 H2 hi ⟨s1, hD⟩ ⟨rfl, c, hc, rfl⟩
      have hc' : (TL.tl z)[i]? = some c := by
        show z.cps.toList[i]? = some c
        rw [Array.getElem?_toList]
        exact hc
      refine ⟨rfl, _, rfl, c, _, rfl, rfl, _, hD, ?_, fun b o e => ?_, ?_⟩
      · rw [List.length_map, List.length_map, List.length_take, ← TL.len_tl]
        exact small (by omega)
      · rw [upd_ne (ne_of_none e nD)]
        exact s1 b o e
      · rw [upd_same, take_one hc', List.map_append, List.map_append]
        rfl
    · rintro H1 ⟨s1, hD⟩
      rw [List.take_of_length_le (by rw [← TL.len_tl]; exact Nat.le_refl _)] at hD
      refine ⟨_, _, rfl, SqL.of hD, ?_⟩
      rw [List.all_map]
      exact k H1 s1
theorem sc_words_of : FnScope ["line", "name", "_", "text", "words"] ["line"] (defScope s_words_of) := ⟨rfl, rfl, rfl, by decide +kernel, rfl, by decide +kernel, by decide +kernel⟩
theorem nm_ne0 (n : Nm) : decide (V.str n.s = V.str ("" : Str)) = false := by cases n <;> decide +kernel
theorem empty_in {ys : List Str} (h : ∀ y ∈ ys, TL.tl y ≠ []) : inV (.str ("" : Str)) (ys.map V.str) = false := by
  rw [inV_strs]
  refine decide_eq_false fun q => h _ q ?_
  rw [w_nil2]
  rfl
theorem B_len : ((" " : Str).length == 0) = false := by decide +kernel
theorem nm_tl_ne (n : Nm) : TL.tl n.s ≠ [] := fun q => by have := nm_len n; rw [TL.len_tl, q] at this; exact absurd this.1 (by decide)
theorem om_tl_ne (o : Om) : TL.tl o.s ≠ [] := fun q => by have := om_len o; rw [TL.len_tl, q] at this; exact absurd this.1 (by decide)
/-- the words of a line that is no text line -/
theorem words_plain {l : Ln} (h : l.isText = false) : (wordsOf l = some l.wd ∧ ∀ y ∈ l.wd, TL.tl y ≠ []) ∨ (wordsOf l = none ∧ inV (.str ("" : Str)) (l.wd.map V.str) = true) := by
  cases l with
  | nums n ns =>
    refine .inl ⟨rfl, fun y hy => ?_⟩
    simp only [Ln.wd, List.mem_cons, List.mem_map] at hy
    rcases hy with rfl | rfl | ⟨k, hk, rfl⟩
    · rw [w_numbers]; simp
    · exact nm_tl_ne n
    · exact str_ne k
  | text n cs => cases h
  | text0 n => cases h
  | shw o =>
    refine .inl ⟨rfl, fun y hy => ?_⟩
    simp only [Ln.wd, List.mem_cons, List.mem_nil_iff, or_false] at hy
    rcases hy with rfl | rfl
    · rw [w_show]; simp
    · exact om_tl_ne o
  | dig n o =>
    refine .inl ⟨rfl, fun y hy => ?_⟩
    simp only [Ln.wd, List.mem_cons, List.mem_nil_iff, or_false] at hy
    rcases hy with rfl | rfl | rfl
    · rw [w_digits]; simp
    · exact nm_tl_ne n
    · exact om_tl_ne o
  | odd0 =>
    refine .inr ⟨rfl, ?_⟩
    rw [inV_strs, w_nil2]
    exact decide_eq_true (by simp [Ln.wd])
  | odd1 =>
    refine .inr ⟨rfl, ?_⟩
    rw [inV_strs, w_nil2]
    exact decide_eq_true (by simp [Ln.wd])
  | odd2 =>
    refine .inl ⟨rfl, fun y hy => ?_⟩
    simp only [Ln.wd, List.mem_cons, List.mem_nil_iff, or_false] at hy
    rcases hy with rfl
    rw [w_nothing]; simp
  | odd3 =>
    refine .inl ⟨rfl, fun y hy => ?_⟩
    simp only [Ln.wd, List.mem_cons, List.mem_nil_iff, or_false] at hy
    rcases hy with rfl | rfl | rfl
    · rw [w_numbers]; simp
    · rw [w_A]; simp
    · rw [w_1]; simp
theorem ok_words_of (T : Tx K w mg) : ∃ fd, FnOk P w K mg base CX0 3 (ga K "words_of") fd ["line"] sp_words_of ∧ Binds K fd ["line"] [] := by
  obtain ⟨fd, F⟩ := T.d_words_of
  obtain ⟨fL, GL, bL⟩ := ok_u_is_line (P := P) (base := base) T
  obtain ⟨_, FL⟩ := T.d_u_is_line
  refine ⟨fd, ok0 F sc_words_of (fun vs H Q E h => ?_) (fun cdv A outer s H vs Q E hr h => ?_), F.bindsN fun _ _ _ _ _ _ us hl => match us, hl with | [_], _ => rfl⟩
  · obtain ⟨z, rfl, _⟩ := h
    rfl
  · obtain ⟨l, rfl, hl, kN, kS⟩ := h
    have nd := sc_words_of.nd
    have hlen := tx_len hl
    refine ⟨_, pss_cons (ps_if (pt_not (pt_val (pe_call GL hr (by rfl) T.g_u_is_line FL.kp bL .nil pass0 (pa_cons (pv 0) pa_nil)))) (pss_one (ps_ret pe_non)) pss_nil)
      (pss_cons (ps_if (pt_val (pe_m1 PySem.F.slot_str_startswith PySem.F.type_str_startswith mt_startswith (pv 0) pe_str))
        (pss_cons (ps_asg (pe_m1 PySem.F.slot_str_partition PySem.F.type_str_partition mt_partition (pe_slice sl_str (pv 0) (po_some pe_int) po_none) pe_str)
            (pg_tup (by rfl) (pgs_cons (pg_name (i := 1) nd rfl (.inl rfl)) (pgs_cons (pg_name (i := 2) nd rfl (.inl rfl)) (pgs_cons (pg_name (i := 3) nd rfl (.inl rfl)) pgs_nil)))))
        (pss_cons (ps_if (pt_cmpR op_eq (pv 1) pe_str (nomark _)) (pss_one (ps_ret pe_non)) pss_nil)
        (pss_one (ps_ret (pe_lst (pa_cons pe_str (pa_cons (pv 1) (pa_cons (pv 3) pa_nil)))))))) pss_nil)
      (pss_cons (ps_set (i := 4) nd rfl (.inl rfl) (pe_m1 PySem.F.slot_str_split PySem.F.type_str_split mt_split (pv 0) pe_str))
      (pss_cons (ps_if (pt_cmpR op_in_seq pe_str (pv 4) (by rfl)) (pss_one (ps_ret pe_non)) pss_nil)
      (pss_one (ps_ret (pv 4)))))), ?_⟩
    refine ⟨_, rfl, l.tx, rfl, Nat.le_trans hlen (by decide), line_of hl, fun H1 s1 => ⟨_, rfl, iteF ?_⟩⟩
    refine ⟨_, rfl, ⟨_, rfl⟩, _, _, rfl, rfl, _, rfl, ?_⟩
    rw [starts_text]
    refine iteB (fun ht => ?_) (fun ht => ?_)
    · -- a text line
      refine ⟨_, rfl, 5, rfl, _, rfl, Nat.le_trans hlen (by decide), ⟨_, rfl⟩, _, _, rfl, rfl, B_len, Nat.le_trans (cutS_length _ _ _) (Nat.le_trans hlen (by decide)), fun p np => ?_⟩
      cases l with
      | text n cs =>
        rw [part_text]
        refine ⟨p, _, rfl, SqT.of upd_same, rfl, _, _, rfl, _, _, rfl, _, _, rfl, rfl, ?_⟩
        refine ⟨_, rfl, rfl, _, rfl, ?_⟩
        rw [nm_ne0]
        refine iteF ⟨_, rfl, _, rfl, by show 3 ≤ sizeLine; decide, fun q nq => ?_⟩
        have s2 := s1.trans (Same.upd (o := .tup [.str n.s, .str (" " : Str), .str (mk cs)]) np)
        exact kS _ rfl q _ (s2.trans (Same.upd nq)) (s2.free nq) upd_same
      | text0 n =>
        rw [part_text0]
        refine ⟨p, _, rfl, SqT.of upd_same, rfl, _, _, rfl, _, _, rfl, _, _, rfl, rfl, ?_⟩
        refine ⟨_, rfl, rfl, _, rfl, ?_⟩
        rw [nm_ne0]
        refine iteF ⟨_, rfl, _, rfl, by show 3 ≤ sizeLine; decide, fun q nq => ?_⟩
        have s2 := s1.trans (Same.upd (o := .tup [.str n.s, .str Str.empty, .str Str.empty]) np)
        exact kS _ rfl q _ (s2.trans (Same.upd nq)) (s2.free nq) upd_same
      | nums n ns => cases ht
      | shw o => cases ht
      | dig n o => cases ht
      | odd0 => cases ht
      | odd1 => cases ht
      | odd2 => cases ht
      | odd3 => cases ht
    · refine ⟨_, rfl, ⟨_, rfl⟩, _, _, rfl, rfl, B_len, Nat.le_trans (Nat.add_le_add_right hlen 2) (by decide), fun p np => ?_⟩
      rw [split_wd ht]
      refine ⟨_, rfl, p, _, rfl, .inl (SqL.of upd_same), rfl, flat_strs _, _, rfl, ?_⟩
      have s2 := s1.trans (Same.upd (o := hStrs l.wd) np)
      rcases words_plain ht with ⟨e, hne⟩ | ⟨e, hin⟩
      · have e2 : (if false = true then !inV (.str ("" : Str)) (l.wd.map V.str) else inV (.str ("" : Str)) (l.wd.map V.str)) = false := empty_in hne
        rw [e2]
        exact iteF ⟨_, rfl, kS _ e p _ s2 (s1.free np) upd_same⟩
      · have e2 : (if false = true then !inV (.str ("" : Str)) (l.wd.map V.str) else inV (.str ("" : Str)) (l.wd.map V.str)) = true := hin
        rw [e2]
        exact iteT (kN e _ s2)
end
end J93
namespace J93
open PySem PySem.Spec PyProof.Rows L2 He

/-! ### promises of the law's own small defs -/
def sp_number : Sp := fun vs H Q _ => ∃ n : Int, vs = [.int n] ∧ Q (.int (n.natAbs : Int)) H
/-- draws: numbers from 0 to 999 -/
def Drw (ds : List Int) : Prop := ∀ d ∈ ds, 0 ≤ d ∧ d < 1000
def sp_next : Sp := fun vs H Q _ => ∃ (a : Addr) (ds : List Int), vs = [.ref a] ∧ H a = some (hInts ds) ∧ Drw ds ∧
  ∀ (d : Int) (ds' : List Int), 0 ≤ d → d < 1000 → Drw ds' → ds'.length ≤ ds.length → Q (.int d) (upd H a (hInts ds'))
def sp_char : Sp := fun vs H Q _ => ∃ d : Int, vs = [.int d] ∧ 0 ≤ d ∧ ∀ c : Nat, c ∈ PR → Q (.str ⟨#[c]⟩) H
def sp_digits (K : PySem.W.Frag) : Sp := fun vs H Q _ => ∃ (a : Addr) (ns : List Int), vs = [.ref a] ∧ SqL K H a (ns.map V.int) ∧ ns.length ≤ 100000 ∧
  ∀ p H', Same H H' → H p = none → H' p = some (hInts (digs ns)) → Q (.ref p) H'
section
variable {P : Program} {w : World} {K : PySem.W.Frag} {mg : Str → Option Value} {base : Heap}
theorem sc_number : FnScope ["_law_cell"] ["_law_cell"] (defScope s_number) := ⟨rfl, rfl, rfl, by decide +kernel, rfl, by decide +kernel, by decide +kernel⟩
theorem ok_number (T : Tx K w mg) : ∃ fd, FnOk P w K mg base CX0 1 (ga K "_law_number") fd ["_law_cell"] sp_number ∧ Binds K fd ["_law_cell"] [] := by
  obtain ⟨fd, F⟩ := T.d_number
  refine ⟨fd, ok0 F sc_number (fun vs H Q E h => ?_) (fun cdv A outer s H vs Q E hr h => ?_), F.bindsN fun _ _ _ _ _ _ us hl => match us, hl with | [_], _ => rfl⟩
  · obtain ⟨n, rfl, _⟩ := h
    rfl
  · obtain ⟨n, rfl, k⟩ := h
    refine ⟨_, pss_cons (ps_if (pt_cmpR op_lt (pv 0) pe_int (nomark _)) (pss_one (ps_ret (pe_op op_sub pe_int (pv 0)))) pss_nil) (pss_one (ps_ret (pv 0))), ?_⟩
    refine ⟨_, rfl, _, _, rfl, rfl, _, rfl, ?_⟩
    refine iteB (fun hb => ?_) (fun hb => ?_)
    · have hb' : n < 0 := of_decide_eq_true hb
      refine ⟨_, rfl, _, _, rfl, rfl, ?_⟩
      show Q (V.int (0 - n)) H
      rw [show (0 - n : Int) = (n.natAbs : Int) by omega]
      exact k
    · have hb' : ¬ n < 0 := of_decide_eq_false hb
      refine ⟨_, rfl, ?_⟩
      rw [show (n.natAbs : Int) = n by omega] at k
      exact k
theorem sc_next : FnScope ["_law_draws_here"] ["_law_draws_here"] (defScope s_next) := ⟨rfl, rfl, rfl, by decide +kernel, rfl, by decide +kernel, by decide +kernel⟩
theorem dropLast_map {α β : Type} (f : α → β) (l : List α) : (l.map f).dropLast = l.dropLast.map f := by
  rw [List.dropLast_eq_take, List.dropLast_eq_take, List.length_map, List.map_take]
theorem ok_next (T : Tx K w mg) : ∃ fd, FnOk P w K mg base CX0 1 (ga K "_law_next") fd ["_law_draws_here"] sp_next ∧ Binds K fd ["_law_draws_here"] [] := by
  obtain ⟨fd, F⟩ := T.d_next
  refine ⟨fd, ok0 F sc_next (fun vs H Q E h => ?_) (fun cdv A outer s H vs Q E hr h => ?_), F.bindsN fun _ _ _ _ _ _ us hl => match us, hl with | [_], _ => rfl⟩
  · obtain ⟨a, ds, rfl, _⟩ := h
    rfl
  · obtain ⟨a, ds, rfl, ha, hd, k⟩ := h
    refine ⟨_, pss_cons (ps_if (pt_truth (pv 0) (by intro _; rfl)) (pss_one (ps_ret (pe_bm0 PySem.F.plainAttrs_list PySem.F.slot_list_pop PySem.F.type_list_pop mt_pop (pv 0)))) pss_nil) (pss_one (ps_ret pe_int)), ?_⟩
    refine ⟨_, rfl, _, .inl ⟨_, SqL.of ha, rfl⟩, ?_⟩
    cases ds with
    | nil =>
      refine iteF ?_
      have e : upd H a (hInts []) = H := by
        funext b
        unfold upd
        split
        · rename_i h; rw [h, ha]
        · rfl
      have := k 0 [] (by omega) (by omega) (fun d hd => by cases hd) (Nat.le_refl _)
      rw [e] at this
      exact this
    | cons d r =>
      refine iteT ?_
      obtain ⟨y, hy⟩ : ∃ y, (d :: r)[(d :: r).length - 1]? = some y := ⟨_, List.getElem?_eq_getElem (by simp)⟩
      have hm : y ∈ d :: r := List.mem_of_getElem? hy
      refine ⟨_, rfl, .inl ⟨rfl, _, SqL.of ha⟩, a, _, V.int y, rfl, rfl, ha, ?_, ?_⟩
      · rw [List.length_map, List.getElem?_map, hy]
        rfl
      · rw [dropLast_map]
        exact k y (d :: r).dropLast (hd y hm).1 (hd y hm).2 (fun z hz => hd z (List.mem_of_mem_take (by rw [List.dropLast_eq_take] at hz; exact hz))) (by rw [List.length_dropLast]; omega)
theorem sc_char : FnScope ["_law_draw", "_law_chars"] ["_law_draw"] (defScope s_char) := ⟨rfl, rfl, rfl, by decide +kernel, rfl, by decide +kernel, by decide +kernel⟩
theorem PR_two : TL.tl ((" !\"#$&'()*+,-./0123456789:;<=>?@ABCDEFGHIJKLMNOPQRSTUVWXYZ[\\]^_`" : Str) ++ ("abcdefghijklmnopqrstuvwxyz{|}~" : Str)) = PR := by decide +kernel
theorem ok_char (T : Tx K w mg) : ∃ fd, FnOk P w K mg base CX0 1 (ga K "_law_char") fd ["_law_draw"] sp_char ∧ Binds K fd ["_law_draw"] [] := by
  obtain ⟨fd, F⟩ := T.d_char
  refine ⟨fd, ok0 F sc_char (fun vs H Q E h => ?_) (fun cdv A outer s H vs Q E hr h => ?_), F.bindsN fun _ _ _ _ _ _ us hl => match us, hl with | [_], _ => rfl⟩
  · obtain ⟨d, rfl, _⟩ := h
    rfl
  · obtain ⟨d, rfl, h0, k⟩ := h
    have nd := sc_char.nd
    refine ⟨_, pss_cons (ps_set (i := 1) nd rfl (.inl rfl) pe_str) (pss_cons (ps_set (i := 1) nd rfl (.inl rfl) (pe_op op_add_str (pv 1) pe_str))
      (pss_one (ps_ret (pe_ix ix_str (pv 1) (pe_op op_mod (pe_callTy call_int1 (by rfl) T.f_int (by decide +kernel) (pa_cons (pv 0) pa_nil)) pe_int) (fun _ _ => rfl))))), ?_⟩
    have hl : ((" !\"#$&'()*+,-./0123456789:;<=>?@ABCDEFGHIJKLMNOPQRSTUVWXYZ[\\]^_`" : Str) ++ ("abcdefghijklmnopqrstuvwxyz{|}~" : Str)).length = 94 := by decide +kernel
    refine ⟨_, rfl, _, _, rfl, rfl, by rw [show ((" !\"#$&'()*+,-./0123456789:;<=>?@ABCDEFGHIJKLMNOPQRSTUVWXYZ[\\]^_`" : Str)).length + ("abcdefghijklmnopqrstuvwxyz{|}~" : Str).length = 94 from by decide +kernel]; decide, ?_⟩
    refine ⟨_, rfl, _, rfl, .inl ⟨_, rfl, _, _, rfl, rfl, (by show (0 : Int) < 94; decide), ?_⟩⟩
    have hlt : d % 94 < 94 := Int.emod_lt_of_pos d (by decide)
    have hge : 0 ≤ d % 94 := Int.emod_nonneg d (by decide)
    obtain ⟨j, hj⟩ : ∃ j : Nat, d % 94 = (j : Int) := ⟨(d % 94).toNat, by omega⟩
    obtain ⟨c, hc⟩ : ∃ c, PR[j]? = some c := ⟨_, List.getElem?_eq_getElem (by rw [PR_len]; omega)⟩
    refine ⟨_, _, c, rfl, rfl, by rw [hl]; decide, ?_, k c (List.mem_of_getElem? hc)⟩
    rw [hj]
    refine atI_nat ?_
    have e := PR_two
    unfold TL.tl at e
    rw [e]
    exact hc
theorem sc_digits : FnScope ["_law_codes", "_law_numbers", "_law_inside", "_law_code"] ["_law_codes"] (defScope s_digits) := ⟨rfl, rfl, rfl, by decide +kernel, rfl, by decide +kernel, by decide +kernel⟩
/-- the numbers so far, as the law's own reader holds them -/
def held (L : List Int) : Option Int → List Int
  | none => L
  | some v => L ++ [v]
theorem ok_digits (T : Tx K w mg) : ∃ fd, FnOk P w K mg base CX0 1 (ga K "_law_digits") fd ["_law_codes"] (sp_digits K) ∧ Binds K fd ["_law_codes"] [] := by
  obtain ⟨fd, F⟩ := T.d_digits
  refine ⟨fd, ok0 F sc_digits (fun vs H Q E h => ?_) (fun cdv A outer s H vs Q E hr h => ?_), F.bindsN fun _ _ _ _ _ _ us hl => match us, hl with | [_], _ => rfl⟩
  · obtain ⟨a, ns, rfl, _⟩ := h
    rfl
  · obtain ⟨a, ns, rfl, hS, hl, k⟩ := h
    have nd := sc_digits.nd
    refine ⟨_, pss_cons (ps_set (i := 1) nd rfl (.inl rfl) (pe_lst pa_nil))
      (pss_cons (ps_set (i := 2) nd rfl (.inl rfl) pe_bl)
      (pss_cons (ps_for PassesOwn.never rfl (pi_list (pv 0)) (pg_name (i := 3) nd rfl (.inl rfl))
        (pss_cons (ps_if (pt_cmpR op_lt (pv 3) pe_int (nomark _)) (pss_one ps_break) pss_nil)
        (pss_one (ps_if (pt_chain op_le op_le pe_int (pv 3) pe_int)
          (pss_cons (ps_if (pt_not (pt_val (pv 2))) (pss_one (ps_expr (pe_bm PySem.F.plainAttrs_list PySem.F.slot_list_append PySem.F.type_list_append mt_append (pv 1) (pa_cons pe_int pa_nil)))) pss_nil)
          (pss_cons (ps_expr (pe_bm PySem.F.plainAttrs_list PySem.F.slot_list_append PySem.F.type_list_append mt_append (pv 1)
              (pa_cons (pe_op op_sub (pe_op op_add (pe_op op_mul pe_int (pe_bm0 PySem.F.plainAttrs_list PySem.F.slot_list_pop PySem.F.type_list_pop mt_pop (pv 1))) (pv 3)) pe_int) pa_nil)))
          (pss_one (ps_set (i := 2) nd rfl (.inl rfl) pe_bl))))
          (pss_one (ps_set (i := 2) nd rfl (.inl rfl) pe_bl))))))
      (pss_one (ps_ret (pv 1))))), ?_⟩
    refine ⟨Nat.zero_le _, fun p np => ?_⟩
    refine ⟨_, rfl, a, rfl, ⟨_, (Same.upd np).seq hS⟩, for_it (walk_list (xs := ns.map V.int)) (fun i σ H' => ∃ (L : List Int) (st : Option Int) (v : Option V), σ = [some (.ref a), some (.ref p), some (.bl st.isSome), v] ∧ Same H H' ∧ H' p = some (hInts (held L st)) ∧ (held L st).length ≤ i ∧
        L ++ dg st (ns.drop i) = digs ns)
      ⟨[], none, none, rfl, Same.upd np, upd_same, Nat.zero_le _, rfl⟩ (fun i σ H' _ ⟨_, _, _, _, s1, _⟩ => s1.seq hS) ?_ ?_⟩
    · rintro i x σ H2 H' hi ⟨L, st, v, rfl, s2, hp, hL, hD⟩ ⟨rfl, hx⟩
      obtain ⟨c, hc, rfl⟩ := at_map hx
      have hi' := lt_of_at hc
      rw [drop_one hc] at hD
      have keep : ∀ o, Same H (upd H' p o) := fun o b u e => by
        rw [upd_ne (ne_of_none e np)]
        exact s2 b u e
      refine ⟨_, rfl, _, _, rfl, rfl, _, rfl, ?_⟩
      refine iteB (fun hn => ?_) (fun hn => ?_)
      · -- a negative integer ends it
        have hn' : c < 0 := of_decide_eq_true hn
        rw [dg_neg hn'] at hD
        refine ⟨_, rfl, k p H' s2 np ?_⟩
        have e : held L st = digs ns := by
          rw [← hD]
          cases st with
          | none => exact (List.append_nil L).symm
          | some u => rfl
        rw [← e]
        exact hp
      · have hn' : ¬ c < 0 := of_decide_eq_false hn
        have other : ¬ isD c = true → ∃ (L' : List Int) (st' : Option Int) (v' : Option V), [some (V.ref a), some (.ref p), some (.bl false), some (.int c)] = [some (.ref a), some (.ref p), some (.bl st'.isSome), v'] ∧ Same H H' ∧ H' p = some (hInts (held L' st')) ∧
            (held L' st').length ≤ i + 1 ∧ L' ++ dg st' (ns.drop (i + 1)) = digs ns := fun hd => by
          rw [dg_oth hn' hd] at hD
          refine ⟨held L st, none, _, rfl, s2, hp, by show (held L st).length ≤ i + 1; omega, ?_⟩
          rw [← hD, ← List.append_assoc]
          refine congrArg (fun z => z ++ dg none (ns.drop (i + 1))) ?_
          cases st with
          | none => exact (List.append_nil L).symm
          | some u => rfl
        refine ⟨_, rfl, _, _, rfl, rfl, _, rfl, ?_⟩
        refine iteB (fun ha => ?_) (fun ha => ?_)
        · refine ⟨_, _, rfl, rfl, _, rfl, ?_⟩
          refine iteB (fun hb => ?_) (fun hb => ?_)
          · have hd : isD c = true := isD_iff.mpr ⟨of_decide_eq_true ha, of_decide_eq_true hb⟩
            rw [dg_dig hn' hd] at hD
            cases st with
            | none =>
              refine ⟨_, rfl, _, rfl, iteT ?_⟩
              refine ⟨_, rfl, .inl ⟨rfl, _, SqL.of hp⟩, p, _, _, rfl, rfl, hp, by rw [List.length_map]; exact small (by omega), ?_⟩
              refine ⟨_, rfl, .inl ⟨rfl, _, SqL.of upd_same⟩, _, rfl, .inl ⟨rfl, _, SqL.of upd_same⟩, p, _, V.int 0, rfl, rfl, upd_same, ?_, ?_⟩
              · rw [List.length_append, List.length_singleton, Nat.add_sub_cancel, List.getElem?_append_right (Nat.le_refl _), Nat.sub_self]
                rfl
              · refine ⟨_, _, rfl, rfl, .inl ⟨by decide, by decide⟩, _, rfl, _, _, rfl, rfl, _, _, rfl, rfl, p, _, _, rfl, rfl, upd_same, ?_, ?_⟩
                · rw [List.dropLast_concat, List.length_map]
                  exact small (by omega)
                · refine ⟨L, some (10 * 0 + c - 48), _, rfl, ?_, ?_, ?_, hD⟩
                  · rw [upd_upd, upd_upd]
                    exact keep _
                  · rw [upd_same, List.dropLast_concat]
                    show _ = some (hInts (L ++ [10 * 0 + c - 48]))
                    rw [hInts_app]
                    rfl
                  · show (L ++ [_]).length ≤ i + 1
                    rw [List.length_append, List.length_singleton]
                    have : (held L none).length = L.length := rfl
                    omega
            | some u =>
              have hp' : H' p = some (.lst (L.map V.int ++ [V.int u])) := by
                rw [hp]
                show some (hInts (L ++ [u])) = _
                rw [hInts_app]
                rfl
              have hLl : (held L (some u)).length = L.length + 1 := by show (L ++ [u]).length = _; rw [List.length_append, List.length_singleton]
              refine ⟨_, rfl, _, rfl, iteF ?_⟩
              refine ⟨_, rfl, .inl ⟨rfl, _, SqL.of hp'⟩, _, rfl, .inl ⟨rfl, _, SqL.of hp'⟩, p, _, V.int u, rfl, rfl, hp', ?_, ?_⟩
              · rw [List.length_append, List.length_singleton, Nat.add_sub_cancel, List.getElem?_append_right (Nat.le_refl _), Nat.sub_self]
                rfl
              · refine ⟨_, _, rfl, rfl, .inl ⟨by decide, by decide⟩, _, rfl, _, _, rfl, rfl, _, _, rfl, rfl, p, _, _, rfl, rfl, upd_same, ?_, ?_⟩
                · rw [List.dropLast_concat, List.length_map]
                  exact small (by omega)
                · refine ⟨L, some (10 * u + c - 48), _, rfl, ?_, ?_, ?_, hD⟩
                  · rw [upd_upd]
                    exact keep _
                  · rw [upd_same, List.dropLast_concat]
                    show _ = some (hInts (L ++ [10 * u + c - 48]))
                    rw [hInts_app]
                    rfl
                  · show (L ++ [_]).length ≤ i + 1
                    rw [List.length_append, List.length_singleton]
                    omega
          · exact other fun hd => absurd (isD_iff.mp hd).2 (of_decide_eq_false hb)
        · exact ⟨_, rfl, iteF (other fun hd => absurd (isD_iff.mp hd).1 (of_decide_eq_false ha))⟩
    · rintro σ H2 ⟨L, st, v, rfl, s2, hp, hL, hD⟩
      rw [List.length_map, List.drop_length] at hD
      refine ⟨_, rfl, k p H2 s2 np ?_⟩
      have e : held L st = digs ns := by
        rw [← hD]
        cases st with
        | none => exact (List.append_nil L).symm
        | some u => rfl
      rw [← e]
      exact hp
end
end J93
namespace J93
open PySem PySem.Spec PyProof.Rows L2 He

/-- all that was tracked, but the object at a, is as it was -/
def Off (a : Addr) (H H' : Hp) : Prop := ∀ b o, H b = some o → b ≠ a → H' b = some o
theorem Off.refl (a : Addr) (H : Hp) : Off a H H := fun _ _ h _ => h
theorem Off.trans {a : Addr} {H H1 H2 : Hp} (x : Off a H H1) (y : Off a H1 H2) : Off a H H2 := fun b o h n => y b o (x b o h n) n
theorem Off.upd (a : Addr) (H : Hp) (o : HO) : Off a H (L2.upd H a o) := fun b u h n => by rw [upd_ne n]; exact h
theorem Off.new {a p : Addr} {H : Hp} {o : HO} (h : H p = none) : Off a H (L2.upd H p o) := fun b u e _ => Same.upd h b u e
theorem Off.of {a : Addr} {H H' : Hp} (s : Same H H') : Off a H H' := fun b o h _ => s b o h

def sp_draws (K : PySem.W.Frag) : Sp := fun vs H Q _ => ∃ (a : Addr) (ns : List Int), vs = [.ref a] ∧ SqL K H a (ns.map V.int) ∧ ns.length ≤ 63 ∧
  ∀ p ds H', Same H H' → H p = none → H' p = some (hInts ds) → Drw ds → ds.length ≤ 3780 → Q (.ref p) H'
def sp_line : Sp := fun vs H Q _ => ∃ (a : Addr) (ds : List Int), vs = [.ref a] ∧ H a = some (hInts ds) ∧ Drw ds ∧
  ∀ (l : Ln) (ds' : List Int) (H' : Hp), l.Ok → Drw ds' → ds'.length ≤ ds.length → H' a = some (hInts ds') → Off a H H' → Q (.str l.tx) H'
theorem Drw.one {d : Int} (h0 : 0 ≤ d) (h1 : d < 1000) : Drw [d] := fun x hx => by
  rw [List.mem_singleton.mp hx]
  exact ⟨h0, h1⟩
theorem Drw.app {a b : List Int} (ha : Drw a) (hb : Drw b) : Drw (a ++ b) := fun x hx => (List.mem_append.mp hx).elim (ha x) (hb x)
section
variable {P : Program} {w : World} {K : PySem.W.Frag} {mg : Str → Option Value} {base : Heap}
theorem sc_draws : FnScope ["_law_script", "_law_draws_here", "_law_cell", "_law_rest", "_law_k", "_law_once", "_law_twice"] ["_law_script"] (defScope s_draws) := ⟨rfl, rfl, rfl, by decide +kernel, rfl, by decide +kernel, by decide +kernel⟩
theorem ok_draws (T : Tx K w mg) : ∃ fd, FnOk P w K mg base CX0 2 (ga K "_law_draws") fd ["_law_script"] (sp_draws K) ∧ Binds K fd ["_law_script"] [] := by
  obtain ⟨fd, F⟩ := T.d_draws
  obtain ⟨fN, GN, bN⟩ := ok_number (P := P) (base := base) T
  obtain ⟨_, FN⟩ := T.d_number
  refine ⟨fd, ok0 F sc_draws (fun vs H Q E h => ?_) (fun cdv A outer s H vs Q E hr h => ?_), F.bindsN fun _ _ _ _ _ _ us hl => match us, hl with | [_], _ => rfl⟩
  · obtain ⟨a, ns, rfl, _⟩ := h
    rfl
  · obtain ⟨a, ns, rfl, hS, hl, k⟩ := h
    have nd := sc_draws.nd
    refine ⟨_, pss_cons (ps_set (i := 1) nd rfl (.inl rfl) (pe_lst pa_nil))
      (pss_cons (ps_for PassesOwn.never rfl (pi_list (pv 0)) (pg_name (i := 2) nd rfl (.inl rfl))
        (pss_cons (ps_set (i := 3) nd rfl (.inl rfl) (pe_call GN hr (by rfl) T.g_number FN.kp bN .nil pass0 (pa_cons (pv 2) pa_nil)))
        (pss_one (ps_if (pt_cmpR op_ge (pv 3) pe_int (nomark _))
          (pss_one (ps_for PassesOwn.never rfl (pi_range1 rfl T.f_range (pa_cons pe_int pa_nil)) (pg_name (i := 4) nd rfl (.inl rfl))
            (pss_cons (ps_if (pt_cmpR op_eq (pv 3) pe_int (nomark _)) (pss_one ps_break) pss_nil)
            (pss_cons (ps_expr (pe_bm PySem.F.plainAttrs_list PySem.F.slot_list_append PySem.F.type_list_append mt_append (pv 1)
                (pa_cons (pe_op op_mod (pe_callTy call_int1 (by rfl) T.f_int (by decide +kernel) (pa_cons (pv 3) pa_nil)) pe_int) pa_nil)))
            (pss_one (ps_set (i := 3) nd rfl (.inl rfl) (pe_op op_fdiv (pv 3) pe_int)))))))
          (pss_cons (ps_set (i := 5) nd rfl (.inl rfl) (pe_op op_mod (pe_callTy call_int1 (by rfl) T.f_int (by decide +kernel) (pa_cons (pe_op op_add (pe_op op_mul (pv 3) pe_int) pe_int) pa_nil)) pe_int))
          (pss_cons (ps_set (i := 6) nd rfl (.inl rfl) (pe_op op_mod (pe_callTy call_int1 (by rfl) T.f_int (by decide +kernel) (pa_cons (pe_op op_add (pe_op op_mul (pv 5) pe_int) (pv 3)) pa_nil)) pe_int))
          (pss_one (ps_expr (pe_bm PySem.F.plainAttrs_list PySem.F.slot_list_extend PySem.F.type_list_extend mt_extend (pv 1) (pa_cons (pe_lst
            (pa_cons (pe_op op_mod (pe_callTy call_int1 (by rfl) T.f_int (by decide +kernel) (pa_cons (pv 3) pa_nil)) pe_int)
            (pa_cons (pe_op op_mod (pe_callTy call_int1 (by rfl) T.f_int (by decide +kernel) (pa_cons (pv 5) pa_nil)) pe_int)
            (pa_cons (pe_op op_mod (pe_callTy call_int1 (by rfl) T.f_int (by decide +kernel) (pa_cons (pv 6) pa_nil)) pe_int) pa_nil)))) pa_nil))))))))))
      (pss_one (ps_ret (pv 1)))), ?_⟩
    refine ⟨Nat.zero_le _, fun p np => ?_⟩
    have pos1000 : ∀ x : Int, 0 ≤ x % 1000 ∧ x % 1000 < 1000 := fun x => ⟨Int.emod_nonneg x (by decide), Int.emod_lt_of_pos x (by decide)⟩
    refine ⟨_, rfl, a, rfl, ⟨_, (Same.upd np).seq hS⟩, for_it (walk_list (xs := ns.map V.int)) (fun i σ H' => ∃ (ds : List Int) (v2 v3 v4 v5 v6 : Option V), σ = [some (.ref a), some (.ref p), v2, v3, v4, v5, v6] ∧ Same H H' ∧ H' p = some (hInts ds) ∧ Drw ds ∧ ds.length ≤ 60 * i)
      ⟨[], none, none, none, none, none, rfl, Same.upd np, upd_same, (fun d hd => by cases hd), Nat.zero_le _⟩ (fun i σ H' _ ⟨_, _, _, _, _, _, _, s1, _⟩ => s1.seq hS) ?_ ?_⟩
    · rintro i x σ H2 H' hi ⟨ds, v2, v3, v4, v5, v6, rfl, s2, hp, hD, hL⟩ ⟨rfl, hx⟩
      obtain ⟨c, hc, rfl⟩ := at_map hx
      have hi' := lt_of_at hc
      refine ⟨_, rfl, c, rfl, ?_⟩
      refine ⟨_, rfl, _, _, rfl, rfl, _, rfl, ?_⟩
      refine iteB (fun hb => ?_) (fun hb => ?_)
      · refine ⟨60, rfl, by decide, by decide, for_it walk_range (fun j σ H3 => ∃ (es : List Int) (r : Int) (w4 : Option V), σ = [some (.ref a), some (.ref p), some (.int c), some (.int r), w4, v5, v6] ∧ Same H H3 ∧ H3 p = some (hInts es) ∧ Drw es ∧ es.length ≤ 60 * i + j)
          ⟨ds, _, v4, rfl, s2, hp, hD, by omega⟩ (fun _ _ _ _ _ => trivial) ?_ ?_⟩
        · rintro j x σ H4 H3 hj ⟨es, r, w4, rfl, s3, hp3, hE, hM⟩ ⟨rfl, rfl⟩
          have hj' : j < 60 := hj
          refine ⟨_, rfl, rfl, _, rfl, ?_⟩
          refine iteB (fun hz => ?_) (fun hz => ?_)
          · exact ⟨es, _, _, _, _, _, rfl, s3, hp3, hE, by omega⟩
          · refine ⟨_, rfl, .inl ⟨rfl, _, SqL.of hp3⟩, _, rfl, .inl ⟨_, rfl, _, _, rfl, rfl, (by show (0 : Int) < 1000; decide), p, _, _, rfl, rfl, hp3, by rw [List.length_map]; exact small (by omega), ?_⟩⟩
            refine ⟨_, rfl, _, _, rfl, rfl, ⟨by decide, by decide⟩, ?_⟩
            refine ⟨es ++ [r % 1000], r / 1000, _, rfl, fun b o e => ?_, ?_, hE.app (Drw.one (pos1000 r).1 (pos1000 r).2), by rw [List.length_append, List.length_singleton]; omega⟩
            · rw [upd_ne (ne_of_none e np)]
              exact s3 b o e
            · rw [upd_same, hInts_app]
              rfl
        · rintro σ H3 ⟨es, r, w4, rfl, s3, hp3, hE, hM⟩
          have hM' : es.length ≤ 60 * i + 60 := hM
          exact ⟨es, _, _, _, _, _, rfl, s3, hp3, hE, by omega⟩
      · refine ⟨_, rfl, _, _, rfl, rfl, .inr ⟨by decide, by decide⟩, _, _, rfl, rfl, .inl ⟨_, rfl, _, _, rfl, rfl, (by show (0 : Int) < 2147483647; decide), ?_⟩⟩
        refine ⟨_, rfl, _, _, rfl, rfl, .inr ⟨by decide, by decide⟩, _, rfl, _, _, rfl, rfl, .inl ⟨_, rfl, _, _, rfl, rfl, (by show (0 : Int) < 2147483629; decide), ?_⟩⟩
        refine ⟨_, rfl, .inl ⟨rfl, _, SqL.of hp⟩, _, rfl, .inl ⟨_, rfl, _, _, rfl, rfl, (by show (0 : Int) < 1000; decide), _, rfl, .inl ⟨_, rfl, _, _, rfl, rfl, (by show (0 : Int) < 1000; decide), _, rfl, .inl ⟨_, rfl, _, _, rfl, rfl, (by show (0 : Int) < 1000; decide),
          by show 3 ≤ sizeLine; decide, fun q nq => ?_⟩⟩⟩⟩
        have npq : p ≠ q := ne_of_none hp nq
        refine ⟨p, q, _, _, rfl, rfl, by rw [upd_ne npq]; exact hp, upd_same, ?_, ?_⟩
        · rw [List.length_map]
          show ds.length + 3 ≤ sizeLine
          exact smallE (by omega)
        · refine ⟨ds ++ [(c.natAbs : Int) % 1000, (((c.natAbs : Int) * 48271 + 11) % 2147483647) % 1000, (((((c.natAbs : Int) * 48271 + 11) % 2147483647) * 69621 + (c.natAbs : Int)) % 2147483629) % 1000], _, _, _, _, _, rfl, fun b o e => ?_, ?_, hD.app ((Drw.one (pos1000 _).1 (pos1000 _).2).app ((Drw.one (pos1000 _).1 (pos1000 _).2).app (Drw.one (pos1000 _).1 (pos1000 _).2))), ?_⟩
          · rw [upd_ne (ne_of_none e np)]
            exact Same.upd nq b o (s2 b o e)
          · rw [upd_same, hInts_app]
            rfl
          · rw [List.length_append]
            show ds.length + 3 ≤ _
            omega
    · rintro σ H2 ⟨ds, v2, v3, v4, v5, v6, rfl, s2, hp, hD, hL⟩
      rw [List.length_map] at hL
      exact ⟨_, rfl, k p ds H2 s2 np hp hD (by omega)⟩
end
end J93
namespace J93
open PySem PySem.Spec PyProof.Rows L2 He

/-! ### the texts that _law_line builds -/
theorem nm_at {j : Nat} (h : j < 3) : ∃ n : Nm, ([V.str "a", V.str "b", V.str "cc"] : List V)[j]? = some (.str n.s) := by
  match j, h with
  | 0, _ => exact ⟨.a, rfl⟩
  | 1, _ => exact ⟨.b, rfl⟩
  | 2, _ => exact ⟨.cc, rfl⟩
theorem om_at {j : Nat} (h : j < 4) : ∃ o : Om, ([V.str "a", V.str "b", V.str "cc", V.str "none"] : List V)[j]? = some (.str o.s) := by
  match j, h with
  | 0, _ => exact ⟨.nm .a, rfl⟩
  | 1, _ => exact ⟨.nm .b, rfl⟩
  | 2, _ => exact ⟨.nm .cc, rfl⟩
  | 3, _ => exact ⟨.no, rfl⟩
theorem tx_shw (o : Om) : ("show " : Str) ++ o.s = (Ln.shw o).tx := TL.ext_tl (by
  rw [TL.tl_append, w_showB]
  show _ = TL.tl ("show" : Str) ++ ([32] ++ TL.tl o.s)
  rw [w_show]
  rfl)
theorem tx_dig (n : Nm) (o : Om) : ("digits " : Str) ++ n.s ++ (" " : Str) ++ o.s = (Ln.dig n o).tx := TL.ext_tl (by
  rw [TL.tl_append, TL.tl_append, TL.tl_append, w_digitsB, w_B]
  show _ = TL.tl ("digits" : Str) ++ ([32] ++ (TL.tl n.s ++ ([32] ++ TL.tl o.s)))
  rw [w_digits]
  simp)
theorem tx_text0 (n : Nm) : ("text " : Str) ++ n.s = (Ln.text0 n).tx := TL.ext_tl (by
  rw [TL.tl_append, w_textB]
  show _ = TL.tl ("text" : Str) ++ ([32] ++ TL.tl n.s)
  rw [w_text]
  rfl)
def one (c : Nat) : Str := ⟨#[c]⟩
theorem tl_join_one (cs : List Nat) : TL.tl (Txt.join ("" : Str) (cs.map one)) = cs := by
  rw [w_nil2, tl_join0, List.map_map]
  show (cs.map fun c => [c]).flatten = cs
  induction cs with
  | nil => rfl
  | cons c r ih => rw [List.map_cons, List.flatten_cons, ih] <;> rfl
theorem tx_text (n : Nm) (cs : List Nat) : ("text " : Str) ++ n.s ++ (" " : Str) ++ Txt.join ("" : Str) (cs.map one) = (Ln.text n cs).tx := TL.ext_tl (by
  rw [TL.tl_append, TL.tl_append, TL.tl_append, w_textB, w_B, tl_join_one]
  show _ = TL.tl ("text" : Str) ++ ([32] ++ (TL.tl n.s ++ ([32] ++ cs)))
  rw [w_text]
  simp)
theorem tx_nums (n : Nm) (ns : List Int) : Txt.join (" " : Str) (("numbers" : Str) :: n.s :: ns.map str) = (Ln.nums n ns).tx := (tx_join (Ln.nums n ns)).symm
theorem odd_at {j : Nat} (h : j = 0 ∨ j = 2 ∨ j = 4 ∨ j = 6) :
    ∃ l : Ln, l.Ok ∧ ([V.str "", V.str " show a", V.str "show  a", V.str "numbers a 01", V.str "nothing", V.str "show", V.str "numbers A 1", V.str "show a b"] : List V)[j]? = some (.str l.tx) := by
  rcases h with rfl | rfl | rfl | rfl
  · exact ⟨.odd0, trivial, by rw [show Ln.odd0.tx = ("" : Str) from by decide +kernel]; rfl⟩
  · exact ⟨.odd1, trivial, by rw [show Ln.odd1.tx = ("show  a" : Str) from by decide +kernel]; rfl⟩
  · exact ⟨.odd2, trivial, by rw [show Ln.odd2.tx = ("nothing" : Str) from by decide +kernel]; rfl⟩
  · exact ⟨.odd3, trivial, by rw [show Ln.odd3.tx = ("numbers A 1" : Str) from by decide +kernel]; rfl⟩
theorem small16 {n : Nat} (h : n ≤ 200000) : n ≤ 16777216 := Nat.le_trans h (by decide)
theorem sum_len {ys : List Str} {k : Nat} (h : ∀ y ∈ ys, y.length ≤ k) : (ys.map (·.length)).sum ≤ ys.length * k := by
  have := sum_le (ps := ys.map (·.length)) (k := k) fun p hp => by
    obtain ⟨y, hy, rfl⟩ := List.mem_map.mp hp
    exact h y hy
  rwa [List.length_map] at this
section
variable {P : Program} {w : World} {K : PySem.W.Frag} {mg : Str → Option Value} {base : Heap}
theorem sc_line : FnScope ["_law_draws_here", "_law_kind", "_law_name", "_law_other", "_law_size", "_law_k"] ["_law_draws_here"] (defScope s_line) := ⟨rfl, rfl, rfl, by decide +kernel, rfl, by decide +kernel, by decide +kernel⟩
theorem emod_at {d m : Int} (hm : 0 < m) (h0 : 0 ≤ d) : ∃ j : Nat, d % m = (j : Int) ∧ (j : Int) < m := ⟨(d % m).toNat, by have := Int.emod_nonneg d (show m ≠ 0 by omega); omega, by have := Int.emod_nonneg d (show m ≠ 0 by omega); have := Int.emod_lt_of_pos d hm; omega⟩
theorem ok_line (T : Tx K w mg) : ∃ fd, FnOk P w K mg base CX0 2 (ga K "_law_line") fd ["_law_draws_here"] sp_line ∧ Binds K fd ["_law_draws_here"] [] := by
  obtain ⟨fd, F⟩ := T.d_line
  obtain ⟨fN, GN, bN⟩ := ok_next (P := P) (base := base) T
  obtain ⟨_, FN⟩ := T.d_next
  obtain ⟨fC, GC, bC⟩ := ok_char (P := P) (base := base) T
  obtain ⟨_, FC⟩ := T.d_char
  refine ⟨fd, ok0 F sc_line (fun vs H Q E h => ?_) (fun cdv A outer s H vs Q E hr h => ?_), F.bindsN fun _ _ _ _ _ _ us hl => match us, hl with | [_], _ => rfl⟩
  · obtain ⟨a, ds, rfl, _⟩ := h
    rfl
  · obtain ⟨a, ds, rfl, ha, hD, k⟩ := h
    have nd := sc_line.nd
    have N8 : ∀ {x : Int}, 0 ≤ x → x < 1000 → (-500 : Int) ≤ x - 500 ∧ x - 500 ≤ 499 := fun h1 h2 => by omega
    refine ⟨_, pss_cons (ps_set (i := 1) nd rfl (.inl rfl) (pe_op op_mod (pe_callTy call_int1 (by rfl) T.f_int (by decide +kernel) (pa_cons (pe_call GN hr (by rfl) T.g_next FN.kp bN .nil pass0 (pa_cons (pv 0) pa_nil)) pa_nil)) pe_int))
      (pss_cons (ps_set (i := 2) nd rfl (.inl rfl) (pe_ix ix_list (pe_lst (pa_cons pe_str (pa_cons pe_str (pa_cons pe_str pa_nil))))
          (pe_op op_mod (pe_callTy call_int1 (by rfl) T.f_int (by decide +kernel) (pa_cons (pe_call GN hr (by rfl) T.g_next FN.kp bN .nil pass0 (pa_cons (pv 0) pa_nil)) pa_nil)) pe_int) (fun _ _ => rfl)))
      (pss_cons (ps_set (i := 3) nd rfl (.inl rfl) (pe_ix ix_list (pe_lst (pa_cons pe_str (pa_cons pe_str (pa_cons pe_str (pa_cons pe_str pa_nil)))))
          (pe_op op_mod (pe_callTy call_int1 (by rfl) T.f_int (by decide +kernel) (pa_cons (pe_call GN hr (by rfl) T.g_next FN.kp bN .nil pass0 (pa_cons (pv 0) pa_nil)) pa_nil)) pe_int) (fun _ _ => rfl)))
      (C8.pss_cut (ps_set (i := 4) nd rfl (.inl rfl) (pe_op op_mod (pe_callTy call_int1 (by rfl) T.f_int (by decide +kernel) (pa_cons (pe_call GN hr (by rfl) T.g_next FN.kp bN .nil pass0 (pa_cons (pv 0) pa_nil)) pa_nil)) pe_int))
      (pss_cons (ps_if (pt_cmpR op_lt (pv 1) pe_int (nomark _))
        (pss_one (ps_ret (pe_m1 PySem.F.slot_str_join PySem.F.type_str_join mt_join pe_str (pe_op op_cat (pe_lst (pa_cons pe_str (pa_cons (pv 2) pa_nil)))
          (pe_lc (own := [("_law_k", 5)]) (g := gName 5) (tt := tYes) rfl nd (pi_range1 rfl T.f_range (pa_cons (pv 4) pa_nil)) (blkOk_by (N := ["_law_draws_here", "_law_kind", "_law_name", "_law_other", "_law_size", "_law_k"]) (sc := defScope s_line) (by decide +kernel))
            (fun _ _ _ _ _ => pg_name (i := 5) nd rfl (Or.inl rfl)) (fun _ _ _ _ _ => pts_nil)
            (fun _ _ _ _ _ => pe_callTy call_str_int (by rfl) T.f_str (by decide +kernel) (pa_cons (pe_op op_sub (pe_call GN hr (by rfl) T.g_next FN.kp bN .nil pass0 (pa_cons (pv 0) pa_nil)) pe_int) pa_nil))))))) pss_nil)
      (pss_cons (ps_if (pt_cmpR op_eq (pv 1) pe_int (nomark _))
        (pss_one (ps_ret (pe_op op_add_str (pe_op op_add_str (pe_op op_add_str pe_str (pv 2)) pe_str) (pe_m1 PySem.F.slot_str_join PySem.F.type_str_join mt_join pe_str
          (pe_lc (own := [("_law_k", 5)]) (g := gName 5) (tt := tYes) rfl nd (pi_range1 rfl T.f_range (pa_cons (pe_op op_mul pe_int (pv 4)) pa_nil)) (blkOk_by (N := ["_law_draws_here", "_law_kind", "_law_name", "_law_other", "_law_size", "_law_k"]) (sc := defScope s_line) (by decide +kernel))
            (fun _ _ _ _ _ => pg_name (i := 5) nd rfl (Or.inl rfl)) (fun _ _ _ _ _ => pts_nil)
            (fun _ _ _ _ _ => pe_call GC hr (by rfl) T.g_char FC.kp bC .nil pass0 (pa_cons (pe_call GN hr (by rfl) T.g_next FN.kp bN .nil pass0 (pa_cons (pv 0) pa_nil)) pa_nil))))))) pss_nil)
      (pss_cons (ps_if (pt_cmpR op_lt (pv 1) pe_int (nomark _)) (pss_one (ps_ret (pe_op op_add_str pe_str (pv 3)))) pss_nil)
      (pss_cons (ps_if (pt_cmpR op_eq (pv 1) pe_int (nomark _)) (pss_one (ps_ret (pe_op op_add_str (pe_op op_add_str (pe_op op_add_str pe_str (pv 2)) pe_str) (pv 3)))) pss_nil)
      (pss_cons (ps_if (pt_cmpR op_eq (pv 1) pe_int (nomark _)) (pss_one (ps_ret (pe_ix ix_list (pe_lst (pa_cons pe_str (pa_cons pe_str (pa_cons pe_str (pa_cons pe_str (pa_cons pe_str (pa_cons pe_str (pa_cons pe_str (pa_cons pe_str pa_nil)))))))))
          (pe_op op_mod (pe_op op_mul pe_int (pv 4)) pe_int) (fun _ _ => rfl)))) pss_nil)
      (pss_one (ps_ret (pe_op op_add_str pe_str (pv 2)))))))))))), ?_⟩
    -- kind
    refine ⟨_, rfl, a, ds, rfl, ha, hD, fun d1 ds1 z1 z1' D1 L1 => .inl ⟨_, rfl, _, _, rfl, rfl, (by show (0 : Int) < 8; decide), ?_⟩⟩
    -- name
    refine ⟨by show 3 ≤ sizeLine; decide, fun p np => ?_⟩
    have nap : a ≠ p := fun e => by rw [← e, upd_same] at np; cases np
    refine ⟨_, rfl, a, ds1, rfl, by rw [upd_ne nap]; exact upd_same, D1, fun d2 ds2 z2 z2' D2 L2' => .inl ⟨_, rfl, _, _, rfl, rfl, (by show (0 : Int) < 3; decide), ?_⟩⟩
    obtain ⟨j2, e2, l2⟩ := emod_at (m := 3) (by decide) z2
    obtain ⟨n, hn⟩ := nm_at (j := j2) (by omega)
    refine ⟨p, _, _, _, rfl, rfl, SqL.of (by rw [upd_ne nap.symm]; exact upd_same), by rw [e2]; exact atI_nat hn, ?_⟩
    -- other
    refine ⟨by show 4 ≤ sizeLine; decide, fun q nq => ?_⟩
    have naq : a ≠ q := fun e => by rw [← e, upd_same] at nq; cases nq
    refine ⟨_, rfl, a, ds2, rfl, by rw [upd_ne naq]; exact upd_same, D2, fun d3 ds3 z3 z3' D3 L3 => .inl ⟨_, rfl, _, _, rfl, rfl, (by show (0 : Int) < 4; decide), ?_⟩⟩
    obtain ⟨j3, e3, l3⟩ := emod_at (m := 4) (by decide) z3
    obtain ⟨o, ho⟩ := om_at (j := j3) (by omega)
    refine ⟨q, _, _, _, rfl, rfl, SqL.of (by rw [upd_ne naq.symm]; exact upd_same), by rw [e3]; exact atI_nat ho, ?_⟩
    -- size
    refine ⟨fun σ H' => ∃ (j1 j4 : Nat) (n : Nm) (o : Om) (es : List Int), σ = [some (.ref a), some (.int (j1 : Int)), some (.str n.s), some (.str o.s), some (.int (j4 : Int)), none] ∧ j1 < 8 ∧ j4 < 5 ∧ Drw es ∧ es.length ≤ ds.length ∧ H' a = some (hInts es) ∧ Off a H H', ?_, ?_⟩
    · refine ⟨_, rfl, a, ds3, rfl, upd_same, D3, fun d4 ds4 z4 z4' D4 L4 => .inl ⟨_, rfl, _, _, rfl, rfl, (by show (0 : Int) < 5; decide), ?_⟩⟩
      obtain ⟨j4, e4, l4⟩ := emod_at (m := 5) (by decide) z4
      obtain ⟨j1, e1, l1⟩ := emod_at (m := 8) (by decide) z1
      refine ⟨j1, j4, n, o, ds4, ?_, by omega, by omega, D4, by omega, upd_same, ?_⟩
      · show [some (V.ref a), some (V.int (d1 % 8)), some (V.str n.s), some (V.str o.s), some (V.int (d4 % 5)), none] = _
        rw [e1, e4]
      · exact (((((Off.upd a H _).trans (Off.new np)).trans (Off.upd a _ _)).trans (Off.new nq)).trans (Off.upd a _ _)).trans (Off.upd a _ _)
    clear ha hD nap naq hn ho np nq D1 D2 D3 L1 L2' L3 z1 z1' z2 z2' z3 z3' e2 l2 e3 l3
    clear d1 d2 d3 ds1 ds2 ds3 j2 j3 n o p q
    rintro σ H4 ⟨j1, j4, n, o, ds4, rfl, l1, l4, D4, hlen4, ha4, off⟩
    -- if kind < 2
    refine ⟨_, rfl, _, _, rfl, rfl, _, rfl, ?_⟩
    refine iteB (fun hk => ?_) (fun hk => ?_)
    · refine ⟨⟨_, rfl⟩, _, rfl, by show 2 ≤ sizeLine; decide, fun p' np' => ?_⟩
      have nap' : a ≠ p' := fun e => by rw [← e, ha4] at np'; cases np'
      refine ⟨_, rfl, _, rfl, by omega, by omega, fun D nD => ?_⟩
      have naD : a ≠ D := fun e => by rw [← e, upd_ne nap', ha4] at nD; cases nD
      have npD : p' ≠ D := fun e => by rw [← e, upd_same] at nD; cases nD
      refine lc_it walk_range (fun i H' => ∃ (ns : List Int) (es : List Int), ns.length = i ∧ (∀ z ∈ ns, -500 ≤ z ∧ z ≤ 499) ∧ Drw es ∧ es.length ≤ ds4.length ∧ H' a = some (hInts es) ∧ H' D = some (hStrs (ns.map str)) ∧ H' p' = some (.lst [.str "numbers", .str n.s]) ∧ Off a H H')
        ⟨[], ds4, rfl, (fun z hz => by cases hz), D4, Nat.le_refl _, by rw [upd_ne naD, upd_ne nap']; exact ha4, upd_same, by rw [upd_ne npD]; exact upd_same, (off.trans (Off.new np')).trans (Off.new nD)⟩ (fun _ _ _ _ => trivial) ?_ ?_
      · rintro i x H5 H6 hi ⟨ns, es, hn1, hn2, hE, hEl, ha5, hD5, hp5, off5⟩ ⟨rfl, rfl⟩
        refine ⟨rfl, ?_⟩
        refine ⟨_, rfl, a, es, rfl, ha5, hE, fun d es' y1 y2 hE' hEl' => ⟨_, _, rfl, rfl, _, rfl, log_small (by omega) (by omega), ?_⟩⟩
        refine ⟨_, by rw [upd_ne naD.symm]; exact hD5, by rw [List.length_map, List.length_map]; exact small (by omega), ns ++ [d - 500], es', by rw [List.length_append, hn1]; rfl, fun z hz => ?_, hE', by omega, by rw [upd_ne naD]; exact upd_same, ?_, by rw [upd_ne npD, upd_ne nap'.symm]; exact hp5, ?_⟩
        · rcases List.mem_append.mp hz with hz | hz
          · exact hn2 z hz
          · rw [List.mem_singleton.mp hz]
            exact N8 y1 y2
        · rw [upd_same, List.map_append, hStrs_app]
          rfl
        · exact fun b u e n => by
            rw [upd_ne (fun q => ?_), upd_ne n]
            · exact off5 b u e n
            · rw [q] at e
              exact absurd ((off.trans (Off.new np')) D u e (fun z => naD z.symm)) (by rw [nD]; intro z; cases z)
      · rintro H5 ⟨ns, es, hn1, hn2, hE, hEl, ha5, hD5, hp5, off5⟩
        have hn1' : ns.length = ((j4 : Nat) : Int).toNat := hn1
        refine ⟨p', D, _, _, rfl, rfl, hp5, hD5, ?_, fun r nr => ?_⟩
        · rw [List.length_map, List.length_map]
          show 2 + ns.length ≤ sizeLine
          exact smallE (by omega)
        · have nar : a ≠ r := fun e => by rw [← e, ha5] at nr; cases nr
          refine ⟨_, r, ("numbers" : Str) :: n.s :: ns.map str, rfl, rfl, .inl (SqL.of upd_same), ?_, ?_⟩
          · have hh := sum_len (ys := ("numbers" : Str) :: n.s :: ns.map str) (k := 9) fun y hy => (wd_len (l := Ln.nums n ns) ⟨by omega, hn2⟩).2 y hy
            have hb : (" " : Str).length = 1 := by decide +kernel
            have hc : (("numbers" : Str) :: n.s :: ns.map str).length = ns.length + 2 := by rw [List.length_cons, List.length_cons, List.length_map]
            rw [hb]
            rw [hc] at hh ⊢
            exact small16 (by omega)
          · rw [tx_nums]
            exact k (Ln.nums n ns) es _ ⟨by omega, hn2⟩ hE (by omega) (by rw [upd_ne nar]; exact ha5) (off5.trans (Off.new nr))
    · -- if kind == 2
      refine ⟨_, rfl, rfl, _, rfl, ?_⟩
      refine iteB (fun hk2 => ?_) (fun hk2 => ?_)
      · have hnl := nm_len n
        have ht5 : ("text " : Str).length = 5 := by decide +kernel
        have hb1 : (" " : Str).length = 1 := by decide +kernel
        have hl1 : (("text " : Str) ++ n.s).length = 5 + n.s.length := by rw [TL.len_tl, TL.tl_append, List.length_append, ← TL.len_tl, ← TL.len_tl, ht5]
        have hl2 : (("text " : Str) ++ n.s ++ (" " : Str)).length = 6 + n.s.length := by rw [TL.len_tl, TL.tl_append, List.length_append, ← TL.len_tl, ← TL.len_tl, hl1, hb1]; omega
        refine ⟨_, rfl, _, _, rfl, rfl, by rw [ht5]; exact smallE (by omega), _, _, rfl, rfl, by rw [hl1, hb1]; exact smallE (by omega), ?_⟩
        refine ⟨⟨_, rfl⟩, _, rfl, _, _, rfl, rfl, .inl ⟨by decide, by decide⟩, _, rfl, by omega, by omega, fun D nD => ?_⟩
        have naD : a ≠ D := fun e => by rw [← e, ha4] at nD; cases nD
        refine lc_it walk_range (fun i H' => ∃ (cs : List Nat) (es : List Int), cs.length = i ∧ (∀ z ∈ cs, z ∈ PR) ∧ Drw es ∧ es.length ≤ ds4.length ∧ H' a = some (hInts es) ∧ H' D = some (hStrs (cs.map one)) ∧ Off a H H')
          ⟨[], ds4, rfl, (fun z hz => by cases hz), D4, Nat.le_refl _, by rw [upd_ne naD]; exact ha4, upd_same, off.trans (Off.new nD)⟩ (fun _ _ _ _ => trivial) ?_ ?_
        · rintro i x H5 H6 hi ⟨cs, es, hn1, hn2, hE, hEl, ha5, hD5, off5⟩ ⟨rfl, rfl⟩
          have hi' : i < (2 * ((j4 : Nat) : Int)).toNat := hi
          refine ⟨rfl, ?_⟩
          refine ⟨_, rfl, a, es, rfl, ha5, hE, fun d es' y1 y2 hE' hEl' => ⟨d, rfl, y1, fun c hc => ?_⟩⟩
          refine ⟨_, by rw [upd_ne naD.symm]; exact hD5, by rw [List.length_map, List.length_map]; exact small (by omega), cs ++ [c], es', by rw [List.length_append, hn1]; rfl, fun z hz => ?_, hE', by omega, by rw [upd_ne naD]; exact upd_same, ?_, ?_⟩
          · rcases List.mem_append.mp hz with hz | hz
            · exact hn2 z hz
            · rw [List.mem_singleton.mp hz]
              exact hc
          · rw [upd_same, List.map_append, hStrs_app]
            rfl
          · exact fun b u e n => by
              rw [upd_ne (fun q => ?_), upd_ne n]
              · exact off5 b u e n
              · rw [q] at e
                exact absurd (off D u e (fun z => naD z.symm)) (by rw [nD]; intro z; cases z)
        · rintro H5 ⟨cs, es, hn1, hn2, hE, hEl, ha5, hD5, off5⟩
          have hn1' : cs.length = (2 * ((j4 : Nat) : Int)).toNat := hn1
          refine ⟨_, D, cs.map one, rfl, rfl, .inl (SqL.of hD5), ?_, _, _, rfl, rfl, ?_, ?_⟩
          · have hh := sum_len (ys := cs.map one) (k := 1) fun y hy => by
              obtain ⟨c, _, rfl⟩ := List.mem_map.mp hy
              exact Nat.le_refl 1
            have hb : ("" : Str).length = 0 := by decide +kernel
            rw [hb]
            rw [List.length_map] at hh ⊢
            exact small16 (by omega)
          · rw [hl2, TL.len_tl (Txt.join ("" : Str) (cs.map one)), tl_join_one]
            exact smallE (by omega)
          · rw [tx_text]
            exact k (Ln.text n cs) es _ ⟨by omega, hn2⟩ hE (by omega) ha5 off5
      · -- if kind < 5
        have hnl := nm_len n
        have hol := om_len o
        refine ⟨_, rfl, _, _, rfl, rfl, _, rfl, ?_⟩
        refine iteB (fun hk5 => ?_) (fun hk5 => ?_)
        · refine ⟨_, rfl, _, _, rfl, rfl, by rw [show ("show " : Str).length = 5 from by decide +kernel]; exact smallE (by omega), ?_⟩
          rw [tx_shw]
          exact k (Ln.shw o) ds4 H4 trivial D4 hlen4 ha4 off
        · refine ⟨_, rfl, rfl, _, rfl, ?_⟩
          refine iteB (fun hk6 => ?_) (fun hk6 => ?_)
          · have ht5 : ("digits " : Str).length = 7 := by decide +kernel
            have hb1 : (" " : Str).length = 1 := by decide +kernel
            have hl1 : (("digits " : Str) ++ n.s).length = 7 + n.s.length := by rw [TL.len_tl, TL.tl_append, List.length_append, ← TL.len_tl, ← TL.len_tl, ht5]
            have hl2 : (("digits " : Str) ++ n.s ++ (" " : Str)).length = 8 + n.s.length := by rw [TL.len_tl, TL.tl_append, List.length_append, ← TL.len_tl, ← TL.len_tl, hl1, hb1]; omega
            refine ⟨_, rfl, _, _, rfl, rfl, by rw [ht5]; exact smallE (by omega), _, _, rfl, rfl, by rw [hl1, hb1]; exact smallE (by omega), _, rfl, _, _, rfl, rfl, by rw [hl2]; exact smallE (by omega), ?_⟩
            rw [tx_dig]
            exact k (Ln.dig n o) ds4 H4 trivial D4 hlen4 ha4 off
          · refine ⟨_, rfl, rfl, _, rfl, ?_⟩
            refine iteB (fun hk7 => ?_) (fun hk7 => ?_)
            · refine ⟨by show 8 ≤ sizeLine; decide, fun r nr => ?_⟩
              have nar : a ≠ r := fun e => by rw [← e, ha4] at nr; cases nr
              refine ⟨_, rfl, _, _, rfl, rfl, .inl ⟨by decide, by decide⟩, _, _, rfl, rfl, (by show (0 : Int) < 8; decide), ?_⟩
              obtain ⟨j, ej, hj⟩ : ∃ j : Nat, (2 * ((j4 : Nat) : Int)) % 8 = (j : Int) ∧ (j = 0 ∨ j = 2 ∨ j = 4 ∨ j = 6) := by
                have : j4 = 0 ∨ j4 = 1 ∨ j4 = 2 ∨ j4 = 3 ∨ j4 = 4 := by omega
                rcases this with rfl | rfl | rfl | rfl | rfl
                · exact ⟨0, rfl, .inl rfl⟩
                · exact ⟨2, rfl, .inr (.inl rfl)⟩
                · exact ⟨4, rfl, .inr (.inr (.inl rfl))⟩
                · exact ⟨6, rfl, .inr (.inr (.inr rfl))⟩
                · exact ⟨0, rfl, .inl rfl⟩
              obtain ⟨l, hl, hat⟩ := odd_at hj
              refine ⟨r, _, _, _, rfl, rfl, SqL.of upd_same, by rw [ej]; exact atI_nat hat, ?_⟩
              exact k l ds4 _ hl D4 hlen4 (by rw [upd_ne nar]; exact ha4) (off.trans (Off.new nr))
            · refine ⟨_, rfl, _, _, rfl, rfl, by rw [show ("text " : Str).length = 5 from by decide +kernel]; exact smallE (by omega), ?_⟩
              rw [tx_text0]
              exact k (Ln.text0 n) ds4 H4 trivial D4 hlen4 ha4 off
end
end J93
namespace J93
open PySem PySem.Spec PyProof.Rows L2 He

/-! ### a sign repeated -/
theorem fold_rep (c : Nat) : ∀ (k : Nat) (a : Array Nat), ((List.replicate k (#[c] : Array Nat)).foldl (· ++ ·) a).toList = a.toList ++ List.replicate k c
  | 0, a => by simp
  | k + 1, a => by
    rw [List.replicate_succ, List.foldl_cons, fold_rep c k, Array.toList_append, List.append_assoc]
    rfl
theorem op_mul_sign {X : Cx} : OpR X (binaryOp .Mult) (fun x y H Q => ∃ (c : Nat) (n : Int), x = .str ⟨#[c]⟩ ∧ y = .int n ∧ 0 ≤ n ∧ n ≤ 1000 ∧ Q (.str (mk (List.replicate n.toNat c))) H) := by
  intro pins s σ H x y v u Q I rx ry h
  obtain ⟨c, n, rfl, rfl, h0, h1, q⟩ := h
  obtain ⟨t, rfl⟩ := rx
  obtain ⟨t', rfl⟩ := ry
  have hlen : ((⟨#[c]⟩ : Str)).length = 1 := rfl
  refine PySem.P.mul_str ?_ (fun h2 h3 => ?_) (fun h2 h3 => ?_) ?_
  · rw [decide_eq_false (show ¬ n < -(2 ^ 63 : Int) by omega), decide_eq_false (show ¬ n ≥ 2 ^ 63 by omega)]
    rfl
  · rw [hlen]
    intro h4
    have h5 : 1 ≤ (2 ^ 63 - 1) / n := by
      rw [Int.le_ediv_iff_mul_le (by omega)]
      omega
    have h6 : ((1 : Nat) : Int) > (2 ^ 63 - 1) / n := h4
    omega
  · rw [hlen, Nat.one_mul]
    unfold Builtin.Str.tooLong
    have hs := smallE (n := n.toNat) (by omega)
    exact decide_eq_false (by omega)
  · by_cases h2 : n < 1
    · rw [if_pos h2]
      have e : n = 0 := by omega
      subst e
      exact ⟨by decide, .str _, H, I.tok _, ⟨_, rfl⟩, q⟩
    · rw [if_neg h2]
      by_cases h3 : (n == 1 || ((⟨#[c]⟩ : Str)).length == 0) = true
      · rw [if_pos h3]
        have e : n = 1 := by
          rw [hlen] at h3
          simpa using h3
        subst e
        exact ⟨.str _, H, I, ⟨_, rfl⟩, q⟩
      · rw [if_neg h3]
        have e : (⟨(List.replicate n.toNat (#[c] : Array Nat)).foldl (· ++ ·) #[]⟩ : Str) = mk (List.replicate n.toNat c) := TL.ext_tl (by
          show ((List.replicate n.toNat (#[c] : Array Nat)).foldl (· ++ ·) #[]).toList = List.replicate n.toNat c
          rw [fold_rep]
          rfl)
        show Made.post (Made.str ⟨(List.replicate n.toNat (#[c] : Array Nat)).foldl (· ++ ·) #[]⟩) _ s
        rw [e]
        refine ⟨?_, .str _, H, I.tok _, ⟨_, rfl⟩, q⟩
        show (mk (List.replicate n.toNat c)).length ≤ sizeLine
        rw [len_mk, List.length_replicate]
        exact smallE (by omega)

def sp_integer_of : Sp := fun vs H Q _ => ∃ n : Int, vs = [.str (str n), .non, .non] ∧ -500 ≤ n ∧ n ≤ 499 ∧ Q (.int n) H
def sp_marks : Sp := fun vs H Q _ => ∃ (c : Str) (n : Int), vs = [.str c, .int n] ∧
  ((c = "numbers" ∧ 1 ≤ n ∧ n ≤ 100 ∧ Q (.str (mk (110 :: List.replicate (n - 1).toNat 122))) H) ∨ (c = "text" ∧ n = 2 ∧ Q (.str (mk [110, 107])) H) ∨ (c = "show" ∧ n = 1 ∧ Q (.str (mk [105])) H) ∨ (c = "digits" ∧ n = 2 ∧ Q (.str (mk [110, 105])) H))
def sp_fits : Sp := fun vs H Q _ => ∃ (c : Nat) (x : Str), vs = [.str ⟨#[c]⟩, .str x] ∧
  ((c = 122 ∧ ∃ n : Int, x = str n ∧ -500 ≤ n ∧ n ≤ 499 ∧ ∀ H', Same H H' → Q (.bl true) H') ∨ (c = 107 ∧ ∀ H', Same H H' → Q (.bl true) H') ∨
    ((c = 110 ∨ c = 105) ∧ 1 ≤ x.length ∧ x.length ≤ 12 ∧ ∀ H', Same H H' → Q (.bl (isNm x)) H'))
def sp_defined (K : PySem.W.Frag) : Sp := fun vs H Q _ => ∃ (a : Addr) (ns : List Int), vs = [.str "digits", .ref a] ∧ SqL K H a (ns.map V.int) ∧ ns.length ≤ 100000 ∧
  ∀ p H', Same H H' → H p = none → H' p = some (hInts (digs ns)) → Q (.ref p) H'
section
variable {P : Program} {w : World} {K : PySem.W.Frag} {mg : Str → Option Value} {base : Heap}
theorem sc_integer_of : FnScope ["word", "least", "most", "number"] ["word", "least", "most"] (defScope s_integer_of) := ⟨rfl, rfl, rfl, by decide +kernel, rfl, by decide +kernel, by decide +kernel⟩
theorem ok_integer_of (T : Tx K w mg) : ∃ fd ds, FnOk P w K mg base CX0 2 (ga K "integer_of") fd ["word", "least", "most"] sp_integer_of ∧ Vals [V.non, V.non] ds ∧ Binds K fd ["word", "least", "most"] ds ∧ PySem.W.keepIn K (.ref (ga K "integer_of")) = true := by
  obtain ⟨fd, F⟩ := T.d_integer_of
  obtain ⟨fN, GN, bN⟩ := ok_number_of (P := P) (base := base) T
  obtain ⟨_, FN⟩ := T.d_number_of
  obtain ⟨ds, hv, hb⟩ := F.binds0 (ps := ["word", "least", "most"]) 1 (by simp) rfl fun D doc pm an cdv ct us ks h1 h2 => match us, ks, h1, h2 with
    | [_], [_, _], _, _ => ⟨_, _, _, _, _, _, rfl, rfl, ⟨_, _, _, _, _, _, rfl, rfl, rfl⟩⟩
  refine ⟨fd, ds, F.ok sc_integer_of (fun vs H Q E h => ?_) (fun cdv A outer s H vs Q E hr h => ?_), hv, hb, F.kp⟩
  · obtain ⟨n, rfl, _⟩ := h
    rfl
  · obtain ⟨n, rfl, h1, h2, k⟩ := h
    have nd := sc_integer_of.nd
    refine ⟨_, PSs.nox (pss_cons (ps_try_thru0 (pss_one (ps_set (i := 3) nd rfl (.inl rfl) (pe_call GN hr (by rfl) T.g_number_of FN.kp bN .nil pass0 (pa_cons (pv 0) pa_nil)))))
      (pss_cons (ps_if (PW.pt (pw_and (pt_cmp (pc_notN (pv 1))) (pw_and1 (pt_cmpR op_lt (pv 3) (pv 1) (nomark _))))) (pss_one (ps_ret pe_non)) pss_nil)
      (pss_cons (ps_if (PW.pt (pw_and (pt_cmp (pc_notN (pv 2))) (pw_and1 (pt_cmpR op_gt (pv 3) (pv 2) (nomark _))))) (pss_one (ps_ret pe_non)) pss_nil)
      (pss_one (ps_ret (pv 3)))))), ?_⟩
    refine ⟨_, rfl, n, rfl, h1, h2, ?_⟩
    refine ⟨_, rfl, _, rfl, iteF (iteF ?_)⟩
    refine ⟨_, rfl, _, rfl, iteF (iteF ?_)⟩
    exact ⟨_, rfl, k⟩
theorem sc_marks : FnScope ["command", "count", "form", "fixed"] ["command", "count"] (defScope s_marks) := ⟨rfl, rfl, rfl, by decide +kernel, rfl, by decide +kernel, by decide +kernel⟩
theorem ok_marks (T : Tx K w mg) : ∃ fd, FnOk P w K mg base CX0 1 (ga K "_marks") fd ["command", "count"] sp_marks ∧ Binds K fd ["command", "count"] [] := by
  obtain ⟨fd, F⟩ := T.d_marks
  obtain ⟨es, nn, D⟩ := T.dFORMS
  have kd : ∀ q ∈ ([("numbers", "nz*"), ("text", "nk"), ("show", "i"), ("digits", "ni")] : List (Str × Str)), KDct K w (ga K "FORMS") q.1 (.str q.2) := fun q hq => by
    obtain ⟨t, e⟩ := T.vFORMS q hq
    exact ⟨es, nn, _, D.at_, D.lit, e, ⟨t, rfl⟩⟩
  refine ⟨fd, ok0 F sc_marks (fun vs H Q E h => ?_) (fun cdv A outer s H vs Q E hr h => ?_), F.bindsN fun _ _ _ _ _ _ us hl => match us, hl with | [_, _], _ => rfl⟩
  · obtain ⟨c, n, rfl, _⟩ := h
    rfl
  · obtain ⟨c, n, rfl, h⟩ := h
    have nd := sc_marks.nd
    refine ⟨_, pss_cons (ps_set (i := 2) nd rfl (.inl rfl) (pe_ix ix_kdict (pe_glob (v := .ref (ga K "FORMS")) rfl T.gFORMS rfl) (pv 0) (fun _ _ => rfl)))
      (pss_cons (ps_if (pt_val (pe_m1 PySem.F.slot_str_endswith PySem.F.type_str_endswith mt_endswith (pv 2) pe_str))
        (pss_cons (ps_set (i := 3) nd rfl (.inl rfl) (pe_slice sl_str (pv 2) po_none (po_some (pe_un un_neg pe_int))))
        (pss_cons (ps_if (pt_cmpR op_lt (pv 1) (pe_callB call_len_str (by rfl) T.f_len PySem.boot_len (pa_cons (pv 3) pa_nil)) (nomark _)) (pss_one (ps_ret pe_non)) pss_nil)
        (pss_one (ps_ret (pe_op op_add_str (pv 3) (pe_op op_mul_sign (pe_ix ix_str (pv 2) (pe_un un_neg pe_int) (fun _ _ => rfl)) (pe_op op_sub (pv 1) (pe_callB call_len_str (by rfl) T.f_len PySem.boot_len (pa_cons (pv 3) pa_nil))))))))) pss_nil)
      (pss_cons (ps_if (pt_cmpR op_ne (pv 1) (pe_callB call_len_str (by rfl) T.f_len PySem.boot_len (pa_cons (pv 2) pa_nil)) (nomark _)) (pss_one (ps_ret pe_non)) pss_nil)
      (pss_one (ps_ret (pv 2))))), ?_⟩
    rcases h with ⟨rfl, h1, h2, k⟩ | ⟨rfl, rfl, k⟩ | ⟨rfl, rfl, k⟩ | ⟨rfl, rfl, k⟩
    · refine ⟨_, rfl, ga K "FORMS", _, .str "nz*", rfl, rfl, kd ("numbers", "nz*") (by simp), ?_⟩
      refine ⟨_, rfl, ⟨_, rfl⟩, _, _, rfl, rfl, _, rfl, ?_⟩
      rw [show Txt.endswith ("nz*" : Str) ("*" : Str) = true from by decide +kernel]
      refine iteT ⟨_, rfl, _, rfl, _, rfl, _, rfl, by decide +kernel, ?_⟩
      rw [show cutS ("nz*" : Str) none (some (-2)) = mk [110] from by decide +kernel]
      refine ⟨_, rfl, _, rfl, _, rfl, by decide +kernel, _, _, rfl, rfl, _, rfl, ?_⟩
      rw [show ((mk [110]).length : Int) = 1 from by decide +kernel]
      refine iteB (fun hb => absurd (of_decide_eq_true hb) (by omega)) (fun hb => ?_)
      refine ⟨_, rfl, _, rfl, _, rfl, _, _, 122, rfl, rfl, by decide +kernel, by decide +kernel, _, rfl, _, rfl, _, rfl, by decide +kernel, _, _, rfl, rfl, ?_⟩
      refine ⟨122, n - 1, rfl, by rw [show ((mk [110]).length : Int) = 1 from by decide +kernel], by omega, by omega, _, _, rfl, rfl, ?_, ?_⟩
      · rw [len_mk, len_mk, List.length_replicate]
        show 1 + (n - 1).toNat ≤ sizeLine
        exact smallE (by omega)
      · rw [show mk [110] ++ mk (List.replicate (n - 1).toNat 122) = mk (110 :: List.replicate (n - 1).toNat 122) from TL.ext_tl (TL.tl_append _ _)]
        exact k
    · refine ⟨_, rfl, ga K "FORMS", _, .str "nk", rfl, rfl, kd ("text", "nk") (by simp), ?_⟩
      refine ⟨_, rfl, ⟨_, rfl⟩, _, _, rfl, rfl, _, rfl, ?_⟩
      rw [show Txt.endswith ("nk" : Str) ("*" : Str) = false from by decide +kernel]
      refine iteF ⟨_, rfl, _, rfl, _, rfl, by decide +kernel, rfl, _, rfl, ?_⟩
      rw [show ((("nk" : Str)).length : Int) = 2 from by decide +kernel]
      refine iteF ⟨_, rfl, ?_⟩
      rw [show ("nk" : Str) = mk [110, 107] from by decide +kernel]
      exact k
    · refine ⟨_, rfl, ga K "FORMS", _, .str "i", rfl, rfl, kd ("show", "i") (by simp), ?_⟩
      refine ⟨_, rfl, ⟨_, rfl⟩, _, _, rfl, rfl, _, rfl, ?_⟩
      rw [show Txt.endswith ("i" : Str) ("*" : Str) = false from by decide +kernel]
      refine iteF ⟨_, rfl, _, rfl, _, rfl, by decide +kernel, rfl, _, rfl, ?_⟩
      rw [show ((("i" : Str)).length : Int) = 1 from by decide +kernel]
      refine iteF ⟨_, rfl, ?_⟩
      rw [show ("i" : Str) = mk [105] from by decide +kernel]
      exact k
    · refine ⟨_, rfl, ga K "FORMS", _, .str "ni", rfl, rfl, kd ("digits", "ni") (by simp), ?_⟩
      refine ⟨_, rfl, ⟨_, rfl⟩, _, _, rfl, rfl, _, rfl, ?_⟩
      rw [show Txt.endswith ("ni" : Str) ("*" : Str) = false from by decide +kernel]
      refine iteF ⟨_, rfl, _, rfl, _, rfl, by decide +kernel, rfl, _, rfl, ?_⟩
      rw [show ((("ni" : Str)).length : Int) = 2 from by decide +kernel]
      refine iteF ⟨_, rfl, ?_⟩
      rw [show ("ni" : Str) = mk [110, 105] from by decide +kernel]
      exact k
theorem sc_fits : FnScope ["mark", "word"] ["mark", "word"] (defScope s_fits) := ⟨rfl, rfl, rfl, by decide +kernel, rfl, by decide +kernel, by decide +kernel⟩
theorem sign_eq {c d : Nat} {z : Str} (h : TL.tl z = [d]) : decide (V.str ⟨#[c]⟩ = V.str z) = decide (c = d) := by
  by_cases e : c = d
  · rw [decide_eq_true e]
    exact eqS_eq (TL.ext_tl (by rw [h, e]))
  · rw [decide_eq_false e]
    exact eqS_ne (by rw [h]; intro q; injection q with q; exact e q)
theorem w_x : TL.tl ("x" : Str) = [120] := by decide +kernel
theorem w_z : TL.tl ("z" : Str) = [122] := by decide +kernel
theorem w_k : TL.tl ("k" : Str) = [107] := by decide +kernel
theorem w_i : TL.tl ("i" : Str) = [105] := by decide +kernel
theorem ok_fits (T : Tx K w mg) : ∃ fd, FnOk P w K mg base CX0 3 (ga K "_fits") fd ["mark", "word"] sp_fits ∧ Binds K fd ["mark", "word"] [] := by
  obtain ⟨fd, F⟩ := T.d_fits
  obtain ⟨fI, dI, GI, vI, bI, kI⟩ := ok_integer_of (P := P) (base := base) T
  obtain ⟨fN, GN, bN⟩ := ok_is_name (P := P) (base := base) T
  obtain ⟨_, FN⟩ := T.d_is_name
  refine ⟨fd, ok0 F sc_fits (fun vs H Q E h => ?_) (fun cdv A outer s H vs Q E hr h => ?_), F.bindsN fun _ _ _ _ _ _ us hl => match us, hl with | [_, _], _ => rfl⟩
  · obtain ⟨c, n, rfl, _⟩ := h
    rfl
  · obtain ⟨c, x, rfl, h⟩ := h
    have hr1 : Room 1 _ := hr.mono (by decide)
    refine ⟨_, pss_cons (ps_if (pt_cmpR op_eq (pv 0) pe_str (nomark _)) pss_never pss_nil)
      (pss_cons (ps_if (pt_cmpR op_eq (pv 0) pe_str (nomark _)) (pss_one (ps_ret (pe_cmp (pc_notN (pe_call GI hr (by rfl) T.g_integer_of kI bI vI pass0 (pa_cons (pv 1) pa_nil))) rfl))) pss_nil)
      (pss_one (ps_ret (pe_or (pe_cmpR op_eq (pv 0) pe_str (nomark _)) (pe_one (pe_call GN hr1 (by rfl) T.g_is_name FN.kp bN .nil pass0 (pa_cons (pv 1) pa_nil))))))), ?_⟩
    refine ⟨_, rfl, rfl, _, rfl, ?_⟩
    rw [sign_eq w_x]
    rcases h with ⟨rfl, n, rfl, h1, h2, k⟩ | ⟨rfl, k⟩ | ⟨hc, h1, h2, k⟩
    · refine iteF ⟨_, rfl, rfl, _, rfl, ?_⟩
      rw [sign_eq w_z]
      refine iteT ⟨_, rfl, n, rfl, h1, h2, k H (Same.refl H)⟩
    · refine iteF ⟨_, rfl, rfl, _, rfl, ?_⟩
      rw [sign_eq w_z]
      refine iteF ⟨_, rfl, rfl, _, rfl, ?_⟩
      rw [sign_eq w_k]
      exact iteT (k H (Same.refl H))
    · have e1 : decide (c = 120) = false := decide_eq_false (by omega)
      have e2 : decide (c = 122) = false := decide_eq_false (by omega)
      have e3 : decide (c = 107) = false := decide_eq_false (by omega)
      rw [e1]
      refine iteF ⟨_, rfl, rfl, _, rfl, ?_⟩
      rw [sign_eq w_z, e2]
      refine iteF ⟨_, rfl, rfl, _, rfl, ?_⟩
      rw [sign_eq w_k, e3]
      exact iteF ⟨_, rfl, x, rfl, h1, h2, k⟩
theorem sc_defined : FnScope ["kind", "codes"] ["kind", "codes"] (defScope s_defined) := ⟨rfl, rfl, rfl, by decide +kernel, rfl, by decide +kernel, by decide +kernel⟩
theorem ok_defined (T : Tx K w mg) : ∃ fd, FnOk P w K mg base CX0 3 (ga K "_defined") fd ["kind", "codes"] (sp_defined K) ∧ Binds K fd ["kind", "codes"] [] := by
  obtain ⟨fd, F⟩ := T.d_defined
  obtain ⟨fR, GR, bR⟩ := ok_read_digits (P := P) (base := base) T
  obtain ⟨_, FR⟩ := T.d_read_digits
  refine ⟨fd, ok0 F sc_defined (fun vs H Q E h => ?_) (fun cdv A outer s H vs Q E hr h => ?_), F.bindsN fun _ _ _ _ _ _ us hl => match us, hl with | [_, _], _ => rfl⟩
  · obtain ⟨a, n, rfl, _⟩ := h
    rfl
  · obtain ⟨a, ns, rfl, hS, hl, k⟩ := h
    refine ⟨_, pss_cons (ps_if (pt_cmpR op_eq (pv 0) pe_str (nomark _)) (pss_one (ps_ret (pe_call GR hr (by rfl) T.g_read_digits FR.kp bR .nil pass0 (pa_cons (pv 1) pa_nil)))) pss_nil) pss_never, ?_⟩
    refine ⟨_, rfl, rfl, _, rfl, ?_⟩
    rw [eqS_eq rfl]
    exact iteT ⟨_, rfl, a, ns, rfl, hS, hl, k⟩
end
end J93
namespace J93
open PySem PySem.Spec PyProof.Rows L2 He

theorem lk_hit {f : Str} {v : V} {r : List (Str × V)} : List.lookup f ((f, v) :: r) = some v := by simp [List.lookup]
theorem lk_miss {f g : Str} {v : V} {r : List (Str × V)} (h : ¬ f = g) : List.lookup f ((g, v) :: r) = List.lookup f r := by
  have e : (f == g) = false := by simpa using h
  simp [List.lookup, e]
theorem putF_nil (f : Str) (v : V) : putF f v [] = [(f, v)] := rfl
theorem putF_miss {f g : Str} {v x : V} {r : List (Str × V)} (h : ¬ g = f) : putF f v ((g, x) :: r) = (g, x) :: putF f v r := by
  show (if g = f then (g, v) :: r else (g, x) :: putF f v r) = _
  rw [if_neg h]
theorem cutV_from (xs : List V) (k : Nat) : cutV xs (some (k : Int)) none = xs.drop k := by
  unfold cutV
  rw [HT.sIx_nat, HT.sIx_none]
  rw [List.take_of_length_le (by rw [List.length_drop]; exact Nat.le_refl _)]
  by_cases h : k ≤ xs.length
  · rw [Nat.min_eq_left h]
  · rw [Nat.min_eq_right (by omega), List.drop_length, List.drop_eq_nil_of_le (by omega)]
theorem cutV_to (xs : List V) (k : Nat) : cutV xs none (some (k : Int)) = xs.take k := by
  unfold cutV
  rw [HT.sIx_nat, HT.sIx_none, List.drop_zero, Nat.sub_zero]
  by_cases h : k ≤ xs.length
  · rw [Nat.min_eq_left h]
  · rw [Nat.min_eq_right (by omega), List.take_length, List.take_of_length_le (by omega)]

/-! ### a dict of items; a desk -/
def ItAt (H : Hp) (it : Addr) (m : Itm) (k : Nat) (F : Addr → Prop) : Prop :=
  ∃ kvs : List (Key × V), H it = some (.dK kvs) ∧ kvs.length ≤ k ∧ (∀ x, m x = none → valV kvs (.inr x) = none) ∧ ∀ x ns, m x = some ns → ∃ a, valV kvs (.inr x) = some (.ref a) ∧ H a = some (hInts ns) ∧ F a
theorem ItAt.keep {H H' : Hp} {it : Addr} {m : Itm} {k : Nat} {F : Addr → Prop} (I : ItAt H it m k F) (hi : ∀ o, H it = some o → H' it = some o) (hl : ∀ a ns, F a → H a = some (hInts ns) → H' a = some (hInts ns)) : ItAt H' it m k F := by
  obtain ⟨kvs, h1, h2, h3, h4⟩ := I
  refine ⟨kvs, hi _ h1, h2, h3, fun x ns e => ?_⟩
  obtain ⟨a, e1, e2, e3⟩ := h4 x ns e
  exact ⟨a, e1, hl a ns e3 e2, e3⟩
theorem ItAt.same {H H' : Hp} {it : Addr} {m : Itm} {k : Nat} {F : Addr → Prop} (I : ItAt H it m k F) (s : Same H H') : ItAt H' it m k F := I.keep (fun o e => s _ _ e) fun a ns _ e => s _ _ e
theorem ItAt.mono {H : Hp} {it : Addr} {m : Itm} {k k' : Nat} {F : Addr → Prop} (I : ItAt H it m k F) (h : k ≤ k') : ItAt H it m k' F := by
  obtain ⟨kvs, h1, h2, h3⟩ := I
  exact ⟨kvs, h1, Nat.le_trans h2 h, h3⟩
theorem putK_len (c : List (Key × V)) (k : Key) (x : V) : (putK c k x).length ≤ c.length + 1 := by
  unfold putK
  split
  · rw [List.length_map]; omega
  · rw [List.length_append]; exact Nat.le_refl _
/-- a new list stored under a name -/
theorem ItAt.put {H H1 : Hp} {it p : Addr} {m : Itm} {k : Nat} {F : Addr → Prop} {x : Str} {ns : List Int} {kvs : List (Key × V)} (h1 : H it = some (.dK kvs)) (h2 : kvs.length ≤ k) (h3 : ∀ x, m x = none → valV kvs (.inr x) = none)
    (h4 : ∀ x ns, m x = some ns → ∃ a, valV kvs (.inr x) = some (.ref a) ∧ H a = some (hInts ns) ∧ F a) (s : Same H H1) (hp : H1 p = some (hInts ns)) (hF : F p) :
    ItAt (upd H1 it (.dK (putK kvs (Sum.inr x) (.ref p)))) it (putI m x ns) (k + 1) F := by
  have pit : p ≠ it := ne_of hp (s _ _ h1) (by intro z; cases z)
  refine ⟨_, upd_same, Nat.le_trans (putK_len _ _ _) (by omega), fun y e => ?_, fun y ms e => ?_⟩
  · unfold putI at e
    by_cases hy : y = x
    · rw [if_pos hy] at e; cases e
    · rw [if_neg hy] at e
      rw [valV_put, if_neg (fun q => hy (Sum.inr.inj q))]
      exact h3 y e
  · unfold putI at e
    by_cases hy : y = x
    · rw [if_pos hy] at e
      have e2 := Option.some.inj e
      refine ⟨p, by rw [valV_put, if_pos (by rw [hy])], ?_, hF⟩
      rw [upd_ne pit, hp, e2]
    · rw [if_neg hy] at e
      obtain ⟨a, e1, e2, e3⟩ := h4 y ms e
      refine ⟨a, by rw [valV_put, if_neg (fun q => hy (Sum.inr.inj q))]; exact e1, ?_, e3⟩
      have ait : a ≠ it := ne_of e2 h1 (by intro z; cases z)
      rw [upd_ne ait]
      exact s _ _ e2
def fsD (it r s c : Addr) : List (Str × V) := [("_items", .ref it), ("_rules", .ref r), ("_shelf", .ref s), ("_claims", .ref c)]
theorem fsD_items (it r s c : Addr) : (fsD it r s c).lookup ("_items" : Str) = some (V.ref it) := lk_hit
theorem fsD_no {it r s c : Addr} {m : Str} (h1 : ¬ m = "_items") (h2 : ¬ m = "_rules") (h3 : ¬ m = "_shelf") (h4 : ¬ m = "_claims") : (fsD it r s c).lookup m = none := by
  unfold fsD
  rw [lk_miss h1, lk_miss h2, lk_miss h3, lk_miss h4]
  rfl
def DkAt (K : PySem.W.Frag) (H : Hp) (d it : Addr) (m : Itm) (k : Nat) (F : Addr → Prop) : Prop := (∃ dx r s c, H d = some (.ins (ga K "Desk") dx (fsD it r s c))) ∧ ItAt H it m k F
theorem DkAt.same {K : PySem.W.Frag} {H H' : Hp} {d it : Addr} {m : Itm} {k : Nat} {F : Addr → Prop} (I : DkAt K H d it m k F) (s : Same H H') : DkAt K H' d it m k F := by
  obtain ⟨⟨dx, r, c, e, h⟩, i⟩ := I
  exact ⟨⟨dx, r, c, e, s _ _ h⟩, i.same s⟩
theorem DkAt.mono {K : PySem.W.Frag} {H : Hp} {d it : Addr} {m : Itm} {k k' : Nat} {F : Addr → Prop} (I : DkAt K H d it m k F) (h : k ≤ k') : DkAt K H d it m k' F := ⟨I.1, I.2.mono h⟩
/-- addresses that are free yet are allowed to the items -/
def Free (H : Hp) (F : Addr → Prop) : Prop := ∀ a, H a = none → F a
theorem Free.same {H H' : Hp} {F : Addr → Prop} (f : Free H F) (s : Same H H') : Free H' F := fun a h => f a (s.free h)

/-! ### promises -/
def sp_content (K : PySem.W.Frag) : Sp := fun vs H Q _ => ∃ (d it : Addr) (m : Itm) (k : Nat) (F : Addr → Prop) (x : Str), vs = [.ref d, .str x] ∧ DkAt K H d it m k F ∧ (m x = none → Q .non H) ∧
  ∀ ns, m x = some ns → ∀ p H', Same H H' → H p = none → H' p = some (hInts ns) → Q (.ref p) H'
def sp_knows (K : PySem.W.Frag) : Sp := fun vs H Q _ => ∃ (d it : Addr) (m : Itm) (k : Nat) (F : Addr → Prop) (c : Nat) (x : Str), vs = [.ref d, .str ⟨#[c]⟩, .str x] ∧ DkAt K H d it m k F ∧
  ((c = 105 ∧ Q (.bl (m x).isSome) H) ∨ ((c = 110 ∨ c = 122 ∨ c = 107) ∧ Q (.bl true) H))
def sp_kept (K : PySem.W.Frag) : Sp := fun vs H Q _ => ∃ (d it : Addr) (m : Itm) (k : Nat) (F : Addr → Prop) (x : Str) (a : Addr) (ns : List Int), vs = [.ref d, .str x, .ref a] ∧ DkAt K H d it m k F ∧ k ≤ 1000 ∧ Free H F ∧ H a = some (hInts ns) ∧ ns.length ≤ 1000 ∧
  ∀ H', DkAt K H' d it (putI m x ns) (k + 1) F → Off it H H' → Q (.str (str (ns.length : Int))) H'
def sp_shown (K : PySem.W.Frag) : Sp := fun vs H Q _ => ∃ (d it : Addr) (m : Itm) (k : Nat) (F : Addr → Prop) (x : Str) (ns : List Int), vs = [.ref d, .str x] ∧ DkAt K H d it m k F ∧ m x = some ns ∧ Cont ns ∧ ∀ H', Same H H' → Q (.str (shown ns)) H'
section
variable {P : Program} {w : World} {K : PySem.W.Frag} {mg : Str → Option Value} {base : Heap}
theorem sc_content : FnScope ["self", "name"] ["self", "name"] (defScope s_Desk_content) := ⟨rfl, rfl, rfl, by decide +kernel, rfl, by decide +kernel, by decide +kernel⟩
theorem ok_content (T : Tx K w mg) : ∃ fd, FnOk P w K mg base CX0 1 (ma K (ga K "Desk") "content") fd ["self", "name"] (sp_content K) ∧ Binds K fd ["self", "name"] [] := by
  obtain ⟨fd, F⟩ := T.d_Desk_content
  refine ⟨fd, ok0 F sc_content (fun vs H Q E h => ?_) (fun cdv A outer s H vs Q E hr h => ?_), F.bindsN fun _ _ _ _ _ _ us hl => match us, hl with | [_, _], _ => rfl⟩
  · obtain ⟨d, it, m, k, F, x, rfl, _⟩ := h
    rfl
  · obtain ⟨d, it, m, k, F, x, rfl, ⟨⟨dx, r, s0, c, hd⟩, kvs, h1, h2, h3, h4⟩, kN, kS⟩ := h
    have hu := hu_of hr
    refine ⟨_, pss_cons (ps_if (pt_cmp (pc_dnotin hu (pv 1) (pe_fld (pv 0) rfl))) (pss_one (ps_ret pe_non)) pss_nil)
      (pss_one (ps_ret (pe_callTy call_list_of (by rfl) T.f_list (by decide +kernel) (pa_cons (pe_dget hu (pe_fld (pv 0) rfl) (pv 1) (fun _ _ => rfl)) pa_nil)))), ?_⟩
    refine ⟨_, rfl, _, rfl, d, _, dx, _, _, rfl, hd, T.cDesk, T.nDesk_items, fsD_items _ _ _ _, it, _, rfl, DGet.k (k := Sum.inr x) h1, _, rfl, ?_⟩
    cases e : m x with
    | none =>
      rw [h3 x e]
      exact iteT (kN e)
    | some ns =>
      obtain ⟨a, e1, e2, e3⟩ := h4 x ns e
      rw [e1]
      refine iteF ⟨_, rfl, d, _, dx, _, _, rfl, hd, T.cDesk, T.nDesk_items, fsD_items _ _ _ _, _, rfl, it, .ref a, rfl, ?_, a, _, rfl, .inl (SqL.of e2), fun p np => ?_⟩
      · rw [← e1]
        exact DGet.k (k := Sum.inr x) h1
      · exact kS ns e p _ (Same.upd np) np upd_same
theorem sc_knows : FnScope ["self", "mark", "word"] ["self", "mark", "word"] (defScope s_Desk_knows) := ⟨rfl, rfl, rfl, by decide +kernel, rfl, by decide +kernel, by decide +kernel⟩
theorem w_e : TL.tl ("e" : Str) = [101] := by decide +kernel
theorem w_c : TL.tl ("c" : Str) = [99] := by decide +kernel
theorem ok_knows (T : Tx K w mg) : ∃ fd, FnOk P w K mg base CX0 1 (ma K (ga K "Desk") "_knows") fd ["self", "mark", "word"] (sp_knows K) ∧ Binds K fd ["self", "mark", "word"] [] := by
  obtain ⟨fd, F⟩ := T.d_Desk_knows
  refine ⟨fd, ok0 F sc_knows (fun vs H Q E h => ?_) (fun cdv A outer s H vs Q E hr h => ?_), F.bindsN fun _ _ _ _ _ _ us hl => match us, hl with | [_, _, _], _ => rfl⟩
  · obtain ⟨d, it, m, k, F, c, x, rfl, _⟩ := h
    rfl
  · obtain ⟨d, it, m, k, F, c, x, rfl, ⟨⟨dx, r, s0, c0, hd⟩, kvs, h1, h2, h3, h4⟩, hk⟩ := h
    have hu := hu_of hr
    refine ⟨_, pss_cons (ps_if (pt_cmpR op_eq (pv 1) pe_str (nomark _)) (pss_one (ps_ret (pe_cmp (pc_din hu (pv 2) (pe_fld (pv 0) rfl)) (by rfl)))) pss_nil)
      (pss_cons (ps_if (pt_cmpR op_eq (pv 1) pe_str (nomark _)) pss_never pss_nil)
      (pss_cons (ps_if (pt_cmpR op_eq (pv 1) pe_str (nomark _)) pss_never pss_nil)
      (pss_one (ps_ret pe_bl)))), ?_⟩
    refine ⟨_, rfl, rfl, _, rfl, ?_⟩
    rw [sign_eq w_i]
    rcases hk with ⟨rfl, k⟩ | ⟨hc, k⟩
    · refine iteT ⟨_, rfl, _, rfl, d, _, dx, _, _, rfl, hd, T.cDesk, T.nDesk_items, fsD_items _ _ _ _, it, _, rfl, DGet.k (k := Sum.inr x) h1, ?_⟩
      have e : (valV kvs (Sum.inr x : Key)).isSome = (m x).isSome := by
        cases e : m x with
        | none => rw [h3 x e] <;> rfl
        | some ns =>
          obtain ⟨a, e1, _⟩ := h4 x ns e
          rw [e1] <;> rfl
      show Q (.bl (valV kvs (Sum.inr x : Key)).isSome) H
      rw [e]
      exact k
    · rw [decide_eq_false (show ¬ c = 105 by omega)]
      refine iteF ⟨_, rfl, rfl, _, rfl, ?_⟩
      rw [sign_eq w_e, decide_eq_false (show ¬ c = 101 by omega)]
      refine iteF ⟨_, rfl, rfl, _, rfl, ?_⟩
      rw [sign_eq w_c, decide_eq_false (show ¬ c = 99 by omega)]
      exact iteF k
theorem sc_kept : FnScope ["self", "name", "content"] ["self", "name", "content"] (defScope s_Desk_kept) := ⟨rfl, rfl, rfl, by decide +kernel, rfl, by decide +kernel, by decide +kernel⟩
theorem ok_kept (T : Tx K w mg) : ∃ fd, FnOk P w K mg base CX0 1 (ma K (ga K "Desk") "_kept") fd ["self", "name", "content"] (sp_kept K) ∧ Binds K fd ["self", "name", "content"] [] := by
  obtain ⟨fd, F⟩ := T.d_Desk_kept
  refine ⟨fd, ok0 F sc_kept (fun vs H Q E h => ?_) (fun cdv A outer s H vs Q E hr h => ?_), F.bindsN fun _ _ _ _ _ _ us hl => match us, hl with | [_, _, _], _ => rfl⟩
  · obtain ⟨d, it, m, k, F, x, a, ns, rfl, _⟩ := h
    rfl
  · obtain ⟨d, it, m, k, F, x, a, ns, rfl, ⟨⟨dx, r, s0, c0, hd⟩, kvs, h1, h2, h3, h4⟩, hk, hF, ha, hn, kQ⟩ := h
    have hu := hu_of hr
    refine ⟨_, pss_cons (ps_dput hu (pe_fld (pv 0) rfl) (pv 1) (pe_callTy call_list_of (by rfl) T.f_list (by decide +kernel) (pa_cons (pv 2) pa_nil)) rfl)
      (pss_one (ps_ret (pe_callTy call_str_int (by rfl) T.f_str (by decide +kernel) (pa_cons (pe_callB call_len (by rfl) T.f_len PySem.boot_len (pa_cons (pv 2) pa_nil)) pa_nil)))), ?_⟩
    refine ⟨_, rfl, a, _, rfl, .inl (SqL.of ha), fun p np => ?_⟩
    have dp : d ≠ p := ne_of_none hd np
    have ip : it ≠ p := ne_of_none h1 np
    have ai : a ≠ it := ne_of ha h1 (by intro z; cases z)
    have di : d ≠ it := ne_of hd h1 (by intro z; cases z)
    have ap : a ≠ p := ne_of_none ha np
    refine ⟨_, rfl, d, _, dx, _, _, rfl, by rw [upd_ne dp]; exact hd, T.cDesk, T.nDesk_items, fsD_items _ _ _ _, _, rfl, it, _, rfl, DPut.k (k := Sum.inr x) (by rw [upd_ne ip]; exact h1) (small (by omega)), ?_⟩
    refine ⟨_, rfl, _, _, rfl, .inl ⟨_, SqL.of (by rw [upd_ne ai, upd_ne ap]; exact ha), rfl⟩, _, rfl, ?_, ?_⟩
    · rw [List.length_map]
      exact log_small (by omega) (by omega)
    · rw [List.length_map]
      refine kQ _ ⟨⟨dx, r, s0, c0, by rw [upd_ne di, upd_ne dp]; exact hd⟩, ItAt.put h1 h2 h3 h4 (Same.upd np) upd_same (hF p np)⟩ ?_
      exact (Off.of (Same.upd np)).trans (Off.upd _ _ _)
theorem sc_shown : FnScope ["self", "name", "number"] ["self", "name"] (defScope s_Desk_shown) := ⟨rfl, rfl, rfl, by decide +kernel, rfl, by decide +kernel, by decide +kernel⟩
theorem ok_shown (T : Tx K w mg) : ∃ fd, FnOk P w K mg base CX0 2 (ma K (ga K "Desk") "_shown") fd ["self", "name"] (sp_shown K) ∧ Binds K fd ["self", "name"] [] := by
  obtain ⟨fd, F⟩ := T.d_Desk_shown
  obtain ⟨fN, GN, bN⟩ := ok_numeral (P := P) (base := base) T
  obtain ⟨_, FN⟩ := T.d_numeral
  refine ⟨fd, ok0 F sc_shown (fun vs H Q E h => ?_) (fun cdv A outer s H vs Q E hr h => ?_), F.bindsN fun _ _ _ _ _ _ us hl => match us, hl with | [_, _], _ => rfl⟩
  · obtain ⟨d, it, m, k, F, x, ns, rfl, _⟩ := h
    rfl
  · obtain ⟨d, it, m, k, F, x, ns, rfl, ⟨⟨dx, r, s0, c0, hd⟩, kvs, h1, h2, h3, h4⟩, hm, hC, kQ⟩ := h
    have hu := hu_of hr
    have nd := sc_shown.nd
    obtain ⟨a, e1, e2, e3⟩ := h4 x ns hm
    refine ⟨_, pss_cons (ps_if (pt_not (pt_truth (pe_dget hu (pe_fld (pv 0) rfl) (pv 1) (fun _ _ => rfl)) (by intro _; rfl))) (pss_one (ps_ret pe_str)) pss_nil)
      (pss_one (ps_try_thru0 (pss_one (ps_ret (pe_m1 PySem.F.slot_str_join PySem.F.type_str_join mt_join pe_str
        (pe_lc (own := [("number", 2)]) (g := gName 2) (tt := tYes) rfl nd (pi_list (pe_dget hu (pe_fld (pv 0) rfl) (pv 1) (fun _ _ => rfl))) (blkOk_by (N := ["self", "name", "number"]) (sc := defScope s_Desk_shown) (by decide +kernel))
          (fun _ _ _ _ _ => pg_name (i := 2) nd rfl (Or.inl rfl)) (fun _ _ _ _ _ => pts_nil)
          (fun _ _ _ _ _ => pe_call GN hr (by rfl) T.g_numeral FN.kp bN .nil pass0 (pa_cons (pv 2) pa_nil)))))))), ?_⟩
    have get : DGet H it (.str x) (some (.ref a)) := by
      rw [← e1]
      exact DGet.k (k := Sum.inr x) h1
    refine ⟨_, rfl, d, _, dx, _, _, rfl, hd, T.cDesk, T.nDesk_items, fsD_items _ _ _ _, _, rfl, it, .ref a, rfl, get, _, .inl ⟨_, SqL.of e2, rfl⟩, ?_⟩
    cases ns with
    | nil =>
      refine iteT ?_
      have := kQ H (Same.refl H)
      unfold shown at this
      rw [if_pos rfl] at this
      exact this
    | cons n0 r0 =>
      refine iteF ?_
      refine ⟨⟨_, rfl⟩, _, rfl, d, _, dx, _, _, rfl, hd, T.cDesk, T.nDesk_items, fsD_items _ _ _ _, _, rfl, it, .ref a, rfl, get, a, rfl, ⟨_, SqL.of e2⟩, fun D nD => ?_⟩
      refine lc_it (walk_list (xs := (n0 :: r0).map V.int)) (fun i H' => Same H H' ∧ H' D = some (hStrs (((n0 :: r0).take i).map str))) ⟨Same.upd nD, upd_same⟩ (fun i H' _ ⟨s1, _⟩ => SqL.of (s1 _ _ e2)) ?_ ?_
      · rintro i y H1 H2 hi ⟨s1, hD⟩ ⟨rfl, hx⟩
        obtain ⟨c, hc, rfl⟩ := at_map hx
        have hi' := lt_of_at hc
        have hcb := hC.2 c (List.mem_of_getElem? hc)
        have h8 := hC.1
        refine ⟨rfl, _, rfl, c, rfl, hcb.1, by omega, _, hD, ?_, fun b o e => ?_, ?_⟩
        · rw [List.length_map, List.length_map, List.length_take]
          exact small (by omega)
        · rw [upd_ne (ne_of_none e nD)]
          exact s1 b o e
        · rw [upd_same, take_one hc, List.map_append, hStrs_app]
          rfl
      · rintro H1 ⟨s1, hD⟩
        rw [List.length_map, List.take_length] at hD
        refine ⟨_, D, (n0 :: r0).map str, rfl, rfl, .inl (SqL.of hD), ?_, ?_⟩
        · have hh := sum_len (ys := (n0 :: r0).map str) (k := 9) fun y hy => by
            obtain ⟨c, hc, rfl⟩ := List.mem_map.mp hy
            have hcb := hC.2 c hc
            exact str_len hcb.1 (by omega)
          have h8 := hC.1
          have hb1 : (" " : Str).length = 1 := by decide +kernel
          rw [hb1]
          rw [List.length_map] at hh ⊢
          exact small16 (by omega)
        · have := kQ H1 s1
          unfold shown at this
          rw [if_neg (by simp)] at this
          exact this
end
end J93
namespace J93
open PySem PySem.Spec PyProof.Rows L2 He

/-! ### zip(text, list): the hand layer has no rule for it -/
/-- the signs of x beside the items of the list at b, each pair a new tuple -/
def Itzs (K : PySem.W.Frag) (x : Str) (b : Addr) : It :=
  ⟨fun i H => i < x.cps.size ∧ ∃ (ys : List V) (y : V), SqL K H b ys ∧ ys[i]? = some y,
    fun i H v H' => ∃ T c y, v = .ref T ∧ H T = none ∧ H' = upd H T (.tup [.str ⟨#[c]⟩, y]) ∧ x.cps[i]? = some c ∧ ∀ ys, SqL K H b ys → ys[i]? = some y,
    fun i H => i ≤ x.cps.size ∧ ∃ ys : List V, SqL K H b ys ∧ i ≤ ys.length ∧ (i = x.cps.size ∨ i = ys.length)⟩
/-- five addresses, one by one -/
theorem all5 {p : Addr → Prop} {q1 q2 q3 q4 q5 : Addr} (h1 : p q1) (h2 : p q2) (h3 : p q3) (h4 : p q4) (h5 : p q5) : ∀ c ∈ [q1, q2, q3, q4, q5], p c
  | _, .head _ => h1
  | _, .tail _ (.head _) => h2
  | _, .tail _ (.tail _ (.head _)) => h3
  | _, .tail _ (.tail _ (.tail _ (.head _))) => h4
  | _, .tail _ (.tail _ (.tail _ (.tail _ (.head _)))) => h5
theorem out5 {q1 q2 q3 q4 q5 c : Addr} (h : c ∉ [q1, q2, q3, q4, q5]) : c ≠ q1 ∧ c ≠ q2 ∧ c ≠ q3 ∧ c ≠ q4 ∧ c ≠ q5 := by
  simpa using h
theorem zip_apart {n b : Nat} (h : b < n) : ZipSep2 (n + 4) (n + 2) (n + 3) n (n + 1) [n] [n + 1, b] where
  TIz := show (n + 2 : Nat) ≠ n + 4 by omega
  TOz := show (n + 3 : Nat) ≠ n + 4 by omega
  TITO := show (n + 2 : Nat) ≠ n + 3 by omega
  TIi1 := show (n + 2 : Nat) ≠ n by omega
  mem1 := List.mem_singleton.mpr rfl
  zf1 := fun e => absurd (List.mem_singleton.mp e) (show (n + 4 : Nat) ≠ n by omega)
  Tf1 := fun e => absurd (List.mem_singleton.mp e) (show (n + 3 : Nat) ≠ n by omega)
  TIi2 := show (n + 2 : Nat) ≠ n + 1 by omega
  mem2 := List.mem_cons_self
  zf2 := fun e => by
    rcases List.mem_cons.mp e with q | q
    · exact absurd q (show (n + 4 : Nat) ≠ n + 1 by omega)
    · exact absurd (List.mem_singleton.mp q) (show (n + 4 : Nat) ≠ b by omega)
  Tf2 := fun e => by
    rcases List.mem_cons.mp e with q | q
    · exact absurd q (show (n + 3 : Nat) ≠ n + 1 by omega)
    · exact absurd (List.mem_singleton.mp q) (show (n + 3 : Nat) ≠ b by omega)
  sep1_2 := fun e => by
    rcases List.mem_cons.mp e with q | q
    · exact absurd q (show (n : Nat) ≠ n + 1 by omega)
    · exact absurd (List.mem_singleton.mp q) (show (n : Nat) ≠ b by omega)
  sep2_1 := fun e => absurd (List.mem_singleton.mp e) (show (n + 1 : Nat) ≠ n by omega)
/-- the zip's five records before turn i -/
structure ZSt (x : Str) (t : Tok) (b z TI TO i1 i2 : Addr) (i : Nat) (h : Heap) : Prop where
  zz : IsZip h z TI TO .none
  ti : IsTupOf2 h TI (.ref i1) (.ref i2)
  to : ∃ v u, IsTupOf2 h TO v u
  s1 : h.IsStrIter i1 (strIterType x) x t i
  s2 : h.IsListIter i2 b i
section
variable {x : Str} {t : Tok} {b z TI TO i1 i2 : Addr} {i : Nat} {h h' : Heap}
theorem ZSt.move (S : ZSt x t b z TI TO i1 i2 i h) (k : ∀ c ∈ [z, TI, TO, i1, i2], ∀ o, h.get? c = some o → h'.get? c = some o) : ZSt x t b z TI TO i1 i2 i h' := by
  obtain ⟨hz, hti, ⟨v, u, hto⟩, ⟨o1, e1, r1⟩, ⟨o2, e2, r2⟩⟩ := S
  exact ⟨k _ (by simp) _ hz, k _ (by simp) _ hti, ⟨v, u, k _ (by simp) _ hto⟩, ⟨o1, k _ (by simp) _ e1, r1⟩, ⟨o2, k _ (by simp) _ e2, r2⟩⟩
/-- each record stands, and none is a cell of a value of ours -/
theorem ZSt.recs (S : ZSt x t b z TI TO i1 i2 i h) : ∀ c ∈ [z, TI, TO, i1, i2], ∃ o, h.get? c = some o ∧ ∀ v, o.data ≠ .cell v := by
  obtain ⟨hz, hti, ⟨v, u, hto⟩, ⟨o1, e1, _, d1⟩, ⟨o2, e2, _, d2⟩⟩ := S
  refine all5 ⟨_, hz, ?_⟩ ⟨_, hti, ?_⟩ ⟨_, hto, ?_⟩ ⟨o1, e1, ?_⟩ ⟨o2, e2, ?_⟩
  · exact fun _ q => nomatch q
  · exact fun _ q => nomatch q
  · exact fun _ q => nomatch q
  · intro _ q
    rw [d1] at q
    cases q
  · intro _ q
    rw [d2] at q
    cases q
end
theorem turn_zipS {P : Program} {w : World} {K : PySem.W.Frag} {elts : List Expr} {kk : Nat} {tpos : Pos} {b z TI TO i1 i2 : Addr} {x : Str} {t : Tok} (D : ZipSep2 z TI TO i1 i2 [i1] [i2, b]) (hb2 : b ≠ i2) :
    Turn P w K (.Tuple elts kk tpos) (Itzs K x b) [z, TI, TO, i1, i2] z (ZSt x t b z TI TO i1 i2) where
  mem := .head _
  obj := fun i h S => S.recs
  keep := fun i h h' S k => S.move k
  item := by
    intro X hP hw hK hc i pins s σ H E I hf S hg
    subst hP hw hK
    obtain ⟨hi, ys, y, hqy, hy⟩ := hg
    obtain ⟨its, rv, pl, _⟩ := I.list hqy
    obtain ⟨u2, hu2, ru2⟩ := rv.get hy
    obtain ⟨v0, u0, hto⟩ := S.to
    have calm : X.A.in1.handled = none := I.ok.hd hc
    have d1 := Draws.text (prog := X.prog) (w := X.w) calm i1 x t
    have d2 := Draws.list (prog := X.prog) (w := X.w) calm i2 b hb2 its.toArray
    have li : i < its.toArray.size := by simpa using (List.getElem?_eq_some_iff.mp hu2).1
    have small : ∀ c ∈ [z, TI, TO, i1, i2], c ≠ s.heap.objs.size := fun c hc => by
      obtain ⟨o, e, _⟩ := S.recs c hc
      exact Nat.ne_of_lt (Heap.lt_size e)
    have zs : s.heap.objs.size ≠ z := (small z (.head _)).symm
    refine wpAny_pyNext_zipD2_item D d1 d2 S.zz S.ti hto S.s1 ⟨S.s2, pl.isList⟩ hi li fun x1 x2 h1 tk q1 q2 zz1 to1 is1 is2 hT _ hk => ?_
    obtain ⟨c, u, hcx, rfl⟩ := q1
    obtain rfl : x2 = u2 := Option.some.inj ((show its[i]? = some x2 by simpa using q2).symm.trans hu2)
    refine ⟨_, rfl, wpAny_letOwnedTupleGo_zip (s := { s with heap := h1, toks := tk }) zz1 fun h2 zz2 sb => ?_⟩
    -- what was, but these records, is as it was
    have old : ∀ a o, a ∉ [z, TI, TO, i1, i2] → s.heap.get? a = some o → h2.get? a = some o := fun a o na e => by
      obtain ⟨n1, _, n3, n4, n5⟩ := out5 na
      exact (sb.2 a n1).trans (hk a o n1 n3 n4 n5 e)
    have tup : h2.get? s.heap.objs.size = some { cls := .type "tuple", data := .seq #[.str ⟨#[c]⟩ u, x2] } := (sb.2 _ zs).trans hT
    have ok : ObjOk X.prog X.w (upd H s.heap.objs.size (.tup [.str ⟨#[c]⟩, y])) h2 s.heap.objs.size (.tup [.str ⟨#[c]⟩, y]) :=
      ⟨(by decide : 2 ≤ sizeLine), [.str ⟨#[c]⟩ u, x2], .cons ⟨u, rfl⟩ (.cons ru2 .nil), ⟨_, tup, rfl, _, rfl⟩⟩
    have J := I.turnedNew (t' := tk) old hf (Nat.le_refl _) ok
    refine ⟨.ref s.heap.objs.size, _, J, rfl, ⟨_, c, y, rfl, I.hok.fresh (Nat.le_refl _), rfl, hcx, fun l hl => ?_⟩, ?_, fun a ha => ?_⟩
    · rw [I.list_inj hl hqy]
      exact hy
    · obtain ⟨o1, e1, r1⟩ := is1
      obtain ⟨⟨o2, e2, r2⟩, _⟩ := is2
      exact ⟨zz2, (sb.2 _ D.TIz).trans (hk _ _ D.TIz D.TITO D.TIi1 D.TIi2 S.ti), ⟨_, _, (sb.2 _ D.TOz).trans to1⟩, ⟨o1, (sb.2 _ D.zi1.symm).trans e1, r1⟩, ⟨o2, (sb.2 _ D.zi2.symm).trans e2, r2⟩⟩
    · rw [upd_ne (small a ha)]
      exact (hf a ha).1
  done := by
    intro X hP hw hK hc i pins s σ H E I hf S hg
    subst hP hw hK
    obtain ⟨hi, ys, hqy, hiy, hend⟩ := hg
    obtain ⟨its, rv, pl, _⟩ := I.list hqy
    obtain ⟨v0, u0, hto⟩ := S.to
    have calm : X.A.in1.handled = none := I.ok.hd hc
    have d1 := Draws.text (prog := X.prog) (w := X.w) calm i1 x t
    have d2 := Draws.list (prog := X.prog) (w := X.w) calm i2 b hb2 its.toArray
    have ll := rv.length
    have sz : its.toArray.size = ys.length := by
      rw [List.size_toArray]
      omega
    refine wpAny_pyNext_zipD2_end D d1 d2 S.zz S.ti hto S.s1 ⟨S.s2, pl.isList⟩ hi (by omega) (by omega) fun h1 tk hk => ⟨rfl, I.turnedL (t' := tk) (ch := [z, TI, TO, i1, i2]) (fun a o na e => ?_) hf⟩
    obtain ⟨n1, _, n3, n4, n5⟩ := out5 na
    exact hk a o n1 n3 n4 n5 e
  self := fun A i s Q E S hq => wpAny_pyIter_zip S.zz hq
def iZipS (K : PySem.W.Frag) (ta : TA) : TI := fun σ H R => ta σ H fun vs H1 => ∃ x b ys, vs = [.str x, .ref b] ∧ SqL K H1 b ys ∧ R (Itzs K x b) H1
theorem pi_zipS {X : Cx} {e e2 : Expr} {ta : TA} {p pos tpos : Pos} {elts : List Expr} {kk : Nat} (hg : Gl X "zip") (hm : X.mg "zip" = none) (ha : PA X [e, e2] ta)
    (hs : starEach [e, e2] X.env = (false, eval e X.env) :: starEach [e2] X.env := by rfl) (hpl : (backTo pos (starEach [e2] X.env)).any (·.1) = false := by rfl) :
    PI X (.Tuple elts kk tpos) (.Call (.Name "zip" p) [e, e2] [] pos) (iZipS X.K ta) := by
  refine ⟨fun pins s σ H R I h => ?_⟩
  refine Call_ (ld_blt I hg hm PyProof.Rows.boot_zip (PyProof.Rows.callWith_type1 (thn (ha.run pos pins s σ H _ I h) fun us s1 ⟨vs, H1, I1, r1, x, b, ys, ex, hqy, q⟩ => ?_) hs hpl))
  subst ex
  obtain ⟨v1, v2, rfl, ⟨t, rfl⟩, rfl⟩ : ∃ v1 v2, us = [v1, v2] ∧ RelV (.str x) v1 ∧ v2 = .ref b := by
    cases r1 with
    | cons ra rb =>
      cases rb with
      | cons rc rd =>
        cases rd
        exact ⟨_, _, rfl, ra, rc⟩
  obtain ⟨its, rv, pl, _⟩ := I1.list hqy
  have lb : b < s1.heap.objs.size := pl.lt
  refine zip_begins2 (begins_text x t) (begins_list b its.toArray) trivial pl.isList fun h' hz hti hto h1 h2 _ hk => wpAny_pyIter_zip hz ?_
  have I2 : Inv X pins σ H1 { s1 with heap := h' } := I1.kept (t' := s1.toks) hk
  have st : ZSt x t b (s1.heap.objs.size + 4) (s1.heap.objs.size + 2) (s1.heap.objs.size + 3) s1.heap.objs.size (s1.heap.objs.size + 1) 0 h' := ⟨hz, hti, ⟨_, _, hto⟩, ⟨_, h1, rfl, rfl⟩, ⟨_, h2, rfl, rfl⟩⟩
  have new : ∀ k, FpOk X pins H1 (s1.heap.objs.size + k) := fun k => I1.fpOk (Nat.le_add_right _ k) (I1.hok.fresh (Nat.le_add_right _ k))
  exact ⟨_, _, _, _, H1, rfl, I2, turn_zipS (t := t) (zip_apart lb) (Nat.ne_of_lt (Nat.lt_succ_of_lt lb)), st, all5 (new 4) (new 2) (new 3) (new 0) (new 1), q⟩
theorem walk_zipS {K : PySem.W.Frag} {x : Str} {b : Addr} {ys : List V} {n : Nat} (h1 : x.cps.size = n) (h2 : ys.length = n) : Walk (Itzs K x b) n (fun H => SqL K H b ys)
    (fun i H v H' => ∃ T c y, v = .ref T ∧ H T = none ∧ H' = upd H T (.tup [.str ⟨#[c]⟩, y]) ∧ x.cps[i]? = some c ∧ ys[i]? = some y) := by
  refine ⟨fun i H hi q => ⟨by omega, ys, ys[i], q, by simp⟩, fun H q => ⟨by omega, ys, q, by omega, .inl h1.symm⟩, fun i H v H' _ q y => ?_⟩
  obtain ⟨T, c, y, e1, e2, e3, e4, e5⟩ := y
  exact ⟨T, c, y, e1, e2, e3, e4, e5 ys q⟩
end J93
namespace J93
open PySem PySem.Spec PyProof.Rows L2 He

/-- the item that a line asks for is there -/
def Has (m : Itm) : Ln → Prop
  | .shw o => ∃ ns, m o.s = some ns
  | .dig _ o => ∃ ns, m o.s = some ns
  | _ => True
/-- a line of a known command: its command, its other words -/
def wordsK : Ln → Option (Str × List Str)
  | .nums n ns => some ("numbers", n.s :: ns.map str)
  | .text n cs => some ("text", [n.s, mk cs])
  | .text0 n => some ("text", [n.s, Str.empty])
  | .shw o => some ("show", [o.s])
  | .dig n o => some ("digits", [n.s, o.s])
  | _ => none
def sp_done (K : PySem.W.Frag) : Sp := fun vs H Q _ => ∃ (d it : Addr) (m : Itm) (k : Nat) (F : Addr → Prop) (l : Ln) (c : Str) (ws : List Str) (a : Addr), vs = [.ref d, .str c, .ref a] ∧ l.Ok ∧ wordsK l = some (c, ws) ∧ H a = some (hStrs ws) ∧
  DkAt K H d it m k F ∧ k ≤ 1000 ∧ Free H F ∧ m.Good ∧ Has m l ∧ ∀ H', DkAt K H' d it (nxt m l) (k + 1) F → Off it H H' → Q (.str (ans m l)) H'
theorem codes_good {cs : List Nat} (h : ∀ c ∈ cs, c ∈ PR) : goodS (mk cs) := fun c hc => .inr (h c hc)
section
variable {P : Program} {w : World} {K : PySem.W.Frag} {mg : Str → Option Value} {base : Heap}
theorem sc_of_items : FnScope ["self", "command", "words", "name", "ended", "output", "steps", "word"] ["self", "command", "words"] (defScope s_Desk_of_items) := ⟨rfl, rfl, rfl, by decide +kernel, rfl, by decide +kernel, by decide +kernel⟩
theorem atS0 {x : Str} {r : List Str} : atI ((x :: r).map V.str) 0 = some (.str x) := atI_nat (j := 0) rfl
theorem atS1 {x y : Str} {r : List Str} : atI ((x :: y :: r).map V.str) 1 = some (.str y) := atI_nat (j := 1) rfl
theorem ok_of_items (T : Tx K w mg) : ∃ fd, FnOk P w K mg base CX0 4 (ma K (ga K "Desk") "_of_items") fd ["self", "command", "words"] (sp_done K) ∧ Binds K fd ["self", "command", "words"] [] := by
  obtain ⟨fd, F0⟩ := T.d_Desk_of_items
  obtain ⟨fC, GC, bC⟩ := ok_codes (P := P) (base := base) T
  obtain ⟨_, FC⟩ := T.d_codes_of
  obtain ⟨fS, GS, bS⟩ := ok_shown (P := P) (base := base) T
  obtain ⟨fK, GK, bK⟩ := ok_kept (P := P) (base := base) T
  obtain ⟨fD, GD, bD⟩ := ok_defined (P := P) (base := base) T
  obtain ⟨_, FD⟩ := T.d_defined
  refine ⟨fd, ok0 F0 sc_of_items (fun vs H Q E h => ?_) (fun cdv A outer s H vs Q E hr h => ?_), F0.bindsN fun _ _ _ _ _ _ us hl => match us, hl with | [_, _, _], _ => rfl⟩
  · obtain ⟨d, it, m, k, F, l, c, ws, a, rfl, _⟩ := h
    rfl
  · obtain ⟨d, it, m, k, F, l, c, ws, a, rfl, hl, hw, ha, hD, hk, hF, hG, hH, kQ⟩ := h
    have hu := hu_of hr
    have nd := sc_of_items.nd
    have hr1 : Room 1 _ := hr.mono (by decide)
    have hr2 : Room 2 _ := hr.mono (by decide)
    refine ⟨_, pss_cons (ps_set (i := 3) nd rfl (.inl rfl) (pe_ix ix_list (pv 2) pe_int (fun _ _ => rfl)))
      (pss_cons (ps_if (pt_cmpR op_eq (pv 1) pe_str (nomark _))
        (pss_cons (ps_dput hu (pe_fld (pv 0) rfl) (pv 3) (pe_lc (own := [("word", 7)]) (g := gName 7) (tt := tYes) rfl nd (pi_list (pe_slice sl_list (pv 2) (po_some pe_int) po_none))
            (blkOk_by (N := ["self", "command", "words", "name", "ended", "output", "steps", "word"]) (sc := defScope s_Desk_of_items) (by decide +kernel))
            (fun _ _ _ _ _ => pg_name (i := 7) nd rfl (Or.inl rfl)) (fun _ _ _ _ _ => pts_nil)
            (fun _ _ _ _ _ => pe_callTy call_int_str (by rfl) T.f_int (by decide +kernel) (pa_cons (pv 7) pa_nil))) rfl)
          (pss_one (ps_ret pe_str))) pss_nil)
      (pss_cons (ps_if (pt_cmpR op_eq (pv 1) pe_str (nomark _))
        (pss_cons (ps_dput hu (pe_fld (pv 0) rfl) (pv 3) (pe_call GC hr1 (by rfl) T.g_codes_of FC.kp bC .nil passL (pa_cons (pe_ix ix_list (pv 2) pe_int (fun _ _ => rfl)) pa_nil)) rfl)
          (pss_one (ps_ret pe_str))) pss_nil)
      (pss_cons (ps_if (pt_cmpR op_eq (pv 1) pe_str (nomark _))
        (pss_one (ps_ret (pe_meth (pv 0) T.cDesk T.mDesk_shown GS hr2 bS .nil pass0 (pa_cons (pv 3) pa_nil)))) pss_nil)
      (pss_cons (ps_if (pt_cmpR op_eq (pv 1) pe_str (nomark _)) pss_never pss_nil)
      (pss_cons (ps_if (pt_cmpR op_ne (pv 1) pe_str (nomark _))
        (pss_one (ps_ret (pe_meth (pv 0) T.cDesk T.mDesk_kept GK hr1 bK .nil pass0 (pa_cons (pv 3) (pa_cons
          (pe_call GD hr (by rfl) T.g_defined FD.kp bD .nil pass0 (pa_cons (pv 1) (pa_cons (pe_dget hu (pe_fld (pv 0) rfl) (pe_ix ix_list (pv 2) pe_int (fun _ _ => rfl)) (fun _ _ => rfl)) pa_nil))) pa_nil))))) pss_nil)
      pss_never))))), ?_⟩
    obtain ⟨⟨dx, r, s0, c0, hd⟩, kvs, h1, h2, h3, h4⟩ := hD
    have di : d ≠ it := ne_of hd h1 (by intro z; cases z)
    -- a new list p is stored under x
    have put : ∀ (p : Addr) (H1 : Hp) (x : Str) (ns : List Int), Same H H1 → H p = none → H1 p = some (hInts ns) →
        DkAt K (upd H1 it (.dK (putK kvs (Sum.inr x) (.ref p)))) d it (putI m x ns) (k + 1) F ∧ Off it H (upd H1 it (.dK (putK kvs (Sum.inr x) (.ref p)))) := fun p H1 x ns s1 np hp =>
      ⟨⟨⟨dx, r, s0, c0, by rw [upd_ne di]; exact s1 _ _ hd⟩, ItAt.put h1 h2 h3 h4 s1 hp (hF p np)⟩, (Off.of s1).trans (Off.upd _ _ _)⟩
    cases l with
    | nums n ns =>
      cases hw
      refine ⟨_, rfl, a, _, 0, _, rfl, rfl, SqL.of ha, atS0, ?_⟩
      refine ⟨_, rfl, rfl, _, rfl, ?_⟩
      rw [eqS_eq rfl]
      refine iteT ⟨_, rfl, 1, rfl, a, _, rfl, SqL.of ha, fun p np => ?_⟩
      have e1 : cutV ((n.s :: ns.map str).map V.str) (some 1) none = (ns.map str).map V.str := cutV_from _ 1
      rw [e1]
      refine ⟨p, rfl, ⟨_, SqL.of upd_same⟩, fun D nD => ?_⟩
      have Dp : p ≠ D := fun e => by rw [← e, upd_same] at nD; cases nD
      have nD0 : H D = none := by
        cases e : H D with
        | none => rfl
        | some o => rw [Same.upd np _ _ e] at nD; cases nD
      refine lc_it (walk_list (xs := (ns.map str).map V.str)) (fun i H' => Same H H' ∧ H' p = some (.lst ((ns.map str).map V.str)) ∧ H' D = some (hInts (ns.take i)))
        ⟨(Same.upd np).trans (Same.upd nD), by rw [upd_ne Dp]; exact upd_same, upd_same⟩ (fun i H' _ ⟨_, hp, _⟩ => SqL.of hp) ?_ ?_
      · rintro i y H1 H2 hi ⟨s1, hp, hDD⟩ ⟨rfl, hx⟩
        obtain ⟨z, hz, rfl⟩ := at_map hx
        obtain ⟨c, hc, rfl⟩ := at_map hz
        have hcb := hl.2 c (List.mem_of_getElem? hc)
        have h4' := hl.1
        refine ⟨rfl, _, rfl, _, c, rfl, int_str hcb.1 hcb.2, Nat.le_trans (str_len hcb.1 (by omega)) (by decide), ?_⟩
        refine ⟨_, hDD, ?_, fun b o e => ?_, ?_, ?_⟩
        · rw [List.length_map, List.length_take]
          exact small (by omega)
        · rw [upd_ne (ne_of_none e nD0)]
          exact s1 b o e
        · rw [upd_ne Dp]
          exact hp
        · rw [upd_same, take_one hc, hInts_app]
          rfl
      · rintro H1 ⟨s1, hp, hDD⟩
        rw [List.length_map, List.length_map, List.take_length] at hDD
        refine ⟨_, rfl, d, _, dx, _, _, rfl, s1 _ _ hd, T.cDesk, T.nDesk_items, fsD_items _ _ _ _, _, rfl, it, _, rfl, DPut.k (k := Sum.inr n.s) (s1 _ _ h1) (small (by omega)), ?_⟩
        obtain ⟨q1, q2⟩ := put D H1 n.s ns s1 nD0 hDD
        exact kQ _ q1 q2
    | text n cs =>
      cases hw
      refine ⟨_, rfl, a, _, 0, _, rfl, rfl, SqL.of ha, atS0, ?_⟩
      refine ⟨_, rfl, rfl, _, rfl, ?_⟩
      rw [eqS_ne (by rw [w_text, w_numbers]; decide)]
      refine iteF ⟨_, rfl, rfl, _, rfl, ?_⟩
      rw [eqS_eq rfl]
      have h8 := hl.1
      refine iteT ⟨_, rfl, a, _, 1, _, rfl, rfl, SqL.of ha, atS1, mk cs, rfl, by rw [len_mk]; omega, fun _ p H1 s1 np hp => ?_, fun hg => absurd (codes_good hl.2) hg⟩
      refine ⟨_, rfl, d, _, dx, _, _, rfl, s1 _ _ hd, T.cDesk, T.nDesk_items, fsD_items _ _ _ _, _, rfl, it, _, rfl, DPut.k (k := Sum.inr n.s) (s1 _ _ h1) (small (by omega)), ?_⟩
      obtain ⟨q1, q2⟩ := put p H1 n.s _ s1 np hp
      exact kQ _ q1 q2
    | text0 n =>
      cases hw
      refine ⟨_, rfl, a, _, 0, _, rfl, rfl, SqL.of ha, atS0, ?_⟩
      refine ⟨_, rfl, rfl, _, rfl, ?_⟩
      rw [eqS_ne (by rw [w_text, w_numbers]; decide)]
      refine iteF ⟨_, rfl, rfl, _, rfl, ?_⟩
      rw [eqS_eq rfl]
      refine iteT ⟨_, rfl, a, _, 1, _, rfl, rfl, SqL.of ha, atS1, Str.empty, rfl, by decide, fun _ p H1 s1 np hp => ?_, fun hg => absurd (fun c hc => by cases hc) hg⟩
      refine ⟨_, rfl, d, _, dx, _, _, rfl, s1 _ _ hd, T.cDesk, T.nDesk_items, fsD_items _ _ _ _, _, rfl, it, _, rfl, DPut.k (k := Sum.inr n.s) (s1 _ _ h1) (small (by omega)), ?_⟩
      obtain ⟨q1, q2⟩ := put p H1 n.s [] s1 np hp
      exact kQ _ q1 q2
    | shw o =>
      cases hw
      obtain ⟨ns, hm⟩ := hH
      refine ⟨_, rfl, a, _, 0, _, rfl, rfl, SqL.of ha, atS0, ?_⟩
      refine ⟨_, rfl, rfl, _, rfl, ?_⟩
      rw [eqS_ne (by rw [w_show, w_numbers]; decide)]
      refine iteF ⟨_, rfl, rfl, _, rfl, ?_⟩
      rw [eqS_ne (by rw [w_show, w_text]; decide)]
      refine iteF ⟨_, rfl, rfl, _, rfl, ?_⟩
      rw [eqS_eq rfl]
      have D1 : DkAt K H d it m k F := ⟨⟨dx, r, s0, c0, hd⟩, kvs, h1, h2, h3, h4⟩
      refine iteT ⟨_, rfl, d, dx, _, rfl, hd, fsD_no (by decide +kernel) (by decide +kernel) (by decide +kernel) (by decide +kernel), _, rfl, d, it, m, k, F, o.s, ns, rfl, D1, hm, hG _ _ hm, fun H1 s1 => ?_⟩
      have := kQ H1 ((D1.same s1).mono (Nat.le_succ k)) (Off.of s1)
      have e : ans m (.shw o) = shown ns := by
        show (match m o.s with | none => ("unknown " : Str) ++ o.s | some ns => shown ns) = _
        rw [hm]
      rw [e] at this
      exact this
    | dig n o =>
      cases hw
      obtain ⟨ns, hm⟩ := hH
      have hC := hG _ _ hm
      have h8 := hC.1
      obtain ⟨a', e1, e2, e3⟩ := h4 _ _ hm
      have get : DGet H it (.str o.s) (some (.ref a')) := by
        rw [← e1]
        exact DGet.k (k := Sum.inr o.s) h1
      refine ⟨_, rfl, a, _, 0, _, rfl, rfl, SqL.of ha, atS0, ?_⟩
      refine ⟨_, rfl, rfl, _, rfl, ?_⟩
      rw [eqS_ne (by rw [w_digits, w_numbers]; decide)]
      refine iteF ⟨_, rfl, rfl, _, rfl, ?_⟩
      rw [eqS_ne (by rw [w_digits, w_text]; decide)]
      refine iteF ⟨_, rfl, rfl, _, rfl, ?_⟩
      rw [eqS_ne (by rw [w_digits, w_show]; decide)]
      refine iteF ⟨_, rfl, rfl, _, rfl, ?_⟩
      rw [eqS_ne (by decide +kernel)]
      refine iteF ⟨_, rfl, rfl, _, rfl, ?_⟩
      rw [eqS_ne (by decide +kernel)]
      refine iteT ⟨_, rfl, d, dx, _, rfl, hd, fsD_no (by decide +kernel) (by decide +kernel) (by decide +kernel) (by decide +kernel), _, rfl, _, rfl, _, rfl, d, _, dx, _, _, rfl, hd, T.cDesk, T.nDesk_items, fsD_items _ _ _ _,
        _, rfl, a, _, 1, _, rfl, rfl, SqL.of ha, atS1, it, .ref a', rfl, get, a', ns, rfl, SqL.of e2, by omega, fun p H1 s1 np hp => ?_⟩
      have D1 : DkAt K H1 d it m k F := (DkAt.same ⟨⟨dx, r, s0, c0, hd⟩, kvs, h1, h2, h3, h4⟩ s1)
      have hC2 := (digs_cont hC).1
      refine ⟨d, it, m, k, F, n.s, p, digs ns, rfl, D1, hk, hF.same s1, hp, by omega, fun H2 D2 o2 => ?_⟩
      have e : ans m (.dig n o) = str ((digs ns).length : Int) := by
        show (match m o.s with | none => ("unknown " : Str) ++ o.s | some ns => str ((digs ns).length : Int)) = _
        rw [hm]
      have e' : nxt m (.dig n o) = putI m n.s (digs ns) := by
        show (match m o.s with | none => m | some ns => putI m n.s (digs ns)) = _
        rw [hm]
      have := kQ H2 (by rw [e']; exact D2) ((Off.of s1).trans o2)
      rw [e] at this
      exact this
    | _ => cases hw
end
end J93
namespace J93
open PySem PySem.Spec PyProof.Rows L2 He

/-! ### marks and words, plainly -/
def marksOf : Ln → List Nat
  | .nums _ ns => 110 :: List.replicate ns.length 122
  | .text _ _ => [110, 107]
  | .text0 _ => [110, 107]
  | .shw _ => [105]
  | .dig _ _ => [110, 105]
  | _ => []
def Ft (c : Nat) (x : Str) : Prop := (c = 122 ∧ ∃ n : Int, x = str n ∧ -500 ≤ n ∧ n ≤ 499) ∨ c = 107 ∨ ((c = 110 ∨ c = 105) ∧ 1 ≤ x.length ∧ x.length ≤ 12 ∧ isNm x = true)
theorem nm_isNm (n : Nm) : isNm n.s = true := by cases n <;> decide +kernel
theorem om_isNm (o : Om) : isNm o.s = true := by
  cases o with
  | nm n => exact nm_isNm n
  | no => decide +kernel
theorem ft_nm (n : Nm) : Ft 110 n.s := .inr (.inr ⟨.inl rfl, (nm_len n).1, Nat.le_trans (nm_len n).2 (by decide), nm_isNm n⟩)
theorem ft_om (o : Om) : Ft 105 o.s := .inr (.inr ⟨.inr rfl, (om_len o).1, Nat.le_trans (om_len o).2 (by decide), om_isNm o⟩)
theorem at_two {α β : Type} {P : α → β → Prop} {a1 a2 : α} {b1 b2 : β} (h1 : P a1 b1) (h2 : P a2 b2) : ∀ (i : Nat) (a : α) (b : β), ([a1, a2] : List α)[i]? = some a → ([b1, b2] : List β)[i]? = some b → P a b
  | 0, a, b, ea, eb => by
    cases ea
    cases eb
    exact h1
  | 1, a, b, ea, eb => by
    cases ea
    cases eb
    exact h2
  | i + 2, a, b, ea, eb => by simp at ea
theorem ft_all {l : Ln} {c : Str} {ws : List Str} (h : wordsK l = some (c, ws)) (hl : l.Ok) : (marksOf l).length = ws.length ∧ ∀ (i : Nat) (a : Nat) (x : Str), (marksOf l)[i]? = some a → ws[i]? = some x → Ft a x := by
  cases l with
  | nums n ns =>
    cases h
    refine ⟨by simp [marksOf], fun i a x ea ex => ?_⟩
    cases i with
    | zero =>
      cases ea
      cases ex
      exact ft_nm n
    | succ i =>
      have ea' : (List.replicate ns.length 122)[i]? = some a := ea
      have ex' : (ns.map str)[i]? = some x := ex
      obtain ⟨z, hz, rfl⟩ := at_map ex'
      have e2 := List.mem_of_getElem? ea'
      rw [List.eq_of_mem_replicate e2]
      have := hl.2 z (List.mem_of_getElem? hz)
      exact .inl ⟨rfl, z, rfl, this.1, this.2⟩
  | text n cs =>
    cases h
    exact ⟨rfl, at_two (ft_nm n) (.inr (.inl rfl))⟩
  | text0 n =>
    cases h
    exact ⟨rfl, at_two (ft_nm n) (.inr (.inl rfl))⟩
  | shw o =>
    cases h
    refine ⟨rfl, fun i a x ea ex => ?_⟩
    cases i with
    | zero =>
      cases ea
      cases ex
      exact ft_om o
    | succ i => simp [marksOf] at ea
  | dig n o =>
    cases h
    exact ⟨rfl, at_two (ft_nm n) (ft_om o)⟩
  | _ => cases h
theorem has_of {m : Itm} {l : Ln} {c : Str} {ws : List Str} (h : wordsK l = some (c, ws)) (q : ∀ (i : Nat) (x : Str), (marksOf l)[i]? = some 105 → ws[i]? = some x → (m x).isSome = true) : Has m l := by
  cases l with
  | shw o =>
    cases h
    exact Option.isSome_iff_exists.mp (q 0 o.s rfl rfl)
  | dig n o =>
    cases h
    exact Option.isSome_iff_exists.mp (q 1 o.s rfl rfl)
  | _ => exact trivial
theorem unk_of {m : Itm} {l : Ln} {c : Str} {ws : List Str} {i : Nat} {x : Str} (h : wordsK l = some (c, ws)) (h1 : (marksOf l)[i]? = some 105) (h2 : ws[i]? = some x) (h3 : m x = none) : ans m l = ("unknown " : Str) ++ x ∧ nxt m l = m := by
  cases l with
  | nums n ns =>
    have e := List.mem_of_getElem? h1
    rcases List.mem_cons.mp e with e | e
    · exact absurd e (by decide)
    · exact absurd (List.eq_of_mem_replicate e) (by decide)
  | text n cs =>
    have e := List.mem_of_getElem? h1
    exact absurd e (by simp [marksOf])
  | text0 n =>
    have e := List.mem_of_getElem? h1
    exact absurd e (by simp [marksOf])
  | shw o =>
    cases h
    cases i with
    | zero =>
      cases h2
      refine ⟨?_, rfl⟩
      show (match m o.s with | none => ("unknown " : Str) ++ o.s | some ns => shown ns) = _
      rw [h3]
    | succ i => simp [marksOf] at h1
  | dig n o =>
    cases h
    match i, h1, h2 with
    | 0, h1, h2 => exact absurd h1 (by simp [marksOf])
    | 1, h1, h2 =>
      cases h2
      refine ⟨?_, ?_⟩
      · show (match m o.s with | none => ("unknown " : Str) ++ o.s | some ns => str ((digs ns).length : Int)) = _
        rw [h3]
      · show (match m o.s with | none => m | some ns => putI m n.s (digs ns)) = _
        rw [h3]
    | i + 2, h1, h2 => simp [marksOf] at h1
  | _ => cases h
theorem marks_ok {l : Ln} {c : Str} {ws : List Str} {H : Hp} {Q : VK} {E : XK} {n : Int} (h : wordsK l = some (c, ws)) (hl : l.Ok) (hn : n = (ws.length : Int)) (q : Q (.str (mk (marksOf l))) H) : sp_marks [.str c, .int n] H Q E := by
  subst hn
  refine ⟨c, _, rfl, ?_⟩
  cases l with
  | nums n ns =>
    cases h
    have h4 := hl.1
    refine .inl ⟨rfl, ?_, ?_, ?_⟩
    · rw [List.length_cons]; omega
    · rw [List.length_cons, List.length_map]; omega
    · have e : (((n.s :: ns.map str).length : Int) - 1).toNat = ns.length := by
        rw [List.length_cons, List.length_map]
        omega
      rw [e]
      exact q
  | text n cs =>
    cases h
    exact .inr (.inl ⟨rfl, rfl, q⟩)
  | text0 n =>
    cases h
    exact .inr (.inl ⟨rfl, rfl, q⟩)
  | shw o =>
    cases h
    exact .inr (.inr (.inl ⟨rfl, rfl, q⟩))
  | dig n o =>
    cases h
    exact .inr (.inr (.inr ⟨rfl, rfl, q⟩))
  | _ => cases h
theorem fits_ok {a : Nat} {x : Str} {H : Hp} {Q : VK} {E : XK} (h : Ft a x) (q : ∀ H', Same H H' → Q (.bl true) H') : sp_fits [.str ⟨#[a]⟩, .str x] H Q E := by
  refine ⟨a, x, rfl, ?_⟩
  rcases h with ⟨e, n, e2, h1, h2⟩ | e | ⟨e, h1, h2, h3⟩
  · exact .inl ⟨e, n, e2, h1, h2, q⟩
  · exact .inr (.inl ⟨e, q⟩)
  · refine .inr (.inr ⟨e, h1, h2, ?_⟩)
    rw [h3]
    exact q
theorem words_split {l : Ln} {ws' : List Str} (h : wordsOf l = some ws') : l = .odd2 ∨ l = .odd3 ∨ ∃ c ws, wordsK l = some (c, ws) ∧ ws' = c :: ws ∧ ∃ t : Str, (c, t) ∈ ([("numbers", "nz*"), ("text", "nk"), ("show", "i"), ("digits", "ni")] : List (Str × Str)) := by
  cases l with
  | nums n ns => cases h; exact .inr (.inr ⟨_, _, rfl, rfl, "nz*", by simp⟩)
  | text n cs => cases h; exact .inr (.inr ⟨_, _, rfl, rfl, "nk", by simp⟩)
  | text0 n => cases h; exact .inr (.inr ⟨_, _, rfl, rfl, "nk", by simp⟩)
  | shw o => cases h; exact .inr (.inr ⟨_, _, rfl, rfl, "i", by simp⟩)
  | dig n o => cases h; exact .inr (.inr ⟨_, _, rfl, rfl, "ni", by simp⟩)
  | odd0 => cases h
  | odd1 => cases h
  | odd2 => exact .inl rfl
  | odd3 => exact .inr (.inl rfl)
theorem words_none {l : Ln} (h : wordsOf l = none) (m : Itm) : ans m l = "bad" ∧ nxt m l = m := by
  cases l with
  | odd0 => exact ⟨rfl, rfl⟩
  | odd1 => exact ⟨rfl, rfl⟩
  | _ => cases h
theorem in_done {c : Str} {t : Str} (h : (c, t) ∈ ([("numbers", "nz*"), ("text", "nk"), ("show", "i"), ("digits", "ni")] : List (Str × Str))) :
    inV (.str c) [.str "numbers", .str "text", .str "show", .str "digits", .str "short", .str "plain", .str "turned", .str "trim", .str "run"] = true := by
  simp only [List.mem_cons, List.mem_nil_iff, or_false, Prod.mk.injEq] at h
  rcases h with ⟨rfl, _⟩ | ⟨rfl, _⟩ | ⟨rfl, _⟩ | ⟨rfl, _⟩ <;> decide +kernel

def sp_answer (K : PySem.W.Frag) : Sp := fun vs H Q _ => ∃ (d it : Addr) (m : Itm) (k : Nat) (F : Addr → Prop) (l : Ln), vs = [.ref d, .str l.tx] ∧ l.Ok ∧
  DkAt K H d it m k F ∧ k ≤ 1000 ∧ Free H F ∧ m.Good ∧ ∀ H', DkAt K H' d it (nxt m l) (k + 1) F → Off it H H' → Q (.str (ans m l)) H'
section
variable {P : Program} {w : World} {K : PySem.W.Frag} {mg : Str → Option Value} {base : Heap}
theorem sc_done : FnScope ["self", "command", "words"] ["self", "command", "words"] (defScope s_Desk_done) := ⟨rfl, rfl, rfl, by decide +kernel, rfl, by decide +kernel, by decide +kernel⟩
theorem ok_done (T : Tx K w mg) : ∃ fd, FnOk P w K mg base CX0 5 (ma K (ga K "Desk") "_done") fd ["self", "command", "words"] (sp_done K) ∧ Binds K fd ["self", "command", "words"] [] := by
  obtain ⟨fd, F0⟩ := T.d_Desk_done
  obtain ⟨fI, GI, bI⟩ := ok_of_items (P := P) (base := base) T
  refine ⟨fd, ok0 F0 sc_done (fun vs H Q E h => ?_) (fun cdv A outer s H vs Q E hr h => ?_), F0.bindsN fun _ _ _ _ _ _ us hl => match us, hl with | [_, _, _], _ => rfl⟩
  · obtain ⟨d, it, m, k, F, l, c, ws, a, rfl, _⟩ := h
    rfl
  · obtain ⟨d, it, m, k, F, l, c, ws, a, rfl, hl, hw, ha, hD, hk, hF, hG, hH, kQ⟩ := h
    refine ⟨_, pss_cons (ps_if (pt_cmpR op_in_seq (pv 1) (pe_tup (pa_cons pe_str (pa_cons pe_str (pa_cons pe_str (pa_cons pe_str (pa_cons pe_str (pa_cons pe_str (pa_cons pe_str (pa_cons pe_str (pa_cons pe_str pa_nil)))))))))) (by rfl))
        (pss_one (ps_ret (pe_meth (pv 0) T.cDesk T.mDesk_of_items GI hr bI .nil pass0 (pa_cons (pv 1) (pa_cons (pv 2) pa_nil))))) pss_nil)
      pss_never, ?_⟩
    refine ⟨_, rfl, by show 9 ≤ sizeLine; decide, fun p np => ⟨p, _, rfl, .inr (SqT.of upd_same), rfl, rfl, _, rfl, ?_⟩⟩
    have hin : inV (.str c) [.str "numbers", .str "text", .str "show", .str "digits", .str "short", .str "plain", .str "turned", .str "trim", .str "run"] = true := by
      cases l with
      | nums n ns => cases hw; exact in_done (t := "nz*") (by simp)
      | text n cs => cases hw; exact in_done (t := "nk") (by simp)
      | text0 n => cases hw; exact in_done (t := "nk") (by simp)
      | shw o => cases hw; exact in_done (t := "i") (by simp)
      | dig n o => cases hw; exact in_done (t := "ni") (by simp)
      | _ => cases hw
    have hin2 : (if false = true then !inV (.str c) [.str "numbers", .str "text", .str "show", .str "digits", .str "short", .str "plain", .str "turned", .str "trim", .str "run"] else inV (.str c) [.str "numbers", .str "text", .str "show", .str "digits", .str "short", .str "plain", .str "turned", .str "trim", .str "run"]) = true := hin
    rw [hin2]
    have s1 : Same H (upd H p (.tup [.str "numbers", .str "text", .str "show", .str "digits", .str "short", .str "plain", .str "turned", .str "trim", .str "run"])) := Same.upd np
    have D1 := hD.same s1
    obtain ⟨⟨dx, r, s0, c0, hd⟩, _⟩ := id D1
    refine iteT ⟨_, rfl, d, dx, _, rfl, hd, fsD_no (by decide +kernel) (by decide +kernel) (by decide +kernel) (by decide +kernel), _, rfl, _, rfl, ?_⟩
    exact ⟨d, it, m, k, F, l, c, ws, a, rfl, hl, hw, s1 _ _ ha, D1, hk, hF.same s1, hG, hH, fun H' D' o' => kQ H' D' ((Off.of s1).trans o')⟩
theorem sc_answer : FnScope ["self", "line", "words", "marks", "mark", "word"] ["self", "line"] (defScope s_Desk_answer) := ⟨rfl, rfl, rfl, by decide +kernel, rfl, by decide +kernel, by decide +kernel⟩
theorem mk_at {l : List Nat} {i c : Nat} (h : (mk l).cps[i]? = some c) : l[i]? = some c := by simpa [mk] using h
theorem ok_answer (T : Tx K w mg) : ∃ fd, FnOk P w K mg base CX0 6 (ma K (ga K "Desk") "answer") fd ["self", "line"] (sp_answer K) ∧ Binds K fd ["self", "line"] [] := by
  obtain ⟨fd, F0⟩ := T.d_Desk_answer
  obtain ⟨fW, GW, bW⟩ := ok_words_of (P := P) (base := base) T
  obtain ⟨_, FW⟩ := T.d_words_of
  obtain ⟨fM, GM, bM⟩ := ok_marks (P := P) (base := base) T
  obtain ⟨_, FM⟩ := T.d_marks
  obtain ⟨fF, GF, bF⟩ := ok_fits (P := P) (base := base) T
  obtain ⟨_, FF⟩ := T.d_fits
  obtain ⟨fK, GK, bK⟩ := ok_knows (P := P) (base := base) T
  obtain ⟨fO, GO, bO⟩ := ok_done (P := P) (base := base) T
  obtain ⟨es, nn, KD⟩ := T.dFORMS
  refine ⟨fd, ok0 F0 sc_answer (fun vs H Q E h => ?_) (fun cdv A outer s H vs Q E hr h => ?_), F0.bindsN fun _ _ _ _ _ _ us hl => match us, hl with | [_, _], _ => rfl⟩
  · obtain ⟨d, it, m, k, F, l, rfl, _⟩ := h
    rfl
  · obtain ⟨d, it, m, k, F, l, rfl, hl, hD, hk, hF, hG, kQ⟩ := h
    have nd := sc_answer.nd
    have hr1 : Room 1 _ := hr.mono (by decide)
    have hr3 : Room 3 _ := hr.mono (by decide)
    refine ⟨_, pss_cons (ps_set (i := 2) nd rfl (.inl rfl) (pe_call GW hr3 (by rfl) T.g_words_of FW.kp bW .nil pass0 (pa_cons (pv 1) pa_nil)))
      (pss_cons (ps_if (PW.pt (pw_or (pt_cmp (pc_isN (pv 2))) (pw_or1 (pt_cmpR (op_notIn_kd KD) (pe_ix ix_list (pv 2) pe_int (fun _ _ => rfl)) (pe_glob (v := .ref (ga K "FORMS")) rfl T.gFORMS rfl) (by rfl))))) (pss_one (ps_ret pe_str)) pss_nil)
      (pss_cons (ps_set (i := 3) nd rfl (.inl rfl) (pe_call GM hr1 (by rfl) T.g_marks FM.kp bM .nil pass0 (pa_cons (pe_ix ix_list (pv 2) pe_int (fun _ _ => rfl)) (pa_cons (pe_op op_sub (pe_callB call_len (by rfl) T.f_len PySem.boot_len (pa_cons (pv 2) pa_nil)) pe_int) pa_nil))))
      (pss_cons (ps_if (pt_cmp (pc_isN (pv 3))) (pss_one (ps_ret pe_str)) pss_nil)
      (pss_cons (ps_for PassesOwn.never rfl (pi_zipS (by rfl) T.f_zip (pa_cons (pv 3) (pa_cons (pe_slice sl_list (pv 2) (po_some pe_int) po_none) pa_nil))) (pg_tup rfl (pgs_cons (pg_name (i := 4) nd rfl (.inl rfl)) (pgs_cons (pg_name (i := 5) nd rfl (.inl rfl)) pgs_nil)))
        (pss_one (ps_if (pt_not (pt_val (pe_call GF hr3 (by rfl) T.g_fits FF.kp bF .nil pass0 (pa_cons (pv 4) (pa_cons (pv 5) pa_nil))))) (pss_one (ps_ret pe_str)) pss_nil)))
      (pss_cons (ps_for PassesOwn.never rfl (pi_zipS (by rfl) T.f_zip (pa_cons (pv 3) (pa_cons (pe_slice sl_list (pv 2) (po_some pe_int) po_none) pa_nil))) (pg_tup rfl (pgs_cons (pg_name (i := 4) nd rfl (.inl rfl)) (pgs_cons (pg_name (i := 5) nd rfl (.inl rfl)) pgs_nil)))
        (pss_one (ps_if (pt_not (pt_val (pe_meth (pv 0) T.cDesk T.mDesk_knows GK hr1 bK .nil pass0 (pa_cons (pv 4) (pa_cons (pv 5) pa_nil))))) (pss_one (ps_ret (pe_op op_add_str pe_str (pv 5)))) pss_nil)))
      (pss_one (ps_try_thru0 (pss_one (ps_ret (pe_meth (pv 0) T.cDesk T.mDesk_done GO hr bO .nil pass0 (pa_cons (pe_ix ix_list (pv 2) pe_int (fun _ _ => rfl)) (pa_cons (pe_slice sl_list (pv 2) (po_some pe_int) po_none) pa_nil)))))))))))), ?_⟩
    refine ⟨_, rfl, l, rfl, hl, fun hN H1 s1 => ?_, fun ws' hW p H1 s1 np hp => ?_⟩
    · -- no words
      refine ⟨_, rfl, _, rfl, ?_⟩
      refine iteT (iteT ?_)
      obtain ⟨e1, e2⟩ := words_none hN m
      have := kQ H1 (by rw [e2]; exact (hD.same s1).mono (Nat.le_succ k)) (Off.of s1)
      rw [e1] at this
      exact this
    · refine ⟨_, rfl, _, rfl, ?_⟩
      refine iteF ?_
      have D1 := hD.same s1
      have bad : ans m l = "bad" → nxt m l = m → ∀ H', Same H H' → Q (.str "bad") H' := fun e1 e2 H' s' => by
        have := kQ H' (by rw [e2]; exact (hD.same s').mono (Nat.le_succ k)) (Off.of s')
        rw [e1] at this
        exact this
      rcases words_split hW with rfl | rfl | ⟨c, ws, hk', rfl, t, ht⟩
      · cases hW
        refine ⟨_, rfl, p, _, 0, _, rfl, rfl, SqL.of hp, atS0, "nothing", none, rfl, rfl, T.oFORMS, _, rfl, iteT ?_⟩
        exact bad rfl rfl H1 s1
      · cases hW
        obtain ⟨t', e⟩ := T.vFORMS ("numbers", "nz*") (by simp)
        refine ⟨_, rfl, p, _, 0, _, rfl, rfl, SqL.of hp, atS0, "numbers", some _, rfl, rfl, e, _, rfl, iteF ?_⟩
        refine ⟨_, rfl, p, _, 0, _, rfl, rfl, SqL.of hp, atS0, _, rfl, _, _, rfl, .inl ⟨_, SqL.of hp, rfl⟩, _, _, rfl, rfl, "numbers", _, rfl, .inl ⟨rfl, by decide, by decide, ?_⟩⟩
        refine ⟨_, rfl, _, rfl, iteF ?_⟩
        refine ⟨_, rfl, _, rfl, 1, rfl, p, _, rfl, SqL.of hp, fun q nq => ?_⟩
        have e1 : cutV ((Ln.odd3.wd).map V.str) (some 1) none = ([("A" : Str), "1"]).map V.str := cutV_from _ 1
        rw [e1]
        refine ⟨mk [110, 122], q, _, rfl, SqL.of upd_same, for_it (walk_zipS (n := 2) rfl rfl) (fun i σ H' => i = 0 ∧ σ = [some (.ref d), some (.str Ln.odd3.tx), some (.ref p), some (.str (mk [110, 122])), none, none] ∧ Same H1 H' ∧ H' q = some (hStrs [("A" : Str), "1"]))
          ⟨rfl, rfl, Same.upd nq, upd_same⟩ (fun i σ H' _ h => SqL.of h.2.2.2) ?_ ?_⟩
        · rintro i x σ H2 H3 hi ⟨rfl, rfl, s2, hq⟩ ⟨T', a, y, rfl, nT, rfl, ha, hy⟩
          cases hy
          cases mk_at ha
          refine ⟨T', _, rfl, SqT.of upd_same, rfl, _, _, rfl, _, _, rfl, rfl, ?_⟩
          refine ⟨_, rfl, _, rfl, 110, "A", rfl, .inr (.inr ⟨.inl rfl, by decide +kernel, by decide +kernel, fun H4 s4 => ?_⟩)⟩
          rw [show isNm ("A" : Str) = false from by decide +kernel]
          refine ⟨_, rfl, iteT ?_⟩
          exact bad rfl rfl H4 (((s1.trans s2).trans (Same.upd nT)).trans s4)
        · rintro σ H2 ⟨e, _⟩
          exact absurd e (by decide)
      · obtain ⟨t', e⟩ := T.vFORMS (c, t) ht
        obtain ⟨fl, ft⟩ := ft_all hk' hl
        have hsz : (mk (marksOf l)).cps.size = ws.length := by
          show (marksOf l).toArray.size = _
          rw [List.size_toArray]
          exact fl
        have e1 : cutV ((c :: ws).map V.str) (some 1) none = ws.map V.str := cutV_from _ 1
        refine ⟨_, rfl, p, _, 0, _, rfl, rfl, SqL.of hp, atS0, c, some _, rfl, rfl, e, _, rfl, iteF ?_⟩
        refine ⟨_, rfl, p, _, 0, _, rfl, rfl, SqL.of hp, atS0, _, rfl, _, _, rfl, .inl ⟨_, SqL.of hp, rfl⟩, _, _, rfl, rfl, ?_⟩
        unfold tNil
        refine marks_ok hk' hl (n := (((c :: ws).map V.str).length : Int) - 1) (by rw [List.length_map, List.length_cons]; omega) ?_
        refine ⟨_, rfl, _, rfl, iteF ?_⟩
        refine ⟨_, rfl, _, rfl, 1, rfl, p, _, rfl, SqL.of hp, fun q nq => ?_⟩
        rw [e1]
        refine ⟨mk (marksOf l), q, _, rfl, SqL.of upd_same, for_it (walk_zipS (n := ws.length) hsz (by rw [List.length_map])) (fun i σ H' => ∃ v4 v5 : Option V, σ = [some (.ref d), some (.str l.tx), some (.ref p), some (.str (mk (marksOf l))), v4, v5] ∧ Same H1 H' ∧ H' q = some (hStrs ws))
          ⟨_, _, rfl, Same.upd nq, upd_same⟩ (fun i σ H' _ ⟨_, _, _, _, hq⟩ => SqL.of hq) ?_ ?_⟩
        · rintro i x σ H2 H3 hi ⟨v4, v5, rfl, s2, hq⟩ ⟨T', a, y, rfl, nT, rfl, ha, hy⟩
          obtain ⟨x, hx, rfl⟩ := at_map hy
          refine ⟨T', _, rfl, SqT.of upd_same, rfl, _, _, rfl, _, _, rfl, rfl, ?_⟩
          refine ⟨_, rfl, _, rfl, ?_⟩
          refine fits_ok (ft i a x (mk_at ha) hx) fun H4 s4 => ⟨_, rfl, iteF ?_⟩
          exact ⟨_, _, rfl, (s2.trans (Same.upd nT)).trans s4, s4 _ _ (Same.upd nT _ _ hq)⟩
        · rintro σ H2 ⟨v4, v5, rfl, s2, hq⟩
          have hp2 := s2 _ _ hp
          have s12 := s1.trans s2
          refine ⟨_, rfl, _, rfl, 1, rfl, p, _, rfl, SqL.of hp2, fun q2 nq2 => ?_⟩
          rw [e1]
          refine ⟨mk (marksOf l), q2, _, rfl, SqL.of upd_same, for_it (walk_zipS (n := ws.length) hsz (by rw [List.length_map])) (fun i σ H' => ∃ v4 v5 : Option V, σ = [some (.ref d), some (.str l.tx), some (.ref p), some (.str (mk (marksOf l))), v4, v5] ∧ Same H2 H' ∧ H' q2 = some (hStrs ws) ∧
              ∀ (j : Nat) (x : Str), j < i → (marksOf l)[j]? = some 105 → ws[j]? = some x → (m x).isSome = true)
            ⟨_, _, rfl, Same.upd nq2, upd_same, fun j x hj => absurd hj (Nat.not_lt_zero j)⟩ (fun i σ H' _ ⟨_, _, _, _, hq, _⟩ => SqL.of hq) ?_ ?_⟩
          · rintro i x σ H3 H4 hi ⟨v4, v5, rfl, s3, hq3, hI⟩ ⟨T', a, y, rfl, nT, rfl, ha, hy⟩
            obtain ⟨x, hx, rfl⟩ := at_map hy
            have ha' := mk_at ha
            have s4 : Same H3 (upd H3 T' (.tup [V.str ⟨#[a]⟩, V.str x])) := Same.upd nT
            have s5 := (s12.trans s3).trans s4
            have D4 := hD.same s5
            obtain ⟨⟨dx, r, s0, c0, hd⟩, _⟩ := id D4
            -- the next turn
            have next : ((marksOf l)[i]? = some 105 → (m x).isSome = true) → ∀ (j : Nat) (y : Str), j < i + 1 → (marksOf l)[j]? = some 105 → ws[j]? = some y → (m y).isSome = true := fun hh j y hj e1 e2 => by
              by_cases hji : j = i
              · subst hji
                rw [hx] at e2
                rw [← Option.some.inj e2]
                exact hh e1
              · exact hI j y (by omega) e1 e2
            refine ⟨T', _, rfl, SqT.of upd_same, rfl, _, _, rfl, _, _, rfl, rfl, ?_⟩
            refine ⟨_, rfl, d, dx, _, rfl, hd, fsD_no (by decide +kernel) (by decide +kernel) (by decide +kernel) (by decide +kernel), _, rfl, _, rfl, d, it, m, k, F, a, x, rfl, D4, ?_⟩
            have other : a ≠ 105 → ∃ b, V.bl true = V.bl b ∧ (if (!b) = true then False else ∃ v4 v5 : Option V, [some (V.ref d), some (.str l.tx), some (.ref p), some (.str (mk (marksOf l))), some (V.str ⟨#[a]⟩), some (V.str x)] = [some (.ref d), some (.str l.tx), some (.ref p), some (.str (mk (marksOf l))), v4, v5] ∧
                Same H2 (upd H3 T' (.tup [V.str ⟨#[a]⟩, V.str x])) ∧ (upd H3 T' (.tup [V.str ⟨#[a]⟩, V.str x])) q2 = some (hStrs ws) ∧ ∀ (j : Nat) (x : Str), j < i + 1 → (marksOf l)[j]? = some 105 → ws[j]? = some x → (m x).isSome = true) := fun hne =>
              ⟨true, rfl, iteF ⟨_, _, rfl, s3.trans s4, s4 _ _ hq3, next fun z => absurd (Option.some.inj (ha'.symm.trans z)) hne⟩⟩
            have len12 : x.length ≤ 12 ∨ a ≠ 105 := by
              rcases ft i a x ha' hx with ⟨e, _⟩ | e | ⟨_, _, h, _⟩
              · exact .inr (by omega)
              · exact .inr (by omega)
              · exact .inl h
            by_cases h105 : a = 105
            · subst h105
              refine .inl ⟨rfl, ?_⟩
              cases em : m x with
              | some ns => exact ⟨_, rfl, iteF ⟨_, _, rfl, s3.trans s4, s4 _ _ hq3, next fun _ => by rw [em]; rfl⟩⟩
              | none =>
                obtain ⟨u1, u2⟩ := unk_of hk' ha' hx em
                have h12 : x.length ≤ 12 := len12.resolve_right (fun q => q rfl)
                have hU : ("unknown " : Str).length = 8 := by decide +kernel
                refine ⟨_, rfl, iteT ⟨_, rfl, _, _, rfl, rfl, by rw [hU]; exact smallE (by omega), ?_⟩⟩
                have := kQ _ (by rw [u2]; exact D4.mono (Nat.le_succ k)) (Off.of s5)
                rw [u1] at this
                exact this
            · refine .inr ⟨?_, ?_⟩
              · rcases ft i a x ha' hx with ⟨e, _⟩ | e | ⟨e, _⟩
                · exact .inr (.inl e)
                · exact .inr (.inr e)
                · exact .inl (e.resolve_right h105)
              · exact ⟨_, rfl, iteF ⟨_, _, rfl, s3.trans s4, s4 _ _ hq3, next fun z => absurd (Option.some.inj (ha'.symm.trans z)) h105⟩⟩
          · rintro σ H3 ⟨v4, v5, rfl, s3, hq3, hI⟩
            have s5 := s12.trans s3
            have D3 := hD.same s5
            have hp3 := s3 _ _ hp2
            obtain ⟨⟨dx, r, s0, c0, hd⟩, _⟩ := id D3
            have hHas : Has m l := has_of hk' fun j x h1 h2 => hI j x (lt_of_at h2) h1 h2
            refine ⟨_, rfl, d, dx, _, rfl, hd, fsD_no (by decide +kernel) (by decide +kernel) (by decide +kernel) (by decide +kernel), _, rfl, p, _, 0, _, rfl, rfl, SqL.of hp3, atS0, _, rfl, 1, rfl, p, _, rfl, SqL.of hp3, fun q3 nq3 => ?_⟩
            rw [e1]
            have s6 : Same H3 (upd H3 q3 (hStrs ws)) := Same.upd nq3
            exact ⟨d, it, m, k, F, l, c, ws, q3, rfl, hl, hk', upd_same, D3.same s6, hk, hF.same (s5.trans s6), hG, hHas, fun H' D' o' => kQ H' D' ((Off.of (s5.trans s6)).trans o')⟩
end
end J93
namespace J93
open PySem PySem.Spec PyProof.Rows L2 He

/-! ### a journal -/
structure Jn where
  (j pg d it g t : Addr)
def fsJ (pg : Addr) : List (Str × V) := [("pages", .ref pg), ("earlier", .non), ("kept", .non)]
def fsP (d g t : Addr) : List (Str × V) := [("desk", .ref d), ("given", .ref g), ("told", .ref t)]
structure JAt (K : PySem.W.Frag) (H : Hp) (J : Jn) (m : Itm) (k : Nat) (F : Addr → Prop) (ls as : List Str) : Prop where
  jo : ∃ jx, H J.j = some (.ins (ga K "Journal") jx (fsJ J.pg))
  po : ∃ px, H J.pg = some (.ins (ga K "Pages") px (fsP J.d J.g J.t))
  dk : DkAt K H J.d J.it m k F
  gv : H J.g = some (hStrs ls)
  tv : H J.t = some (hStrs as)
  gt : J.g ≠ J.t
/-- all that was tracked, but the journal's dict and lists, is as it was -/
def Tch (J : Jn) (H H' : Hp) : Prop := ∀ b o, H b = some o → b ≠ J.it → b ≠ J.g → b ≠ J.t → H' b = some o
theorem Tch.of {J : Jn} {H H' : Hp} (s : Same H H') : Tch J H H' := fun b o h _ _ _ => s b o h
theorem Tch.refl (J : Jn) (H : Hp) : Tch J H H := fun _ _ h _ _ _ => h
theorem Tch.trans {J : Jn} {H H1 H2 : Hp} (x : Tch J H H1) (y : Tch J H1 H2) : Tch J H H2 := fun b o h n1 n2 n3 => y b o (x b o h n1 n2 n3) n1 n2 n3
theorem Tch.it {J : Jn} {H H' : Hp} (s : Off J.it H H') : Tch J H H' := fun b o h n _ _ => s b o h n
theorem Tch.g {J : Jn} {H : Hp} {o : HO} : Tch J H (upd H J.g o) := fun b u h _ n _ => by rw [upd_ne n]; exact h
theorem Tch.t {J : Jn} {H : Hp} {o : HO} : Tch J H (upd H J.t o) := fun b u h _ _ n => by rw [upd_ne n]; exact h
def Fo (J : Jn) : Addr → Prop := fun a => a ≠ J.g ∧ a ≠ J.t
section
variable {K : PySem.W.Frag} {H H' : Hp} {J : Jn} {m : Itm} {k : Nat} {F : Addr → Prop} {ls as : List Str}
theorem JAt.keep (h : JAt K H J m k F ls as) (q : ∀ a o, (a = J.j ∨ a = J.pg ∨ a = J.d ∨ a = J.it ∨ a = J.g ∨ a = J.t ∨ F a) → H a = some o → H' a = some o) : JAt K H' J m k F ls as := by
  obtain ⟨⟨jx, h1⟩, ⟨px, h2⟩, ⟨⟨dx, r, s, c, h3⟩, h4⟩, h5, h6, h7⟩ := h
  refine ⟨⟨jx, q _ _ (.inl rfl) h1⟩, ⟨px, q _ _ (.inr (.inl rfl)) h2⟩, ⟨⟨dx, r, s, c, q _ _ (.inr (.inr (.inl rfl))) h3⟩, h4.keep (fun o e => q _ _ (.inr (.inr (.inr (.inl rfl)))) e) fun a ns fa e => q _ _ (.inr (.inr (.inr (.inr (.inr (.inr fa)))))) e⟩,
    q _ _ (.inr (.inr (.inr (.inr (.inl rfl))))) h5, q _ _ (.inr (.inr (.inr (.inr (.inr (.inl rfl)))))) h6, h7⟩
theorem JAt.same (h : JAt K H J m k F ls as) (s : Same H H') : JAt K H' J m k F ls as := h.keep fun a o _ e => s a o e
theorem JAt.mono {k' : Nat} (h : JAt K H J m k F ls as) (hk : k ≤ k') : JAt K H J m k' F ls as := ⟨h.jo, h.po, h.dk.mono hk, h.gv, h.tv, h.gt⟩
/-- the items' lists lie wherever something is tracked -/
theorem JAt.reF {F' : Addr → Prop} (h : JAt K H J m k F ls as) (q : ∀ a ns, F a → H a = some (hInts ns) → F' a) : JAt K H J m k F' ls as := by
  obtain ⟨h1, h2, ⟨h3, kvs, i1, i2, i3, i4⟩, h5, h6, h7⟩ := h
  refine ⟨h1, h2, ⟨h3, kvs, i1, i2, i3, fun x ns e => ?_⟩, h5, h6, h7⟩
  obtain ⟨a, e1, e2, e3⟩ := i4 x ns e
  exact ⟨a, e1, e2, q a ns e3 e2⟩
theorem JAt.itm (h : JAt K H J m k F ls as) : ∃ kvs, H J.it = some (.dK kvs) := by
  obtain ⟨kvs, e, _⟩ := h.dk.2
  exact ⟨kvs, e⟩
theorem JAt.free (h : JAt K H J m k F ls as) : Free H (Fo J) := fun a e => ⟨fun q => (by rw [q, h.gv] at e; cases e), fun q => (by rw [q, h.tv] at e; cases e)⟩
/-- a dict elsewhere changes -/
theorem JAt.off {iL : Addr} {kvs : List (Key × V)} (h : JAt K H J m k F ls as) (hL : H iL = some (.dK kvs)) (hi : J.it ≠ iL) (s : Off iL H H') : JAt K H' J m k F ls as := by
  obtain ⟨⟨jx, h1⟩, ⟨px, h2⟩, ⟨⟨dx, r, s0, c, h3⟩, h4⟩, h5, h6, h7⟩ := h
  have q : ∀ {a : Addr} {o : HO}, H a = some o → (∀ kvs, o ≠ .dK kvs) → H' a = some o := fun {a o} e n => s _ _ e (fun z => by rw [z, hL] at e; exact n kvs (Option.some.inj e).symm)
  exact ⟨⟨jx, q h1 (fun _ z => nomatch z)⟩, ⟨px, q h2 (fun _ z => nomatch z)⟩, ⟨⟨dx, r, s0, c, q h3 (fun _ z => nomatch z)⟩, h4.keep (fun o e => s _ _ e hi) fun a ns fa e => q e (fun _ z => nomatch z)⟩,
    q h5 (fun _ z => nomatch z), q h6 (fun _ z => nomatch z), h7⟩
/-- another journal, whose things were free, changes -/
theorem JAt.far {J2 : Jn} {ms : List Addr} (h : JAt K H J m k F ls as) (hF : ∀ a, F a → a ≠ J2.it ∧ a ≠ J2.g ∧ a ≠ J2.t) (q : ∀ a ∈ [J.j, J.pg, J.d, J.it, J.g, J.t], a ≠ J2.it ∧ a ≠ J2.g ∧ a ≠ J2.t) (s : Tch J2 H H') : JAt K H' J m k F ls as :=
  h.keep fun a o ha e => by
    have hh : a ≠ J2.it ∧ a ≠ J2.g ∧ a ≠ J2.t := by
      rcases ha with z | z | z | z | z | z | z
      · exact q a (by simp [z])
      · exact q a (by simp [z])
      · exact q a (by simp [z])
      · exact q a (by simp [z])
      · exact q a (by simp [z])
      · exact q a (by simp [z])
      · exact hF a z
    exact s a o e hh.1 hh.2.1 hh.2.2
end
/-- no item at all -/
theorem ItAt.empty {H : Hp} {it : Addr} {F : Addr → Prop} (h : H it = some (.dK [])) : ItAt H it noItm 0 F := ⟨[], h, Nat.le_refl _, fun _ _ => rfl, fun _ _ e => by cases e⟩

/-! ### promises -/
def sp_shelf0 (K : PySem.W.Frag) : Sp := fun vs H Q _ => ∃ x dx, vs = [.ref x] ∧ H x = some (.ins (ga K "Shelf") dx []) ∧ ∀ H', Off x H H' → Q .non H'
def sp_desk0 (K : PySem.W.Frag) : Sp := fun vs H Q _ => ∃ x dx, vs = [.ref x] ∧ H x = some (.ins (ga K "Desk") dx []) ∧ ∀ it H', Off x H H' → H it = none → (∀ F, DkAt K H' x it noItm 0 F) → Q .non H'
def sp_pages0 (K : PySem.W.Frag) : Sp := fun vs H Q _ => ∃ x dx, vs = [.ref x] ∧ H x = some (.ins (ga K "Pages") dx []) ∧ ∀ d it g t H', Off x H H' → H it = none → H g = none → H t = none → g ≠ t → (∃ px, H' x = some (.ins (ga K "Pages") px (fsP d g t))) → (∀ F, DkAt K H' d it noItm 0 F) → H' g = some (hStrs []) → H' t = some (hStrs []) → Q .non H'
def sp_journal0 (K : PySem.W.Frag) : Sp := fun vs H Q _ => ∃ x dx, vs = [.ref x] ∧ H x = some (.ins (ga K "Journal") dx []) ∧ ∀ (J : Jn) H', J.j = x → Off x H H' → H J.it = none → H J.g = none → H J.t = none → (∀ F, JAt K H' J noItm 0 F [] []) → Q .non H'
section
variable {P : Program} {w : World} {K : PySem.W.Frag} {mg : Str → Option Value} {base : Heap}
theorem sc_shelf0 : FnScope ["self"] ["self"] (defScope s_Shelf_init) := ⟨rfl, rfl, rfl, by decide +kernel, rfl, by decide +kernel, by decide +kernel⟩
theorem ok_shelf0 (T : Tx K w mg) : ∃ fd, FnOk P w K mg base CX0 1 (ma K (ga K "Shelf") "__init__") fd ["self"] (sp_shelf0 K) ∧ Binds K fd ["self"] [] := by
  obtain ⟨fd, F0⟩ := T.d_Shelf_init
  refine ⟨fd, ok0 F0 sc_shelf0 (fun vs H Q E h => ?_) (fun cdv A outer s H vs Q E hr h => ?_), F0.bindsN fun _ _ _ _ _ _ us hl => match us, hl with | [_], _ => rfl⟩
  · obtain ⟨x, dx, rfl, _⟩ := h
    rfl
  · obtain ⟨x, dx, rfl, hx, k⟩ := h
    refine ⟨_, pss_one (ps_fld (pv 0) pe_dnewK rfl), ?_⟩
    refine fun p np => ⟨_, rfl, x, _, dx, _, rfl, by rw [upd_ne (ne_of_none hx np)]; exact hx, T.cShelf, T.nShelf_entries, by decide, ?_⟩
    exact k _ ((Off.new np).trans (Off.upd _ _ _))
theorem sc_desk0 : FnScope ["self"] ["self"] (defScope s_Desk_init) := ⟨rfl, rfl, rfl, by decide +kernel, rfl, by decide +kernel, by decide +kernel⟩
theorem ok_desk0 (T : Tx K w mg) : ∃ fd, FnOk P w K mg base CX0 3 (ma K (ga K "Desk") "__init__") fd ["self"] (sp_desk0 K) ∧ Binds K fd ["self"] [] := by
  obtain ⟨fd, F0⟩ := T.d_Desk_init
  obtain ⟨fS, GS, bS⟩ := ok_shelf0 (P := P) (base := base) T
  refine ⟨fd, ok0 F0 sc_desk0 (fun vs H Q E h => ?_) (fun cdv A outer s H vs Q E hr h => ?_), F0.bindsN fun _ _ _ _ _ _ us hl => match us, hl with | [_], _ => rfl⟩
  · obtain ⟨x, dx, rfl, _⟩ := h
    rfl
  · obtain ⟨x, dx, rfl, hx, k⟩ := h
    refine ⟨_, C8.pss_cut (ps_fld (pv 0) pe_dnewK rfl) (C8.pss_cut (ps_fld (pv 0) (pe_lst pa_nil) rfl) (C8.pss_cut (ps_fld (pv 0) (pe_make0 T.kShelf GS hr (by rfl) T.gShelf bS .nil pass0) rfl) (pss_one (ps_fld (pv 0) pe_dnewK rfl)))), ?_⟩
    refine ⟨fun σ H' => ∃ it, σ = [some (.ref x)] ∧ Off x H H' ∧ H it = none ∧ H' x = some (.ins (ga K "Desk") dx [("_items", .ref it)]) ∧ H' it = some (.dK []), ?_, ?_⟩
    · refine fun it nit => ⟨_, rfl, x, _, dx, _, rfl, by rw [upd_ne (ne_of_none hx nit)]; exact hx, T.cDesk, T.nDesk_items, by decide, ?_⟩
      exact ⟨it, rfl, (Off.new nit).trans (Off.upd _ _ _), nit, upd_same, by rw [upd_ne (ne_of_none hx nit).symm]; exact upd_same⟩
    rintro σ H1 ⟨it, rfl, o1, nit, hx1, hi1⟩
    have xi : it ≠ x := fun e => by rw [e, hx1] at hi1; cases hi1
    refine ⟨fun σ H' => ∃ r, σ = [some (.ref x)] ∧ Off x H1 H' ∧ H' x = some (.ins (ga K "Desk") dx [("_items", .ref it), ("_rules", .ref r)]), ?_, ?_⟩
    · refine ⟨Nat.zero_le _, fun r nr => ⟨_, rfl, x, _, dx, _, rfl, by rw [upd_ne (ne_of_none hx1 nr)]; exact hx1, T.cDesk, T.nDesk_rules, (by show 1 < 1000; decide), ?_⟩⟩
      exact ⟨r, rfl, (Off.new nr).trans (Off.upd _ _ _), by rw [upd_same, putF_miss (by decide +kernel), putF_nil]⟩
    rintro σ H2 ⟨r, rfl, o2, hx2⟩
    refine ⟨fun σ H' => ∃ s, σ = [some (.ref x)] ∧ Off x H2 H' ∧ H' x = some (.ins (ga K "Desk") dx [("_items", .ref it), ("_rules", .ref r), ("_shelf", .ref s)]), ?_, ?_⟩
    · refine fun s ds ns nds dss => ⟨s, ds, rfl, upd_same, fun H3 o3 => ⟨rfl, _, rfl, x, _, dx, [("_items", .ref it), ("_rules", .ref r)], rfl, ?_, T.cDesk, T.nDesk_shelf, (by show 2 < 1000; decide), ?_⟩⟩
      · refine o3 _ _ ?_ (ne_of_none hx2 ns)
        rw [upd_ne (ne_of_none hx2 ns), upd_ne (ne_of_none hx2 nds)]
        exact hx2
      · refine ⟨s, rfl, fun b o e n => ?_, by rw [upd_same, putF_miss (by decide +kernel), putF_miss (by decide +kernel), putF_nil]⟩
        rw [upd_ne n]
        refine o3 _ _ ?_ (ne_of_none e ns)
        rw [upd_ne (ne_of_none e ns), upd_ne (ne_of_none e nds)]
        exact e
    rintro σ H3 ⟨s, rfl, o3, hx3⟩
    refine fun c nc => ⟨_, rfl, x, _, dx, _, rfl, by rw [upd_ne (ne_of_none hx3 nc)]; exact hx3, T.cDesk, T.nDesk_claims, (by show 3 < 1000; decide), ?_⟩
    have o4 := (o1.trans o2).trans (o3.trans ((Off.new (o := .dK []) nc).trans (Off.upd x _ (.ins (ga K "Desk") dx (putF "_claims" (.ref c) [("_items", .ref it), ("_rules", .ref r), ("_shelf", .ref s)])))))
    have o5 := o2.trans (o3.trans ((Off.new (o := .dK []) nc).trans (Off.upd x _ (.ins (ga K "Desk") dx (putF "_claims" (.ref c) [("_items", .ref it), ("_rules", .ref r), ("_shelf", .ref s)])))))
    refine k it _ o4 nit fun F => ⟨⟨dx, r, s, c, ?_⟩, ItAt.empty (o5 _ _ hi1 xi)⟩
    rw [upd_same, putF_miss (by decide +kernel), putF_miss (by decide +kernel), putF_miss (by decide +kernel), putF_nil]
    rfl
theorem sc_pages0 : FnScope ["self"] ["self"] (defScope s_Pages_init) := ⟨rfl, rfl, rfl, by decide +kernel, rfl, by decide +kernel, by decide +kernel⟩
theorem ok_pages0 (T : Tx K w mg) : ∃ fd, FnOk P w K mg base CX0 5 (ma K (ga K "Pages") "__init__") fd ["self"] (sp_pages0 K) ∧ Binds K fd ["self"] [] := by
  obtain ⟨fd, F0⟩ := T.d_Pages_init
  obtain ⟨fS, GS, bS⟩ := ok_desk0 (P := P) (base := base) T
  refine ⟨fd, ok0 F0 sc_pages0 (fun vs H Q E h => ?_) (fun cdv A outer s H vs Q E hr h => ?_), F0.bindsN fun _ _ _ _ _ _ us hl => match us, hl with | [_], _ => rfl⟩
  · obtain ⟨x, dx, rfl, _⟩ := h
    rfl
  · obtain ⟨x, dx, rfl, hx, k⟩ := h
    refine ⟨_, C8.pss_cut (ps_fld (pv 0) (pe_make0 T.kDesk GS hr (by rfl) T.gDesk bS .nil pass0) rfl) (C8.pss_cut (ps_fld (pv 0) (pe_lst pa_nil) rfl) (pss_one (ps_fld (pv 0) (pe_lst pa_nil) rfl))), ?_⟩
    refine ⟨fun σ H' => ∃ d it, σ = [some (.ref x)] ∧ Off x H H' ∧ H it = none ∧ H' x = some (.ins (ga K "Pages") dx [("desk", .ref d)]) ∧ d ≠ x ∧ it ≠ x ∧ ∀ F, DkAt K H' d it noItm 0 F, ?_, ?_⟩
    · refine fun d dd nd ndd ddd => ⟨d, dd, rfl, upd_same, fun it H1 o1 nit hD => ⟨rfl, _, rfl, x, _, dx, [], rfl, ?_, T.cPages, T.nPages_desk, by decide, ?_⟩⟩
      · refine o1 _ _ ?_ (ne_of_none hx nd)
        rw [upd_ne (ne_of_none hx nd), upd_ne (ne_of_none hx ndd)]
        exact hx
      · have hx1 : H1 x = some (.ins (ga K "Pages") dx []) := by
          refine o1 _ _ ?_ (ne_of_none hx nd)
          rw [upd_ne (ne_of_none hx nd), upd_ne (ne_of_none hx ndd)]
          exact hx
        have up : ∀ b o, H b = some o → (upd (upd H dd (.own d)) d (.ins (ga K "Desk") dd [])) b = some o := fun b o e => by
          rw [upd_ne (ne_of_none e nd), upd_ne (ne_of_none e ndd)]
          exact e
        have nit0 : H it = none := by
          cases e : H it with
          | none => rfl
          | some o => rw [up _ _ e] at nit; cases nit
        have xd : d ≠ x := (ne_of_none hx nd).symm
        have xit : it ≠ x := (ne_of_none hx nit0).symm
        refine ⟨d, it, rfl, fun b o e n => ?_, nit0, by rw [upd_same, putF_nil], xd, xit, fun F => ?_⟩
        · rw [upd_ne n]
          exact o1 _ _ (up b o e) (ne_of_none e nd)
        · obtain ⟨⟨e1, e2, e3, e4, e5⟩, i1⟩ := hD F
          refine ⟨⟨e1, e2, e3, e4, by rw [upd_ne xd]; exact e5⟩, ?_⟩
          obtain ⟨kvs, i2, i3, i4, i5⟩ := i1
          exact ⟨kvs, by rw [upd_ne xit]; exact i2, i3, i4, fun _ _ e => by cases e⟩
    rintro σ H1 ⟨d, it, rfl, o1, nit, hx1, hdx, hix, hD1⟩
    have dOff : ∀ {H' : Hp}, Off x H1 H' → ∀ F, DkAt K H' d it noItm 0 F := fun {H'} o F => by
      obtain ⟨⟨e1, e2, e3, e4, e5⟩, kvs, i2, i3, i4, i5⟩ := hD1 F
      exact ⟨⟨e1, e2, e3, e4, o _ _ e5 hdx⟩, kvs, o _ _ i2 hix, i3, i4, fun _ _ e => by cases e⟩
    refine ⟨fun σ H' => ∃ g, σ = [some (.ref x)] ∧ Off x H1 H' ∧ H1 g = none ∧ H' x = some (.ins (ga K "Pages") dx [("desk", .ref d), ("given", .ref g)]) ∧ H' g = some (hStrs []), ?_, ?_⟩
    · refine ⟨Nat.zero_le _, fun g ng => ⟨_, rfl, x, _, dx, _, rfl, by rw [upd_ne (ne_of_none hx1 ng)]; exact hx1, T.cPages, T.nPages_given, (by show 1 < 1000; decide), ?_⟩⟩
      exact ⟨g, rfl, (Off.new ng).trans (Off.upd _ _ _), ng, by rw [upd_same, putF_miss (by decide +kernel), putF_nil], by rw [upd_ne (ne_of_none hx1 ng).symm]; exact upd_same⟩
    rintro σ H2 ⟨g, rfl, o2, ng, hx2, hg2⟩
    have gx : g ≠ x := fun e => by rw [e, hx1] at ng; cases ng
    refine ⟨Nat.zero_le _, fun t nt => ⟨_, rfl, x, _, dx, _, rfl, by rw [upd_ne (ne_of_none hx2 nt)]; exact hx2, T.cPages, T.nPages_told, (by show 2 < 1000; decide), ?_⟩⟩
    have o3 : Off x H2 (upd (upd H2 t (.lst [])) x (.ins (ga K "Pages") dx (putF "told" (.ref t) [("desk", .ref d), ("given", .ref g)]))) := (Off.new nt).trans (Off.upd _ _ _)
    have tx : t ≠ x := (ne_of_none hx2 nt).symm
    have free : ∀ {b : Addr}, H1 b = none → b ≠ x → H b = none := fun {b} e n => by
      cases q : H b with
      | none => rfl
      | some o => rw [o1 _ _ q n] at e; cases e
    have nt1 : H1 t = none := by
      cases q : H1 t with
      | none => rfl
      | some o => rw [o2 _ _ q tx] at nt; cases nt
    refine k d it g t _ ((o1.trans o2).trans o3) nit (free ng gx) (free nt1 tx) (ne_of_none hg2 nt) ⟨dx, ?_⟩ (dOff (o2.trans o3)) (o3 _ _ hg2 gx) (by rw [upd_ne tx]; exact upd_same)
    rw [upd_same, putF_miss (by decide +kernel), putF_miss (by decide +kernel), putF_nil]
    rfl
theorem sc_journal0 : FnScope ["self"] ["self"] (defScope s_Journal_init) := ⟨rfl, rfl, rfl, by decide +kernel, rfl, by decide +kernel, by decide +kernel⟩
theorem ok_journal0 (T : Tx K w mg) : ∃ fd, FnOk P w K mg base CX0 7 (ma K (ga K "Journal") "__init__") fd ["self"] (sp_journal0 K) ∧ Binds K fd ["self"] [] := by
  obtain ⟨fd, F0⟩ := T.d_Journal_init
  obtain ⟨fS, GS, bS⟩ := ok_pages0 (P := P) (base := base) T
  refine ⟨fd, ok0 F0 sc_journal0 (fun vs H Q E h => ?_) (fun cdv A outer s H vs Q E hr h => ?_), F0.bindsN fun _ _ _ _ _ _ us hl => match us, hl with | [_], _ => rfl⟩
  · obtain ⟨x, dx, rfl, _⟩ := h
    rfl
  · obtain ⟨x, dx, rfl, hx, k⟩ := h
    refine ⟨_, C8.pss_cut (ps_fld (pv 0) (pe_make0 T.kPages GS hr (by rfl) T.gPages bS .nil pass0) rfl) (C8.pss_cut (ps_fld (pv 0) pe_non rfl) (pss_one (ps_fld (pv 0) pe_non rfl))), ?_⟩
    refine ⟨fun σ H' => ∃ pg d it g t, σ = [some (.ref x)] ∧ Off x H H' ∧ H it = none ∧ H g = none ∧ H t = none ∧ H' x = some (.ins (ga K "Journal") dx [("pages", .ref pg)]) ∧ g ≠ t ∧ g ≠ x ∧ t ≠ x ∧ pg ≠ x ∧ d ≠ x ∧ it ≠ x ∧ (∃ px, H' pg = some (.ins (ga K "Pages") px (fsP d g t))) ∧
      (∀ F, DkAt K H' d it noItm 0 F) ∧ H' g = some (hStrs []) ∧ H' t = some (hStrs []), ?_, ?_⟩
    · refine fun pg dp npg ndp dpp => ⟨pg, dp, rfl, upd_same, fun d it g t H1 o1 nit ng nt gt hP hD hg ht => ⟨rfl, _, rfl, x, _, dx, [], rfl, ?_, T.cJournal, T.nJournal_pages, by decide, ?_⟩⟩
      · refine o1 _ _ ?_ (ne_of_none hx npg)
        rw [upd_ne (ne_of_none hx npg), upd_ne (ne_of_none hx ndp)]
        exact hx
      · have up : ∀ b o, H b = some o → (upd (upd H dp (.own pg)) pg (.ins (ga K "Pages") dp [])) b = some o := fun b o e => by
          rw [upd_ne (ne_of_none e npg), upd_ne (ne_of_none e ndp)]
          exact e
        have free : ∀ {b : Addr}, (upd (upd H dp (.own pg)) pg (.ins (ga K "Pages") dp [])) b = none → H b = none := fun {b} q => by
          cases e : H b with
          | none => rfl
          | some o => rw [up _ _ e] at q; cases q
        have hx1 : H1 x = some (.ins (ga K "Journal") dx []) := o1 _ _ (up _ _ hx) (ne_of_none hx npg)
        have hdx : d ≠ x := fun e => by
          obtain ⟨⟨e1, e2, e3, e4, e5⟩, _⟩ := hD (fun _ => True)
          rw [e, hx1] at e5
          have e6 := Option.some.inj e5
          injection e6 with _ _ e7
          cases e7
        have hpx : pg ≠ x := (ne_of_none hx npg).symm
        refine ⟨pg, d, it, g, t, rfl, fun b o e n => ?_, free nit, free ng, free nt, by rw [upd_same, putF_nil], gt, (ne_of_none hx (free ng)).symm, (ne_of_none hx (free nt)).symm, hpx, hdx, (ne_of_none hx (free nit)).symm, ?_, fun F => ?_, ?_, ?_⟩
        · rw [upd_ne n]
          exact o1 _ _ (up b o e) (ne_of_none e npg)
        · obtain ⟨px, e⟩ := hP
          exact ⟨px, by rw [upd_ne hpx]; exact e⟩
        · obtain ⟨⟨e1, e2, e3, e4, e5⟩, kvs, i2, i3, i4, i5⟩ := hD F
          exact ⟨⟨e1, e2, e3, e4, by rw [upd_ne hdx]; exact e5⟩, kvs, by rw [upd_ne (ne_of_none hx (free nit)).symm]; exact i2, i3, i4, fun _ _ e => by cases e⟩
        · rw [upd_ne (ne_of_none hx (free ng)).symm]; exact hg
        · rw [upd_ne (ne_of_none hx (free nt)).symm]; exact ht
    rintro σ H1 ⟨pg, d, it, g, t, rfl, o1, nit, ng, nt, hx1, gt, gx, tx, px, dxx, ix, ⟨pp, hP⟩, hD, hg, ht⟩
    refine ⟨fun σ H' => σ = [some (.ref x)] ∧ Off x H1 H' ∧ H' x = some (.ins (ga K "Journal") dx [("pages", .ref pg), ("earlier", .non)]), ?_, ?_⟩
    · refine ⟨_, rfl, x, _, dx, _, rfl, hx1, T.cJournal, T.nJournal_earlier, (by show 1 < 1000; decide), ?_⟩
      exact ⟨rfl, Off.upd _ _ _, by rw [upd_same, putF_miss (by decide +kernel), putF_nil]⟩
    rintro σ H2 ⟨rfl, o2, hx2⟩
    refine ⟨_, rfl, x, _, dx, _, rfl, hx2, T.cJournal, T.nJournal_kept, (by show 2 < 1000; decide), ?_⟩
    have o3 : Off x H2 (upd H2 x (.ins (ga K "Journal") dx (putF "kept" .non [("pages", .ref pg), ("earlier", .non)]))) := Off.upd _ _ _
    have o4 := o2.trans o3
    refine k ⟨x, pg, d, it, g, t⟩ _ rfl (o1.trans o4) nit ng nt fun F => ⟨⟨dx, ?_⟩, ⟨pp, o4 _ _ hP px⟩, ?_, o4 _ _ hg gx, o4 _ _ ht tx, gt⟩
    · rw [upd_same, putF_miss (by decide +kernel), putF_miss (by decide +kernel), putF_nil]
      rfl
    · obtain ⟨⟨e1, e2, e3, e4, e5⟩, kvs, i2, i3, i4, i5⟩ := hD F
      exact ⟨⟨e1, e2, e3, e4, o4 _ _ e5 dxx⟩, kvs, o4 _ _ i2 ix, i3, i4, fun _ _ e => by cases e⟩
end
end J93
namespace J93
open PySem PySem.Spec PyProof.Rows L2 He

theorem fsJ_pages (pg : Addr) : (fsJ pg).lookup ("pages" : Str) = some (V.ref pg) := lk_hit
theorem fsJ_no {pg : Addr} {m : Str} (h1 : ¬ m = "pages") (h2 : ¬ m = "earlier") (h3 : ¬ m = "kept") : (fsJ pg).lookup m = none := by
  unfold fsJ
  rw [lk_miss h1, lk_miss h2, lk_miss h3]
  rfl
theorem fsP_desk (d g t : Addr) : (fsP d g t).lookup ("desk" : Str) = some (V.ref d) := lk_hit
theorem fsP_given (d g t : Addr) : (fsP d g t).lookup ("given" : Str) = some (V.ref g) := by
  unfold fsP
  rw [lk_miss (by decide +kernel)]
  exact lk_hit
theorem fsP_told (d g t : Addr) : (fsP d g t).lookup ("told" : Str) = some (V.ref t) := by
  unfold fsP
  rw [lk_miss (by decide +kernel), lk_miss (by decide +kernel)]
  exact lk_hit
theorem fsP_no {d g t : Addr} {m : Str} (h1 : ¬ m = "desk") (h2 : ¬ m = "given") (h3 : ¬ m = "told") : (fsP d g t).lookup m = none := by
  unfold fsP
  rw [lk_miss h1, lk_miss h2, lk_miss h3]
  rfl
/-! ### promises -/
def sp_ans (K : PySem.W.Frag) (rc : Jn → Addr) : Sp := fun vs H Q _ => ∃ (J : Jn) (m : Itm) (k : Nat) (ls as : List Str) (z : Str), vs = [.ref (rc J), .str z] ∧ JAt K H J m k (Fo J) ls as ∧
  ((∃ l : Ln, l.Ok ∧ z = l.tx ∧ k ≤ 900 ∧ m.Good ∧ ls.length ≤ 900 ∧ as.length ≤ 900 ∧ ∀ H', JAt K H' J (nxt m l) (k + 1) (Fo J) (ls ++ [l.tx]) (as ++ [ans m l]) → Tch J H H' → Q (.str (ans m l)) H') ∨
    (¬ lineS z ∧ z.length ≤ 100000 ∧ ∀ H', Same H H' → Q (.str "bad") H'))
def recOf (ls as : List Str) : Str := Txt.join ("" : Str) (List.zipWith entS ls as)
def sp_rec (K : PySem.W.Frag) (rc : Jn → Addr) : Sp := fun vs H Q _ => ∃ (J : Jn) (m : Itm) (k : Nat) (F : Addr → Prop) (ls as : List Str), vs = [.ref (rc J)] ∧ JAt K H J m k F ls as ∧ ls.length ≤ 100 ∧ as.length = ls.length ∧
  (∀ x ∈ ls, x.length ≤ 500) ∧ (∀ x ∈ as, x.length ≤ 500) ∧ ∀ H', Same H H' → Q (.str (recOf ls as)) H'
def sp_lines (K : PySem.W.Frag) : Sp := fun vs H Q _ => ∃ (J : Jn) (m : Itm) (k : Nat) (F : Addr → Prop) (ls as : List Str), vs = [.ref J.j] ∧ JAt K H J m k F ls as ∧ ∀ p H', Same H H' → H p = none → H' p = some (hStrs ls) → Q (.ref p) H'
def sp_jcontent (K : PySem.W.Frag) : Sp := fun vs H Q _ => ∃ (J : Jn) (m : Itm) (k : Nat) (F : Addr → Prop) (ls as : List Str) (x : Str), vs = [.ref J.j, .str x] ∧ JAt K H J m k F ls as ∧ (m x = none → Q .non H) ∧
  ∀ ns, m x = some ns → ∀ p H', Same H H' → H p = none → H' p = some (hInts ns) → Q (.ref p) H'
def sp_rows_of : Sp := fun vs H Q _ => ∃ (z : Str) (rs : List Str) (y : Str), vs = [.str z] ∧ z.length ≤ 100000 ∧ Txt.split z "\n" = rs ++ [y] ∧ ∀ p H', Same H H' → H p = none → H' p = some (hStrs rs) → Q (.ref p) H'
theorem N_len : ((("\n" : Str)).length == 0) = false := by decide +kernel
theorem cutV_last (xs : List V) (y : V) : cutV (xs ++ [y]) none (some (-1)) = xs := by
  unfold cutV
  have e : HT.sIx (xs ++ [y]).length (xs ++ [y]).length (some (-1)) = xs.length := by
    rw [List.length_append]
    show HT.sIx (xs.length + 1) (xs.length + 1) (some (-1)) = xs.length
    unfold HT.sIx
    simp
    try omega
  rw [e, HT.sIx_none, List.drop_zero, Nat.sub_zero, List.take_left']
  rfl
section
variable {P : Program} {w : World} {K : PySem.W.Frag} {mg : Str → Option Value} {base : Heap}
theorem sc_panswer : FnScope ["self", "line", "told"] ["self", "line"] (defScope s_Pages_answer) := ⟨rfl, rfl, rfl, by decide +kernel, rfl, by decide +kernel, by decide +kernel⟩
theorem ok_panswer (T : Tx K w mg) : ∃ fd, FnOk P w K mg base CX0 7 (ma K (ga K "Pages") "answer") fd ["self", "line"] (sp_ans K Jn.pg) ∧ Binds K fd ["self", "line"] [] := by
  obtain ⟨fd, F0⟩ := T.d_Pages_answer
  obtain ⟨fL, GL, bL⟩ := ok_is_line (P := P) (base := base) T
  obtain ⟨_, FL⟩ := T.d_is_line
  obtain ⟨fA, GA, bA⟩ := ok_answer (P := P) (base := base) T
  obtain ⟨tB, gB⟩ := T.gBAD
  refine ⟨fd, ok0 F0 sc_panswer (fun vs H Q E h => ?_) (fun cdv A outer s H vs Q E hr h => ?_), F0.bindsN fun _ _ _ _ _ _ us hl => match us, hl with | [_, _], _ => rfl⟩
  · obtain ⟨J, m, k, ls, as, z, rfl, _⟩ := h
    rfl
  · obtain ⟨J, m, k, ls, as, z, rfl, hJ, h⟩ := h
    have nd := sc_panswer.nd
    have hr2 : Room 2 _ := hr.mono (by decide)
    refine ⟨_, pss_cons (ps_if (pt_not (pt_val (pe_call GL hr2 (by rfl) T.g_is_line FL.kp bL .nil pass0 (pa_cons (pv 1) pa_nil)))) (pss_one (ps_ret (pe_gs rfl gB))) pss_nil)
      (pss_cons (ps_set (i := 2) nd rfl (.inl rfl) (pe_meth (pe_fld (pv 0) rfl) T.cDesk T.mDesk_answer GA hr bA .nil pass0 (pa_cons (pv 1) pa_nil)))
      (pss_cons (ps_expr (pe_bm PySem.F.plainAttrs_list PySem.F.slot_list_append PySem.F.type_list_append mt_append (pe_fld (pv 0) rfl) (pa_cons (pv 1) pa_nil)))
      (pss_cons (ps_expr (pe_bm PySem.F.plainAttrs_list PySem.F.slot_list_append PySem.F.type_list_append mt_append (pe_fld (pv 0) rfl) (pa_cons (pv 2) pa_nil)))
      (pss_one (ps_ret (pv 2)))))), ?_⟩
    rcases h with ⟨l, hl, rfl, hk, hG, hls, has, kQ⟩ | ⟨hb, hz, kQ⟩
    · refine ⟨_, rfl, l.tx, rfl, Nat.le_trans (tx_len hl) (by decide), fun _ H1 s1 => ⟨_, rfl, iteF ?_⟩, fun q => absurd (line_of hl) q⟩
      have hJ1 := hJ.same s1
      obtain ⟨⟨jx, ho⟩, ⟨px, hp⟩, hD, hg, ht, gt⟩ := id hJ1
      obtain ⟨⟨dx, r, s0, c, hd⟩, hI⟩ := id hD
      refine ⟨_, rfl, J.pg, _, px, _, _, rfl, hp, T.cPages, T.nPages_desk, fsP_desk _ _ _, J.d, dx, _, rfl, hd, fsD_no (by decide +kernel) (by decide +kernel) (by decide +kernel) (by decide +kernel), _, rfl, J.d, J.it, m, k, Fo J, l, rfl, hl, hD, by omega, hJ1.free, hG, fun H2 hD2 o2 => ?_⟩
      obtain ⟨kvs, hi⟩ := hJ1.itm
      have gi : J.g ≠ J.it := ne_of hg hi (fun z => nomatch z)
      have ti : J.t ≠ J.it := ne_of ht hi (fun z => nomatch z)
      have hp2 := o2 _ _ hp (ne_of hp hi (fun z => nomatch z))
      have hg2 := o2 _ _ hg gi
      have ht2 := o2 _ _ ht ti
      have ho2 := o2 _ _ ho (ne_of ho hi (fun z => nomatch z))
      have pgg : J.pg ≠ J.g := ne_of hp2 hg2 (fun z => nomatch z)
      have pgt : J.pg ≠ J.t := ne_of hp2 ht2 (fun z => nomatch z)
      refine ⟨_, rfl, J.pg, _, px, _, _, rfl, hp2, T.cPages, T.nPages_given, fsP_given _ _ _, .inl ⟨rfl, _, SqL.of hg2⟩, _, rfl, J.g, _, _, rfl, rfl, hg2, by rw [List.length_map]; exact small (by omega), ?_⟩
      refine ⟨_, rfl, J.pg, _, px, _, _, rfl, by rw [upd_ne pgg]; exact hp2, T.cPages, T.nPages_told, fsP_told _ _ _, .inl ⟨rfl, _, SqL.of (by rw [upd_ne gt.symm]; exact ht2)⟩, _, rfl, J.t, _, _, rfl, rfl, by rw [upd_ne gt.symm]; exact ht2, by rw [List.length_map]; exact small (by omega), ?_⟩
      have keepH : ∀ {b : Addr} {o : HO}, H2 b = some o → b ≠ J.g → b ≠ J.t → (upd (upd H2 J.g (.lst (ls.map V.str ++ [V.str l.tx]))) J.t (.lst (as.map V.str ++ [V.str (ans m l)]))) b = some o := fun {b o} e n1 n2 => by
        rw [upd_ne n2, upd_ne n1]
        exact e
      obtain ⟨⟨dx2, r2, s2, c2, hd2⟩, hI2⟩ := id hD2
      have hi2 : ∃ kvs, H2 J.it = some (.dK kvs) := by
        obtain ⟨kvs, e, _⟩ := hI2
        exact ⟨kvs, e⟩
      obtain ⟨kvs2, hi2⟩ := hi2
      refine ⟨_, rfl, kQ _ ⟨⟨jx, keepH ho2 (ne_of ho2 hg2 (fun z => nomatch z)) (ne_of ho2 ht2 (fun z => nomatch z))⟩, ⟨px, keepH hp2 pgg pgt⟩,
        ⟨⟨dx2, r2, s2, c2, keepH hd2 (ne_of hd2 hg2 (fun z => nomatch z)) (ne_of hd2 ht2 (fun z => nomatch z))⟩, hI2.keep (fun o e => keepH e gi.symm ti.symm) fun a ns fa e => keepH e fa.1 fa.2⟩, ?_, ?_, gt⟩ ?_⟩
      · rw [upd_ne gt, upd_same, hStrs_app]
        rfl
      · rw [upd_same, hStrs_app]
        rfl
      · exact ((Tch.of s1).trans (Tch.it o2)).trans (Tch.g.trans Tch.t)
    · refine ⟨_, rfl, z, rfl, hz, fun q => absurd q hb, fun _ H1 s1 => ⟨_, rfl, iteT ?_⟩⟩
      exact kQ H1 s1
theorem sc_precord : FnScope ["self", "rows", "line", "told"] ["self"] (defScope s_Pages_record) := ⟨rfl, rfl, rfl, by decide +kernel, rfl, by decide +kernel, by decide +kernel⟩
theorem joined_ent (l a : Str) : (((((Str.empty ++ ("> " : Str)) ++ l) ++ ("\n" : Str)) ++ ("< " : Str)) ++ a) ++ ("\n" : Str) = entS l a := TL.ext_tl (by
  rw [tl_ent]
  unfold entL
  simp only [TL.tl_append, w_in, w_out, w_N, w_nil, List.nil_append, List.append_assoc, List.cons_append])
theorem ok_precord (T : Tx K w mg) : ∃ fd, FnOk P w K mg base CX0 1 (ma K (ga K "Pages") "record") fd ["self"] (sp_rec K Jn.pg) ∧ Binds K fd ["self"] [] := by
  obtain ⟨fd, F0⟩ := T.d_Pages_record
  obtain ⟨tL, gL⟩ := T.gLINE
  obtain ⟨tA, gA⟩ := T.gANSWER
  refine ⟨fd, ok0 F0 sc_precord (fun vs H Q E h => ?_) (fun cdv A outer s H vs Q E hr h => ?_), F0.bindsN fun _ _ _ _ _ _ us hl => match us, hl with | [_], _ => rfl⟩
  · obtain ⟨J, m, k, F, ls, as, rfl, _⟩ := h
    rfl
  · obtain ⟨J, m, k, F, ls, as, rfl, hJ, hls, has, h1, h2, kQ⟩ := h
    have nd := sc_precord.nd
    refine ⟨_, pss_cons (ps_set (i := 1) nd rfl (.inl rfl) (pe_lst pa_nil))
      (pss_cons (ps_for PassesOwn.never rfl (pi_zip (by rfl) T.f_zip (pa_cons (pe_fld (pv 0) rfl) (pa_cons (pe_fld (pv 0) rfl) pa_nil))) (pg_tup rfl (pgs_cons (pg_name (i := 2) nd rfl (.inl rfl)) (pgs_cons (pg_name (i := 3) nd rfl (.inl rfl)) pgs_nil)))
        (pss_one (ps_expr (pe_bm PySem.F.plainAttrs_list PySem.F.slot_list_append PySem.F.type_list_append mt_append (pv 1) (pa_cons
          (pe_joined (.cons (pe_fmt (pe_gs rfl gL)) (.cons (pe_fmt (pv 2)) (.cons pe_str (.cons (pe_fmt (pe_gs rfl gA)) (.cons (pe_fmt (pv 3)) (.cons pe_str .nil))))))) pa_nil)))))
      (pss_one (ps_ret (pe_m1 PySem.F.slot_str_join PySem.F.type_str_join mt_join pe_str (pv 1))))), ?_⟩
    refine ⟨Nat.zero_le _, fun p np => ?_⟩
    have s1 : Same H (upd H p (.lst [])) := Same.upd np
    have hJ1 := hJ.same s1
    obtain ⟨⟨jx, ho⟩, ⟨px, hp⟩, hD, hg, ht, gt⟩ := id hJ1
    have pg' : p ≠ J.g := fun e => by rw [e, hJ.gv] at np; cases np
    have pt' : p ≠ J.t := fun e => by rw [e, hJ.tv] at np; cases np
    refine ⟨_, rfl, J.pg, _, px, _, _, rfl, hp, T.cPages, T.nPages_given, fsP_given _ _ _, _, rfl, J.pg, _, px, _, _, rfl, hp, T.cPages, T.nPages_told, fsP_told _ _ _, J.g, J.t, _, _, rfl, SqL.of hg, SqL.of ht,
      for_it (walk_zip (n := ls.length) (by rw [List.length_map, List.length_map, has]; simp)) (fun i σ H' => ∃ v2 v3 : Option V, σ = [some (.ref J.pg), some (.ref p), v2, v3] ∧ Same H H' ∧ H' p = some (hStrs ((List.zipWith entS ls as).take i)))
        ⟨none, none, rfl, s1, upd_same⟩ (fun i σ H' _ ⟨_, _, _, s2, _⟩ => ⟨SqL.of (s2 _ _ hJ.gv), SqL.of (s2 _ _ hJ.tv)⟩) ?_ ?_⟩
    · rintro i x σ H2 H3 hi ⟨v2, v3, rfl, s2, hp2⟩ ⟨T', x1, x2, rfl, nT, rfl, hx1, hx2⟩
      obtain ⟨l, hl, rfl⟩ := at_map hx1
      obtain ⟨a, ha, rfl⟩ := at_map hx2
      have b1 := h1 l (List.mem_of_getElem? hl)
      have b2 := h2 a (List.mem_of_getElem? ha)
      have hz : (List.zipWith entS ls as)[i]? = some (entS l a) := by rw [List.getElem?_zipWith, hl, ha]
      have n1 : ("> " : Str).length = 2 := by decide +kernel
      have n2 : ("< " : Str).length = 2 := by decide +kernel
      have n3 : ("\n" : Str).length = 1 := by decide +kernel
      have la : ∀ x y : Str, (x ++ y).length = x.length + y.length := fun x y => by rw [TL.len_tl, TL.tl_append, List.length_append, ← TL.len_tl, ← TL.len_tl]
      have n0 : (Str.empty : Str).length = 0 := rfl
      refine ⟨T', _, rfl, SqT.of upd_same, rfl, _, _, rfl, _, _, rfl, rfl, ?_⟩
      have pT : p ≠ T' := ne_of_none hp2 nT
      refine ⟨_, rfl, .inl ⟨rfl, _, SqL.of (by rw [upd_ne pT]; exact hp2)⟩, ?_⟩
      refine .inl ⟨_, rfl, by rw [n1]; decide, _, rfl, by rw [la, n0, n1]; decide, ?_⟩
      refine ⟨_, rfl, .inl ⟨_, rfl, smallE (by omega), _, rfl, by simp only [la, n0, n1, n2, n3]; exact smallE (by omega), ?_⟩⟩
      refine ⟨_, rfl, by simp only [la, n0, n1, n2, n3]; exact smallE (by omega), ?_⟩
      refine .inl ⟨_, rfl, by rw [n2]; decide, _, rfl, by simp only [la, n0, n1, n2, n3]; exact smallE (by omega), ?_⟩
      refine ⟨_, rfl, .inl ⟨_, rfl, smallE (by omega), _, rfl, by simp only [la, n0, n1, n2, n3]; exact smallE (by omega), ?_⟩⟩
      refine ⟨_, rfl, by simp only [la, n0, n1, n2, n3]; exact smallE (by omega), ?_⟩
      refine ⟨p, _, _, rfl, rfl, by rw [upd_ne pT]; exact hp2, ?_, ?_⟩
      · rw [List.length_map, List.length_take, List.length_zipWith]
        exact small (by omega)
      · refine ⟨_, _, rfl, fun b o e => ?_, ?_⟩
        · rw [upd_ne (ne_of_none e np)]
          exact Same.upd nT b o (s2 b o e)
        · rw [upd_same, take_one hz, hStrs_app, joined_ent]
          rfl
    · rintro σ H2 ⟨v2, v3, rfl, s2, hp2⟩
      rw [List.take_of_length_le (by rw [List.length_zipWith]; omega)] at hp2
      refine ⟨⟨_, rfl⟩, _, rfl, _, p, _, rfl, rfl, .inl (SqL.of hp2), ?_, kQ H2 s2⟩
      have la : ∀ x y : Str, (x ++ y).length = x.length + y.length := fun x y => by rw [TL.len_tl, TL.tl_append, List.length_append, ← TL.len_tl, ← TL.len_tl]
      have hh := sum_len (ys := List.zipWith entS ls as) (k := 1010) fun y hy => by
        obtain ⟨i, hi⟩ := List.getElem?_of_mem hy
        rw [List.getElem?_zipWith] at hi
        cases e1 : ls[i]? with
        | none => rw [e1] at hi; cases hi
        | some l =>
          cases e2 : as[i]? with
          | none => rw [e1, e2] at hi; cases hi
          | some a =>
            rw [e1, e2] at hi
            have b1 := h1 l (List.mem_of_getElem? e1)
            have b2 := h2 a (List.mem_of_getElem? e2)
            cases hi
            unfold entS
            have n1 : ("> " : Str).length = 2 := by decide +kernel
            have n2 : ("\n< " : Str).length = 3 := by decide +kernel
            have n3 : ("\n" : Str).length = 1 := by decide +kernel
            simp only [la, n1, n2, n3]
            omega
      have hlz : (List.zipWith entS ls as).length ≤ 100 := by
        rw [List.length_zipWith]
        omega
      have n0 : ("" : Str).length = 0 := by decide +kernel
      rw [n0]
      exact small16 (by omega)
theorem sc_janswer : FnScope ["self", "line"] ["self", "line"] (defScope s_Journal_answer) := ⟨rfl, rfl, rfl, by decide +kernel, rfl, by decide +kernel, by decide +kernel⟩
theorem ok_janswer (T : Tx K w mg) : ∃ fd, FnOk P w K mg base CX0 8 (ma K (ga K "Journal") "answer") fd ["self", "line"] (sp_ans K Jn.j) ∧ Binds K fd ["self", "line"] [] := by
  obtain ⟨fd, F0⟩ := T.d_Journal_answer
  obtain ⟨fA, GA, bA⟩ := ok_panswer (P := P) (base := base) T
  refine ⟨fd, ok0 F0 sc_janswer (fun vs H Q E h => ?_) (fun cdv A outer s H vs Q E hr h => ?_), F0.bindsN fun _ _ _ _ _ _ us hl => match us, hl with | [_, _], _ => rfl⟩
  · obtain ⟨J, m, k, ls, as, z, rfl, _⟩ := h
    rfl
  · obtain ⟨J, m, k, ls, as, z, rfl, hJ, h⟩ := h
    refine ⟨_, pss_one (ps_ret (pe_meth (pe_fld (pv 0) rfl) T.cPages T.mPages_answer GA hr bA .nil pass0 (pa_cons (pv 1) pa_nil))), ?_⟩
    obtain ⟨⟨jx, ho⟩, ⟨px, hp⟩, _⟩ := id hJ
    exact ⟨_, rfl, J.j, _, jx, _, _, rfl, ho, T.cJournal, T.nJournal_pages, fsJ_pages _, J.pg, px, _, rfl, hp, fsP_no (by decide +kernel) (by decide +kernel) (by decide +kernel), _, rfl, J, m, k, ls, as, z, rfl, hJ, h⟩
theorem sc_jrecord : FnScope ["self"] ["self"] (defScope s_Journal_record) := ⟨rfl, rfl, rfl, by decide +kernel, rfl, by decide +kernel, by decide +kernel⟩
theorem ok_jrecord (T : Tx K w mg) : ∃ fd, FnOk P w K mg base CX0 2 (ma K (ga K "Journal") "record") fd ["self"] (sp_rec K Jn.j) ∧ Binds K fd ["self"] [] := by
  obtain ⟨fd, F0⟩ := T.d_Journal_record
  obtain ⟨fA, GA, bA⟩ := ok_precord (P := P) (base := base) T
  refine ⟨fd, ok0 F0 sc_jrecord (fun vs H Q E h => ?_) (fun cdv A outer s H vs Q E hr h => ?_), F0.bindsN fun _ _ _ _ _ _ us hl => match us, hl with | [_], _ => rfl⟩
  · obtain ⟨J, m, k, F, ls, as, rfl, _⟩ := h
    rfl
  · obtain ⟨J, m, k, F, ls, as, rfl, hJ, h⟩ := h
    refine ⟨_, pss_one (ps_ret (pe_meth0 (pe_fld (pv 0) rfl) T.cPages T.mPages_record GA hr bA .nil pass0)), ?_⟩
    obtain ⟨⟨jx, ho⟩, ⟨px, hp⟩, _⟩ := id hJ
    exact ⟨_, rfl, J.j, _, jx, _, _, rfl, ho, T.cJournal, T.nJournal_pages, fsJ_pages _, J.pg, px, _, rfl, hp, fsP_no (by decide +kernel) (by decide +kernel) (by decide +kernel), J, m, k, F, ls, as, rfl, hJ, h⟩
theorem sc_jlines : FnScope ["self"] ["self"] (defScope s_Journal_lines) := ⟨rfl, rfl, rfl, by decide +kernel, rfl, by decide +kernel, by decide +kernel⟩
theorem ok_jlines (T : Tx K w mg) : ∃ fd, FnOk P w K mg base CX0 1 (ma K (ga K "Journal") "lines") fd ["self"] (sp_lines K) ∧ Binds K fd ["self"] [] := by
  obtain ⟨fd, F0⟩ := T.d_Journal_lines
  refine ⟨fd, ok0 F0 sc_jlines (fun vs H Q E h => ?_) (fun cdv A outer s H vs Q E hr h => ?_), F0.bindsN fun _ _ _ _ _ _ us hl => match us, hl with | [_], _ => rfl⟩
  · obtain ⟨J, m, k, F, ls, as, rfl, _⟩ := h
    rfl
  · obtain ⟨J, m, k, F, ls, as, rfl, hJ, kQ⟩ := h
    refine ⟨_, pss_one (ps_ret (pe_callTy call_list_of (by rfl) T.f_list (by decide +kernel) (pa_cons (pe_fld (pe_fld (pv 0) rfl) rfl) pa_nil))), ?_⟩
    obtain ⟨⟨jx, ho⟩, ⟨px, hp⟩, _, hg, _⟩ := id hJ
    exact ⟨_, rfl, J.j, _, jx, _, _, rfl, ho, T.cJournal, T.nJournal_pages, fsJ_pages _, J.pg, _, px, _, _, rfl, hp, T.cPages, T.nPages_given, fsP_given _ _ _, J.g, _, rfl, .inl (SqL.of hg), fun p np => kQ p _ (Same.upd np) np upd_same⟩
theorem sc_jcontent : FnScope ["self", "name"] ["self", "name"] (defScope s_Journal_content) := ⟨rfl, rfl, rfl, by decide +kernel, rfl, by decide +kernel, by decide +kernel⟩
theorem ok_jcontent (T : Tx K w mg) : ∃ fd, FnOk P w K mg base CX0 2 (ma K (ga K "Journal") "content") fd ["self", "name"] (sp_jcontent K) ∧ Binds K fd ["self", "name"] [] := by
  obtain ⟨fd, F0⟩ := T.d_Journal_content
  obtain ⟨fA, GA, bA⟩ := ok_content (P := P) (base := base) T
  refine ⟨fd, ok0 F0 sc_jcontent (fun vs H Q E h => ?_) (fun cdv A outer s H vs Q E hr h => ?_), F0.bindsN fun _ _ _ _ _ _ us hl => match us, hl with | [_, _], _ => rfl⟩
  · obtain ⟨J, m, k, F, ls, as, x, rfl, _⟩ := h
    rfl
  · obtain ⟨J, m, k, F, ls, as, x, rfl, hJ, kN, kS⟩ := h
    refine ⟨_, pss_one (ps_ret (pe_meth (pe_fld (pe_fld (pv 0) rfl) rfl) T.cDesk T.mDesk_content GA hr bA .nil pass0 (pa_cons (pv 1) pa_nil))), ?_⟩
    obtain ⟨⟨jx, ho⟩, ⟨px, hp⟩, hD, _⟩ := id hJ
    obtain ⟨⟨dx, r, s0, c, hd⟩, hI⟩ := id hD
    exact ⟨_, rfl, J.j, _, jx, _, _, rfl, ho, T.cJournal, T.nJournal_pages, fsJ_pages _, J.pg, _, px, _, _, rfl, hp, T.cPages, T.nPages_desk, fsP_desk _ _ _, J.d, dx, _, rfl, hd, fsD_no (by decide +kernel) (by decide +kernel) (by decide +kernel) (by decide +kernel), _, rfl, J.d, J.it, m, k, F, x, rfl, hD, kN, kS⟩
theorem sc_rows_of : FnScope ["text", "rows"] ["text"] (defScope s_rows_of) := ⟨rfl, rfl, rfl, by decide +kernel, rfl, by decide +kernel, by decide +kernel⟩
theorem ok_rows_of (T : Tx K w mg) : ∃ fd, FnOk P w K mg base CX0 1 (ga K "rows_of") fd ["text"] sp_rows_of ∧ Binds K fd ["text"] [] := by
  obtain ⟨fd, F0⟩ := T.d_rows_of
  refine ⟨fd, ok0 F0 sc_rows_of (fun vs H Q E h => ?_) (fun cdv A outer s H vs Q E hr h => ?_), F0.bindsN fun _ _ _ _ _ _ us hl => match us, hl with | [_], _ => rfl⟩
  · obtain ⟨z, rs, y, rfl, _⟩ := h
    rfl
  · obtain ⟨z, rs, y, rfl, hz, hs, kQ⟩ := h
    have nd := sc_rows_of.nd
    refine ⟨_, pss_cons (ps_set (i := 1) nd rfl (.inl rfl) (pe_m1 PySem.F.slot_str_split PySem.F.type_str_split mt_split (pv 0) pe_str))
      (pss_one (ps_ret (pe_slice sl_list (pv 1) po_none (po_some (pe_un un_neg pe_int))))), ?_⟩
    refine ⟨_, rfl, ⟨_, rfl⟩, _, _, rfl, rfl, N_len, smallE (by omega), fun p np => ?_⟩
    rw [hs]
    refine ⟨_, rfl, _, rfl, _, rfl, p, _, rfl, SqL.of upd_same, fun q nq => ?_⟩
    have e : cutV ((rs ++ [y]).map V.str) none (some (-1)) = rs.map V.str := by
      rw [List.map_append]
      exact cutV_last _ _
    rw [e]
    have s1 : Same H (upd H p (.lst ((rs ++ [y]).map V.str))) := Same.upd np
    exact kQ q _ (s1.trans (Same.upd nq)) (s1.free nq) upd_same
end
end J93
namespace J93
open PySem PySem.Spec PyProof.Rows L2 He

def sp_resume (K : PySem.W.Frag) : Sp := fun vs H Q _ => ∃ (z : Str) (ls : List Ln) (k : Nat) (t : List Nat), vs = [.str z] ∧ LOk ls ∧ ls.length ≤ 14 ∧ k ≤ 2 * ls.length ∧ z.length ≤ 100000 ∧
  Txt.split z "\n" = ((rows noItm ls).take k).map mk ++ [mk t] ∧
  ∀ (J : Jn) H', Same H H' → H J.it = none → H J.g = none → H J.t = none → H J.j = none → JAt K H' J (itm noItm (ls.take (k / 2))) (k / 2) (Fo J) ((ls.take (k / 2)).map Ln.tx) (anss noItm (ls.take (k / 2))) → Q (.ref J.j) H'
theorem row_in_ok {l : Ln} (h : l.Ok) : lineS (mk ([62, 32] ++ l.l)) := by
  refine ⟨fun c hc => .inr ?_, fun hc => ?_⟩
  · rcases List.mem_append.mp (show c ∈ [62, 32] ++ l.l from hc) with q | q
    · have : ∀ c ∈ ([62, 32] : List Nat), c ∈ PR := by decide +kernel
      exact this c q
    · exact l_ok h c q
  · rcases List.mem_append.mp (show 10 ∈ [62, 32] ++ l.l from hc) with q | q
    · revert q; decide
    · exact l_no10 h q
theorem row_starts (l : Ln) : Txt.startswith (mk ([62, 32] ++ l.l)) ("> " : Str) = true := by
  rw [starts, w_in]
  rfl
theorem row_cut (l : Ln) : cutS (mk ([62, 32] ++ l.l)) (some ((("> " : Str).length : Nat) : Int)) none = l.tx := by
  rw [cut_from, show ("> " : Str).length = 2 from by decide +kernel]
  rfl
section
variable {P : Program} {w : World} {K : PySem.W.Frag} {mg : Str → Option Value} {base : Heap}
theorem sc_resume : FnScope ["text", "journal", "rows", "told", "at", "row"] ["text"] (defScope s_resume) := ⟨rfl, rfl, rfl, by decide +kernel, rfl, by decide +kernel, by decide +kernel⟩
theorem ok_resume (T : Tx K w mg) : ∃ fd, FnOk P w K mg base CX0 9 (ga K "resume") fd ["text"] (sp_resume K) ∧ Binds K fd ["text"] [] := by
  obtain ⟨fd, F0⟩ := T.d_resume
  obtain ⟨fJ, GJ, bJ⟩ := ok_journal0 (P := P) (base := base) T
  obtain ⟨fR, GR, bR⟩ := ok_rows_of (P := P) (base := base) T
  obtain ⟨_, FR⟩ := T.d_rows_of
  obtain ⟨fL, GL, bL⟩ := ok_is_line (P := P) (base := base) T
  obtain ⟨_, FL⟩ := T.d_is_line
  obtain ⟨fA, GA, bA⟩ := ok_janswer (P := P) (base := base) T
  obtain ⟨tL, gL⟩ := T.gLINE
  obtain ⟨tA, gA⟩ := T.gANSWER
  obtain ⟨tB, gB⟩ := T.gBAD
  refine ⟨fd, ok0 F0 sc_resume (fun vs H Q E h => ?_) (fun cdv A outer s H vs Q E hr h => ?_), F0.bindsN fun _ _ _ _ _ _ us hl => match us, hl with | [_], _ => rfl⟩
  · obtain ⟨z, ls, k, t, rfl, _⟩ := h
    rfl
  · obtain ⟨z, ls, k, t, rfl, hl, hn, hk, hz, hs, kQ⟩ := h
    have nd := sc_resume.nd
    have hr1 : Room 1 _ := hr.mono (by decide)
    have hr2 : Room 2 _ := hr.mono (by decide)
    refine ⟨_, pss_cons (ps_set (i := 1) nd rfl (.inl rfl) (pe_make0 T.kJournal GJ hr (by rfl) T.gJournal bJ .nil pass0))
      (pss_cons (ps_set (i := 2) nd rfl (.inl rfl) (pe_call GR hr1 (by rfl) T.g_rows_of FR.kp bR .nil pass0 (pa_cons (pv 0) pa_nil)))
      (pss_cons (ps_set (i := 3) nd rfl (.inl rfl) (pe_gs rfl gB))
      (pss_cons (ps_for PassesOwn.never rfl (pi_enum (by rfl) T.f_enumerate (pa_cons (pv 2) pa_nil)) (pg_tup rfl (pgs_cons (pg_name (i := 4) nd rfl (.inl rfl)) (pgs_cons (pg_name (i := 5) nd rfl (.inl rfl)) pgs_nil)))
        (pss_one (ps_if (pt_cmpR op_eq (pe_op op_mod (pv 4) pe_int) pe_int (nomark _))
          (pss_one (ps_if (pt_cmpR op_ne (pv 5) (pe_op op_add_str (pe_gs rfl gA) (pv 3)) (nomark _)) pss_never pss_nil))
          (pss_one (ps_if (PW.pt (pw_or (pt_not (pt_val (pe_m1 PySem.F.slot_str_startswith PySem.F.type_str_startswith mt_startswith (pv 5) (pe_gs rfl gL)))) (pw_or1 (pt_not (pt_val (pe_call GL hr2 (by rfl) T.g_is_line FL.kp bL .nil pass0 (pa_cons (pv 5) pa_nil)))))))
            pss_never
            (pss_one (ps_if (pt_cmpR op_lt (pe_op op_add (pv 4) pe_int) (pe_callB call_len (by rfl) T.f_len PySem.boot_len (pa_cons (pv 2) pa_nil)) (nomark _))
              (pss_one (ps_set (i := 3) nd rfl (.inl rfl) (pe_meth (pv 1) T.cJournal T.mJournal_answer GA hr bA .nil pass0 (pa_cons (pe_slice sl_str (pv 5) (po_some (pe_callB call_len_str (by rfl) T.f_len PySem.boot_len (pa_cons (pe_gs rfl gL) pa_nil))) po_none) pa_nil)))) pss_nil)))))))
      (pss_one (ps_ret (pv 1)))))), ?_⟩
    refine fun x dx nx ndx hdx => ⟨x, dx, rfl, upd_same, fun J H1 jx o1 n1 n2 n3 hJ => ⟨rfl, ?_⟩⟩
    subst jx
    have up : ∀ b o, H b = some o → (upd (upd H dx (.own J.j)) J.j (.ins (ga K "Journal") dx [])) b = some o := fun b o e => by
      rw [upd_ne (ne_of_none e nx), upd_ne (ne_of_none e ndx)]
      exact e
    have free : ∀ {b : Addr}, (upd (upd H dx (.own J.j)) J.j (.ins (ga K "Journal") dx [])) b = none → H b = none := fun {b} q => by
      cases e : H b with
      | none => rfl
      | some o => rw [up _ _ e] at q; cases q
    have s1 : Same H H1 := fun b o e => o1 _ _ (up b o e) (ne_of_none e nx)
    refine ⟨_, rfl, z, ((rows noItm ls).take k).map mk, mk t, rfl, hz, hs, fun p H2 s2 np hp => ?_⟩
    have hJ2 := fun F => (hJ F).same s2
    have hJ1 := hJ (Fo J)
    have klen : ((rows noItm ls).take k).length = k := by rw [List.length_take, rows_len]; omega
    have pg' : p ≠ J.g := fun e => by rw [e, hJ1.gv] at np; cases np
    have pt' : p ≠ J.t := fun e => by rw [e, hJ1.tv] at np; cases np
    have pi' : p ≠ J.it := fun e => by
      obtain ⟨kvs, q⟩ := hJ1.itm
      rw [e, q] at np; cases np
    refine ⟨_, rfl, p, _, rfl, SqL.of hp, for_it (walk_enum (xs := (((rows noItm ls).take k).map mk).map V.str)) (fun i σ H' => ∃ (told : Str) (v4 v5 : Option V), σ = [some (.str z), some (.ref J.j), some (.ref p), some (.str told), v4, v5] ∧ H' p = some (hStrs (((rows noItm ls).take k).map mk)) ∧ Tch J H2 H' ∧
        JAt K H' J (itm noItm (ls.take (min ((i + 1) / 2) (k / 2)))) (min ((i + 1) / 2) (k / 2)) (Fo J) ((ls.take (min ((i + 1) / 2) (k / 2))).map Ln.tx) (anss noItm (ls.take (min ((i + 1) / 2) (k / 2)))) ∧
        (i % 2 = 1 → i < k → ∃ l, ls[i / 2]? = some l ∧ told = ans (itm noItm (ls.take (i / 2))) l))
      ⟨_, none, none, rfl, hp, Tch.refl _ _, ?_, fun h => absurd h (by decide)⟩ (fun i σ H' _ ⟨_, _, _, _, hp', _⟩ => SqL.of hp') ?_ ?_⟩
    · have e : min ((0 + 1) / 2) (k / 2) = 0 := by omega
      rw [e]
      exact hJ2 _
    · rintro i y σ H3 H4 hi ⟨told, v4, v5, rfl, hp3, tch, hJ3, hT⟩ ⟨T', x1, x2, rfl, nT, rfl, hx1, hx2⟩
      cases hx1
      obtain ⟨r, hr', rfl⟩ := at_map hx2
      obtain ⟨q, hq, rfl⟩ := at_map hr'
      have hik : i < k := by rw [← klen]; exact lt_of_at hq
      have hq2 : (rows noItm ls)[i]? = some q := by
        rw [List.getElem?_take, if_pos hik] at hq
        exact hq
      have s4 : Same H3 (upd H3 T' (.tup [.int (i : Nat), .str (mk q)])) := Same.upd nT
      have hJ4 := hJ3.same s4
      have hp4 := s4 _ _ hp3
      have tch4 : Tch J H2 (upd H3 T' (.tup [.int (i : Nat), .str (mk q)])) := tch.trans (Tch.of s4)
      refine ⟨T', _, rfl, SqT.of upd_same, rfl, _, _, rfl, _, _, rfl, rfl, ?_⟩
      obtain ⟨l, hll⟩ : ∃ l, ls[i / 2]? = some l := ⟨_, List.getElem?_eq_getElem (by omega)⟩
      have hlok := hl l (List.mem_of_getElem? hll)
      refine ⟨_, rfl, _, _, rfl, rfl, (by show (0 : Int) < 2; decide), rfl, _, rfl, ?_⟩
      refine iteB (fun hb => ?_) (fun hb => ?_)
      · -- an answer's row
        have h1 : ((i : Nat) : Int) % 2 = 1 := by
          have := of_decide_eq_true hb
          injection this
        have h1' : i % 2 = 1 := by omega
        obtain ⟨l', hl', rfl⟩ := hT h1' hik
        rw [hll] at hl'
        cases hl'
        have e := rows_odd ls noItm (i / 2) l hll
        rw [show 2 * (i / 2) + 1 = i by omega, hq2] at e
        have e2 := Option.some.inj e
        subst e2
        have htl : ("< " : Str).length = 2 := by decide +kernel
        have hal := (ans_ok (m := itm noItm (ls.take (i / 2))) (l := l) (itm_good _ _ good_no (hl.take _))).2
        refine ⟨_, rfl, _, rfl, _, _, rfl, rfl, by rw [htl]; exact smallE (by omega), rfl, _, rfl, ?_⟩
        have e3 : mk ([60, 32] ++ TL.tl (ans (itm noItm (ls.take (i / 2))) l)) = ("< " : Str) ++ ans (itm noItm (ls.take (i / 2))) l := TL.ext_tl (by
          rw [TL.tl_append, w_out]
          rfl)
        rw [eqS_eq e3]
        refine iteF ⟨_, _, _, rfl, hp4, tch4, ?_, fun h => absurd h (by omega)⟩
        rw [show min ((i + 1 + 1) / 2) (k / 2) = min ((i + 1) / 2) (k / 2) by omega]
        exact hJ4
      · have h0 : ¬ ((i : Nat) : Int) % 2 = 1 := fun e => of_decide_eq_false hb (congrArg V.int e)
        have h0' : i % 2 = 0 := by omega
        have e := rows_even ls noItm (i / 2) l hll
        rw [show 2 * (i / 2) = i by omega, hq2] at e
        have e2 := Option.some.inj e
        subst e2
        have hrl : (mk ([62, 32] ++ l.l)).length ≤ 1000 := by
          have := tx_len hlok
          have e : (mk ([62, 32] ++ l.l)).length = 2 + l.tx.length := by
            rw [len_mk, List.length_append]
            rfl
          omega
        refine ⟨_, rfl, ⟨_, rfl⟩, _, _, rfl, rfl, _, rfl, ?_⟩
        rw [row_starts]
        refine iteF ⟨_, rfl, _, rfl, by omega, fun _ H5 s5 => ⟨_, rfl, iteF ?_⟩, fun q => absurd (row_in_ok hlok) q⟩
        have hJ5 := hJ4.same s5
        have hp5 := s5 _ _ hp4
        have tch5 := tch4.trans (Tch.of s5)
        refine ⟨_, rfl, _, _, rfl, rfl, _, rfl, _, _, rfl, .inl ⟨_, SqL.of hp5, rfl⟩, _, _, rfl, rfl, _, rfl, ?_⟩
        have c0 : min ((i + 1) / 2) (k / 2) = i / 2 := by omega
        rw [c0] at hJ5
        have hkl : ((((rows noItm ls).take k).map mk).map V.str).length = k := by rw [List.length_map, List.length_map, klen]
        rw [hkl]
        refine iteB (fun hb2 => ?_) (fun hb2 => ?_)
        · have h2 : ((i : Nat) : Int) + 1 < (k : Int) := of_decide_eq_true hb2
          obtain ⟨⟨jx, ho⟩, _⟩ := id hJ5
          refine ⟨_, rfl, J.j, jx, _, rfl, ho, fsJ_no (by decide +kernel) (by decide +kernel) (by decide +kernel), _, rfl, _, rfl, by decide +kernel, _, rfl, _, rfl, smallE (by omega), ?_⟩
          rw [row_cut]
          refine ⟨J, _, _, _, _, l.tx, rfl, hJ5, .inl ⟨l, hlok, rfl, by omega, itm_good _ _ good_no (hl.take _), ?_, ?_, fun H6 hJ6 t6 => ?_⟩⟩
          · rw [List.length_map, List.length_take]
            omega
          · rw [anss_len, List.length_take]
            omega
          · refine ⟨_, _, _, rfl, t6 _ _ hp5 pi' pg' pt', tch5.trans t6, ?_, fun _ _ => ⟨l, by rw [show (i + 1) / 2 = i / 2 by omega]; exact hll, by rw [show (i + 1) / 2 = i / 2 by omega]⟩⟩
            rw [show min ((i + 1 + 1) / 2) (k / 2) = i / 2 + 1 by omega, itm_take noItm hll, anss_take noItm hll, take_one hll, List.map_append]
            exact hJ6
        · have h2 : ¬ ((i : Nat) : Int) + 1 < (k : Int) := of_decide_eq_false hb2
          refine ⟨_, _, _, rfl, hp5, tch5, ?_, fun _ h => absurd h (by omega)⟩
          rw [show min ((i + 1 + 1) / 2) (k / 2) = i / 2 by omega]
          exact hJ5
    · rintro σ H3 ⟨told, v4, v5, rfl, hp3, tch, hJ3, hT⟩
      have hkl : ((((rows noItm ls).take k).map mk).map V.str).length = k := by rw [List.length_map, List.length_map, klen]
      rw [hkl, show min ((k + 1) / 2) (k / 2) = k / 2 by omega] at hJ3
      refine ⟨_, rfl, kQ J H3 (fun b o e => ?_) (free n1) (free n2) (free n3) nx hJ3⟩
      exact tch b o (s2 _ _ (s1 _ _ e)) (ne_of_none e (free n1)) (ne_of_none e (free n2)) (ne_of_none e (free n3))
end
end J93
namespace J93
open PySem PySem.Spec PyProof.Rows L2 He

theorem w_01 : TL.tl ("01" : Str) = [48, 49] := by decide +kernel
theorem str_ne01 (c : Int) : ¬ ("01" : Str) = str c := fun q => by
  have e := congrArg TL.tl q
  rw [w_01] at e
  rcases str_parts c with ⟨_, e2⟩ | ⟨_, e2⟩
  · rw [e2] at e
    exact absurd (List.cons.inj e).1 (by decide)
  · rw [e2] at e
    by_cases h : 0 < c.natAbs
    · exact numL_head h e.symm rfl
    · have h0 : c.natAbs = 0 := by omega
      rw [h0, numL_zero] at e
      exact absurd e (by decide)
theorem no01 (n : Nm) (ns : List Int) : inV (.str ("01" : Str)) (((Ln.nums n ns).wd).map V.str) = false := by
  rw [inV_strs]
  refine decide_eq_false fun h => ?_
  rcases List.mem_cons.mp h with h | h
  · revert h; decide +kernel
  · rcases List.mem_cons.mp h with h | h
    · revert h; cases n <;> decide +kernel
    · obtain ⟨c, _, e⟩ := List.mem_map.mp h
      exact str_ne01 c e.symm
theorem nm_in3 (n : Nm) : inV (.str n.s) [.str "a", .str "b", .str "cc"] = true := by cases n <;> decide +kernel
theorem A_in3 : inV (.str ("A" : Str)) [.str "a", .str "b", .str "cc"] = false := by decide +kernel
theorem om_ne0 (o : Om) : decide (V.str o.s = V.str ("" : Str)) = false := by
  cases o with
  | nm n => exact nm_ne0 n
  | no => decide +kernel
theorem atS2 {x y z : Str} {r : List Str} : atI ((x :: y :: z :: r).map V.str) 2 = some (.str z) := atI_nat (j := 2) rfl
theorem text_parts {l : Ln} (h : l.isText = true) (hl : l.Ok) : ∃ (n : Nm) (cs : List Nat) (W' : List Str), Txt.split l.tx " " = ("text" : Str) :: n.s :: W' ∧ cutS l.tx (some (6 + (n.s.length : Int))) none = mk cs ∧ cs.length ≤ 8 ∧
    ∀ m, nxt m l = putI m n.s (cs.map Int.ofNat) ∧ ans m l = "ok" := by
  cases l with
  | text n cs => exact ⟨n, cs, _, split_text n cs, rest_text n cs, hl.1, fun m => ⟨rfl, rfl⟩⟩
  | text0 n => exact ⟨n, [], [], split_text0 n, rest_text0 n, Nat.zero_le _, fun m => ⟨rfl, rfl⟩⟩
  | _ => cases h
def sp_lans : Sp := fun vs H Q _ => ∃ (it : Addr) (m : Itm) (k : Nat) (F : Addr → Prop) (l : Ln), vs = [.ref it, .str l.tx] ∧ l.Ok ∧ ItAt H it m k F ∧ k ≤ 1000 ∧ Free H F ∧ m.Good ∧
  ∀ H', ItAt H' it (nxt m l) (k + 1) F → Off it H H' → Q (.str (ans m l)) H'
section
variable {P : Program} {w : World} {K : PySem.W.Frag} {mg : Str → Option Value} {base : Heap}
theorem sc_lans : FnScope ["_law_items_here", "_law_line_here", "_law_words", "_law_char_here", "_law_word", "_law_number_here"] ["_law_items_here", "_law_line_here"] (defScope s_answer) := ⟨rfl, rfl, rfl, by decide +kernel, rfl, by decide +kernel, by decide +kernel⟩
theorem ok_lans (T : Tx K w mg) : ∃ fd, FnOk P w K mg base CX0 2 (ga K "_law_answer") fd ["_law_items_here", "_law_line_here"] sp_lans ∧ Binds K fd ["_law_items_here", "_law_line_here"] [] := by
  obtain ⟨fd, F0⟩ := T.d_answer
  obtain ⟨fD, GD, bD⟩ := ok_digits (P := P) (base := base) T
  obtain ⟨_, FD⟩ := T.d_digits
  refine ⟨fd, ok0 F0 sc_lans (fun vs H Q E h => ?_) (fun cdv A outer s H vs Q E hr h => ?_), F0.bindsN fun _ _ _ _ _ _ us hl => match us, hl with | [_, _], _ => rfl⟩
  · obtain ⟨it, m, k, F, l, rfl, _⟩ := h
    rfl
  · obtain ⟨it, m, k, F, l, rfl, hl, hI, hk, hF, hG, kQ⟩ := h
    have nd := sc_lans.nd
    have hu := hu_of hr
    refine ⟨_, pss_cons (ps_set (i := 2) nd rfl (.inl rfl) (pe_m1 PySem.F.slot_str_split PySem.F.type_str_split mt_split (pv 1) pe_str))
      (pss_cons (ps_if (PW.pt (pw_and (pt_cmpR op_eq (pe_ix ix_list (pv 2) pe_int (fun _ _ => rfl)) pe_str (nomark _)) (pw_and1 (pt_cmpR op_gt (pe_callB call_len (by rfl) T.f_len PySem.boot_len (pa_cons (pv 2) pa_nil)) pe_int (nomark _)))))
        (pss_cons (ps_dput hu (pv 0) (pe_ix ix_list (pv 2) pe_int (fun _ _ => rfl))
            (pe_lc (own := [("_law_char_here", 3)]) (g := gName 3) (tt := tYes) rfl nd (pi_str (pe_slice sl_str (pv 1) (po_some (pe_op op_add pe_int (pe_callB call_len_str (by rfl) T.f_len PySem.boot_len (pa_cons (pe_ix ix_list (pv 2) pe_int (fun _ _ => rfl)) pa_nil)))) po_none))
              (blkOk_by (N := ["_law_items_here", "_law_line_here", "_law_words", "_law_char_here", "_law_word", "_law_number_here"]) (sc := defScope s_answer) (by decide +kernel))
              (fun _ _ _ _ _ => pg_name (i := 3) nd rfl (Or.inl rfl)) (fun _ _ _ _ _ => pts_nil)
              (fun _ _ _ _ _ => pe_callB call_ord (by rfl) T.f_ord (by decide +kernel) (pa_cons (pv 3) pa_nil))) rfl)
          (pss_one (ps_ret pe_str))) pss_nil)
      (pss_cons (ps_if (PW.pt (pw_and (pt_cmpR op_eq (pe_ix ix_list (pv 2) pe_int (fun _ _ => rfl)) pe_str (nomark _)) (pw_and (pt_cmpR op_gt (pe_callB call_len (by rfl) T.f_len PySem.boot_len (pa_cons (pv 2) pa_nil)) pe_int (nomark _))
          (pw_and (pt_cmpR op_in_seq (pe_ix ix_list (pv 2) pe_int (fun _ _ => rfl)) (pe_lst (pa_cons pe_str (pa_cons pe_str (pa_cons pe_str pa_nil)))) (by rfl)) (pw_and1 (pt_cmpR op_notIn_seq pe_str (pv 2) (by rfl)))))))
        (pss_cons (ps_dput hu (pv 0) (pe_ix ix_list (pv 2) pe_int (fun _ _ => rfl))
            (pe_lc (own := [("_law_word", 4)]) (g := gName 4) (tt := tYes) rfl nd (pi_list (pe_slice sl_list (pv 2) (po_some pe_int) po_none))
              (blkOk_by (N := ["_law_items_here", "_law_line_here", "_law_words", "_law_char_here", "_law_word", "_law_number_here"]) (sc := defScope s_answer) (by decide +kernel))
              (fun _ _ _ _ _ => pg_name (i := 4) nd rfl (Or.inl rfl)) (fun _ _ _ _ _ => pts_nil)
              (fun _ _ _ _ _ => pe_callTy call_int_str (by rfl) T.f_int (by decide +kernel) (pa_cons (pv 4) pa_nil))) rfl)
          (pss_one (ps_ret pe_str))) pss_nil)
      (pss_cons (ps_if (PW.pt (pw_and (pt_cmpR op_eq (pe_ix ix_list (pv 2) pe_int (fun _ _ => rfl)) pe_str (nomark _)) (pw_and (pt_cmpR op_eq (pe_callB call_len (by rfl) T.f_len PySem.boot_len (pa_cons (pv 2) pa_nil)) pe_int (nomark _))
          (pw_and1 (pt_cmpR op_ne (pe_ix ix_list (pv 2) pe_int (fun _ _ => rfl)) pe_str (nomark _))))))
        (pss_cons (ps_if (pt_cmp (pc_dnotin hu (pe_ix ix_list (pv 2) pe_int (fun _ _ => rfl)) (pv 0))) (pss_one (ps_ret (pe_op op_add_str pe_str (pe_ix ix_list (pv 2) pe_int (fun _ _ => rfl))))) pss_nil)
        (pss_cons (ps_if (pt_not (pt_truth (pe_dget hu (pv 0) (pe_ix ix_list (pv 2) pe_int (fun _ _ => rfl)) (fun _ _ => rfl)) (by intro _; rfl))) (pss_one (ps_ret pe_str)) pss_nil)
        (pss_one (ps_ret (pe_m1 PySem.F.slot_str_join PySem.F.type_str_join mt_join pe_str
          (pe_lc (own := [("_law_number_here", 5)]) (g := gName 5) (tt := tYes) rfl nd (pi_list (pe_dget hu (pv 0) (pe_ix ix_list (pv 2) pe_int (fun _ _ => rfl)) (fun _ _ => rfl)))
            (blkOk_by (N := ["_law_items_here", "_law_line_here", "_law_words", "_law_char_here", "_law_word", "_law_number_here"]) (sc := defScope s_answer) (by decide +kernel))
            (fun _ _ _ _ _ => pg_name (i := 5) nd rfl (Or.inl rfl)) (fun _ _ _ _ _ => pts_nil)
            (fun _ _ _ _ _ => pe_callTy call_str_int (by rfl) T.f_str (by decide +kernel) (pa_cons (pv 5) pa_nil)))))))) pss_nil)
      (pss_cons (ps_if (pt_cmpR op_eq (pe_ix ix_list (pv 2) pe_int (fun _ _ => rfl)) pe_str (nomark _))
        (pss_cons (ps_if (pt_cmp (pc_dnotin hu (pe_ix ix_list (pv 2) pe_int (fun _ _ => rfl)) (pv 0))) (pss_one (ps_ret (pe_op op_add_str pe_str (pe_ix ix_list (pv 2) pe_int (fun _ _ => rfl))))) pss_nil)
        (pss_cons (ps_dput hu (pv 0) (pe_ix ix_list (pv 2) pe_int (fun _ _ => rfl)) (pe_call GD hr (by rfl) T.g_digits FD.kp bD .nil pass0 (pa_cons (pe_dget hu (pv 0) (pe_ix ix_list (pv 2) pe_int (fun _ _ => rfl)) (fun _ _ => rfl)) pa_nil)) rfl)
        (pss_one (ps_ret (pe_callTy call_str_int (by rfl) T.f_str (by decide +kernel) (pa_cons (pe_callB call_len (by rfl) T.f_len PySem.boot_len (pa_cons (pe_dget hu (pv 0) (pe_ix ix_list (pv 2) pe_int (fun _ _ => rfl)) (fun _ _ => rfl)) pa_nil)) pa_nil)))))) pss_nil)
      (pss_one (ps_ret pe_str)))))), ?_⟩
    refine ⟨_, rfl, ⟨_, rfl⟩, _, _, rfl, rfl, B_len, Nat.le_trans (Nat.add_le_add_right (tx_len hl) 2) (by decide), fun p np => ?_⟩
    obtain ⟨kvs, h1, h2, h3, h4⟩ := id hI
    have s1 : ∀ (W : List Str), Same H (upd H p (.lst (W.map V.str))) := fun W => Same.upd np
    have pit : p ≠ it := fun e => by rw [e, h1] at np; cases np
    -- a new list is stored
    have put : ∀ (q : Addr) (H1 : Hp) (x : Str) (ns : List Int), Same H H1 → H q = none → H1 q = some (hInts ns) →
        ItAt (upd H1 it (.dK (putK kvs (Sum.inr x) (.ref q)))) it (putI m x ns) (k + 1) F ∧ Off it H (upd H1 it (.dK (putK kvs (Sum.inr x) (.ref q)))) := fun q H1 x ns s2 nq hq =>
      ⟨ItAt.put h1 h2 h3 h4 s2 hq (hF q nq), (Off.of s2).trans (Off.upd _ _ _)⟩
    have bad : ans m l = "bad" → nxt m l = m → ∀ H', Same H H' → Q (.str "bad") H' := fun e1 e2 H' s' => by
      have := kQ H' (by rw [e2]; exact (hI.same s').mono (Nat.le_succ k)) (Off.of s')
      rw [e1] at this
      exact this
    by_cases ht : l.isText = true
    · obtain ⟨n, cs, W', eW, eC, h8, hA⟩ := text_parts ht hl
      obtain ⟨eN, eA⟩ := hA m
      rw [eW]
      have s1 := s1 (("text" : Str) :: n.s :: W')
      have hp : (upd H p (.lst ((("text" : Str) :: n.s :: W').map V.str))) p = some (hStrs (("text" : Str) :: n.s :: W')) := upd_same
      refine ⟨_, rfl, p, _, 0, _, rfl, rfl, SqL.of hp, atS0, rfl, _, rfl, ?_⟩
      rw [eqS_eq rfl]
      refine iteT ⟨_, rfl, _, _, rfl, .inl ⟨_, SqL.of hp, rfl⟩, _, _, rfl, rfl, _, rfl, ?_⟩
      refine iteB (fun _ => ?_) (fun hb => absurd (of_decide_eq_false hb) (by rw [List.length_map]; simp; omega))
      have nl := (nm_len n).2
      refine ⟨_, rfl, _, rfl, p, _, 1, _, rfl, rfl, SqL.of hp, atS1, _, rfl, smallE (by omega), _, _, rfl, rfl, _, rfl, _, rfl, smallE (Nat.le_trans (tx_len hl) (by decide)), ?_⟩
      rw [eC]
      refine ⟨_, rfl, fun D nD => ?_⟩
      have nD0 : H D = none := s1.free nD
      refine lc_it walk_str (fun i H' => Same H H' ∧ H' p = some (hStrs (("text" : Str) :: n.s :: W')) ∧ H' D = some (hInts ((cs.take i).map Int.ofNat)))
        ⟨s1.trans (Same.upd nD), by rw [upd_ne (ne_of_none hp nD)]; exact hp, upd_same⟩ (fun _ _ _ _ => trivial) ?_ ?_
      · rintro i y H1 H2 hi ⟨s2, hp2, hDD⟩ ⟨rfl, c, hc, rfl⟩
        have hc' : cs[i]? = some c := mk_at hc
        refine ⟨rfl, _, rfl, _, rfl, rfl, _, hDD, ?_, fun b o e => ?_, ?_, ?_⟩
        · rw [List.length_map, List.length_map, List.length_take]
          exact small (by omega)
        · rw [upd_ne (ne_of_none e nD0)]
          exact s2 b o e
        · rw [upd_ne (fun e => by rw [e, hDD] at hp2; cases W' <;> cases i <;> first | cases hp2 | (exact ne_of_none hp nD e))]
          exact hp2
        · rw [upd_same, take_one hc', List.map_append, hInts_app]
          rfl
      · rintro H1 ⟨s2, hp2, hDD⟩
        rw [List.take_of_length_le (by show cs.length ≤ (mk cs).cps.size; simp [mk])] at hDD
        refine ⟨_, rfl, _, rfl, p, _, 1, _, rfl, rfl, SqL.of hp2, atS1, it, _, rfl, DPut.k (k := Sum.inr n.s) (s2 _ _ h1) (small (by omega)), ?_⟩
        obtain ⟨q1, q2⟩ := put D H1 n.s _ s2 nD0 hDD
        have := kQ _ (by rw [eN]; exact q1) q2
        rw [eA] at this
        exact this
    · have ht' : l.isText = false := by simpa using ht
      rw [split_wd ht']
      have hp : (upd H p (.lst (l.wd.map V.str))) p = some (hStrs l.wd) := upd_same
      have s1 := s1 l.wd
      have hI1 := hI.same s1
      cases l with
      | text n cs => cases ht'
      | text0 n => cases ht'
      | nums n ns =>
        refine ⟨_, rfl, p, _, 0, _, rfl, rfl, SqL.of hp, atS0, rfl, _, rfl, ?_⟩
        rw [eqS_ne (by decide +kernel)]
        refine iteF (iteF ?_)
        refine ⟨_, rfl, p, _, 0, _, rfl, rfl, SqL.of hp, atS0, rfl, _, rfl, ?_⟩
        rw [eqS_eq rfl]
        refine iteT ⟨_, rfl, _, _, rfl, .inl ⟨_, SqL.of hp, rfl⟩, _, _, rfl, rfl, _, rfl, ?_⟩
        refine iteB (fun _ => ?_) (fun hb => absurd (of_decide_eq_false hb) (by rw [List.length_map]; simp [Ln.wd]; omega))
        refine ⟨_, rfl, p, _, 1, _, rfl, rfl, SqL.of hp, atS1, by show 3 ≤ sizeLine; decide, fun q nq => ⟨q, _, rfl, .inl (SqL.of upd_same), rfl, rfl, _, rfl, ?_⟩⟩
        have e1 : (if false = true then !inV (.str n.s) [.str "a", .str "b", .str "cc"] else inV (.str n.s) [.str "a", .str "b", .str "cc"]) = true := nm_in3 n
        rw [e1]
        have hp2 : (upd (upd H p (.lst ((Ln.nums n ns).wd.map V.str))) q (.lst [.str "a", .str "b", .str "cc"])) p = some (hStrs (Ln.nums n ns).wd) := by
          rw [upd_ne (ne_of_none hp nq)]
          exact hp
        have s2 : Same H (upd (upd H p (.lst ((Ln.nums n ns).wd.map V.str))) q (.lst [.str "a", .str "b", .str "cc"])) := s1.trans (Same.upd nq)
        refine iteT ⟨_, rfl, p, _, rfl, .inl (SqL.of hp2), rfl, flat_strs _, _, rfl, ?_⟩
        have e2 : (if true = true then !inV (.str ("01" : Str)) ((Ln.nums n ns).wd.map V.str) else inV (.str ("01" : Str)) ((Ln.nums n ns).wd.map V.str)) = true := by
          rw [if_pos rfl, no01]
          rfl
        rw [e2]
        refine iteT ⟨_, rfl, 2, rfl, p, _, rfl, SqL.of hp2, fun r nr => ?_⟩
        have e3 : cutV ((Ln.nums n ns).wd.map V.str) (some 2) none = (ns.map str).map V.str := cutV_from _ 2
        rw [e3]
        refine ⟨r, rfl, ⟨_, SqL.of upd_same⟩, fun D nD => ?_⟩
        have s3 := s2.trans (Same.upd (o := .lst ((ns.map str).map V.str)) nr)
        have rD : r ≠ D := fun e => by rw [← e, upd_same] at nD; cases nD
        have nD0 : H D = none := s3.free nD
        have pr : p ≠ r := ne_of_none hp2 nr
        have pD : p ≠ D := fun e => by rw [← e, upd_ne pr, hp2] at nD; cases nD
        refine lc_it (walk_list (xs := (ns.map str).map V.str)) (fun i H' => Same H H' ∧ H' p = some (hStrs (Ln.nums n ns).wd) ∧ H' r = some (.lst ((ns.map str).map V.str)) ∧ H' D = some (hInts (ns.take i)))
          ⟨s3.trans (Same.upd nD), by rw [upd_ne pD, upd_ne pr]; exact hp2, by rw [upd_ne rD]; exact upd_same, upd_same⟩ (fun i H' _ ⟨_, _, hr', _⟩ => SqL.of hr') ?_ ?_
        · rintro i y H1 H2 hi ⟨s4, hp4, hr4, hDD⟩ ⟨rfl, hx⟩
          obtain ⟨z, hz, rfl⟩ := at_map hx
          obtain ⟨c, hc, rfl⟩ := at_map hz
          have hcb := hl.2 c (List.mem_of_getElem? hc)
          have h4' := hl.1
          refine ⟨rfl, _, rfl, _, c, rfl, int_str hcb.1 hcb.2, Nat.le_trans (str_len hcb.1 (by omega)) (by decide), ?_⟩
          refine ⟨_, hDD, ?_, fun b o e => ?_, ?_, ?_, ?_⟩
          · rw [List.length_map, List.length_take]
            exact small (by omega)
          · rw [upd_ne (ne_of_none e nD0)]
            exact s4 b o e
          · rw [upd_ne pD]
            exact hp4
          · rw [upd_ne rD]
            exact hr4
          · rw [upd_same, take_one hc, hInts_app]
            rfl
        · rintro H1 ⟨s4, hp4, hr4, hDD⟩
          rw [List.length_map, List.length_map, List.take_length] at hDD
          refine ⟨_, rfl, _, rfl, p, _, 1, _, rfl, rfl, SqL.of hp4, atS1, it, _, rfl, DPut.k (k := Sum.inr n.s) (s4 _ _ h1) (small (by omega)), ?_⟩
          obtain ⟨q1, q2⟩ := put D H1 n.s ns s4 nD0 hDD
          exact kQ _ q1 q2
      | shw o =>
        refine ⟨_, rfl, p, _, 0, _, rfl, rfl, SqL.of hp, atS0, rfl, _, rfl, ?_⟩
        rw [eqS_ne (by decide +kernel)]
        refine iteF (iteF ?_)
        refine ⟨_, rfl, p, _, 0, _, rfl, rfl, SqL.of hp, atS0, rfl, _, rfl, ?_⟩
        rw [eqS_ne (by decide +kernel)]
        refine iteF (iteF ?_)
        refine ⟨_, rfl, p, _, 0, _, rfl, rfl, SqL.of hp, atS0, rfl, _, rfl, ?_⟩
        rw [eqS_eq rfl]
        refine iteT ⟨_, rfl, _, _, rfl, .inl ⟨_, SqL.of hp, rfl⟩, rfl, _, rfl, ?_⟩
        refine iteB (fun _ => ?_) (fun hb => absurd rfl (of_decide_eq_false hb))
        refine ⟨_, rfl, p, _, 1, _, rfl, rfl, SqL.of hp, atS1, rfl, _, rfl, ?_⟩
        rw [om_ne0]
        refine iteT ?_
        refine ⟨_, rfl, p, _, 1, _, rfl, rfl, SqL.of hp, atS1, _, rfl, it, _, rfl, DGet.k (k := Sum.inr o.s) (s1 _ _ h1), _, rfl, ?_⟩
        have ol := (om_len o).2
        have hU : ("unknown " : Str).length = 8 := by decide +kernel
        cases e : m o.s with
        | none =>
          rw [h3 _ e]
          refine iteT ⟨_, rfl, p, _, 1, _, rfl, rfl, SqL.of hp, atS1, _, _, rfl, rfl, by rw [hU]; exact smallE (by omega), ?_⟩
          have eA : ans m (.shw o) = ("unknown " : Str) ++ o.s := by
            show (match m o.s with | none => ("unknown " : Str) ++ o.s | some ns => shown ns) = _
            rw [e]
          have := kQ _ (hI1.mono (Nat.le_succ k)) (Off.of s1)
          rw [eA] at this
          exact this
        | some ns =>
          obtain ⟨a, e1, e2, e3⟩ := h4 _ _ e
          have hC := hG _ _ e
          have eA : ans m (.shw o) = shown ns := by
            show (match m o.s with | none => ("unknown " : Str) ++ o.s | some ns => shown ns) = _
            rw [e]
          rw [e1]
          have e2' := s1 _ _ e2
          have get : DGet (upd H p (.lst ((Ln.shw o).wd.map V.str))) it (.str o.s) (some (.ref a)) := by
            rw [← e1]
            exact DGet.k (k := Sum.inr o.s) (s1 _ _ h1)
          refine iteF ⟨_, rfl, _, rfl, p, _, 1, _, rfl, rfl, SqL.of hp, atS1, it, .ref a, rfl, get, _, .inl ⟨_, SqL.of e2', rfl⟩, ?_⟩
          cases ns with
          | nil =>
            refine iteT ?_
            have := kQ _ (hI1.mono (Nat.le_succ k)) (Off.of s1)
            rw [eA] at this
            unfold shown at this
            rw [if_pos rfl] at this
            exact this
          | cons n0 r0 =>
            refine iteF ?_
            refine ⟨⟨_, rfl⟩, _, rfl, _, rfl, p, _, 1, _, rfl, rfl, SqL.of hp, atS1, it, .ref a, rfl, get, a, rfl, ⟨_, SqL.of e2'⟩, fun D nD => ?_⟩
            refine lc_it (walk_list (xs := (n0 :: r0).map V.int)) (fun i H' => Same H H' ∧ H' D = some (hStrs (((n0 :: r0).take i).map str))) ⟨s1.trans (Same.upd nD), upd_same⟩ (fun i H' _ ⟨s2, _⟩ => SqL.of (s2 _ _ e2)) ?_ ?_
            · rintro i y H1 H2 hi ⟨s2, hD⟩ ⟨rfl, hx⟩
              obtain ⟨c, hc, rfl⟩ := at_map hx
              have hi' := lt_of_at hc
              have hcb := hC.2 c (List.mem_of_getElem? hc)
              have h8 := hC.1
              refine ⟨rfl, _, rfl, c, rfl, log_small hcb.1 (by omega), ?_⟩
              refine ⟨_, hD, ?_, fun b o e => ?_, ?_⟩
              · rw [List.length_map, List.length_map, List.length_take]
                exact small (by omega)
              · rw [upd_ne (ne_of_none e (s1.free nD))]
                exact s2 b o e
              · rw [upd_same, take_one hc, List.map_append, hStrs_app]
                rfl
            · rintro H1 ⟨s2, hD⟩
              rw [List.length_map, List.take_length] at hD
              refine ⟨_, D, (n0 :: r0).map str, rfl, rfl, .inl (SqL.of hD), ?_, ?_⟩
              · have hh := sum_len (ys := (n0 :: r0).map str) (k := 9) fun y hy => by
                  obtain ⟨c, hc, rfl⟩ := List.mem_map.mp hy
                  have hcb := hC.2 c hc
                  exact str_len hcb.1 (by omega)
                have h8 := hC.1
                have hb1 : (" " : Str).length = 1 := by decide +kernel
                rw [hb1]
                rw [List.length_map] at hh ⊢
                exact small16 (by omega)
              · have := kQ H1 ((hI.same s2).mono (Nat.le_succ k)) (Off.of s2)
                rw [eA] at this
                unfold shown at this
                rw [if_neg (by simp)] at this
                exact this
      | dig n o =>
        refine ⟨_, rfl, p, _, 0, _, rfl, rfl, SqL.of hp, atS0, rfl, _, rfl, ?_⟩
        rw [eqS_ne (by decide +kernel)]
        refine iteF (iteF ?_)
        refine ⟨_, rfl, p, _, 0, _, rfl, rfl, SqL.of hp, atS0, rfl, _, rfl, ?_⟩
        rw [eqS_ne (by decide +kernel)]
        refine iteF (iteF ?_)
        refine ⟨_, rfl, p, _, 0, _, rfl, rfl, SqL.of hp, atS0, rfl, _, rfl, ?_⟩
        rw [eqS_ne (by decide +kernel)]
        refine iteF (iteF ?_)
        refine ⟨_, rfl, p, _, 0, _, rfl, rfl, SqL.of hp, atS0, rfl, _, rfl, ?_⟩
        rw [eqS_eq rfl]
        refine iteT ?_
        refine ⟨_, rfl, p, _, 2, _, rfl, rfl, SqL.of hp, atS2, _, rfl, it, _, rfl, DGet.k (k := Sum.inr o.s) (s1 _ _ h1), _, rfl, ?_⟩
        have ol := (om_len o).2
        have hU : ("unknown " : Str).length = 8 := by decide +kernel
        cases e : m o.s with
        | none =>
          rw [h3 _ e]
          refine iteT ⟨_, rfl, p, _, 2, _, rfl, rfl, SqL.of hp, atS2, _, _, rfl, rfl, by rw [hU]; exact smallE (by omega), ?_⟩
          have eA : ans m (.dig n o) = ("unknown " : Str) ++ o.s := by
            show (match m o.s with | none => ("unknown " : Str) ++ o.s | some ns => str ((digs ns).length : Int)) = _
            rw [e]
          have eN : nxt m (.dig n o) = m := by
            show (match m o.s with | none => m | some ns => putI m n.s (digs ns)) = _
            rw [e]
          have := kQ _ (by rw [eN]; exact hI1.mono (Nat.le_succ k)) (Off.of s1)
          rw [eA] at this
          exact this
        | some ns =>
          obtain ⟨a, e1, e2, e3⟩ := h4 _ _ e
          have hC := hG _ _ e
          have h8 := hC.1
          have h8' := (digs_cont hC).1
          have eA : ans m (.dig n o) = str ((digs ns).length : Int) := by
            show (match m o.s with | none => ("unknown " : Str) ++ o.s | some ns => str ((digs ns).length : Int)) = _
            rw [e]
          have eN : nxt m (.dig n o) = putI m n.s (digs ns) := by
            show (match m o.s with | none => m | some ns => putI m n.s (digs ns)) = _
            rw [e]
          rw [e1]
          have e2' := s1 _ _ e2
          have get : DGet (upd H p (.lst ((Ln.dig n o).wd.map V.str))) it (.str o.s) (some (.ref a)) := by
            rw [← e1]
            exact DGet.k (k := Sum.inr o.s) (s1 _ _ h1)
          refine iteF ⟨_, rfl, _, rfl, p, _, 2, _, rfl, rfl, SqL.of hp, atS2, it, .ref a, rfl, get, a, ns, rfl, SqL.of e2', by omega, fun D H1 s2 nD hDD => ?_⟩
          have s3 := s1.trans s2
          have nD0 : H D = none := s1.free nD
          have hp3 := s2 _ _ hp
          refine ⟨_, rfl, _, rfl, p, _, 1, _, rfl, rfl, SqL.of hp3, atS1, it, _, rfl, DPut.k (k := Sum.inr n.s) (s3 _ _ h1) (small (by omega)), ?_⟩
          obtain ⟨q1, q2⟩ := put D H1 n.s _ s3 nD0 hDD
          have Dit : D ≠ it := fun e => by rw [e, h1] at nD0; cases nD0
          have hp4 : (upd H1 it (.dK (putK kvs (Sum.inr n.s) (.ref D)))) p = some (hStrs (Ln.dig n o).wd) := by
            rw [upd_ne pit]
            exact hp3
          have get2 : DGet (upd H1 it (.dK (putK kvs (Sum.inr n.s) (.ref D)))) it (.str n.s) (some (.ref D)) := by
            have e9 : valV (putK kvs (Sum.inr n.s) (.ref D)) (Sum.inr n.s : Key) = some (V.ref D) := by rw [valV_put, if_pos rfl]
            rw [← e9]
            exact DGet.k (k := Sum.inr n.s) upd_same
          refine ⟨_, rfl, _, rfl, p, _, 1, _, rfl, rfl, SqL.of hp4, atS1, it, .ref D, rfl, get2, _, _, rfl, .inl ⟨_, SqL.of (by rw [upd_ne Dit]; exact hDD), rfl⟩, _, rfl, ?_, ?_⟩
          · rw [List.length_map]
            exact log_small (by omega) (by omega)
          · rw [List.length_map]
            have := kQ _ (by rw [eN]; exact q1) q2
            rw [eA] at this
            exact this
      | odd0 =>
        refine ⟨_, rfl, p, _, 0, _, rfl, rfl, SqL.of hp, atS0, rfl, _, rfl, ?_⟩
        rw [eqS_ne (by decide +kernel)]
        refine iteF (iteF ?_)
        refine ⟨_, rfl, p, _, 0, _, rfl, rfl, SqL.of hp, atS0, rfl, _, rfl, ?_⟩
        rw [eqS_ne (by decide +kernel)]
        refine iteF (iteF ?_)
        refine ⟨_, rfl, p, _, 0, _, rfl, rfl, SqL.of hp, atS0, rfl, _, rfl, ?_⟩
        rw [eqS_ne (by decide +kernel)]
        refine iteF (iteF ?_)
        refine ⟨_, rfl, p, _, 0, _, rfl, rfl, SqL.of hp, atS0, rfl, _, rfl, ?_⟩
        rw [eqS_ne (by decide +kernel)]
        exact iteF (bad rfl rfl _ s1)
      | odd1 =>
        refine ⟨_, rfl, p, _, 0, _, rfl, rfl, SqL.of hp, atS0, rfl, _, rfl, ?_⟩
        rw [eqS_ne (by decide +kernel)]
        refine iteF (iteF ?_)
        refine ⟨_, rfl, p, _, 0, _, rfl, rfl, SqL.of hp, atS0, rfl, _, rfl, ?_⟩
        rw [eqS_ne (by decide +kernel)]
        refine iteF (iteF ?_)
        refine ⟨_, rfl, p, _, 0, _, rfl, rfl, SqL.of hp, atS0, rfl, _, rfl, ?_⟩
        rw [eqS_eq rfl]
        refine iteT ⟨_, rfl, _, _, rfl, .inl ⟨_, SqL.of hp, rfl⟩, rfl, _, rfl, ?_⟩
        refine iteB (fun hb => absurd (of_decide_eq_true hb) (fun q => by injection q with q; revert q; decide)) (fun _ => iteF ?_)
        refine ⟨_, rfl, p, _, 0, _, rfl, rfl, SqL.of hp, atS0, rfl, _, rfl, ?_⟩
        rw [eqS_ne (by decide +kernel)]
        exact iteF (bad rfl rfl _ s1)
      | odd2 =>
        refine ⟨_, rfl, p, _, 0, _, rfl, rfl, SqL.of hp, atS0, rfl, _, rfl, ?_⟩
        rw [eqS_ne (by decide +kernel)]
        refine iteF (iteF ?_)
        refine ⟨_, rfl, p, _, 0, _, rfl, rfl, SqL.of hp, atS0, rfl, _, rfl, ?_⟩
        rw [eqS_ne (by decide +kernel)]
        refine iteF (iteF ?_)
        refine ⟨_, rfl, p, _, 0, _, rfl, rfl, SqL.of hp, atS0, rfl, _, rfl, ?_⟩
        rw [eqS_ne (by decide +kernel)]
        refine iteF (iteF ?_)
        refine ⟨_, rfl, p, _, 0, _, rfl, rfl, SqL.of hp, atS0, rfl, _, rfl, ?_⟩
        rw [eqS_ne (by decide +kernel)]
        exact iteF (bad rfl rfl _ s1)
      | odd3 =>
        refine ⟨_, rfl, p, _, 0, _, rfl, rfl, SqL.of hp, atS0, rfl, _, rfl, ?_⟩
        rw [eqS_ne (by decide +kernel)]
        refine iteF (iteF ?_)
        refine ⟨_, rfl, p, _, 0, _, rfl, rfl, SqL.of hp, atS0, rfl, _, rfl, ?_⟩
        rw [eqS_eq rfl]
        refine iteT ⟨_, rfl, _, _, rfl, .inl ⟨_, SqL.of hp, rfl⟩, _, _, rfl, rfl, _, rfl, ?_⟩
        refine iteB (fun _ => ?_) (fun hb => absurd (of_decide_eq_false hb) (by decide))
        refine ⟨_, rfl, p, _, 1, _, rfl, rfl, SqL.of hp, atS1, by show 3 ≤ sizeLine; decide, fun q nq => ⟨q, _, rfl, .inl (SqL.of upd_same), rfl, rfl, _, rfl, ?_⟩⟩
        have e1 : (if false = true then !inV (.str ("A" : Str)) [.str "a", .str "b", .str "cc"] else inV (.str ("A" : Str)) [.str "a", .str "b", .str "cc"]) = false := A_in3
        rw [e1]
        have hp2 : (upd (upd H p (.lst (Ln.odd3.wd.map V.str))) q (.lst [.str "a", .str "b", .str "cc"])) p = some (hStrs Ln.odd3.wd) := by
          rw [upd_ne (ne_of_none hp nq)]
          exact hp
        have s2 : Same H (upd (upd H p (.lst (Ln.odd3.wd.map V.str))) q (.lst [.str "a", .str "b", .str "cc"])) := s1.trans (Same.upd nq)
        refine iteF (iteF ?_)
        refine ⟨_, rfl, p, _, 0, _, rfl, rfl, SqL.of hp2, atS0, rfl, _, rfl, ?_⟩
        rw [eqS_ne (by decide +kernel)]
        refine iteF (iteF ?_)
        refine ⟨_, rfl, p, _, 0, _, rfl, rfl, SqL.of hp2, atS0, rfl, _, rfl, ?_⟩
        rw [eqS_ne (by decide +kernel)]
        exact iteF (bad rfl rfl _ s2)
end
end J93
namespace J93
open PySem PySem.Spec PyProof.Rows L2 He

/-! ### lists compared -/
theorem dpI {K : PySem.W.Frag} {H : Hp} : ∀ ns : List Int, DpAll K H (ns.map V.int) (ns.map PyData.int)
  | [] => .nil
  | n :: r => .cons (.int n) (dpI r)
theorem dpS {K : PySem.W.Frag} {H : Hp} : ∀ xs : List Str, DpAll K H (xs.map V.str) (xs.map PyData.str)
  | [] => .nil
  | x :: r => .cons (.str x) (dpS r)
theorem layI : ∀ ns : List Int, PyData.canLayAll0 (ns.map PyData.int) = true
  | [] => by unfold PyData.canLayAll0; rfl
  | n :: r => by
    show PyData.canLayAll0 (PyData.int n :: r.map PyData.int) = true
    unfold PyData.canLayAll0 PyData.canLay0
    rw [layI r]
    rfl
theorem layS : ∀ xs : List Str, (∀ x ∈ xs, PyData.strOk x = true) → PyData.canLayAll0 (xs.map PyData.str) = true
  | [], _ => by unfold PyData.canLayAll0; rfl
  | x :: r, h => by
    show PyData.canLayAll0 (PyData.str x :: r.map PyData.str) = true
    unfold PyData.canLayAll0 PyData.canLay0
    rw [layS r fun y hy => h y (List.mem_cons_of_mem _ hy), h x List.mem_cons_self]
    rfl
theorem depI : ∀ ns : List Int, PyData.depthAll (ns.map PyData.int) = 0
  | [] => by unfold PyData.depthAll; rfl
  | n :: r => by
    show PyData.depthAll (PyData.int n :: r.map PyData.int) = 0
    unfold PyData.depthAll PyData.depth
    rw [depI r]
    rfl
theorem depS : ∀ xs : List Str, PyData.depthAll (xs.map PyData.str) = 0
  | [] => by unfold PyData.depthAll; rfl
  | x :: r => by
    show PyData.depthAll (PyData.str x :: r.map PyData.str) = 0
    unfold PyData.depthAll PyData.depth
    rw [depS r]
    rfl
theorem canI (ns : List Int) : PyData.canLay0 (.list (ns.map PyData.int)) = true := by
  unfold PyData.canLay0
  exact layI ns
theorem canS {xs : List Str} (h : ∀ x ∈ xs, PyData.strOk x = true) : PyData.canLay0 (.list (xs.map PyData.str)) = true := by
  unfold PyData.canLay0
  exact layS xs h
theorem shapedI (ns : List Int) : SeqAt.shaped (.list (ns.map PyData.int)) = true := by
  unfold SeqAt.shaped
  rw [canI]
  unfold PyData.depth
  rw [depI]
  decide
theorem shapedS {xs : List Str} (h : ∀ x ∈ xs, PyData.strOk x = true) : SeqAt.shaped (.list (xs.map PyData.str)) = true := by
  unfold SeqAt.shaped
  rw [canS h]
  unfold PyData.depth
  rw [depS]
  decide
theorem tx_strOk {l : Ln} (h : l.Ok) : PyData.strOk l.tx = true := by
  unfold PyData.strOk
  rw [← Array.all_toList, List.all_eq_true]
  intro c hc
  have := PR_lt c (l_ok h c hc)
  exact decide_eq_true (by omega)
theorem txs_strOk {ls : List Ln} (h : LOk ls) : ∀ x ∈ ls.map Ln.tx, PyData.strOk x = true := fun x hx => by
  obtain ⟨l, hl, rfl⟩ := List.mem_map.mp hx
  exact tx_strOk (h l hl)

/-! ### promises -/
def sp_recorded : Sp := fun vs H Q _ => ∃ (a : Addr) (ls : List Ln), vs = [.ref a] ∧ H a = some (hStrs (ls.map Ln.tx)) ∧ LOk ls ∧ ls.length ≤ 14 ∧ ∀ p H', Same H H' → H p = none → H' p = some (hStrs (ents noItm ls)) → Q (.ref p) H'
def sp_given (K : PySem.W.Frag) : Sp := fun vs H Q _ => ∃ (J : Jn) (a : Addr) (ls : List Ln), vs = [.ref J.j, .ref a] ∧ H a = some (hStrs (ls.map Ln.tx)) ∧ LOk ls ∧ ls.length ≤ 14 ∧ JAt K H J noItm 0 (Fo J) [] [] ∧ a ≠ J.g ∧ a ≠ J.t ∧
  ∀ H', JAt K H' J (itm noItm ls) ls.length (Fo J) (ls.map Ln.tx) (anss noItm ls) → Tch J H H' → Q (.bl true) H'
def sp_items (K : PySem.W.Frag) : Sp := fun vs H Q _ => ∃ (J : Jn) (a : Addr) (ls : List Ln) (k : Nat) (F : Addr → Prop) (xs ys : List Str), vs = [.ref J.j, .ref a] ∧ H a = some (hStrs (ls.map Ln.tx)) ∧ LOk ls ∧ ls.length ≤ 14 ∧ JAt K H J (itm noItm ls) k F xs ys ∧ ∀ H', Same H H' → Q (.bl true) H'
section
variable {P : Program} {w : World} {K : PySem.W.Frag} {mg : Str → Option Value} {base : Heap}
theorem sc_recorded : FnScope ["_law_lines", "_law_items_here", "_law_entries", "_law_line_here"] ["_law_lines"] (defScope s_recorded) := ⟨rfl, rfl, rfl, by decide +kernel, rfl, by decide +kernel, by decide +kernel⟩
theorem ok_recorded (T : Tx K w mg) : ∃ fd, FnOk P w K mg base CX0 3 (ga K "_law_recorded") fd ["_law_lines"] sp_recorded ∧ Binds K fd ["_law_lines"] [] := by
  obtain ⟨fd, F0⟩ := T.d_recorded
  obtain ⟨fA, GA, bA⟩ := ok_lans (P := P) (base := base) T
  obtain ⟨_, FA⟩ := T.d_answer
  refine ⟨fd, ok0 F0 sc_recorded (fun vs H Q E h => ?_) (fun cdv A outer s H vs Q E hr h => ?_), F0.bindsN fun _ _ _ _ _ _ us hl => match us, hl with | [_], _ => rfl⟩
  · obtain ⟨a, ls, rfl, _⟩ := h
    rfl
  · obtain ⟨a, ls, rfl, ha, hl, hn, kQ⟩ := h
    have nd := sc_recorded.nd
    refine ⟨_, pss_cons (ps_set (i := 1) nd rfl (.inl rfl) pe_dnewK)
      (pss_cons (ps_set (i := 2) nd rfl (.inl rfl) (pe_lst pa_nil))
      (pss_cons (ps_for PassesOwn.never rfl (pi_list (pv 0)) (pg_name (i := 3) nd rfl (.inl rfl))
        (pss_one (ps_expr (pe_bm PySem.F.plainAttrs_list PySem.F.slot_list_append PySem.F.type_list_append mt_append (pv 2) (pa_cons
          (pe_op op_add_str (pe_op op_add_str (pe_op op_add_str (pe_op op_add_str pe_str (pv 3)) pe_str) (pe_call GA hr (by rfl) T.g_answer FA.kp bA .nil pass0 (pa_cons (pv 1) (pa_cons (pv 3) pa_nil)))) pe_str) pa_nil)))))
      (pss_one (ps_ret (pv 2))))), ?_⟩
    refine fun it nit => ⟨Nat.zero_le _, fun en nen => ?_⟩
    have iten : it ≠ en := fun e => by rw [← e, upd_same] at nen; cases nen
    have s1 : Same H (upd H it (.dK [])) := Same.upd nit
    have s2 := s1.trans (Same.upd (o := .lst []) nen)
    have nen0 : H en = none := s1.free nen
    refine ⟨_, rfl, a, rfl, ⟨_, SqL.of (s2 _ _ ha)⟩, for_it (walk_list (xs := (ls.map Ln.tx).map V.str)) (fun i σ H' => ∃ v : Option V, σ = [some (.ref a), some (.ref it), some (.ref en), v] ∧ Same H H' ∧ ItAt H' it (itm noItm (ls.take i)) i (fun a => a ≠ en) ∧ H' en = some (hStrs (ents noItm (ls.take i))))
      ⟨none, rfl, s2, ItAt.empty (by rw [upd_ne iten]; exact upd_same), upd_same⟩ (fun i σ H' _ ⟨_, _, s3, _⟩ => SqL.of (s3 _ _ ha)) ?_ ?_⟩
    · rintro i x σ H1 H2 hi ⟨v, rfl, s3, hI, hen⟩ ⟨rfl, hx⟩
      obtain ⟨y, hy, rfl⟩ := at_map hx
      obtain ⟨l, hll, rfl⟩ := at_map hy
      have hlok := hl l (List.mem_of_getElem? hll)
      have hi' := lt_of_at hll
      have n1 : ("> " : Str).length = 2 := by decide +kernel
      have n2 : ("\n< " : Str).length = 3 := by decide +kernel
      have n3 : ("\n" : Str).length = 1 := by decide +kernel
      have la : ∀ x y : Str, (x ++ y).length = x.length + y.length := fun x y => by rw [TL.len_tl, TL.tl_append, List.length_append, ← TL.len_tl, ← TL.len_tl]
      have hll2 := tx_len hlok
      have hgd := itm_good _ _ good_no (hl.take i)
      have hal := (ans_ok (m := itm noItm (ls.take i)) (l := l) hgd).2
      refine ⟨_, rfl, .inl ⟨rfl, _, SqL.of hen⟩, _, rfl, _, _, rfl, rfl, by rw [n1]; exact smallE (by omega), _, _, rfl, rfl, by simp only [la, n1, n2]; exact smallE (by omega), _, rfl, _, rfl, ?_⟩
      refine ⟨it, _, i, fun a => a ≠ en, l, rfl, hlok, hI, by omega, fun b e q => (by rw [q, hen] at e; cases e), hgd, fun H3 hI3 o3 => ?_⟩
      have hen3 := o3 _ _ hen iten.symm
      refine ⟨_, _, rfl, rfl, by simp only [la, n1, n2]; exact smallE (by omega), _, _, rfl, rfl, by simp only [la, n1, n2, n3]; exact smallE (by omega), en, _, _, rfl, rfl, hen3, ?_, ?_⟩
      · rw [List.length_map, ents_len, List.length_take]
        exact small (by omega)
      · refine ⟨_, rfl, fun b o e => ?_, ?_, ?_⟩
        · rw [upd_ne (ne_of_none e nen0)]
          exact o3 _ _ (s3 b o e) (ne_of_none e nit)
        · rw [itm_take noItm hll]
          exact hI3.keep (fun o e => by rw [upd_ne iten]; exact e) fun a ns fa e => by rw [upd_ne fa]; exact e
        · rw [upd_same, take_one hll, ents_one, hStrs_app]
          rfl
    · rintro σ H1 ⟨v, rfl, s3, hI, hen⟩
      rw [List.length_map, List.length_map, List.take_length] at hen
      exact ⟨_, rfl, kQ en H1 s3 nen0 hen⟩
theorem sc_given : FnScope ["_law_journal", "_law_lines", "_law_items_here", "_law_line_here", "_law_due"] ["_law_journal", "_law_lines"] (defScope s_given) := ⟨rfl, rfl, rfl, by decide +kernel, rfl, by decide +kernel, by decide +kernel⟩
theorem ok_given (T : Tx K w mg) : ∃ fd, FnOk P w K mg base CX0 9 (ga K "_law_given") fd ["_law_journal", "_law_lines"] (sp_given K) ∧ Binds K fd ["_law_journal", "_law_lines"] [] := by
  obtain ⟨fd, F0⟩ := T.d_given
  obtain ⟨fA, GA, bA⟩ := ok_lans (P := P) (base := base) T
  obtain ⟨_, FA⟩ := T.d_answer
  obtain ⟨fJ, GJ, bJ⟩ := ok_janswer (P := P) (base := base) T
  refine ⟨fd, ok0 F0 sc_given (fun vs H Q E h => ?_) (fun cdv A outer s H vs Q E hr h => ?_), F0.bindsN fun _ _ _ _ _ _ us hl => match us, hl with | [_, _], _ => rfl⟩
  · obtain ⟨J, a, ls, rfl, _⟩ := h
    rfl
  · obtain ⟨J, a, ls, rfl, ha, hl, hn, hJ, hag, hat, kQ⟩ := h
    have nd := sc_given.nd
    have hr2 : Room 2 _ := hr.mono (by decide)
    refine ⟨_, pss_cons (ps_set (i := 2) nd rfl (.inl rfl) pe_dnewK)
      (pss_cons (ps_for PassesOwn.never rfl (pi_list (pv 1)) (pg_name (i := 3) nd rfl (.inl rfl))
        (pss_cons (ps_set (i := 4) nd rfl (.inl rfl) (pe_call GA hr2 (by rfl) T.g_answer FA.kp bA .nil pass0 (pa_cons (pv 2) (pa_cons (pv 3) pa_nil))))
        (pss_one (ps_if (pt_cmpR op_ne (pe_meth (pv 0) T.cJournal T.mJournal_answer GJ hr bJ .nil pass0 (pa_cons (pv 3) pa_nil)) (pv 4) (nomark _)) (pss_one (ps_ret pe_bl)) pss_nil))))
      (pss_one (ps_ret pe_bl))), ?_⟩
    refine fun it nit => ?_
    have s1 : Same H (upd H it (.dK [])) := Same.upd nit
    have hJi : J.it ≠ it := fun e => by
      obtain ⟨kvs, q⟩ := hJ.itm
      rw [e, nit] at q
      cases q
    refine ⟨_, rfl, a, rfl, ⟨_, SqL.of (s1 _ _ ha)⟩, for_it (walk_list (xs := (ls.map Ln.tx).map V.str)) (fun i σ H' => ∃ v3 v4 : Option V, σ = [some (.ref J.j), some (.ref a), some (.ref it), v3, v4] ∧ Tch J H H' ∧ H' a = some (hStrs (ls.map Ln.tx)) ∧ ItAt H' it (itm noItm (ls.take i)) i (Fo J) ∧
        JAt K H' J (itm noItm (ls.take i)) i (Fo J) ((ls.take i).map Ln.tx) (anss noItm (ls.take i)))
      ⟨none, none, rfl, Tch.of s1, s1 _ _ ha, ItAt.empty upd_same, hJ.same s1⟩ (fun i σ H' _ ⟨_, _, _, _, ha', _⟩ => SqL.of ha') ?_ ?_⟩
    · rintro i x σ H1 H2 hi ⟨v3, v4, rfl, t1, ha1, hI, hJ1⟩ ⟨rfl, hx⟩
      obtain ⟨y, hy, rfl⟩ := at_map hx
      obtain ⟨l, hll, rfl⟩ := at_map hy
      have hlok := hl l (List.mem_of_getElem? hll)
      have hi' := lt_of_at hll
      have hgd := itm_good _ _ good_no (hl.take i)
      obtain ⟨kvs, hi1⟩ : ∃ kvs, H2 it = some (.dK kvs) := by
        obtain ⟨kvs, q, _⟩ := hI
        exact ⟨kvs, q⟩
      refine ⟨_, rfl, _, rfl, it, _, i, Fo J, l, rfl, hlok, hI, by omega, hJ1.free, hgd, fun H3 hI3 o3 => ?_⟩
      have hJ3 := hJ1.off hi1 hJi o3
      have ha3 := o3 _ _ ha1 (ne_of ha1 hi1 (fun z => nomatch z))
      obtain ⟨⟨jx, ho⟩, _⟩ := id hJ3
      refine ⟨_, rfl, J.j, jx, _, rfl, ho, fsJ_no (by decide +kernel) (by decide +kernel) (by decide +kernel), _, rfl, J, _, i, _, _, l.tx, rfl, hJ3, .inl ⟨l, hlok, rfl, by omega, hgd, ?_, ?_, fun H4 hJ4 t4 => ?_⟩⟩
      · rw [List.length_map, List.length_take]
        omega
      · rw [anss_len, List.length_take]
        omega
      · refine ⟨_, rfl, rfl, _, rfl, ?_⟩
        rw [eqS_eq rfl]
        obtain ⟨kvs3, hi3⟩ : ∃ kvs, H3 it = some (.dK kvs) := by
          obtain ⟨kvs, q, _⟩ := hI3
          exact ⟨kvs, q⟩
        obtain ⟨kvJ, hij⟩ := hJ3.itm
        have gi : it ≠ J.g := ne_of hi3 hJ3.gv (fun z => nomatch z)
        have ti : it ≠ J.t := ne_of hi3 hJ3.tv (fun z => nomatch z)
        refine iteF ⟨_, _, rfl, fun b o e n1 n2 n3 => t4 b o (o3 b o (t1 b o e n1 n2 n3) (ne_of_none e nit)) n1 n2 n3, t4 _ _ ha3 (ne_of ha3 hij (fun z => nomatch z)) hag hat, ?_, ?_⟩
        · rw [itm_take noItm hll]
          exact hI3.keep (fun o e => t4 _ _ e hJi.symm gi ti) fun b ns fb e => t4 _ _ e (ne_of e hij (fun z => nomatch z)) fb.1 fb.2
        · rw [itm_take noItm hll, anss_take noItm hll, take_one hll, List.map_append]
          exact hJ4
    · rintro σ H1 ⟨v3, v4, rfl, t1, ha1, hI, hJ1⟩
      rw [List.length_map, List.length_map, List.take_length] at hJ1
      exact kQ H1 hJ1 t1
theorem sc_items : FnScope ["_law_journal", "_law_lines", "_law_items_here", "_law_line_here", "_law_name", "_law_told"] ["_law_journal", "_law_lines"] (defScope s_items) := ⟨rfl, rfl, rfl, by decide +kernel, rfl, by decide +kernel, by decide +kernel⟩
theorem ok_items (T : Tx K w mg) : ∃ fd, FnOk P w K mg base CX0 3 (ga K "_law_items") fd ["_law_journal", "_law_lines"] (sp_items K) ∧ Binds K fd ["_law_journal", "_law_lines"] [] := by
  obtain ⟨fd, F0⟩ := T.d_items
  obtain ⟨fA, GA, bA⟩ := ok_lans (P := P) (base := base) T
  obtain ⟨_, FA⟩ := T.d_answer
  obtain ⟨fC, GC, bC⟩ := ok_jcontent (P := P) (base := base) T
  refine ⟨fd, ok0 F0 sc_items (fun vs H Q E h => ?_) (fun cdv A outer s H vs Q E hr h => ?_), F0.bindsN fun _ _ _ _ _ _ us hl => match us, hl with | [_, _], _ => rfl⟩
  · obtain ⟨J, a, ls, k, F, xs, ys, rfl, _⟩ := h
    rfl
  · obtain ⟨J, a, ls, k, F, xs, ys, rfl, ha, hl, hn, hJ, kQ⟩ := h
    have nd := sc_items.nd
    have hu := hu_of hr
    refine ⟨_, pss_cons (ps_set (i := 2) nd rfl (.inl rfl) pe_dnewK)
      (pss_cons (ps_for PassesOwn.never rfl (pi_list (pv 1)) (pg_name (i := 3) nd rfl (.inl rfl))
        (pss_one (ps_expr (pe_call GA hr (by rfl) T.g_answer FA.kp bA .nil pass0 (pa_cons (pv 2) (pa_cons (pv 3) pa_nil))))))
      (pss_cons (ps_for PassesOwn.never rfl (pi_list (pe_lst (pa_cons pe_str (pa_cons pe_str (pa_cons pe_str (pa_cons pe_str pa_nil)))))) (pg_name (i := 4) nd rfl (.inl rfl))
        (pss_cons (ps_set (i := 5) nd rfl (.inl rfl) (pe_meth (pv 0) T.cJournal T.mJournal_content GC hr bC .nil pass0 (pa_cons (pv 4) pa_nil)))
        (pss_one (ps_if (pt_cmp (pc_dnotin hu (pv 4) (pv 2)))
          (pss_one (ps_if (pt_cmp (pc_notN (pv 5))) (pss_one (ps_ret pe_bl)) pss_nil))
          (pss_one (ps_if (PW.pt (pw_or (pt_not (pt_val (pe_callB RZ.call_isTy (by rfl) T.f_isinstance (by decide +kernel) (pa_cons (pv 5) (pa_cons (pe_bltn (v := .ty "list") (by rfl) T.f_list (by decide +kernel) rfl) pa_nil)))))
              (pw_or1 (pt_cmpR (op_neD hr.units) (pv 5) (pe_dget hu (pv 2) (pv 4) (fun _ _ => rfl)) (nomark _))))) (pss_one (ps_ret pe_bl)) pss_nil))))))
      (pss_one (ps_ret pe_bl)))), ?_⟩
    refine fun it nit => ?_
    have s1 : Same H (upd H it (.dK [])) := Same.upd nit
    refine ⟨_, rfl, a, rfl, ⟨_, SqL.of (s1 _ _ ha)⟩, for_it (walk_list (xs := (ls.map Ln.tx).map V.str)) (fun i σ H' => ∃ v3 : Option V, σ = [some (.ref J.j), some (.ref a), some (.ref it), v3, none, none] ∧ Same H H' ∧ ItAt H' it (itm noItm (ls.take i)) i (fun _ => True))
      ⟨none, rfl, s1, ItAt.empty upd_same⟩ (fun i σ H' _ ⟨_, _, s2, _⟩ => SqL.of (s2 _ _ ha)) ?_ ?_⟩
    · rintro i x σ H1 H2 hi ⟨v3, rfl, s2, hI⟩ ⟨rfl, hx⟩
      obtain ⟨y, hy, rfl⟩ := at_map hx
      obtain ⟨l, hll, rfl⟩ := at_map hy
      have hlok := hl l (List.mem_of_getElem? hll)
      have hi' := lt_of_at hll
      have hgd := itm_good _ _ good_no (hl.take i)
      refine ⟨_, rfl, _, rfl, it, _, i, fun _ => True, l, rfl, hlok, hI, by omega, fun _ _ => trivial, hgd, fun H3 hI3 o3 => ?_⟩
      refine ⟨_, rfl, fun b o e => o3 _ _ (s2 b o e) (ne_of_none e nit), ?_⟩
      rw [itm_take noItm hll]
      exact hI3
    · rintro σ H1 ⟨v3, rfl, s2, hI⟩
      rw [List.length_map, List.length_map, List.take_length] at hI
      refine ⟨by show 4 ≤ sizeLine; decide, fun p np => ?_⟩
      have s3 : Same H1 (upd H1 p (.lst [.str "a", .str "b", .str "cc", .str "none"])) := Same.upd np
      refine ⟨p, rfl, ⟨_, SqL.of upd_same⟩, for_it (walk_list (xs := ([("a" : Str), "b", "cc", "none"]).map V.str)) (fun i σ H' => ∃ v4 v5 : Option V, σ = [some (.ref J.j), some (.ref a), some (.ref it), v3, v4, v5] ∧ Same H1 H' ∧ H' p = some (.lst [.str "a", .str "b", .str "cc", .str "none"]))
        ⟨none, none, rfl, s3, upd_same⟩ (fun i σ H' _ ⟨_, _, _, _, hp⟩ => SqL.of hp) ?_ ?_⟩
      · rintro i x σ H2 H3 hi ⟨v4, v5, rfl, s4, hp⟩ ⟨rfl, hx⟩
        obtain ⟨y, hy, rfl⟩ := at_map hx
        have hJ2 := hJ.same (s2.trans s4)
        have hI2 := hI.same s4
        obtain ⟨kvs, h1, h2, h3, h4⟩ := id hI2
        obtain ⟨⟨jx, ho⟩, _⟩ := id hJ2
        refine ⟨_, rfl, J.j, jx, _, rfl, ho, fsJ_no (by decide +kernel) (by decide +kernel) (by decide +kernel), _, rfl, J, _, k, F, xs, ys, y, rfl, hJ2, fun hN => ?_, fun ns hS q H4 s5 nq hq => ?_⟩
        · refine ⟨_, rfl, _, rfl, it, _, rfl, DGet.k (k := Sum.inr y) h1, _, rfl, ?_⟩
          rw [h3 _ hN]
          refine iteT ⟨_, rfl, _, rfl, iteF ?_⟩
          exact ⟨_, _, rfl, s4, hp⟩
        · obtain ⟨b, e1, e2, _⟩ := h4 _ _ hS
          have get : DGet H4 it (.str y) (some (.ref b)) := by
            rw [← e1]
            exact DGet.k (k := Sum.inr y) (s5 _ _ h1)
          refine ⟨_, rfl, _, rfl, it, _, rfl, DGet.k (k := Sum.inr y) (s5 _ _ h1), _, rfl, ?_⟩
          rw [e1]
          refine iteF ⟨_, rfl, _, _, rfl, .lst hq, _, rfl, iteF ?_⟩
          refine ⟨_, rfl, _, rfl, _, rfl, it, .ref b, rfl, get, .list (ns.map PyData.int), .list (ns.map PyData.int), .lst (SqL.of hq) (dpI ns), .lst (SqL.of (s5 _ _ e2)) (dpI ns), shapedI ns, shapedI ns, _, rfl, ?_⟩
          rw [SeqAt.eqv_refl _ (canI ns)]
          exact iteF ⟨_, _, rfl, s4.trans s5, s5 _ _ hp⟩
      · rintro σ H2 ⟨v4, v5, rfl, s4, hp⟩
        exact kQ H2 (s2.trans s4)
end
end J93
namespace J93
open PySem PySem.Spec PyProof.Rows L2 He

theorem zip_ents : ∀ (ls : List Ln) (m : Itm), List.zipWith entS (ls.map Ln.tx) (anss m ls) = ents m ls
  | [], _ => rfl
  | l :: r, m => congrArg (fun z => entS l.tx (ans m l) :: z) (zip_ents r (nxt m l))
theorem recOf_eq (ls : List Ln) : recOf (ls.map Ln.tx) (anss noItm ls) = recS noItm ls := by
  unfold recOf recS
  rw [zip_ents, w_nil2]
theorem ans_le {ls : List Ln} (hl : LOk ls) : ∀ (m : Itm), m.Good → ∀ x ∈ anss m ls, x.length ≤ 500 := by
  induction ls with
  | nil => intro m _ x hx; cases hx
  | cons l r ih =>
    intro m hm x hx
    have h0 := hl l List.mem_cons_self
    rcases List.mem_cons.mp hx with rfl | hx
    · exact Nat.le_trans (ans_ok hm).2 (by decide)
    · exact ih (fun z hz => hl z (List.mem_cons_of_mem _ hz)) (nxt m l) (good_nxt hm h0) x hx
theorem txs_le {ls : List Ln} (hl : LOk ls) : ∀ x ∈ ls.map Ln.tx, x.length ≤ 500 := fun x hx => by
  obtain ⟨l, h, rfl⟩ := List.mem_map.mp hx
  exact Nat.le_trans (tx_len (hl l h)) (by decide)
theorem eR (ls : List Ln) : Txt.join ("" : Str) (ents noItm ls) = recS noItm ls := by
  unfold recS
  rw [w_nil2]
theorem bad1 : ¬ lineS ("show a\n" : Str) := fun h => by
  have h2 := h.2
  revert h2
  decide +kernel
theorem bad2 : ¬ lineS ("text a \t" : Str) := fun h => by
  have h2 := h.1 9 (by decide +kernel)
  revert h2
  decide +kernel
theorem bad3 : ¬ lineS ("\n" : Str) := fun h => by
  have h2 := h.2
  revert h2
  decide +kernel
def sp_law (K : PySem.W.Frag) : Sp := fun vs H Q _ => ∃ (a : Addr) (ns : List Int), vs = [.ref a] ∧ SqL K H a (ns.map V.int) ∧ ns.length ≤ 63 ∧ ∀ H', Q (.bl true) H'
section
variable {P : Program} {w : World} {K : PySem.W.Frag} {mg : Str → Option Value} {base : Heap}
abbrev NL : List Str := ["_law_script", "_law_draws_here", "_law_choice", "_law_lines", "_law_k", "_law_journal", "_law_line_here", "_law_entries", "_law_record", "_law_told", "_law_cut", "_law_whole", "_law_second", "_law_items_here"]
theorem sc_law : FnScope ["_law_script", "_law_draws_here", "_law_choice", "_law_lines", "_law_k", "_law_journal", "_law_line_here", "_law_entries", "_law_record", "_law_told", "_law_cut", "_law_whole", "_law_second", "_law_items_here"] ["_law_script"] (defScope s_law) := ⟨rfl, rfl, rfl, by decide +kernel, rfl, by decide +kernel, by decide +kernel⟩
theorem ok_law (T : Tx K w mg) {fd : FuncData} (F0 : FnP K "law" "law" s_law (ga K "law") fd) : FnOk P w K mg base CX0 10 (ga K "law") fd ["_law_script"] (sp_law K) := by
  obtain ⟨fD, GD, bD⟩ := ok_draws (P := P) (base := base) T
  obtain ⟨_, FD⟩ := T.d_draws
  obtain ⟨fN, GN, bN⟩ := ok_next (P := P) (base := base) T
  obtain ⟨_, FN⟩ := T.d_next
  obtain ⟨fL, GL, bL⟩ := ok_line (P := P) (base := base) T
  obtain ⟨_, FL⟩ := T.d_line
  obtain ⟨fJ, GJ, bJ⟩ := ok_journal0 (P := P) (base := base) T
  obtain ⟨fG, GG, bG⟩ := ok_given (P := P) (base := base) T
  obtain ⟨_, FG⟩ := T.d_given
  obtain ⟨fA, GA, bA⟩ := ok_janswer (P := P) (base := base) T
  obtain ⟨fR, GR, bR⟩ := ok_recorded (P := P) (base := base) T
  obtain ⟨_, FR⟩ := T.d_recorded
  obtain ⟨fI, GI, bI⟩ := ok_items (P := P) (base := base) T
  obtain ⟨_, FI⟩ := T.d_items
  obtain ⟨fS, GS, bS⟩ := ok_resume (P := P) (base := base) T
  obtain ⟨_, FS⟩ := T.d_resume
  obtain ⟨fM, GM, bM⟩ := ok_lans (P := P) (base := base) T
  obtain ⟨_, FM⟩ := T.d_answer
  obtain ⟨fC, GC, bC⟩ := ok_jrecord (P := P) (base := base) T
  obtain ⟨fE, GE, bE⟩ := ok_jlines (P := P) (base := base) T
  refine ok0 F0 sc_law (fun vs H Q E h => ?_) (fun cdv A outer s H vs Q E hr h => ?_)
  · obtain ⟨a, ns, rfl, _⟩ := h
    rfl
  · obtain ⟨a, ns, rfl, hS, hns, kQ⟩ := h
    have nd := sc_law.nd
    have hr1 : Room 1 _ := hr.mono (by decide)
    have hr2 : Room 2 _ := hr.mono (by decide)
    have hr3 : Room 3 _ := hr.mono (by decide)
    have hr8 : Room 8 _ := hr.mono (by decide)
    refine ⟨_, pss_cons (ps_set (i := 1) nd rfl (.inl rfl) (pe_call GD hr2 (by rfl) T.g_draws FD.kp bD .nil pass0 (pa_cons (pv 0) pa_nil)))
      (pss_cons (ps_expr (pe_bm0 PySem.F.plainAttrs_list PySem.F.slot_list_reverse PySem.F.type_list_reverse mt_reverse (pv 1)))
      (pss_cons (ps_set (i := 2) nd rfl (.inl rfl) (pe_op op_add (pe_op op_mul pe_int (pe_call GN hr1 (by rfl) T.g_next FN.kp bN .nil pass0 (pa_cons (pv 1) pa_nil))) (pe_call GN hr1 (by rfl) T.g_next FN.kp bN .nil pass0 (pa_cons (pv 1) pa_nil))))
      (pss_cons (ps_set (i := 3) nd rfl (.inl rfl) (pe_lst pa_nil))
      (C8.pss_cut (ps_for PassesOwn.never rfl (pi_range1 rfl T.f_range (pa_cons pe_int pa_nil)) (pg_name (i := 4) nd rfl (.inl rfl))
        (pss_cons (ps_if (pt_not (pt_truth (pv 1) (by intro _; rfl))) (pss_one ps_break) pss_nil)
        (pss_one (ps_expr (pe_bm PySem.F.plainAttrs_list PySem.F.slot_list_append PySem.F.type_list_append mt_append (pv 3) (pa_cons (pe_call GL hr2 (by rfl) T.g_line FL.kp bL .nil pass0 (pa_cons (pv 1) pa_nil)) pa_nil))))))
      (pss_cons (ps_set (i := 5) nd rfl (.inl rfl) (pe_make0 T.kJournal GJ hr8 (by rfl) T.gJournal bJ .nil pass0))
      (pss_cons (ps_if (pt_not (pt_val (pe_call GG hr (by rfl) T.g_given FG.kp bG .nil pass0 (pa_cons (pv 5) (pa_cons (pv 3) pa_nil))))) (pss_one (ps_ret pe_bl)) pss_nil)
      (C8.pss_cut (ps_for PassesOwn.never rfl (pi_list (pe_lst (pa_cons pe_str (pa_cons pe_str (pa_cons pe_str pa_nil))))) (pg_name (i := 6) nd rfl (.inl rfl))
        (pss_one (ps_if (pt_cmpR op_ne (pe_meth (pv 5) T.cJournal T.mJournal_answer GA hr8 bA .nil pass0 (pa_cons (pv 6) pa_nil)) pe_str (nomark _)) (pss_one (ps_ret pe_bl)) pss_nil)))
      (pss_cons (ps_set (i := 7) nd rfl (.inl rfl) (pe_call GR hr3 (by rfl) T.g_recorded FR.kp bR .nil pass0 (pa_cons (pv 3) pa_nil)))
      (pss_cons (ps_set (i := 8) nd rfl (.inl rfl) (pe_m1 PySem.F.slot_str_join PySem.F.type_str_join mt_join pe_str (pv 7)))
      (pss_cons (ps_set (i := 9) nd rfl (.inl rfl) (pe_meth0 (pv 5) T.cJournal T.mJournal_lines GE hr1 bE .nil pass0))
      (pss_cons (ps_if (PW.pt (pw_or (pt_cmpR op_ne (pe_meth0 (pv 5) T.cJournal T.mJournal_record GC hr2 bC .nil pass0) (pv 8) (nomark _))
          (pw_or (pt_not (pt_val (pe_callB RZ.call_isTy (by rfl) T.f_isinstance (by decide +kernel) (pa_cons (pv 9) (pa_cons (pe_bltn (v := .ty "list") (by rfl) T.f_list (by decide +kernel) rfl) pa_nil)))))
            (pw_or1 (pt_cmpR (op_neD hr.units) (pv 9) (pv 3) (nomark _)))))) (pss_one (ps_ret pe_bl)) pss_nil)
      (pss_cons (ps_set (i := 10) nd rfl (.inl rfl) (pe_op op_mod (pe_callTy call_int1 (by rfl) T.f_int (by decide +kernel) (pa_cons (pv 2) pa_nil)) (pe_op op_add (pe_callB call_len_str (by rfl) T.f_len PySem.boot_len (pa_cons (pv 8) pa_nil)) pe_int)))
      (C8.pss_cut (ps_if (pt_cmpR op_eq (pe_op op_mod (pe_callTy call_int1 (by rfl) T.f_int (by decide +kernel) (pa_cons (pv 2) pa_nil)) pe_int) pe_int (nomark _)) (pss_one (ps_set (i := 10) nd rfl (.inl rfl) (pe_callB call_len_str (by rfl) T.f_len PySem.boot_len (pa_cons (pv 8) pa_nil)))) pss_nil)
      (pss_cons (ps_set (i := 11) nd rfl (.inl rfl) (pe_op op_fdiv (pe_op op_sub (pe_callB call_len (by rfl) T.f_len PySem.boot_len (pa_cons (pe_m1 PySem.F.slot_str_split PySem.F.type_str_split mt_split (pe_slice sl_str (pv 8) po_none (po_some (pv 10))) pe_str) pa_nil)) pe_int) pe_int))
      (pss_cons (ps_set (i := 12) nd rfl (.inl rfl) (pe_call GS hr (by rfl) T.g_resume FS.kp bS .nil pass0 (pa_cons (pe_slice sl_str (pv 8) po_none (po_some (pv 10))) pa_nil)))
      (pss_cons (ps_if (PW.pt (pw_or (pt_cmpR op_ne (pe_meth0 (pv 12) T.cJournal T.mJournal_record GC hr2 bC .nil pass0) (pe_m1 PySem.F.slot_str_join PySem.F.type_str_join mt_join pe_str (pe_slice sl_list (pv 7) po_none (po_some (pv 11)))) (nomark _))
            (pw_or1 (pt_cmpR (op_neD hr.units) (pe_meth0 (pv 12) T.cJournal T.mJournal_lines GE hr1 bE .nil pass0) (pe_slice sl_list (pv 3) po_none (po_some (pv 11))) (nomark _))))) (pss_one (ps_ret pe_bl)) pss_nil)
      (pss_cons (ps_if (pt_not (pt_val (pe_call GI hr3 (by rfl) T.g_items FI.kp bI .nil pass0 (pa_cons (pv 12) (pa_cons (pe_slice sl_list (pv 3) po_none (po_some (pv 11))) pa_nil))))) (pss_one (ps_ret pe_bl)) pss_nil)
      (pss_cons (ps_set (i := 13) nd rfl (.inl rfl) pe_dnewK)
      (C8.pss_cut (ps_for PassesOwn.never rfl (pi_list (pe_slice sl_list (pv 3) po_none (po_some (pv 11)))) (pg_name (i := 6) nd rfl (.inl rfl))
        (pss_one (ps_expr (pe_call GM hr2 (by rfl) T.g_answer FM.kp bM .nil pass0 (pa_cons (pv 13) (pa_cons (pv 6) pa_nil))))))
      (C8.pss_cut (ps_for PassesOwn.never rfl (pi_list (pe_slice sl_list (pv 3) (po_some (pv 11)) po_none)) (pg_name (i := 6) nd rfl (.inl rfl))
        (pss_one (ps_if (pt_cmpR op_ne (pe_meth (pv 12) T.cJournal T.mJournal_answer GA hr8 bA .nil pass0 (pa_cons (pv 6) pa_nil)) (pe_call GM hr2 (by rfl) T.g_answer FM.kp bM .nil pass0 (pa_cons (pv 13) (pa_cons (pv 6) pa_nil))) (nomark _)) (pss_one (ps_ret pe_bl)) pss_nil)))
      (pss_cons (ps_if (PW.pt (pw_or (pt_cmpR op_ne (pe_meth0 (pv 12) T.cJournal T.mJournal_record GC hr2 bC .nil pass0) (pv 8) (nomark _)) (pw_or1 (pt_cmpR op_ne (pe_meth0 (pv 5) T.cJournal T.mJournal_record GC hr2 bC .nil pass0) (pv 8) (nomark _))))) (pss_one (ps_ret pe_bl)) pss_nil)
      (pss_cons (ps_expr (pe_meth (pv 12) T.cJournal T.mJournal_answer GA hr8 bA .nil pass0 (pa_cons pe_str pa_nil)))
      (pss_one (ps_ret (pe_call GI hr3 (by rfl) T.g_items FI.kp bI .nil pass0 (pa_cons (pv 5) (pa_cons (pv 3) pa_nil))))))))))))))))))))))))))), ?_⟩
    -- the draws
    refine ⟨_, rfl, a, ns, rfl, hS, hns, fun p ds H1 s1 np hp hD hL => ?_⟩
    refine ⟨_, rfl, .inl ⟨rfl, _, SqL.of hp⟩, p, _, rfl, rfl, hp, ?_⟩
    have hp2 : (upd H1 p (.lst (ds.map V.int).reverse)) p = some (hInts ds.reverse) := by
      rw [upd_same]
      unfold hInts
      rw [List.map_reverse]
    have hD2 : Drw ds.reverse := fun d hd => hD d (List.mem_reverse.mp hd)
    refine ⟨_, rfl, p, ds.reverse, rfl, hp2, hD2, fun d1 ds1 z1 z1' D1 L1 => ⟨_, _, rfl, rfl, .inl ⟨by decide, by decide⟩, _, rfl, p, ds1, rfl, upd_same, D1, fun d2 ds2 z2 z2' D2 L2' => ⟨_, _, rfl, rfl, ?_⟩⟩⟩
    refine ⟨Nat.zero_le _, fun ln nln => ?_⟩
    have pln : p ≠ ln := fun e => by rw [← e, upd_same] at nln; cases nln
    -- the lines
    refine ⟨fun σ H' => ∃ (ch : Int) (ls : List Ln) (v4 : Option V), σ = [some (.ref a), some (.ref p), some (.int ch), some (.ref ln), v4, none, none, none, none, none, none, none, none, none] ∧ 0 ≤ ch ∧ LOk ls ∧ ls.length ≤ 14 ∧ H' ln = some (hStrs (ls.map Ln.tx)), ?_, ?_⟩
    · refine ⟨_, rfl, by decide, by decide, for_it walk_range (fun i σ H' => ∃ (ls : List Ln) (es : List Int) (v4 : Option V), σ = [some (.ref a), some (.ref p), some (.int (1000 * d1 + d2)), some (.ref ln), v4, none, none, none, none, none, none, none, none, none] ∧ LOk ls ∧ ls.length ≤ i ∧
          H' p = some (hInts es) ∧ Drw es ∧ H' ln = some (hStrs (ls.map Ln.tx)))
        ⟨[], ds2, none, rfl, (fun l hl => by cases hl), Nat.le_refl _, by rw [upd_ne pln]; exact upd_same, D2, upd_same⟩ (fun _ _ _ _ _ => trivial) ?_ ?_⟩
      · rintro i x σ H2 H3 hi ⟨ls, es, v4, rfl, hl, hn, hpe, hDe, hln⟩ ⟨rfl, rfl⟩
        refine ⟨_, rfl, _, .inl ⟨_, SqL.of hpe, rfl⟩, ?_⟩
        have hi14 : i < 14 := hi
        cases es with
        | nil => exact iteT ⟨_, ls, _, rfl, by omega, hl, by omega, hln⟩
        | cons e0 er =>
          refine iteF ⟨_, rfl, .inl ⟨rfl, _, SqL.of hln⟩, _, rfl, p, _, rfl, hpe, hDe, fun l ds5 H5 hlok hD5 hL5 hp5 off5 => ?_⟩
          have hln5 := off5 _ _ hln pln.symm
          refine ⟨ln, _, _, rfl, rfl, hln5, ?_, ?_⟩
          · rw [List.length_map, List.length_map]
            exact small (by omega)
          · refine ⟨ls ++ [l], ds5, _, rfl, fun z hz => ?_, by rw [List.length_append, List.length_singleton]; omega, by rw [upd_ne pln]; exact hp5, hD5, ?_⟩
            · rcases List.mem_append.mp hz with h | h
              · exact hl z h
              · rw [List.mem_singleton.mp h]
                exact hlok
            · rw [upd_same, List.map_append, hStrs_app]
              rfl
      · rintro σ H2 ⟨ls, es, v4, rfl, hl, hn, hpe, hDe, hln⟩
        exact ⟨_, ls, _, rfl, by omega, hl, hn, hln⟩
    clear hp hp2 hD hD2 hL D1 L1 D2 L2' z1 z1' z2 z2' np nln s1 hS hns
    rintro σ H2 ⟨ch, ls, v4, rfl, hch, hl, hn, hln⟩
    clear d1 d2 ds ds1 ds2 H1
    -- the journal
    refine fun x dx nx ndx hdx => ⟨x, dx, rfl, upd_same, fun J H3 jx o3 n1 n2 n3 hJ => ⟨rfl, ?_⟩⟩
    subst jx
    have up : ∀ b o, H2 b = some o → (upd (upd H2 dx (.own J.j)) J.j (.ins (ga K "Journal") dx [])) b = some o := fun b o e => by
      rw [upd_ne (ne_of_none e nx), upd_ne (ne_of_none e ndx)]
      exact e
    have lg : ln ≠ J.g := ne_of_none (up _ _ hln) n2
    have lt : ln ≠ J.t := ne_of_none (up _ _ hln) n3
    have hln3 := o3 _ _ (up _ _ hln) (ne_of_none hln nx)
    refine ⟨_, rfl, _, rfl, J, ln, ls, rfl, hln3, hl, hn, hJ (Fo J), lg, lt, fun H4 hJ4 t4 => ⟨_, rfl, iteF ?_⟩⟩
    have hln4 : H4 ln = some (hStrs (ls.map Ln.tx)) := by
      obtain ⟨kvs, q⟩ := (hJ (Fo J)).itm
      exact t4 _ _ hln3 (ne_of hln3 q (fun z => nomatch z)) lg lt
    clear hJ t4 hln3 o3 n1 n2 n3 up nx ndx hln
    refine ⟨fun σ H' => ∃ v6 : Option V, σ = [some (.ref a), some (.ref p), some (.int ch), some (.ref ln), v4, some (.ref J.j), v6, none, none, none, none, none, none, none] ∧ H' ln = some (hStrs (ls.map Ln.tx)) ∧ JAt K H' J (itm noItm ls) ls.length (Fo J) (ls.map Ln.tx) (anss noItm ls), ?_, ?_⟩
    · refine ⟨by show 3 ≤ sizeLine; decide, fun q nq => ⟨q, rfl, ⟨_, SqL.of upd_same⟩, for_it (walk_list (xs := ([("show a\n" : Str), "text a \t", "\n"]).map V.str)) (fun i σ H' => ∃ v6 : Option V, σ = [some (.ref a), some (.ref p), some (.int ch), some (.ref ln), v4, some (.ref J.j), v6, none, none, none, none, none, none, none] ∧
          H' ln = some (hStrs (ls.map Ln.tx)) ∧ JAt K H' J (itm noItm ls) ls.length (Fo J) (ls.map Ln.tx) (anss noItm ls) ∧ H' q = some (hStrs [("show a\n" : Str), "text a \t", "\n"]))
        ⟨none, rfl, Same.upd nq _ _ hln4, hJ4.same (Same.upd nq), upd_same⟩ (fun i σ H' _ ⟨_, _, _, _, hq⟩ => SqL.of hq) ?_ ?_⟩⟩
      · rintro i x σ H5 H6 hi ⟨v6, rfl, hln5, hJ5, hq⟩ ⟨rfl, hx⟩
        obtain ⟨z, hz, rfl⟩ := at_map hx
        have hbad : ¬ lineS z ∧ z.length ≤ 100000 := by
          have hm := List.mem_of_getElem? hz
          simp only [List.mem_cons, List.mem_nil_iff, or_false] at hm
          rcases hm with rfl | rfl | rfl
          · exact ⟨bad1, by decide +kernel⟩
          · exact ⟨bad2, by decide +kernel⟩
          · exact ⟨bad3, by decide +kernel⟩
        obtain ⟨⟨jx, ho⟩, _⟩ := id hJ5
        refine ⟨_, rfl, J.j, jx, _, rfl, ho, fsJ_no (by decide +kernel) (by decide +kernel) (by decide +kernel), _, rfl, J, _, _, _, _, z, rfl, hJ5, .inr ⟨hbad.1, hbad.2, fun H7 s7 => ⟨rfl, _, rfl, ?_⟩⟩⟩
        rw [eqS_eq rfl]
        exact iteF ⟨_, rfl, s7 _ _ hln5, hJ5.same s7, s7 _ _ hq⟩
      · rintro σ H5 ⟨v6, rfl, hln5, hJ5, hq⟩
        exact ⟨_, rfl, hln5, hJ5⟩
    clear hln4 hJ4
    rintro σ H5 ⟨v6, rfl, hln5, hJ5⟩
    -- the record
    refine ⟨_, rfl, ln, ls, rfl, hln5, hl, hn, fun en H6 s6 nen hen => ?_⟩
    have esz := ents_sum (m := noItm) good_no hl
    have n0 : ("" : Str).length = 0 := by decide +kernel
    have elen := ents_len ls noItm
    have rlen := rec_len (m := noItm) good_no hl
    refine ⟨⟨_, rfl⟩, _, rfl, _, en, _, rfl, rfl, .inl (SqL.of hen), by rw [n0]; exact small16 (by omega), ?_⟩
    rw [eR]
    have hJ6 := hJ5.same s6
    obtain ⟨⟨jx, ho⟩, _⟩ := id hJ6
    refine ⟨_, rfl, J.j, jx, _, rfl, ho, fsJ_no (by decide +kernel) (by decide +kernel) (by decide +kernel), J, _, _, _, _, _, rfl, hJ6, fun tq H7 s7 ntq htq => ?_⟩
    have hJ7 := hJ6.same s7
    have all : (ls.map Ln.tx).length ≤ 100 := by rw [List.length_map]; omega
    have aal : (anss noItm ls).length = (ls.map Ln.tx).length := by rw [anss_len, List.length_map]
    refine ⟨_, rfl, J.j, jx, _, rfl, s7 _ _ ho, fsJ_no (by decide +kernel) (by decide +kernel) (by decide +kernel), J, _, _, _, _, _, rfl, hJ7, all, aal, txs_le hl, ans_le hl noItm good_no, fun H8 s8 => ⟨_, rfl, rfl, _, rfl, ?_⟩⟩
    rw [eqS_eq (recOf_eq ls)]
    have s58 := (s6.trans s7).trans s8
    have hln8 := s58 _ _ hln5
    have hen8 := s8 _ _ (s7 _ _ hen)
    have htq8 := s8 _ _ htq
    have hJ8 := hJ7.same s8
    refine iteF ⟨_, rfl, _, _, rfl, .lst htq8, _, rfl, iteF ?_⟩
    refine ⟨_, rfl, _, rfl, .list ((ls.map Ln.tx).map PyData.str), .list ((ls.map Ln.tx).map PyData.str), .lst (SqL.of htq8) (dpS _), .lst (SqL.of hln8) (dpS _), shapedS (txs_strOk hl), shapedS (txs_strOk hl), _, rfl, ?_⟩
    rw [SeqAt.eqv_refl _ (canS (txs_strOk hl))]
    refine iteF ?_
    -- the cut
    have rl : (recS noItm ls).length ≤ sizeLine := smallE (by omega)
    refine ⟨_, rfl, .inl ⟨_, rfl, _, rfl, _, rfl, rl, _, _, rfl, rfl, _, _, rfl, rfl, (by omega), ?_⟩⟩
    refine ⟨fun σ H' => ∃ c : Nat, c ≤ (recS noItm ls).length ∧ H' = H8 ∧ σ = [some (.ref a), some (.ref p), some (.int ch), some (.ref ln), v4, some (.ref J.j), v6, some (.ref en), some (.str (recS noItm ls)), some (.ref tq), some (.int (c : Nat)), none, none, none], ?_, ?_⟩
    · refine ⟨_, rfl, .inl ⟨_, rfl, _, _, rfl, rfl, (by show (0 : Int) < 5; decide), rfl, _, rfl, ?_⟩⟩
      refine iteB (fun _ => ?_) (fun _ => ?_)
      · exact ⟨_, rfl, _, rfl, rl, _, Nat.le_refl _, rfl, rfl⟩
      · have hlt := Int.emod_lt_of_pos ch (show (0 : Int) < ((recS noItm ls).length : Int) + 1 by omega)
        have hge := Int.emod_nonneg ch (show ((recS noItm ls).length : Int) + 1 ≠ 0 by omega)
        refine ⟨(ch % (((recS noItm ls).length : Int) + 1)).toNat, by omega, rfl, ?_⟩
        rw [Int.toNat_of_nonneg hge]
        rfl
    clear hJ7 hJ6 hJ5 hen htq hln5 s58 s8 s7 s6 ho ntq nen htq8 all aal esz elen
    rintro σ H' ⟨c, hc, rfl, rfl⟩
    obtain ⟨k, t, hk, hsp⟩ := cut_rec hl c
    have e1 : cutS (recS noItm ls) none (some ((c : Nat) : Int)) = mk ((TL.tl (recS noItm ls)).take c) := cut_to _ _
    have klen : ((rows noItm ls).take k).length = k := by rw [List.length_take, rows_len]; omega
    have eW : (((((((rows noItm ls).take k).map mk ++ [mk t]).map V.str).length : Nat) : Int) - 1) / 2 = ((k / 2 : Nat) : Int) := by
      rw [List.length_map, List.length_append, List.length_map, klen, List.length_singleton]
      omega
    have zl : (mk ((TL.tl (recS noItm ls)).take c)).length ≤ 100000 := by
      rw [len_mk, List.length_take, ← TL.len_tl]
      omega
    refine ⟨_, rfl, _, rfl, _, rfl, _, rfl, rl, ?_⟩
    rw [e1]
    refine ⟨⟨_, rfl⟩, _, _, rfl, rfl, N_len, smallE (by omega), fun r1 nr1 => ?_⟩
    rw [hsp]
    refine ⟨_, _, rfl, .inl ⟨_, SqL.of upd_same, rfl⟩, _, _, rfl, rfl, _, _, rfl, rfl, ⟨by decide, by decide⟩, ?_⟩
    dsimp only
    rw [eW]
    generalize hw : k / 2 = wh at *
    have whl : wh ≤ ls.length := by omega
    -- resume
    refine ⟨_, rfl, _, rfl, _, rfl, _, rfl, rl, ?_⟩
    rw [e1]
    have s9 : Same H' (upd H' r1 (.lst ((((rows noItm ls).take k).map mk ++ [mk t]).map V.str))) := Same.upd nr1
    refine ⟨_, ls, k, t, rfl, hl, hn, hk, zl, hsp, fun J2 H10 s10 m1 m2 m3 m4 hJ2 => ?_⟩
    rw [hw] at hJ2
    have hln9 := s9 _ _ hln8
    have hJ9 := (hJ8.same s9).reF (F' := fun b => b ≠ J2.it ∧ b ≠ J2.g ∧ b ≠ J2.t) fun b ms _ e => ⟨ne_of_none e m1, ne_of_none e m2, ne_of_none e m3⟩
    have far : ∀ b ∈ [J.j, J.pg, J.d, J.it, J.g, J.t], b ≠ J2.it ∧ b ≠ J2.g ∧ b ≠ J2.t := fun b hb => by
      have : ∃ o, (upd H' r1 (.lst ((((rows noItm ls).take k).map mk ++ [mk t]).map V.str))) b = some o := by
        simp only [List.mem_cons, List.mem_nil_iff, or_false] at hb
        obtain ⟨⟨_, q1⟩, ⟨_, q2⟩, ⟨⟨_, _, _, _, q3⟩, _, q4, _⟩, q5, q6, _⟩ := hJ9
        rcases hb with rfl | rfl | rfl | rfl | rfl | rfl
        · exact ⟨_, q1⟩
        · exact ⟨_, q2⟩
        · exact ⟨_, q3⟩
        · exact ⟨_, q4⟩
        · exact ⟨_, q5⟩
        · exact ⟨_, q6⟩
      obtain ⟨o, e⟩ := this
      exact ⟨ne_of_none e m1, ne_of_none e m2, ne_of_none e m3⟩
    have lni : ln ≠ J2.it ∧ ln ≠ J2.g ∧ ln ≠ J2.t := ⟨ne_of_none hln9 m1, ne_of_none hln9 m2, ne_of_none hln9 m3⟩
    have hJ10 := hJ9.same s10
    have hln10 := s10 _ _ hln9
    have hen10 := s10 _ _ (s9 _ _ hen8)
    clear hJ9 hln9 s9 nr1 e1 hsp zl eW hJ8 hln8 hen8 m1 m2 m3 m4 s10
    -- the second record, lines
    have e2 : cutV ((ents noItm ls).map V.str) none (some ((wh : Nat) : Int)) = (ents noItm (ls.take wh)).map V.str := by rw [cutV_to, ← List.map_take, ents_takes]
    have e3 : cutV ((ls.map Ln.tx).map V.str) none (some ((wh : Nat) : Int)) = ((ls.take wh).map Ln.tx).map V.str := by rw [cutV_to, ← List.map_take, ← List.map_take]
    have hlt := hl.take wh
    obtain ⟨⟨j2x, ho2⟩, _⟩ := id hJ2
    have tal : ((ls.take wh).map Ln.tx).length ≤ 100 := by rw [List.length_map, List.length_take]; omega
    have taa : (anss noItm (ls.take wh)).length = ((ls.take wh).map Ln.tx).length := by rw [anss_len, List.length_map]
    refine ⟨_, rfl, J2.j, j2x, _, rfl, ho2, fsJ_no (by decide +kernel) (by decide +kernel) (by decide +kernel), J2, _, _, _, _, _, rfl, hJ2, tal, taa, txs_le hlt, ans_le hlt noItm good_no, fun H11 s11 => ?_⟩
    refine ⟨⟨_, rfl⟩, _, rfl, _, rfl, _, rfl, en, _, rfl, SqL.of (s11 _ _ hen10), fun r2 nr2 => ?_⟩
    rw [e2]
    have esz2 := ents_sum (m := noItm) good_no hlt
    have elen2 := ents_len (ls.take wh) noItm
    have tl2 : (ls.take wh).length ≤ 14 := by rw [List.length_take]; omega
    refine ⟨_, r2, _, rfl, rfl, .inl (SqL.of upd_same), by rw [n0]; exact small16 (by omega), rfl, _, rfl, ?_⟩
    rw [eR, eqS_eq (recOf_eq (ls.take wh))]
    have s12 : Same H11 (upd H11 r2 (.lst ((ents noItm (ls.take wh)).map V.str))) := Same.upd nr2
    have s13 := s11.trans s12
    have hJ13 := hJ2.same s13
    refine iteF ⟨_, rfl, J2.j, j2x, _, rfl, s13 _ _ ho2, fsJ_no (by decide +kernel) (by decide +kernel) (by decide +kernel), J2, _, _, _, _, _, rfl, hJ13, fun q2 H14 s14 nq2 hq2 => ?_⟩
    have hln14 := s14 _ _ (s13 _ _ hln10)
    refine ⟨_, rfl, _, rfl, _, rfl, ln, _, rfl, SqL.of hln14, fun r3 nr3 => ?_⟩
    rw [e3]
    have s15 : Same H14 (upd H14 r3 (.lst (((ls.take wh).map Ln.tx).map V.str))) := Same.upd nr3
    refine ⟨.list (((ls.take wh).map Ln.tx).map PyData.str), .list (((ls.take wh).map Ln.tx).map PyData.str), .lst (SqL.of (s15 _ _ hq2)) (dpS _), .lst (SqL.of upd_same) (dpS _), shapedS (txs_strOk hlt), shapedS (txs_strOk hlt), _, rfl, ?_⟩
    rw [SeqAt.eqv_refl _ (canS (txs_strOk hlt))]
    refine iteF ?_
    have s16 := (s13.trans s14).trans s15
    have hln16 := s16 _ _ hln10
    -- its items
    refine ⟨_, rfl, _, rfl, _, rfl, _, rfl, ln, _, rfl, SqL.of hln16, fun r4 nr4 => ?_⟩
    rw [e3]
    have s17 := s16.trans (Same.upd (o := .lst (((ls.take wh).map Ln.tx).map V.str)) nr4)
    refine ⟨J2, r4, ls.take wh, wh, Fo J2, _, _, rfl, upd_same, hlt, tl2, hJ2.same s17, fun H18 s18 => ⟨_, rfl, iteF ?_⟩⟩
    have s19 := s17.trans s18
    have hJa := hJ10.same s19
    have hJb := hJ2.same s19
    have hlnb := s19 _ _ hln10
    clear hJ13 hJ10 hJ2 hln10 hln14 hln16 hen10 s19 s18 s17 s16 s15 s14 s13 s12 s11 nr2 nr3 nr4 nq2 hq2 ho2 esz2 elen2
    -- the items by the law's own desk
    refine fun iL niL => ?_
    have j1 : J.it ≠ iL := fun e => by
      obtain ⟨kvs, q⟩ := hJa.itm
      rw [e, niL] at q
      cases q
    have j2 : J2.it ≠ iL := fun e => by
      obtain ⟨kvs, q⟩ := hJb.itm
      rw [e, niL] at q
      cases q
    have s20 : Same H18 (upd H18 iL (.dK [])) := Same.upd niL
    have hJa := hJa.same s20
    have hJb := hJb.same s20
    have hlnb := s20 _ _ hlnb
    have hI0 : ItAt (upd H18 iL (.dK [])) iL noItm 0 (Fo J2) := ItAt.empty upd_same
    clear s20 niL
    refine ⟨fun σ H' => ∃ v6 : Option V, σ = [some (.ref a), some (.ref p), some (.int ch), some (.ref ln), v4, some (.ref J.j), v6, some (.ref en), some (.str (recS noItm ls)), some (.ref tq), some (.int (c : Nat)), some (.int (wh : Nat)), some (.ref J2.j), some (.ref iL)] ∧ H' ln = some (hStrs (ls.map Ln.tx)) ∧
      ItAt H' iL (itm noItm (ls.take wh)) wh (Fo J2) ∧ JAt K H' J (itm noItm ls) ls.length (fun b => b ≠ J2.it ∧ b ≠ J2.g ∧ b ≠ J2.t) (ls.map Ln.tx) (anss noItm ls) ∧
      JAt K H' J2 (itm noItm (ls.take wh)) wh (Fo J2) ((ls.take wh).map Ln.tx) (anss noItm (ls.take wh)), ?_, ?_⟩
    · refine ⟨_, rfl, _, rfl, _, rfl, ln, _, rfl, SqL.of hlnb, fun r5 nr5 => ?_⟩
      rw [e3]
      have s21 := Same.upd (o := .lst (((ls.take wh).map Ln.tx).map V.str)) nr5
      refine ⟨r5, rfl, ⟨_, SqL.of upd_same⟩, for_it (walk_list (xs := ((ls.take wh).map Ln.tx).map V.str)) (fun i σ H' => ∃ v6 : Option V, σ = [some (.ref a), some (.ref p), some (.int ch), some (.ref ln), v4, some (.ref J.j), v6, some (.ref en), some (.str (recS noItm ls)), some (.ref tq), some (.int (c : Nat)), some (.int (wh : Nat)), some (.ref J2.j), some (.ref iL)] ∧ H' ln = some (hStrs (ls.map Ln.tx)) ∧
          ItAt H' iL (itm noItm ((ls.take wh).take i)) i (Fo J2) ∧ JAt K H' J (itm noItm ls) ls.length (fun b => b ≠ J2.it ∧ b ≠ J2.g ∧ b ≠ J2.t) (ls.map Ln.tx) (anss noItm ls) ∧
          JAt K H' J2 (itm noItm (ls.take wh)) wh (Fo J2) ((ls.take wh).map Ln.tx) (anss noItm (ls.take wh)) ∧ H' r5 = some (hStrs ((ls.take wh).map Ln.tx)))
        ⟨_, rfl, s21 _ _ hlnb, hI0.same s21, hJa.same s21, hJb.same s21, upd_same⟩ (fun i σ H' _ ⟨_, _, _, _, _, _, hr5⟩ => SqL.of hr5) ?_ ?_⟩
      · rintro i x σ Ha Hb hi ⟨u6, rfl, q1, q2, q3, q4, q5⟩ ⟨rfl, hx⟩
        obtain ⟨y, hy, rfl⟩ := at_map hx
        obtain ⟨l, hll, rfl⟩ := at_map hy
        have hlok := hlt l (List.mem_of_getElem? hll)
        have hi' := lt_of_at hll
        have hgd := itm_good _ _ good_no (hlt.take i)
        obtain ⟨kvs, hiL⟩ : ∃ kvs, Hb iL = some (.dK kvs) := by
          obtain ⟨kvs, q, _⟩ := q2
          exact ⟨kvs, q⟩
        refine ⟨_, rfl, _, rfl, iL, _, i, Fo J2, l, rfl, hlok, q2, by omega, q4.free, hgd, fun Hc hIc oc => ?_⟩
        refine ⟨_, rfl, oc _ _ q1 (ne_of q1 hiL (fun z => nomatch z)), ?_, q3.off hiL j1 oc, q4.off hiL j2 oc, oc _ _ q5 (ne_of q5 hiL (fun z => nomatch z))⟩
        rw [itm_take noItm hll]
        exact hIc
      · rintro σ Ha ⟨u6, rfl, q1, q2, q3, q4, q5⟩
        have e9 : (((ls.take wh).map Ln.tx).map V.str).length = wh := by rw [List.length_map, List.length_map, List.length_take]; omega
        rw [e9, List.take_take, Nat.min_self] at q2
        exact ⟨_, rfl, q1, q2, q3, q4⟩
    clear hJa hJb hlnb hI0 v6
    rintro σ H21 ⟨v6, rfl, g1, g2, g3, g4⟩
    -- the other lines
    refine ⟨fun σ H' => ∃ v6 : Option V, σ = [some (.ref a), some (.ref p), some (.int ch), some (.ref ln), v4, some (.ref J.j), v6, some (.ref en), some (.str (recS noItm ls)), some (.ref tq), some (.int (c : Nat)), some (.int (wh : Nat)), some (.ref J2.j), some (.ref iL)] ∧ H' ln = some (hStrs (ls.map Ln.tx)) ∧
      JAt K H' J (itm noItm ls) ls.length (fun b => b ≠ J2.it ∧ b ≠ J2.g ∧ b ≠ J2.t) (ls.map Ln.tx) (anss noItm ls) ∧ JAt K H' J2 (itm noItm ls) ls.length (Fo J2) (ls.map Ln.tx) (anss noItm ls), ?_, ?_⟩
    · refine ⟨_, rfl, _, rfl, _, rfl, ln, _, rfl, SqL.of g1, fun r6 nr6 => ?_⟩
      have e4 : cutV ((ls.map Ln.tx).map V.str) (some ((wh : Nat) : Int)) none = ((ls.drop wh).map Ln.tx).map V.str := by rw [cutV_from, List.map_drop, List.map_drop]
      rw [e4]
      have s22 := Same.upd (o := .lst (((ls.drop wh).map Ln.tx).map V.str)) nr6
      have r6g : r6 ≠ J2.g := fun e => by rw [e, g4.gv] at nr6; cases nr6
      have r6t : r6 ≠ J2.t := fun e => by rw [e, g4.tv] at nr6; cases nr6
      refine ⟨r6, rfl, ⟨_, SqL.of upd_same⟩, for_it (walk_list (xs := ((ls.drop wh).map Ln.tx).map V.str)) (fun i σ H' => ∃ v6 : Option V, σ = [some (.ref a), some (.ref p), some (.int ch), some (.ref ln), v4, some (.ref J.j), v6, some (.ref en), some (.str (recS noItm ls)), some (.ref tq), some (.int (c : Nat)), some (.int (wh : Nat)), some (.ref J2.j), some (.ref iL)] ∧ H' ln = some (hStrs (ls.map Ln.tx)) ∧
          ItAt H' iL (itm noItm (ls.take (wh + i))) (wh + i) (Fo J2) ∧ JAt K H' J (itm noItm ls) ls.length (fun b => b ≠ J2.it ∧ b ≠ J2.g ∧ b ≠ J2.t) (ls.map Ln.tx) (anss noItm ls) ∧
          JAt K H' J2 (itm noItm (ls.take (wh + i))) (wh + i) (Fo J2) ((ls.take (wh + i)).map Ln.tx) (anss noItm (ls.take (wh + i))) ∧ H' r6 = some (hStrs ((ls.drop wh).map Ln.tx)))
        ⟨_, rfl, s22 _ _ g1, g2.same s22, g3.same s22, g4.same s22, upd_same⟩ (fun i σ H' _ ⟨_, _, _, _, _, _, hr6⟩ => SqL.of hr6) ?_ ?_⟩
      · rintro i x σ Ha Hb hi ⟨u6, rfl, q1, q2, q3, q4, q5⟩ ⟨rfl, hx⟩
        obtain ⟨y, hy, rfl⟩ := at_map hx
        obtain ⟨l, hll0, rfl⟩ := at_map hy
        have hll : ls[wh + i]? = some l := by rw [List.getElem?_drop] at hll0; exact hll0
        have hlok := hl l (List.mem_of_getElem? hll)
        have hi' := lt_of_at hll
        have hgd := itm_good _ _ good_no (hl.take (wh + i))
        obtain ⟨kvs, hiL⟩ : ∃ kvs, Hb iL = some (.dK kvs) := by
          obtain ⟨kvs, q, _⟩ := q2
          exact ⟨kvs, q⟩
        obtain ⟨kv2, hi2⟩ := q4.itm
        obtain ⟨⟨j2x, ho2⟩, _⟩ := id q4
        refine ⟨_, rfl, J2.j, j2x, _, rfl, ho2, fsJ_no (by decide +kernel) (by decide +kernel) (by decide +kernel), _, rfl, J2, _, wh + i, _, _, l.tx, rfl, q4, .inl ⟨l, hlok, rfl, by omega, hgd, ?_, ?_, fun Hc hJc tc => ?_⟩⟩
        · rw [List.length_map, List.length_take]
          omega
        · rw [anss_len, List.length_take]
          omega
        · have q1c := tc _ _ q1 lni.1 lni.2.1 lni.2.2
          have q5c := tc _ _ q5 (ne_of q5 hi2 (fun z => nomatch z)) r6g r6t
          have gi : iL ≠ J2.g := ne_of hiL q4.gv (fun z => nomatch z)
          have ti : iL ≠ J2.t := ne_of hiL q4.tv (fun z => nomatch z)
          have q2c : ItAt Hc iL (itm noItm (ls.take (wh + i))) (wh + i) (Fo J2) := q2.keep (fun o e => tc _ _ e j2.symm gi ti) fun b ms fb e => tc _ _ e (ne_of e hi2 (fun z => nomatch z)) fb.1 fb.2
          have q3c := q3.far (ms := []) (fun b hb => hb) far tc
          obtain ⟨kvc, hiLc⟩ : ∃ kvs, Hc iL = some (.dK kvs) := by
            obtain ⟨kvs, q, _⟩ := q2c
            exact ⟨kvs, q⟩
          refine ⟨_, rfl, _, rfl, iL, _, wh + i, Fo J2, l, rfl, hlok, q2c, by omega, hJc.free, hgd, fun Hd hId od => ⟨rfl, _, rfl, ?_⟩⟩
          rw [eqS_eq rfl]
          refine iteF ⟨_, rfl, od _ _ q1c (ne_of q1c hiLc (fun z => nomatch z)), ?_, q3c.off hiLc j1 od, ?_, od _ _ q5c (ne_of q5c hiLc (fun z => nomatch z))⟩
          · rw [← Nat.add_assoc, itm_take noItm hll]
            exact hId
          · rw [← Nat.add_assoc, itm_take noItm hll, anss_take noItm hll, take_one hll, List.map_append]
            exact hJc.off hiLc j2 od
      · rintro σ Ha ⟨u6, rfl, q1, q2, q3, q4, q5⟩
        have e9 : wh + (((ls.drop wh).map Ln.tx).map V.str).length = ls.length := by rw [List.length_map, List.length_map, List.length_drop]; omega
        rw [e9, List.take_length] at q4
        exact ⟨_, rfl, q1, q3, q4⟩
    clear g1 g2 g3 g4 v6
    rintro σ H22 ⟨v6, rfl, g1, g3, g4⟩
    -- both records, and one more answer
    have all : (ls.map Ln.tx).length ≤ 100 := by rw [List.length_map]; omega
    have aal : (anss noItm ls).length = (ls.map Ln.tx).length := by rw [anss_len, List.length_map]
    obtain ⟨⟨jx, ho⟩, _⟩ := id g3
    obtain ⟨⟨j2x, ho2⟩, _⟩ := id g4
    refine ⟨_, rfl, J2.j, j2x, _, rfl, ho2, fsJ_no (by decide +kernel) (by decide +kernel) (by decide +kernel), J2, _, _, _, _, _, rfl, g4, all, aal, txs_le hl, ans_le hl noItm good_no, fun H23 s23 => ⟨_, rfl, rfl, _, rfl, ?_⟩⟩
    rw [eqS_eq (recOf_eq ls)]
    refine iteF ⟨_, rfl, J.j, jx, _, rfl, s23 _ _ ho, fsJ_no (by decide +kernel) (by decide +kernel) (by decide +kernel), J, _, _, _, _, _, rfl, g3.same s23, all, aal, txs_le hl, ans_le hl noItm good_no, fun H24 s24 => ⟨_, rfl, rfl, _, rfl, ?_⟩⟩
    rw [eqS_eq (recOf_eq ls)]
    have s25 := s23.trans s24
    have g1' := s25 _ _ g1
    have g3' := g3.same s25
    have g4' := g4.same s25
    refine iteF ⟨_, rfl, J2.j, j2x, _, rfl, s25 _ _ ho2, fsJ_no (by decide +kernel) (by decide +kernel) (by decide +kernel), J2, _, _, _, _, "numbers a 7", rfl, g4', .inl ⟨.nums .a [7], ⟨by decide, by decide⟩, by decide +kernel, by omega, itm_good _ _ good_no hl, by omega, by rw [anss_len]; omega, fun H26 hJ26 t26 => ?_⟩⟩
    refine ⟨_, rfl, _, rfl, J, ln, ls, _, _, _, _, rfl, t26 _ _ g1' lni.1 lni.2.1 lni.2.2, hl, hn, g3'.far (ms := []) (fun b hb => hb) far t26, fun H27 s27 => kQ H27⟩
end
end J93
noncomputable section
namespace J93H
open PySem PySem.W PySem.Calls PyProof.Rows L2
open J93 (top)
def oa_11 (P : Params) : Obj := ⟨(.type "tuple"), .none, (.seq #[] 0), #[]⟩
def oa_12 (P : Params) : Obj := ⟨.none, .none, (.fields #[]), #[]⟩
def oa_13 (P : Params) : Obj := ⟨(.type "code"), .none, (.fields #[(.str (Str.ofString "<module>") 182), (.str (Str.ofString "<module>") 183), (.str (Str.ofString "/claim/cut.py") 184), (.int (1) 0), (.int (0) 0), (.int (0) 0), (.int (0) 0), (.int (0) 0), (.ref 11), (.bool false), (.int (181) 0), (.ref 12), .none, .none, .none, .none, (.int (185) 0), (.int (1) 0), (.str (Str.ofString "/claim/cut.py") 186)]), #[]⟩
def oa_14 (P : Params) : Obj := ⟨(.type "frame"), .none, .plain, #[(.some (.ref 13)), (.some (.ref 3)), (.some (.ref 3)), .none, (.some (.str (Str.ofString "__main__") 164)), .none, (.some (.ref 0))]⟩
def Ta (P : Params) : BT := (.node (boot_o_0 P) (.node (boot_o_1 P) (.node (boot_o_3 P) (.node (boot_o_7 P) .nil .nil) (.node (oa_11 P) .nil .nil)) (.node (boot_o_5 P) (.node (boot_o_9 P) .nil .nil) (.node (oa_13 P) .nil .nil))) (.node (boot_o_2 P) (.node (boot_o_4 P) (.node (boot_o_8 P) .nil .nil) (.node (oa_12 P) .nil .nil)) (.node (boot_o_6 P) (.node (boot_o_10 P) .nil .nil) (.node (oa_14 P) .nil .nil))))
def Sa (w : World) (os : OsState) : SharedT := ⟨Ta w.params, 15, (boot_heap w.params).life, Array.mk [], boot_drawn, 187, os⟩
def o20_3 (P : Params) : Obj := ⟨(.type "dict"), .none, (.dict #[⟨PyData.keyHash P (Str.ofString "__name__"), (.str (Str.ofString "__name__") 165), (.str (Str.ofString "plinth.signs") 449)⟩, ⟨PyData.keyHash P (Str.ofString "__doc__"), (.str (Str.ofString "__doc__") 166), .none⟩, ⟨PyData.keyHash P (Str.ofString "__package__"), (.str (Str.ofString "__package__") 167), .none⟩, ⟨PyData.keyHash P (Str.ofString "__loader__"), (.str (Str.ofString "__loader__") 168), (.builtin "__main__.__loader__#opaque")⟩, ⟨PyData.keyHash P (Str.ofString "__spec__"), (.str (Str.ofString "__spec__") 169), .none⟩, ⟨PyData.keyHash P (Str.ofString "__annotations__"), (.str (Str.ofString "__annotations__") 170), (.ref 6)⟩, ⟨PyData.keyHash P (Str.ofString "__builtins__"), (.str (Str.ofString "__builtins__") 171), (.ref 4)⟩, ⟨PyData.keyHash P (Str.ofString "__file__"), (.str (Str.ofString "__file__") 173), (.str (Str.ofString "/claim/cut.py") 172)⟩, ⟨PyData.keyHash P (Str.ofString "__cached__"), (.str (Str.ofString "__cached__") 174), .none⟩, ⟨PyData.keyHash P (Str.ofString "_wall"), (.str (Str.ofString "_wall") 193), (.ref 21)⟩, ⟨PyData.keyHash P (Str.ofString "PlinthError"), (.str (Str.ofString "PlinthError") 213), (.ref 31)⟩, ⟨PyData.keyHash P (Str.ofString "NotText"), (.str (Str.ofString "NotText") 229), (.ref 44)⟩, ⟨PyData.keyHash P (Str.ofString "NotNumeral"), (.str (Str.ofString "NotNumeral") 245), (.ref 56)⟩, ⟨PyData.keyHash P (Str.ofString "BadFuel"), (.str (Str.ofString "BadFuel") 261), (.ref 68)⟩, ⟨PyData.keyHash P (Str.ofString "BadPlan"), (.str (Str.ofString "BadPlan") 286), (.ref 87)⟩, ⟨PyData.keyHash P (Str.ofString "BadClaim"), (.str (Str.ofString "BadClaim") 302), (.ref 99)⟩, ⟨PyData.keyHash P (Str.ofString "BadTrap"), (.str (Str.ofString "BadTrap") 318), (.ref 111)⟩, ⟨PyData.keyHash P (Str.ofString "NotPlantable"), (.str (Str.ofString "NotPlantable") 334), (.ref 123)⟩, ⟨PyData.keyHash P (Str.ofString "BadName"), (.str (Str.ofString "BadName") 350), (.ref 135)⟩, ⟨PyData.keyHash P (Str.ofString "BadKind"), (.str (Str.ofString "BadKind") 366), (.ref 147)⟩, ⟨PyData.keyHash P (Str.ofString "NoEntry"), (.str (Str.ofString "NoEntry") 391), (.ref 166)⟩, ⟨PyData.keyHash P (Str.ofString "OutOfRange"), (.str (Str.ofString "OutOfRange") 407), (.ref 178)⟩, ⟨PyData.keyHash P (Str.ofString "BadJournal"), (.str (Str.ofString "BadJournal") 432), (.ref 197)⟩, ⟨PyData.keyHash P (Str.ofString "OpenTrial"), (.str (Str.ofString "OpenTrial") 448), (.ref 209)⟩, ⟨PyData.keyHash P (Str.ofString "NEWLINE"), (.str (Str.ofString "NEWLINE") 452), (.int (10) 451)⟩, ⟨PyData.keyHash P (Str.ofString "PRINTABLE"), (.str (Str.ofString "PRINTABLE") 454), (.str (Str.ofString " !\"#$&'()*+,-./0123456789:;<=>?@ABCDEFGHIJKLMNOPQRSTUVWXYZ[\\]^_`abcdefghijklmnopqrstuvwxyz{|}~") 453)⟩, ⟨PyData.keyHash P (Str.ofString "DIGITS_signs"), (.str (Str.ofString "DIGITS_signs") 456), (.str (Str.ofString "0123456789") 455)⟩] 27), #[]⟩
def o20_12 (P : Params) : Obj := ⟨.none, .none, (.fields #[(.int (1) 0), (.int (0) 0), (.ref 20), (.int (5) 0), (.int (0) 0), (.ref 27), (.int (7) 0), (.int (0) 0), (.ref 40), (.int (9) 0), (.int (0) 0), (.ref 52), (.int (11) 0), (.int (0) 0), (.ref 64), (.int (13) 0), (.int (0) 0), (.ref 76), (.int (18) 0), (.int (0) 0), (.ref 95), (.int (20) 0), (.int (0) 0), (.ref 107), (.int (22) 0), (.int (0) 0), (.ref 119), (.int (24) 0), (.int (0) 0), (.ref 131), (.int (26) 0), (.int (0) 0), (.ref 143), (.int (28) 0), (.int (0) 0), (.ref 155), (.int (33) 0), (.int (0) 0), (.ref 174), (.int (35) 0), (.int (0) 0), (.ref 186), (.int (40) 0), (.int (0) 0), (.ref 205)]), #[]⟩
def o20_15 (P : Params) : Obj := ⟨(.type "tuple"), .none, (.seq #[] 0), #[]⟩
def o20_16 (P : Params) : Obj := ⟨.none, .none, (.fields #[]), #[]⟩
def o20_17 (P : Params) : Obj := ⟨(.type "tuple"), .none, (.seq #[(.str (Str.ofString "k") 190)] 0), #[]⟩
def o20_18 (P : Params) : Obj := ⟨(.type "tuple"), .none, (.seq #[] 0), #[]⟩
def o20_19 (P : Params) : Obj := ⟨.none, .none, (.func ⟨(Str.ofString "_wall"), (Str.ofString "_wall"), defArgs (top 0), .stmts (defBody (top 0)), defScope (top 0), 0, [], .none, .none, .none, .none, .none, .none, .none, 0⟩), #[]⟩
def o20_20 (P : Params) : Obj := ⟨(.type "code"), .none, (.fields #[(.str (Str.ofString "_wall") 187), (.str (Str.ofString "_wall") 188), (.str (Str.ofString "/claim/cut.py") 189), (.int (1) 0), (.int (1) 0), (.int (0) 0), (.int (0) 0), (.int (3) 0), (.ref 15), (.bool true), (.int (181) 0), (.ref 16), .none, (.ref 17), (.ref 18), (.ref 19), (.int (191) 0), (.int (1) 0), (.str (Str.ofString "/claim/cut.py") 192)]), #[]⟩
def o20_21 (P : Params) : Obj := ⟨(.type "function"), .none, (.func ⟨(Str.ofString "_wall"), (Str.ofString "_wall"), defArgs (top 0), .stmts (defBody (top 0)), defScope (top 0), 3, [], .none, .none, .none, (.str (Str.ofString "__main__") 164), .none, (.ref 20), .none, 0⟩), #[]⟩
def o20_22 (P : Params) : Obj := ⟨(.type "tuple"), .none, (.seq #[(.type "ValueError")] 0), #[]⟩
def o20_23 (P : Params) : Obj := ⟨(.type "builtin_function_or_method"), .none, (.fields #[(.builtin "type.__prepare__"), (.type "type")]), #[]⟩
def o20_24 (P : Params) : Obj := ⟨(.type "dict"), .none, (.dict #[⟨PyData.keyHash P (Str.ofString "__module__"), (.str (Str.ofString "__module__") 203), (.str (Str.ofString "plinth.errors") 194)⟩, ⟨PyData.keyHash P (Str.ofString "__qualname__"), (.str (Str.ofString "__qualname__") 205), (.str (Str.ofString "PlinthError") 204)⟩, ⟨PyData.keyHash P (Str.ofString "__firstlineno__"), (.str (Str.ofString "__firstlineno__") 207), (.int (5) 206)⟩, ⟨PyData.keyHash P (Str.ofString "__static_attributes__"), (.str (Str.ofString "__static_attributes__") 208), (.ref 29)⟩] 4), #[]⟩
def o20_25 (P : Params) : Obj := ⟨(.type "tuple"), .none, (.seq #[] 0), #[]⟩
def o20_26 (P : Params) : Obj := ⟨.none, .none, (.fields #[]), #[]⟩
def o20_27 (P : Params) : Obj := ⟨(.type "code"), .none, (.fields #[(.str (Str.ofString "PlinthError") 198), (.str (Str.ofString "PlinthError") 199), (.str (Str.ofString "/claim/cut.py") 200), (.int (5) 0), (.int (0) 0), (.int (0) 0), (.int (0) 0), (.int (0) 0), (.ref 25), (.bool false), (.int (181) 0), (.ref 26), .none, .none, .none, .none, (.int (201) 0), (.int (5) 0), (.str (Str.ofString "/claim/cut.py") 202)]), #[]⟩
def o20_28 (P : Params) : Obj := ⟨(.type "frame"), .none, .plain, #[(.some (.ref 27)), (.some (.ref 3)), (.some (.ref 24)), .none, (.some (.str (Str.ofString "plinth.errors") 194)), .none, (.some (.ref 0))]⟩
def o20_29 (P : Params) : Obj := ⟨(.type "tuple"), .none, (.seq #[] 0), #[]⟩
def o20_30 (P : Params) : Obj := ⟨(.type "dict"), .none, (.dict #[⟨PyData.keyHash P (Str.ofString "__module__"), (.str (Str.ofString "__module__") 203), (.str (Str.ofString "plinth.errors") 194)⟩, ⟨PyData.keyHash P (Str.ofString "__firstlineno__"), (.str (Str.ofString "__firstlineno__") 207), (.int (5) 206)⟩, ⟨PyData.keyHash P (Str.ofString "__static_attributes__"), (.str (Str.ofString "__static_attributes__") 208), (.ref 29)⟩, ⟨PyData.keyHash P (Str.ofString "__weakref__"), (.str (Str.ofString "__weakref__") 210), (.ref 32)⟩, ⟨PyData.keyHash P (Str.ofString "__doc__"), (.str (Str.ofString "__doc__") 211), .none⟩] 3), #[]⟩
def o20_31 (P : Params) : Obj := ⟨(.type "type"), .none, (.cls ⟨(Str.ofString "PlinthError"), [(.type "ValueError")], [(.ref 31), (.type "ValueError"), (.type "Exception"), (.type "BaseException"), (.type "object")], 30, (Str.ofString "PlinthError"), true, [], [(.ref 44), (.ref 56), (.ref 68), (.ref 87), (.ref 99), (.ref 111), (.ref 123), (.ref 135), (.ref 147), (.ref 166), (.ref 178), (.ref 197), (.ref 209)], false, .none, false⟩), #[(.some (.ref 22)), .none, (.some (.str (Str.ofString "PlinthError") 196)), (.some (.str (Str.ofString "PlinthError") 204)), (.some (.builtin "ValueError.__new__")), (.some (.bool true))]⟩
def o20_32 (P : Params) : Obj := ⟨(.type "getset_descriptor"), .none, (.fields #[(.str (Str.ofString "__weakref__") 209), (.ref 31), (.builtin "ExceptionGroup.__weakref__"), .none]), #[]⟩
def o20_33 (P : Params) : Obj := ⟨(.type "super"), .none, (.fields #[(.ref 31), (.ref 31), (.ref 31)]), #[]⟩
def o20_34 (P : Params) : Obj := ⟨(.type "builtin_function_or_method"), .none, (.fields #[(.builtin "object.__init_subclass__"), (.ref 31)]), #[]⟩
def o20_35 (P : Params) : Obj := ⟨(.type "tuple"), .none, (.seq #[(.ref 31)] 0), #[]⟩
def o20_36 (P : Params) : Obj := ⟨(.type "builtin_function_or_method"), .none, (.fields #[(.builtin "type.__prepare__"), (.type "type")]), #[]⟩
def o20_37 (P : Params) : Obj := ⟨(.type "dict"), .none, (.dict #[⟨PyData.keyHash P (Str.ofString "__module__"), (.str (Str.ofString "__module__") 221), (.str (Str.ofString "plinth.errors") 194)⟩, ⟨PyData.keyHash P (Str.ofString "__qualname__"), (.str (Str.ofString "__qualname__") 223), (.str (Str.ofString "NotText") 222)⟩, ⟨PyData.keyHash P (Str.ofString "__firstlineno__"), (.str (Str.ofString "__firstlineno__") 225), (.int (7) 224)⟩, ⟨PyData.keyHash P (Str.ofString "__static_attributes__"), (.str (Str.ofString "__static_attributes__") 226), (.ref 42)⟩] 4), #[]⟩
def o20_38 (P : Params) : Obj := ⟨(.type "tuple"), .none, (.seq #[] 0), #[]⟩
def o20_39 (P : Params) : Obj := ⟨.none, .none, (.fields #[]), #[]⟩
def o20_40 (P : Params) : Obj := ⟨(.type "code"), .none, (.fields #[(.str (Str.ofString "NotText") 216), (.str (Str.ofString "NotText") 217), (.str (Str.ofString "/claim/cut.py") 218), (.int (7) 0), (.int (0) 0), (.int (0) 0), (.int (0) 0), (.int (0) 0), (.ref 38), (.bool false), (.int (181) 0), (.ref 39), .none, .none, .none, .none, (.int (219) 0), (.int (7) 0), (.str (Str.ofString "/claim/cut.py") 220)]), #[]⟩
def o20_41 (P : Params) : Obj := ⟨(.type "frame"), .none, .plain, #[(.some (.ref 40)), (.some (.ref 3)), (.some (.ref 37)), .none, (.some (.str (Str.ofString "plinth.errors") 194)), .none, (.some (.ref 0))]⟩
def o20_42 (P : Params) : Obj := ⟨(.type "tuple"), .none, (.seq #[] 0), #[]⟩
def o20_43 (P : Params) : Obj := ⟨(.type "dict"), .none, (.dict #[⟨PyData.keyHash P (Str.ofString "__module__"), (.str (Str.ofString "__module__") 221), (.str (Str.ofString "plinth.errors") 194)⟩, ⟨PyData.keyHash P (Str.ofString "__firstlineno__"), (.str (Str.ofString "__firstlineno__") 225), (.int (7) 224)⟩, ⟨PyData.keyHash P (Str.ofString "__static_attributes__"), (.str (Str.ofString "__static_attributes__") 226), (.ref 42)⟩, ⟨PyData.keyHash P (Str.ofString "__doc__"), (.str (Str.ofString "__doc__") 227), .none⟩] 2), #[]⟩
def o20_44 (P : Params) : Obj := ⟨(.type "type"), .none, (.cls ⟨(Str.ofString "NotText"), [(.ref 31)], [(.ref 44), (.ref 31), (.type "ValueError"), (.type "Exception"), (.type "BaseException"), (.type "object")], 43, (Str.ofString "NotText"), true, [], [], false, .none, false⟩), #[(.some (.ref 35)), .none, (.some (.str (Str.ofString "NotText") 214)), (.some (.str (Str.ofString "NotText") 222)), (.some (.builtin "ValueError.__new__")), (.some (.bool true))]⟩
def o20_45 (P : Params) : Obj := ⟨(.type "super"), .none, (.fields #[(.ref 44), (.ref 44), (.ref 44)]), #[]⟩
def o20_46 (P : Params) : Obj := ⟨(.type "builtin_function_or_method"), .none, (.fields #[(.builtin "object.__init_subclass__"), (.ref 44)]), #[]⟩
def o20_47 (P : Params) : Obj := ⟨(.type "tuple"), .none, (.seq #[(.ref 31)] 0), #[]⟩
def o20_48 (P : Params) : Obj := ⟨(.type "builtin_function_or_method"), .none, (.fields #[(.builtin "type.__prepare__"), (.type "type")]), #[]⟩
def o20_49 (P : Params) : Obj := ⟨(.type "dict"), .none, (.dict #[⟨PyData.keyHash P (Str.ofString "__module__"), (.str (Str.ofString "__module__") 237), (.str (Str.ofString "plinth.errors") 194)⟩, ⟨PyData.keyHash P (Str.ofString "__qualname__"), (.str (Str.ofString "__qualname__") 239), (.str (Str.ofString "NotNumeral") 238)⟩, ⟨PyData.keyHash P (Str.ofString "__firstlineno__"), (.str (Str.ofString "__firstlineno__") 241), (.int (9) 240)⟩, ⟨PyData.keyHash P (Str.ofString "__static_attributes__"), (.str (Str.ofString "__static_attributes__") 242), (.ref 54)⟩] 4), #[]⟩
def o20_50 (P : Params) : Obj := ⟨(.type "tuple"), .none, (.seq #[] 0), #[]⟩
def o20_51 (P : Params) : Obj := ⟨.none, .none, (.fields #[]), #[]⟩
def o20_52 (P : Params) : Obj := ⟨(.type "code"), .none, (.fields #[(.str (Str.ofString "NotNumeral") 232), (.str (Str.ofString "NotNumeral") 233), (.str (Str.ofString "/claim/cut.py") 234), (.int (9) 0), (.int (0) 0), (.int (0) 0), (.int (0) 0), (.int (0) 0), (.ref 50), (.bool false), (.int (181) 0), (.ref 51), .none, .none, .none, .none, (.int (235) 0), (.int (9) 0), (.str (Str.ofString "/claim/cut.py") 236)]), #[]⟩
def o20_53 (P : Params) : Obj := ⟨(.type "frame"), .none, .plain, #[(.some (.ref 52)), (.some (.ref 3)), (.some (.ref 49)), .none, (.some (.str (Str.ofString "plinth.errors") 194)), .none, (.some (.ref 0))]⟩
def o20_54 (P : Params) : Obj := ⟨(.type "tuple"), .none, (.seq #[] 0), #[]⟩
def o20_55 (P : Params) : Obj := ⟨(.type "dict"), .none, (.dict #[⟨PyData.keyHash P (Str.ofString "__module__"), (.str (Str.ofString "__module__") 237), (.str (Str.ofString "plinth.errors") 194)⟩, ⟨PyData.keyHash P (Str.ofString "__firstlineno__"), (.str (Str.ofString "__firstlineno__") 241), (.int (9) 240)⟩, ⟨PyData.keyHash P (Str.ofString "__static_attributes__"), (.str (Str.ofString "__static_attributes__") 242), (.ref 54)⟩, ⟨PyData.keyHash P (Str.ofString "__doc__"), (.str (Str.ofString "__doc__") 243), .none⟩] 2), #[]⟩
def o20_56 (P : Params) : Obj := ⟨(.type "type"), .none, (.cls ⟨(Str.ofString "NotNumeral"), [(.ref 31)], [(.ref 56), (.ref 31), (.type "ValueError"), (.type "Exception"), (.type "BaseException"), (.type "object")], 55, (Str.ofString "NotNumeral"), true, [], [], false, .none, false⟩), #[(.some (.ref 47)), .none, (.some (.str (Str.ofString "NotNumeral") 230)), (.some (.str (Str.ofString "NotNumeral") 238)), (.some (.builtin "ValueError.__new__")), (.some (.bool true))]⟩
def o20_57 (P : Params) : Obj := ⟨(.type "super"), .none, (.fields #[(.ref 56), (.ref 56), (.ref 56)]), #[]⟩
def o20_58 (P : Params) : Obj := ⟨(.type "builtin_function_or_method"), .none, (.fields #[(.builtin "object.__init_subclass__"), (.ref 56)]), #[]⟩
def o20_59 (P : Params) : Obj := ⟨(.type "tuple"), .none, (.seq #[(.ref 31)] 0), #[]⟩
def o20_60 (P : Params) : Obj := ⟨(.type "builtin_function_or_method"), .none, (.fields #[(.builtin "type.__prepare__"), (.type "type")]), #[]⟩
def o20_61 (P : Params) : Obj := ⟨(.type "dict"), .none, (.dict #[⟨PyData.keyHash P (Str.ofString "__module__"), (.str (Str.ofString "__module__") 253), (.str (Str.ofString "plinth.errors") 194)⟩, ⟨PyData.keyHash P (Str.ofString "__qualname__"), (.str (Str.ofString "__qualname__") 255), (.str (Str.ofString "BadFuel") 254)⟩, ⟨PyData.keyHash P (Str.ofString "__firstlineno__"), (.str (Str.ofString "__firstlineno__") 257), (.int (11) 256)⟩, ⟨PyData.keyHash P (Str.ofString "__static_attributes__"), (.str (Str.ofString "__static_attributes__") 258), (.ref 66)⟩] 4), #[]⟩
def o20_62 (P : Params) : Obj := ⟨(.type "tuple"), .none, (.seq #[] 0), #[]⟩
def o20_63 (P : Params) : Obj := ⟨.none, .none, (.fields #[]), #[]⟩
def o20_64 (P : Params) : Obj := ⟨(.type "code"), .none, (.fields #[(.str (Str.ofString "BadFuel") 248), (.str (Str.ofString "BadFuel") 249), (.str (Str.ofString "/claim/cut.py") 250), (.int (11) 0), (.int (0) 0), (.int (0) 0), (.int (0) 0), (.int (0) 0), (.ref 62), (.bool false), (.int (181) 0), (.ref 63), .none, .none, .none, .none, (.int (251) 0), (.int (11) 0), (.str (Str.ofString "/claim/cut.py") 252)]), #[]⟩
def o20_65 (P : Params) : Obj := ⟨(.type "frame"), .none, .plain, #[(.some (.ref 64)), (.some (.ref 3)), (.some (.ref 61)), .none, (.some (.str (Str.ofString "plinth.errors") 194)), .none, (.some (.ref 0))]⟩
def o20_66 (P : Params) : Obj := ⟨(.type "tuple"), .none, (.seq #[] 0), #[]⟩
def o20_67 (P : Params) : Obj := ⟨(.type "dict"), .none, (.dict #[⟨PyData.keyHash P (Str.ofString "__module__"), (.str (Str.ofString "__module__") 253), (.str (Str.ofString "plinth.errors") 194)⟩, ⟨PyData.keyHash P (Str.ofString "__firstlineno__"), (.str (Str.ofString "__firstlineno__") 257), (.int (11) 256)⟩, ⟨PyData.keyHash P (Str.ofString "__static_attributes__"), (.str (Str.ofString "__static_attributes__") 258), (.ref 66)⟩, ⟨PyData.keyHash P (Str.ofString "__doc__"), (.str (Str.ofString "__doc__") 259), .none⟩] 2), #[]⟩
def o20_68 (P : Params) : Obj := ⟨(.type "type"), .none, (.cls ⟨(Str.ofString "BadFuel"), [(.ref 31)], [(.ref 68), (.ref 31), (.type "ValueError"), (.type "Exception"), (.type "BaseException"), (.type "object")], 67, (Str.ofString "BadFuel"), true, [], [], false, .none, false⟩), #[(.some (.ref 59)), .none, (.some (.str (Str.ofString "BadFuel") 246)), (.some (.str (Str.ofString "BadFuel") 254)), (.some (.builtin "ValueError.__new__")), (.some (.bool true))]⟩
def o20_69 (P : Params) : Obj := ⟨(.type "super"), .none, (.fields #[(.ref 68), (.ref 68), (.ref 68)]), #[]⟩
def o20_70 (P : Params) : Obj := ⟨(.type "builtin_function_or_method"), .none, (.fields #[(.builtin "object.__init_subclass__"), (.ref 68)]), #[]⟩
def o20_71 (P : Params) : Obj := ⟨(.type "tuple"), .none, (.seq #[(.ref 31)] 0), #[]⟩
def o20_72 (P : Params) : Obj := ⟨(.type "builtin_function_or_method"), .none, (.fields #[(.builtin "type.__prepare__"), (.type "type")]), #[]⟩
def o20_73 (P : Params) : Obj := ⟨(.type "dict"), .none, (.dict #[⟨PyData.keyHash P (Str.ofString "__module__"), (.str (Str.ofString "__module__") 269), (.str (Str.ofString "plinth.errors") 194)⟩, ⟨PyData.keyHash P (Str.ofString "__qualname__"), (.str (Str.ofString "__qualname__") 271), (.str (Str.ofString "BadPlan") 270)⟩, ⟨PyData.keyHash P (Str.ofString "__firstlineno__"), (.str (Str.ofString "__firstlineno__") 273), (.int (13) 272)⟩, ⟨PyData.keyHash P (Str.ofString "__init__"), (.str (Str.ofString "__init__") 281), (.ref 84)⟩, ⟨PyData.keyHash P (Str.ofString "__static_attributes__"), (.str (Str.ofString "__static_attributes__") 283), (.ref 85)⟩] 5), #[]⟩
def o20_74 (P : Params) : Obj := ⟨(.type "tuple"), .none, (.seq #[] 0), #[]⟩
def o20_75 (P : Params) : Obj := ⟨.none, .none, (.fields #[(.int (15) 0), (.int (4) 0), (.ref 83)]), #[]⟩
def o20_76 (P : Params) : Obj := ⟨(.type "code"), .none, (.fields #[(.str (Str.ofString "BadPlan") 264), (.str (Str.ofString "BadPlan") 265), (.str (Str.ofString "/claim/cut.py") 266), (.int (13) 0), (.int (0) 0), (.int (0) 0), (.int (0) 0), (.int (0) 0), (.ref 74), (.bool false), (.int (181) 0), (.ref 75), .none, .none, .none, .none, (.int (267) 0), (.int (13) 0), (.str (Str.ofString "/claim/cut.py") 268)]), #[]⟩
def o20_77 (P : Params) : Obj := ⟨(.type "frame"), .none, .plain, #[(.some (.ref 76)), (.some (.ref 3)), (.some (.ref 73)), .none, (.some (.str (Str.ofString "plinth.errors") 194)), .none, (.some (.ref 0))]⟩
def o20_78 (P : Params) : Obj := ⟨(.type "tuple"), .none, (.seq #[] 0), #[]⟩
def o20_79 (P : Params) : Obj := ⟨.none, .none, (.fields #[]), #[]⟩
def o20_80 (P : Params) : Obj := ⟨(.type "tuple"), .none, (.seq #[(.str (Str.ofString "self") 277), (.str (Str.ofString "name") 278)] 0), #[]⟩
def o20_81 (P : Params) : Obj := ⟨(.type "tuple"), .none, (.seq #[] 0), #[]⟩
def o20_82 (P : Params) : Obj := ⟨.none, .none, (.func ⟨(Str.ofString "__init__"), (Str.ofString "BadPlan.__init__"), defArgs (inClass (top 6) 0), .stmts (defBody (inClass (top 6) 0)), defScope (inClass (top 6) 0), 0, [], .none, .none, .none, .none, .none, .none, .none, 0⟩), #[]⟩
def o20_83 (P : Params) : Obj := ⟨(.type "code"), .none, (.fields #[(.str (Str.ofString "__init__") 274), (.str (Str.ofString "BadPlan.__init__") 275), (.str (Str.ofString "/claim/cut.py") 276), (.int (15) 0), (.int (2) 0), (.int (0) 0), (.int (0) 0), (.int (3) 0), (.ref 78), (.bool true), (.int (181) 0), (.ref 79), .none, (.ref 80), (.ref 81), (.ref 82), (.int (279) 0), (.int (15) 0), (.str (Str.ofString "/claim/cut.py") 280)]), #[]⟩
def o20_84 (P : Params) : Obj := ⟨(.type "function"), .none, (.func ⟨(Str.ofString "__init__"), (Str.ofString "BadPlan.__init__"), defArgs (inClass (top 6) 0), .stmts (defBody (inClass (top 6) 0)), defScope (inClass (top 6) 0), 3, [], .none, .none, .none, (.str (Str.ofString "plinth.errors") 194), .none, (.ref 83), .none, 0⟩), #[]⟩
def o20_85 (P : Params) : Obj := ⟨(.type "tuple"), .none, (.seq #[(.str (Str.ofString "name") 282)] 0), #[]⟩
def o20_86 (P : Params) : Obj := ⟨(.type "dict"), .none, (.dict #[⟨PyData.keyHash P (Str.ofString "__module__"), (.str (Str.ofString "__module__") 269), (.str (Str.ofString "plinth.errors") 194)⟩, ⟨PyData.keyHash P (Str.ofString "__firstlineno__"), (.str (Str.ofString "__firstlineno__") 273), (.int (13) 272)⟩, ⟨PyData.keyHash P (Str.ofString "__init__"), (.str (Str.ofString "__init__") 281), (.ref 84)⟩, ⟨PyData.keyHash P (Str.ofString "__static_attributes__"), (.str (Str.ofString "__static_attributes__") 283), (.ref 85)⟩, ⟨PyData.keyHash P (Str.ofString "__doc__"), (.str (Str.ofString "__doc__") 284), .none⟩] 2), #[]⟩
def o20_87 (P : Params) : Obj := ⟨(.type "type"), .none, (.cls ⟨(Str.ofString "BadPlan"), [(.ref 31)], [(.ref 87), (.ref 31), (.type "ValueError"), (.type "Exception"), (.type "BaseException"), (.type "object")], 86, (Str.ofString "BadPlan"), true, [], [], false, .none, false⟩), #[(.some (.ref 71)), .none, (.some (.str (Str.ofString "BadPlan") 262)), (.some (.str (Str.ofString "BadPlan") 270)), (.some (.builtin "ValueError.__new__")), (.some (.bool true))]⟩
def o20_88 (P : Params) : Obj := ⟨(.type "super"), .none, (.fields #[(.ref 87), (.ref 87), (.ref 87)]), #[]⟩
def o20_89 (P : Params) : Obj := ⟨(.type "builtin_function_or_method"), .none, (.fields #[(.builtin "object.__init_subclass__"), (.ref 87)]), #[]⟩
def o20_90 (P : Params) : Obj := ⟨(.type "tuple"), .none, (.seq #[(.ref 31)] 0), #[]⟩
def o20_91 (P : Params) : Obj := ⟨(.type "builtin_function_or_method"), .none, (.fields #[(.builtin "type.__prepare__"), (.type "type")]), #[]⟩
def o20_92 (P : Params) : Obj := ⟨(.type "dict"), .none, (.dict #[⟨PyData.keyHash P (Str.ofString "__module__"), (.str (Str.ofString "__module__") 294), (.str (Str.ofString "plinth.errors") 194)⟩, ⟨PyData.keyHash P (Str.ofString "__qualname__"), (.str (Str.ofString "__qualname__") 296), (.str (Str.ofString "BadClaim") 295)⟩, ⟨PyData.keyHash P (Str.ofString "__firstlineno__"), (.str (Str.ofString "__firstlineno__") 298), (.int (18) 297)⟩, ⟨PyData.keyHash P (Str.ofString "__static_attributes__"), (.str (Str.ofString "__static_attributes__") 299), (.ref 97)⟩] 4), #[]⟩
def o20_93 (P : Params) : Obj := ⟨(.type "tuple"), .none, (.seq #[] 0), #[]⟩
def o20_94 (P : Params) : Obj := ⟨.none, .none, (.fields #[]), #[]⟩
def o20_95 (P : Params) : Obj := ⟨(.type "code"), .none, (.fields #[(.str (Str.ofString "BadClaim") 289), (.str (Str.ofString "BadClaim") 290), (.str (Str.ofString "/claim/cut.py") 291), (.int (18) 0), (.int (0) 0), (.int (0) 0), (.int (0) 0), (.int (0) 0), (.ref 93), (.bool false), (.int (181) 0), (.ref 94), .none, .none, .none, .none, (.int (292) 0), (.int (18) 0), (.str (Str.ofString "/claim/cut.py") 293)]), #[]⟩
def o20_96 (P : Params) : Obj := ⟨(.type "frame"), .none, .plain, #[(.some (.ref 95)), (.some (.ref 3)), (.some (.ref 92)), .none, (.some (.str (Str.ofString "plinth.errors") 194)), .none, (.some (.ref 0))]⟩
def o20_97 (P : Params) : Obj := ⟨(.type "tuple"), .none, (.seq #[] 0), #[]⟩
def o20_98 (P : Params) : Obj := ⟨(.type "dict"), .none, (.dict #[⟨PyData.keyHash P (Str.ofString "__module__"), (.str (Str.ofString "__module__") 294), (.str (Str.ofString "plinth.errors") 194)⟩, ⟨PyData.keyHash P (Str.ofString "__firstlineno__"), (.str (Str.ofString "__firstlineno__") 298), (.int (18) 297)⟩, ⟨PyData.keyHash P (Str.ofString "__static_attributes__"), (.str (Str.ofString "__static_attributes__") 299), (.ref 97)⟩, ⟨PyData.keyHash P (Str.ofString "__doc__"), (.str (Str.ofString "__doc__") 300), .none⟩] 2), #[]⟩
def o20_99 (P : Params) : Obj := ⟨(.type "type"), .none, (.cls ⟨(Str.ofString "BadClaim"), [(.ref 31)], [(.ref 99), (.ref 31), (.type "ValueError"), (.type "Exception"), (.type "BaseException"), (.type "object")], 98, (Str.ofString "BadClaim"), true, [], [], false, .none, false⟩), #[(.some (.ref 90)), .none, (.some (.str (Str.ofString "BadClaim") 287)), (.some (.str (Str.ofString "BadClaim") 295)), (.some (.builtin "ValueError.__new__")), (.some (.bool true))]⟩
def o20_100 (P : Params) : Obj := ⟨(.type "super"), .none, (.fields #[(.ref 99), (.ref 99), (.ref 99)]), #[]⟩
def o20_101 (P : Params) : Obj := ⟨(.type "builtin_function_or_method"), .none, (.fields #[(.builtin "object.__init_subclass__"), (.ref 99)]), #[]⟩
def o20_102 (P : Params) : Obj := ⟨(.type "tuple"), .none, (.seq #[(.ref 31)] 0), #[]⟩
def o20_103 (P : Params) : Obj := ⟨(.type "builtin_function_or_method"), .none, (.fields #[(.builtin "type.__prepare__"), (.type "type")]), #[]⟩
def o20_104 (P : Params) : Obj := ⟨(.type "dict"), .none, (.dict #[⟨PyData.keyHash P (Str.ofString "__module__"), (.str (Str.ofString "__module__") 310), (.str (Str.ofString "plinth.errors") 194)⟩, ⟨PyData.keyHash P (Str.ofString "__qualname__"), (.str (Str.ofString "__qualname__") 312), (.str (Str.ofString "BadTrap") 311)⟩, ⟨PyData.keyHash P (Str.ofString "__firstlineno__"), (.str (Str.ofString "__firstlineno__") 314), (.int (20) 313)⟩, ⟨PyData.keyHash P (Str.ofString "__static_attributes__"), (.str (Str.ofString "__static_attributes__") 315), (.ref 109)⟩] 4), #[]⟩
def o20_105 (P : Params) : Obj := ⟨(.type "tuple"), .none, (.seq #[] 0), #[]⟩
def o20_106 (P : Params) : Obj := ⟨.none, .none, (.fields #[]), #[]⟩
def o20_107 (P : Params) : Obj := ⟨(.type "code"), .none, (.fields #[(.str (Str.ofString "BadTrap") 305), (.str (Str.ofString "BadTrap") 306), (.str (Str.ofString "/claim/cut.py") 307), (.int (20) 0), (.int (0) 0), (.int (0) 0), (.int (0) 0), (.int (0) 0), (.ref 105), (.bool false), (.int (181) 0), (.ref 106), .none, .none, .none, .none, (.int (308) 0), (.int (20) 0), (.str (Str.ofString "/claim/cut.py") 309)]), #[]⟩
def o20_108 (P : Params) : Obj := ⟨(.type "frame"), .none, .plain, #[(.some (.ref 107)), (.some (.ref 3)), (.some (.ref 104)), .none, (.some (.str (Str.ofString "plinth.errors") 194)), .none, (.some (.ref 0))]⟩
def o20_109 (P : Params) : Obj := ⟨(.type "tuple"), .none, (.seq #[] 0), #[]⟩
def o20_110 (P : Params) : Obj := ⟨(.type "dict"), .none, (.dict #[⟨PyData.keyHash P (Str.ofString "__module__"), (.str (Str.ofString "__module__") 310), (.str (Str.ofString "plinth.errors") 194)⟩, ⟨PyData.keyHash P (Str.ofString "__firstlineno__"), (.str (Str.ofString "__firstlineno__") 314), (.int (20) 313)⟩, ⟨PyData.keyHash P (Str.ofString "__static_attributes__"), (.str (Str.ofString "__static_attributes__") 315), (.ref 109)⟩, ⟨PyData.keyHash P (Str.ofString "__doc__"), (.str (Str.ofString "__doc__") 316), .none⟩] 2), #[]⟩
def o20_111 (P : Params) : Obj := ⟨(.type "type"), .none, (.cls ⟨(Str.ofString "BadTrap"), [(.ref 31)], [(.ref 111), (.ref 31), (.type "ValueError"), (.type "Exception"), (.type "BaseException"), (.type "object")], 110, (Str.ofString "BadTrap"), true, [], [], false, .none, false⟩), #[(.some (.ref 102)), .none, (.some (.str (Str.ofString "BadTrap") 303)), (.some (.str (Str.ofString "BadTrap") 311)), (.some (.builtin "ValueError.__new__")), (.some (.bool true))]⟩
def o20_112 (P : Params) : Obj := ⟨(.type "super"), .none, (.fields #[(.ref 111), (.ref 111), (.ref 111)]), #[]⟩
def o20_113 (P : Params) : Obj := ⟨(.type "builtin_function_or_method"), .none, (.fields #[(.builtin "object.__init_subclass__"), (.ref 111)]), #[]⟩
def o20_114 (P : Params) : Obj := ⟨(.type "tuple"), .none, (.seq #[(.ref 31)] 0), #[]⟩
def o20_115 (P : Params) : Obj := ⟨(.type "builtin_function_or_method"), .none, (.fields #[(.builtin "type.__prepare__"), (.type "type")]), #[]⟩
def o20_116 (P : Params) : Obj := ⟨(.type "dict"), .none, (.dict #[⟨PyData.keyHash P (Str.ofString "__module__"), (.str (Str.ofString "__module__") 326), (.str (Str.ofString "plinth.errors") 194)⟩, ⟨PyData.keyHash P (Str.ofString "__qualname__"), (.str (Str.ofString "__qualname__") 328), (.str (Str.ofString "NotPlantable") 327)⟩, ⟨PyData.keyHash P (Str.ofString "__firstlineno__"), (.str (Str.ofString "__firstlineno__") 330), (.int (22) 329)⟩, ⟨PyData.keyHash P (Str.ofString "__static_attributes__"), (.str (Str.ofString "__static_attributes__") 331), (.ref 121)⟩] 4), #[]⟩
def o20_117 (P : Params) : Obj := ⟨(.type "tuple"), .none, (.seq #[] 0), #[]⟩
def o20_118 (P : Params) : Obj := ⟨.none, .none, (.fields #[]), #[]⟩
def o20_119 (P : Params) : Obj := ⟨(.type "code"), .none, (.fields #[(.str (Str.ofString "NotPlantable") 321), (.str (Str.ofString "NotPlantable") 322), (.str (Str.ofString "/claim/cut.py") 323), (.int (22) 0), (.int (0) 0), (.int (0) 0), (.int (0) 0), (.int (0) 0), (.ref 117), (.bool false), (.int (181) 0), (.ref 118), .none, .none, .none, .none, (.int (324) 0), (.int (22) 0), (.str (Str.ofString "/claim/cut.py") 325)]), #[]⟩
def o20_120 (P : Params) : Obj := ⟨(.type "frame"), .none, .plain, #[(.some (.ref 119)), (.some (.ref 3)), (.some (.ref 116)), .none, (.some (.str (Str.ofString "plinth.errors") 194)), .none, (.some (.ref 0))]⟩
def o20_121 (P : Params) : Obj := ⟨(.type "tuple"), .none, (.seq #[] 0), #[]⟩
def o20_122 (P : Params) : Obj := ⟨(.type "dict"), .none, (.dict #[⟨PyData.keyHash P (Str.ofString "__module__"), (.str (Str.ofString "__module__") 326), (.str (Str.ofString "plinth.errors") 194)⟩, ⟨PyData.keyHash P (Str.ofString "__firstlineno__"), (.str (Str.ofString "__firstlineno__") 330), (.int (22) 329)⟩, ⟨PyData.keyHash P (Str.ofString "__static_attributes__"), (.str (Str.ofString "__static_attributes__") 331), (.ref 121)⟩, ⟨PyData.keyHash P (Str.ofString "__doc__"), (.str (Str.ofString "__doc__") 332), .none⟩] 2), #[]⟩
def o20_123 (P : Params) : Obj := ⟨(.type "type"), .none, (.cls ⟨(Str.ofString "NotPlantable"), [(.ref 31)], [(.ref 123), (.ref 31), (.type "ValueError"), (.type "Exception"), (.type "BaseException"), (.type "object")], 122, (Str.ofString "NotPlantable"), true, [], [], false, .none, false⟩), #[(.some (.ref 114)), .none, (.some (.str (Str.ofString "NotPlantable") 319)), (.some (.str (Str.ofString "NotPlantable") 327)), (.some (.builtin "ValueError.__new__")), (.some (.bool true))]⟩
def o20_124 (P : Params) : Obj := ⟨(.type "super"), .none, (.fields #[(.ref 123), (.ref 123), (.ref 123)]), #[]⟩
def o20_125 (P : Params) : Obj := ⟨(.type "builtin_function_or_method"), .none, (.fields #[(.builtin "object.__init_subclass__"), (.ref 123)]), #[]⟩
def o20_126 (P : Params) : Obj := ⟨(.type "tuple"), .none, (.seq #[(.ref 31)] 0), #[]⟩
def o20_127 (P : Params) : Obj := ⟨(.type "builtin_function_or_method"), .none, (.fields #[(.builtin "type.__prepare__"), (.type "type")]), #[]⟩
def o20_128 (P : Params) : Obj := ⟨(.type "dict"), .none, (.dict #[⟨PyData.keyHash P (Str.ofString "__module__"), (.str (Str.ofString "__module__") 342), (.str (Str.ofString "plinth.errors") 194)⟩, ⟨PyData.keyHash P (Str.ofString "__qualname__"), (.str (Str.ofString "__qualname__") 344), (.str (Str.ofString "BadName") 343)⟩, ⟨PyData.keyHash P (Str.ofString "__firstlineno__"), (.str (Str.ofString "__firstlineno__") 346), (.int (24) 345)⟩, ⟨PyData.keyHash P (Str.ofString "__static_attributes__"), (.str (Str.ofString "__static_attributes__") 347), (.ref 133)⟩] 4), #[]⟩
def o20_129 (P : Params) : Obj := ⟨(.type "tuple"), .none, (.seq #[] 0), #[]⟩
def o20_130 (P : Params) : Obj := ⟨.none, .none, (.fields #[]), #[]⟩
def o20_131 (P : Params) : Obj := ⟨(.type "code"), .none, (.fields #[(.str (Str.ofString "BadName") 337), (.str (Str.ofString "BadName") 338), (.str (Str.ofString "/claim/cut.py") 339), (.int (24) 0), (.int (0) 0), (.int (0) 0), (.int (0) 0), (.int (0) 0), (.ref 129), (.bool false), (.int (181) 0), (.ref 130), .none, .none, .none, .none, (.int (340) 0), (.int (24) 0), (.str (Str.ofString "/claim/cut.py") 341)]), #[]⟩
def o20_132 (P : Params) : Obj := ⟨(.type "frame"), .none, .plain, #[(.some (.ref 131)), (.some (.ref 3)), (.some (.ref 128)), .none, (.some (.str (Str.ofString "plinth.errors") 194)), .none, (.some (.ref 0))]⟩
def o20_133 (P : Params) : Obj := ⟨(.type "tuple"), .none, (.seq #[] 0), #[]⟩
def o20_134 (P : Params) : Obj := ⟨(.type "dict"), .none, (.dict #[⟨PyData.keyHash P (Str.ofString "__module__"), (.str (Str.ofString "__module__") 342), (.str (Str.ofString "plinth.errors") 194)⟩, ⟨PyData.keyHash P (Str.ofString "__firstlineno__"), (.str (Str.ofString "__firstlineno__") 346), (.int (24) 345)⟩, ⟨PyData.keyHash P (Str.ofString "__static_attributes__"), (.str (Str.ofString "__static_attributes__") 347), (.ref 133)⟩, ⟨PyData.keyHash P (Str.ofString "__doc__"), (.str (Str.ofString "__doc__") 348), .none⟩] 2), #[]⟩
def o20_135 (P : Params) : Obj := ⟨(.type "type"), .none, (.cls ⟨(Str.ofString "BadName"), [(.ref 31)], [(.ref 135), (.ref 31), (.type "ValueError"), (.type "Exception"), (.type "BaseException"), (.type "object")], 134, (Str.ofString "BadName"), true, [], [], false, .none, false⟩), #[(.some (.ref 126)), .none, (.some (.str (Str.ofString "BadName") 335)), (.some (.str (Str.ofString "BadName") 343)), (.some (.builtin "ValueError.__new__")), (.some (.bool true))]⟩
def o20_136 (P : Params) : Obj := ⟨(.type "super"), .none, (.fields #[(.ref 135), (.ref 135), (.ref 135)]), #[]⟩
def o20_137 (P : Params) : Obj := ⟨(.type "builtin_function_or_method"), .none, (.fields #[(.builtin "object.__init_subclass__"), (.ref 135)]), #[]⟩
def o20_138 (P : Params) : Obj := ⟨(.type "tuple"), .none, (.seq #[(.ref 31)] 0), #[]⟩
def o20_139 (P : Params) : Obj := ⟨(.type "builtin_function_or_method"), .none, (.fields #[(.builtin "type.__prepare__"), (.type "type")]), #[]⟩
def o20_140 (P : Params) : Obj := ⟨(.type "dict"), .none, (.dict #[⟨PyData.keyHash P (Str.ofString "__module__"), (.str (Str.ofString "__module__") 358), (.str (Str.ofString "plinth.errors") 194)⟩, ⟨PyData.keyHash P (Str.ofString "__qualname__"), (.str (Str.ofString "__qualname__") 360), (.str (Str.ofString "BadKind") 359)⟩, ⟨PyData.keyHash P (Str.ofString "__firstlineno__"), (.str (Str.ofString "__firstlineno__") 362), (.int (26) 361)⟩, ⟨PyData.keyHash P (Str.ofString "__static_attributes__"), (.str (Str.ofString "__static_attributes__") 363), (.ref 145)⟩] 4), #[]⟩
def o20_141 (P : Params) : Obj := ⟨(.type "tuple"), .none, (.seq #[] 0), #[]⟩
def o20_142 (P : Params) : Obj := ⟨.none, .none, (.fields #[]), #[]⟩
def o20_143 (P : Params) : Obj := ⟨(.type "code"), .none, (.fields #[(.str (Str.ofString "BadKind") 353), (.str (Str.ofString "BadKind") 354), (.str (Str.ofString "/claim/cut.py") 355), (.int (26) 0), (.int (0) 0), (.int (0) 0), (.int (0) 0), (.int (0) 0), (.ref 141), (.bool false), (.int (181) 0), (.ref 142), .none, .none, .none, .none, (.int (356) 0), (.int (26) 0), (.str (Str.ofString "/claim/cut.py") 357)]), #[]⟩
def o20_144 (P : Params) : Obj := ⟨(.type "frame"), .none, .plain, #[(.some (.ref 143)), (.some (.ref 3)), (.some (.ref 140)), .none, (.some (.str (Str.ofString "plinth.errors") 194)), .none, (.some (.ref 0))]⟩
def o20_145 (P : Params) : Obj := ⟨(.type "tuple"), .none, (.seq #[] 0), #[]⟩
def o20_146 (P : Params) : Obj := ⟨(.type "dict"), .none, (.dict #[⟨PyData.keyHash P (Str.ofString "__module__"), (.str (Str.ofString "__module__") 358), (.str (Str.ofString "plinth.errors") 194)⟩, ⟨PyData.keyHash P (Str.ofString "__firstlineno__"), (.str (Str.ofString "__firstlineno__") 362), (.int (26) 361)⟩, ⟨PyData.keyHash P (Str.ofString "__static_attributes__"), (.str (Str.ofString "__static_attributes__") 363), (.ref 145)⟩, ⟨PyData.keyHash P (Str.ofString "__doc__"), (.str (Str.ofString "__doc__") 364), .none⟩] 2), #[]⟩
def o20_147 (P : Params) : Obj := ⟨(.type "type"), .none, (.cls ⟨(Str.ofString "BadKind"), [(.ref 31)], [(.ref 147), (.ref 31), (.type "ValueError"), (.type "Exception"), (.type "BaseException"), (.type "object")], 146, (Str.ofString "BadKind"), true, [], [], false, .none, false⟩), #[(.some (.ref 138)), .none, (.some (.str (Str.ofString "BadKind") 351)), (.some (.str (Str.ofString "BadKind") 359)), (.some (.builtin "ValueError.__new__")), (.some (.bool true))]⟩
def o20_148 (P : Params) : Obj := ⟨(.type "super"), .none, (.fields #[(.ref 147), (.ref 147), (.ref 147)]), #[]⟩
def o20_149 (P : Params) : Obj := ⟨(.type "builtin_function_or_method"), .none, (.fields #[(.builtin "object.__init_subclass__"), (.ref 147)]), #[]⟩
def o20_150 (P : Params) : Obj := ⟨(.type "tuple"), .none, (.seq #[(.ref 31)] 0), #[]⟩
def o20_151 (P : Params) : Obj := ⟨(.type "builtin_function_or_method"), .none, (.fields #[(.builtin "type.__prepare__"), (.type "type")]), #[]⟩
def o20_152 (P : Params) : Obj := ⟨(.type "dict"), .none, (.dict #[⟨PyData.keyHash P (Str.ofString "__module__"), (.str (Str.ofString "__module__") 374), (.str (Str.ofString "plinth.errors") 194)⟩, ⟨PyData.keyHash P (Str.ofString "__qualname__"), (.str (Str.ofString "__qualname__") 376), (.str (Str.ofString "NoEntry") 375)⟩, ⟨PyData.keyHash P (Str.ofString "__firstlineno__"), (.str (Str.ofString "__firstlineno__") 378), (.int (28) 377)⟩, ⟨PyData.keyHash P (Str.ofString "__init__"), (.str (Str.ofString "__init__") 386), (.ref 163)⟩, ⟨PyData.keyHash P (Str.ofString "__static_attributes__"), (.str (Str.ofString "__static_attributes__") 388), (.ref 164)⟩] 5), #[]⟩
def o20_153 (P : Params) : Obj := ⟨(.type "tuple"), .none, (.seq #[] 0), #[]⟩
def o20_154 (P : Params) : Obj := ⟨.none, .none, (.fields #[(.int (30) 0), (.int (4) 0), (.ref 162)]), #[]⟩
def o20_155 (P : Params) : Obj := ⟨(.type "code"), .none, (.fields #[(.str (Str.ofString "NoEntry") 369), (.str (Str.ofString "NoEntry") 370), (.str (Str.ofString "/claim/cut.py") 371), (.int (28) 0), (.int (0) 0), (.int (0) 0), (.int (0) 0), (.int (0) 0), (.ref 153), (.bool false), (.int (181) 0), (.ref 154), .none, .none, .none, .none, (.int (372) 0), (.int (28) 0), (.str (Str.ofString "/claim/cut.py") 373)]), #[]⟩
def o20_156 (P : Params) : Obj := ⟨(.type "frame"), .none, .plain, #[(.some (.ref 155)), (.some (.ref 3)), (.some (.ref 152)), .none, (.some (.str (Str.ofString "plinth.errors") 194)), .none, (.some (.ref 0))]⟩
def o20_157 (P : Params) : Obj := ⟨(.type "tuple"), .none, (.seq #[] 0), #[]⟩
def o20_158 (P : Params) : Obj := ⟨.none, .none, (.fields #[]), #[]⟩
def o20_159 (P : Params) : Obj := ⟨(.type "tuple"), .none, (.seq #[(.str (Str.ofString "self") 382), (.str (Str.ofString "name") 383)] 0), #[]⟩
def o20_160 (P : Params) : Obj := ⟨(.type "tuple"), .none, (.seq #[] 0), #[]⟩
def o20_161 (P : Params) : Obj := ⟨.none, .none, (.func ⟨(Str.ofString "__init__"), (Str.ofString "NoEntry.__init__"), defArgs (inClass (top 12) 0), .stmts (defBody (inClass (top 12) 0)), defScope (inClass (top 12) 0), 0, [], .none, .none, .none, .none, .none, .none, .none, 0⟩), #[]⟩
def o20_162 (P : Params) : Obj := ⟨(.type "code"), .none, (.fields #[(.str (Str.ofString "__init__") 379), (.str (Str.ofString "NoEntry.__init__") 380), (.str (Str.ofString "/claim/cut.py") 381), (.int (30) 0), (.int (2) 0), (.int (0) 0), (.int (0) 0), (.int (3) 0), (.ref 157), (.bool true), (.int (181) 0), (.ref 158), .none, (.ref 159), (.ref 160), (.ref 161), (.int (384) 0), (.int (30) 0), (.str (Str.ofString "/claim/cut.py") 385)]), #[]⟩
def o20_163 (P : Params) : Obj := ⟨(.type "function"), .none, (.func ⟨(Str.ofString "__init__"), (Str.ofString "NoEntry.__init__"), defArgs (inClass (top 12) 0), .stmts (defBody (inClass (top 12) 0)), defScope (inClass (top 12) 0), 3, [], .none, .none, .none, (.str (Str.ofString "plinth.errors") 194), .none, (.ref 162), .none, 0⟩), #[]⟩
def o20_164 (P : Params) : Obj := ⟨(.type "tuple"), .none, (.seq #[(.str (Str.ofString "name") 387)] 0), #[]⟩
def o20_165 (P : Params) : Obj := ⟨(.type "dict"), .none, (.dict #[⟨PyData.keyHash P (Str.ofString "__module__"), (.str (Str.ofString "__module__") 374), (.str (Str.ofString "plinth.errors") 194)⟩, ⟨PyData.keyHash P (Str.ofString "__firstlineno__"), (.str (Str.ofString "__firstlineno__") 378), (.int (28) 377)⟩, ⟨PyData.keyHash P (Str.ofString "__init__"), (.str (Str.ofString "__init__") 386), (.ref 163)⟩, ⟨PyData.keyHash P (Str.ofString "__static_attributes__"), (.str (Str.ofString "__static_attributes__") 388), (.ref 164)⟩, ⟨PyData.keyHash P (Str.ofString "__doc__"), (.str (Str.ofString "__doc__") 389), .none⟩] 2), #[]⟩
def o20_166 (P : Params) : Obj := ⟨(.type "type"), .none, (.cls ⟨(Str.ofString "NoEntry"), [(.ref 31)], [(.ref 166), (.ref 31), (.type "ValueError"), (.type "Exception"), (.type "BaseException"), (.type "object")], 165, (Str.ofString "NoEntry"), true, [], [], false, .none, false⟩), #[(.some (.ref 150)), .none, (.some (.str (Str.ofString "NoEntry") 367)), (.some (.str (Str.ofString "NoEntry") 375)), (.some (.builtin "ValueError.__new__")), (.some (.bool true))]⟩
def o20_167 (P : Params) : Obj := ⟨(.type "super"), .none, (.fields #[(.ref 166), (.ref 166), (.ref 166)]), #[]⟩
def o20_168 (P : Params) : Obj := ⟨(.type "builtin_function_or_method"), .none, (.fields #[(.builtin "object.__init_subclass__"), (.ref 166)]), #[]⟩
def o20_169 (P : Params) : Obj := ⟨(.type "tuple"), .none, (.seq #[(.ref 31)] 0), #[]⟩
def o20_170 (P : Params) : Obj := ⟨(.type "builtin_function_or_method"), .none, (.fields #[(.builtin "type.__prepare__"), (.type "type")]), #[]⟩
def o20_171 (P : Params) : Obj := ⟨(.type "dict"), .none, (.dict #[⟨PyData.keyHash P (Str.ofString "__module__"), (.str (Str.ofString "__module__") 399), (.str (Str.ofString "plinth.errors") 194)⟩, ⟨PyData.keyHash P (Str.ofString "__qualname__"), (.str (Str.ofString "__qualname__") 401), (.str (Str.ofString "OutOfRange") 400)⟩, ⟨PyData.keyHash P (Str.ofString "__firstlineno__"), (.str (Str.ofString "__firstlineno__") 403), (.int (33) 402)⟩, ⟨PyData.keyHash P (Str.ofString "__static_attributes__"), (.str (Str.ofString "__static_attributes__") 404), (.ref 176)⟩] 4), #[]⟩
def o20_172 (P : Params) : Obj := ⟨(.type "tuple"), .none, (.seq #[] 0), #[]⟩
def o20_173 (P : Params) : Obj := ⟨.none, .none, (.fields #[]), #[]⟩
def o20_174 (P : Params) : Obj := ⟨(.type "code"), .none, (.fields #[(.str (Str.ofString "OutOfRange") 394), (.str (Str.ofString "OutOfRange") 395), (.str (Str.ofString "/claim/cut.py") 396), (.int (33) 0), (.int (0) 0), (.int (0) 0), (.int (0) 0), (.int (0) 0), (.ref 172), (.bool false), (.int (181) 0), (.ref 173), .none, .none, .none, .none, (.int (397) 0), (.int (33) 0), (.str (Str.ofString "/claim/cut.py") 398)]), #[]⟩
def o20_175 (P : Params) : Obj := ⟨(.type "frame"), .none, .plain, #[(.some (.ref 174)), (.some (.ref 3)), (.some (.ref 171)), .none, (.some (.str (Str.ofString "plinth.errors") 194)), .none, (.some (.ref 0))]⟩
def o20_176 (P : Params) : Obj := ⟨(.type "tuple"), .none, (.seq #[] 0), #[]⟩
def o20_177 (P : Params) : Obj := ⟨(.type "dict"), .none, (.dict #[⟨PyData.keyHash P (Str.ofString "__module__"), (.str (Str.ofString "__module__") 399), (.str (Str.ofString "plinth.errors") 194)⟩, ⟨PyData.keyHash P (Str.ofString "__firstlineno__"), (.str (Str.ofString "__firstlineno__") 403), (.int (33) 402)⟩, ⟨PyData.keyHash P (Str.ofString "__static_attributes__"), (.str (Str.ofString "__static_attributes__") 404), (.ref 176)⟩, ⟨PyData.keyHash P (Str.ofString "__doc__"), (.str (Str.ofString "__doc__") 405), .none⟩] 2), #[]⟩
def o20_178 (P : Params) : Obj := ⟨(.type "type"), .none, (.cls ⟨(Str.ofString "OutOfRange"), [(.ref 31)], [(.ref 178), (.ref 31), (.type "ValueError"), (.type "Exception"), (.type "BaseException"), (.type "object")], 177, (Str.ofString "OutOfRange"), true, [], [], false, .none, false⟩), #[(.some (.ref 169)), .none, (.some (.str (Str.ofString "OutOfRange") 392)), (.some (.str (Str.ofString "OutOfRange") 400)), (.some (.builtin "ValueError.__new__")), (.some (.bool true))]⟩
def o20_179 (P : Params) : Obj := ⟨(.type "super"), .none, (.fields #[(.ref 178), (.ref 178), (.ref 178)]), #[]⟩
def o20_180 (P : Params) : Obj := ⟨(.type "builtin_function_or_method"), .none, (.fields #[(.builtin "object.__init_subclass__"), (.ref 178)]), #[]⟩
def o20_181 (P : Params) : Obj := ⟨(.type "tuple"), .none, (.seq #[(.ref 31)] 0), #[]⟩
def o20_182 (P : Params) : Obj := ⟨(.type "builtin_function_or_method"), .none, (.fields #[(.builtin "type.__prepare__"), (.type "type")]), #[]⟩
def o20_183 (P : Params) : Obj := ⟨(.type "dict"), .none, (.dict #[⟨PyData.keyHash P (Str.ofString "__module__"), (.str (Str.ofString "__module__") 415), (.str (Str.ofString "plinth.errors") 194)⟩, ⟨PyData.keyHash P (Str.ofString "__qualname__"), (.str (Str.ofString "__qualname__") 417), (.str (Str.ofString "BadJournal") 416)⟩, ⟨PyData.keyHash P (Str.ofString "__firstlineno__"), (.str (Str.ofString "__firstlineno__") 419), (.int (35) 418)⟩, ⟨PyData.keyHash P (Str.ofString "__init__"), (.str (Str.ofString "__init__") 427), (.ref 194)⟩, ⟨PyData.keyHash P (Str.ofString "__static_attributes__"), (.str (Str.ofString "__static_attributes__") 429), (.ref 195)⟩] 5), #[]⟩
def o20_184 (P : Params) : Obj := ⟨(.type "tuple"), .none, (.seq #[] 0), #[]⟩
def o20_185 (P : Params) : Obj := ⟨.none, .none, (.fields #[(.int (37) 0), (.int (4) 0), (.ref 193)]), #[]⟩
def o20_186 (P : Params) : Obj := ⟨(.type "code"), .none, (.fields #[(.str (Str.ofString "BadJournal") 410), (.str (Str.ofString "BadJournal") 411), (.str (Str.ofString "/claim/cut.py") 412), (.int (35) 0), (.int (0) 0), (.int (0) 0), (.int (0) 0), (.int (0) 0), (.ref 184), (.bool false), (.int (181) 0), (.ref 185), .none, .none, .none, .none, (.int (413) 0), (.int (35) 0), (.str (Str.ofString "/claim/cut.py") 414)]), #[]⟩
def o20_187 (P : Params) : Obj := ⟨(.type "frame"), .none, .plain, #[(.some (.ref 186)), (.some (.ref 3)), (.some (.ref 183)), .none, (.some (.str (Str.ofString "plinth.errors") 194)), .none, (.some (.ref 0))]⟩
def o20_188 (P : Params) : Obj := ⟨(.type "tuple"), .none, (.seq #[] 0), #[]⟩
def o20_189 (P : Params) : Obj := ⟨.none, .none, (.fields #[]), #[]⟩
def o20_190 (P : Params) : Obj := ⟨(.type "tuple"), .none, (.seq #[(.str (Str.ofString "self") 423), (.str (Str.ofString "row") 424)] 0), #[]⟩
def o20_191 (P : Params) : Obj := ⟨(.type "tuple"), .none, (.seq #[] 0), #[]⟩
def o20_192 (P : Params) : Obj := ⟨.none, .none, (.func ⟨(Str.ofString "__init__"), (Str.ofString "BadJournal.__init__"), defArgs (inClass (top 14) 0), .stmts (defBody (inClass (top 14) 0)), defScope (inClass (top 14) 0), 0, [], .none, .none, .none, .none, .none, .none, .none, 0⟩), #[]⟩
def o20_193 (P : Params) : Obj := ⟨(.type "code"), .none, (.fields #[(.str (Str.ofString "__init__") 420), (.str (Str.ofString "BadJournal.__init__") 421), (.str (Str.ofString "/claim/cut.py") 422), (.int (37) 0), (.int (2) 0), (.int (0) 0), (.int (0) 0), (.int (3) 0), (.ref 188), (.bool true), (.int (181) 0), (.ref 189), .none, (.ref 190), (.ref 191), (.ref 192), (.int (425) 0), (.int (37) 0), (.str (Str.ofString "/claim/cut.py") 426)]), #[]⟩
def o20_194 (P : Params) : Obj := ⟨(.type "function"), .none, (.func ⟨(Str.ofString "__init__"), (Str.ofString "BadJournal.__init__"), defArgs (inClass (top 14) 0), .stmts (defBody (inClass (top 14) 0)), defScope (inClass (top 14) 0), 3, [], .none, .none, .none, (.str (Str.ofString "plinth.errors") 194), .none, (.ref 193), .none, 0⟩), #[]⟩
def o20_195 (P : Params) : Obj := ⟨(.type "tuple"), .none, (.seq #[(.str (Str.ofString "row") 428)] 0), #[]⟩
def o20_196 (P : Params) : Obj := ⟨(.type "dict"), .none, (.dict #[⟨PyData.keyHash P (Str.ofString "__module__"), (.str (Str.ofString "__module__") 415), (.str (Str.ofString "plinth.errors") 194)⟩, ⟨PyData.keyHash P (Str.ofString "__firstlineno__"), (.str (Str.ofString "__firstlineno__") 419), (.int (35) 418)⟩, ⟨PyData.keyHash P (Str.ofString "__init__"), (.str (Str.ofString "__init__") 427), (.ref 194)⟩, ⟨PyData.keyHash P (Str.ofString "__static_attributes__"), (.str (Str.ofString "__static_attributes__") 429), (.ref 195)⟩, ⟨PyData.keyHash P (Str.ofString "__doc__"), (.str (Str.ofString "__doc__") 430), .none⟩] 2), #[]⟩
def o20_197 (P : Params) : Obj := ⟨(.type "type"), .none, (.cls ⟨(Str.ofString "BadJournal"), [(.ref 31)], [(.ref 197), (.ref 31), (.type "ValueError"), (.type "Exception"), (.type "BaseException"), (.type "object")], 196, (Str.ofString "BadJournal"), true, [], [], false, .none, false⟩), #[(.some (.ref 181)), .none, (.some (.str (Str.ofString "BadJournal") 408)), (.some (.str (Str.ofString "BadJournal") 416)), (.some (.builtin "ValueError.__new__")), (.some (.bool true))]⟩
def o20_198 (P : Params) : Obj := ⟨(.type "super"), .none, (.fields #[(.ref 197), (.ref 197), (.ref 197)]), #[]⟩
def o20_199 (P : Params) : Obj := ⟨(.type "builtin_function_or_method"), .none, (.fields #[(.builtin "object.__init_subclass__"), (.ref 197)]), #[]⟩
def o20_200 (P : Params) : Obj := ⟨(.type "tuple"), .none, (.seq #[(.ref 31)] 0), #[]⟩
def o20_201 (P : Params) : Obj := ⟨(.type "builtin_function_or_method"), .none, (.fields #[(.builtin "type.__prepare__"), (.type "type")]), #[]⟩
def o20_202 (P : Params) : Obj := ⟨(.type "dict"), .none, (.dict #[⟨PyData.keyHash P (Str.ofString "__module__"), (.str (Str.ofString "__module__") 440), (.str (Str.ofString "plinth.errors") 194)⟩, ⟨PyData.keyHash P (Str.ofString "__qualname__"), (.str (Str.ofString "__qualname__") 442), (.str (Str.ofString "OpenTrial") 441)⟩, ⟨PyData.keyHash P (Str.ofString "__firstlineno__"), (.str (Str.ofString "__firstlineno__") 444), (.int (40) 443)⟩, ⟨PyData.keyHash P (Str.ofString "__static_attributes__"), (.str (Str.ofString "__static_attributes__") 445), (.ref 207)⟩] 4), #[]⟩
def o20_203 (P : Params) : Obj := ⟨(.type "tuple"), .none, (.seq #[] 0), #[]⟩
def o20_204 (P : Params) : Obj := ⟨.none, .none, (.fields #[]), #[]⟩
def o20_205 (P : Params) : Obj := ⟨(.type "code"), .none, (.fields #[(.str (Str.ofString "OpenTrial") 435), (.str (Str.ofString "OpenTrial") 436), (.str (Str.ofString "/claim/cut.py") 437), (.int (40) 0), (.int (0) 0), (.int (0) 0), (.int (0) 0), (.int (0) 0), (.ref 203), (.bool false), (.int (181) 0), (.ref 204), .none, .none, .none, .none, (.int (438) 0), (.int (40) 0), (.str (Str.ofString "/claim/cut.py") 439)]), #[]⟩
def o20_206 (P : Params) : Obj := ⟨(.type "frame"), .none, .plain, #[(.some (.ref 205)), (.some (.ref 3)), (.some (.ref 202)), .none, (.some (.str (Str.ofString "plinth.errors") 194)), .none, (.some (.ref 0))]⟩
def o20_207 (P : Params) : Obj := ⟨(.type "tuple"), .none, (.seq #[] 0), #[]⟩
def o20_208 (P : Params) : Obj := ⟨(.type "dict"), .none, (.dict #[⟨PyData.keyHash P (Str.ofString "__module__"), (.str (Str.ofString "__module__") 440), (.str (Str.ofString "plinth.errors") 194)⟩, ⟨PyData.keyHash P (Str.ofString "__firstlineno__"), (.str (Str.ofString "__firstlineno__") 444), (.int (40) 443)⟩, ⟨PyData.keyHash P (Str.ofString "__static_attributes__"), (.str (Str.ofString "__static_attributes__") 445), (.ref 207)⟩, ⟨PyData.keyHash P (Str.ofString "__doc__"), (.str (Str.ofString "__doc__") 446), .none⟩] 2), #[]⟩
def o20_209 (P : Params) : Obj := ⟨(.type "type"), .none, (.cls ⟨(Str.ofString "OpenTrial"), [(.ref 31)], [(.ref 209), (.ref 31), (.type "ValueError"), (.type "Exception"), (.type "BaseException"), (.type "object")], 208, (Str.ofString "OpenTrial"), true, [], [], false, .none, false⟩), #[(.some (.ref 200)), .none, (.some (.str (Str.ofString "OpenTrial") 433)), (.some (.str (Str.ofString "OpenTrial") 441)), (.some (.builtin "ValueError.__new__")), (.some (.bool true))]⟩
def o20_210 (P : Params) : Obj := ⟨(.type "super"), .none, (.fields #[(.ref 209), (.ref 209), (.ref 209)]), #[]⟩
def o20_211 (P : Params) : Obj := ⟨(.type "builtin_function_or_method"), .none, (.fields #[(.builtin "object.__init_subclass__"), (.ref 209)]), #[]⟩
def T20 (P : Params) : BT := (.node (boot_o_0 P) (.node (boot_o_1 P) (.node (o20_3 P) (.node (boot_o_7 P) (.node (o20_15 P) (.node (o20_31 P) (.node (o20_63 P) (.node (o20_127 P) .nil .nil) (.node (o20_191 P) .nil .nil)) (.node (o20_95 P) (.node (o20_159 P) .nil .nil) .nil)) (.node (o20_47 P) (.node (o20_79 P) (.node (o20_143 P) .nil .nil) (.node (o20_207 P) .nil .nil)) (.node (o20_111 P) (.node (o20_175 P) .nil .nil) .nil))) (.node (o20_23 P) (.node (o20_39 P) (.node (o20_71 P) (.node (o20_135 P) .nil .nil) (.node (o20_199 P) .nil .nil)) (.node (o20_103 P) (.node (o20_167 P) .nil .nil) .nil)) (.node (o20_55 P) (.node (o20_87 P) (.node (o20_151 P) .nil .nil) .nil) (.node (o20_119 P) (.node (o20_183 P) .nil .nil) .nil)))) (.node (oa_11 P) (.node (o20_19 P) (.node (o20_35 P) (.node (o20_67 P) (.node (o20_131 P) .nil .nil) (.node (o20_195 P) .nil .nil)) (.node (o20_99 P) (.node (o20_163 P) .nil .nil) .nil)) (.node (o20_51 P) (.node (o20_83 P) (.node (o20_147 P) .nil .nil) (.node (o20_211 P) .nil .nil)) (.node (o20_115 P) (.node (o20_179 P) .nil .nil) .nil))) (.node (o20_27 P) (.node (o20_43 P) (.node (o20_75 P) (.node (o20_139 P) .nil .nil) (.node (o20_203 P) .nil .nil)) (.node (o20_107 P) (.node (o20_171 P) .nil .nil) .nil)) (.node (o20_59 P) (.node (o20_91 P) (.node (o20_155 P) .nil .nil) .nil) (.node (o20_123 P) (.node (o20_187 P) .nil .nil) .nil))))) (.node (boot_o_5 P) (.node (boot_o_9 P) (.node (o20_17 P) (.node (o20_33 P) (.node (o20_65 P) (.node (o20_129 P) .nil .nil) (.node (o20_193 P) .nil .nil)) (.node (o20_97 P) (.node (o20_161 P) .nil .nil) .nil)) (.node (o20_49 P) (.node (o20_81 P) (.node (o20_145 P) .nil .nil) (.node (o20_209 P) .nil .nil)) (.node (o20_113 P) (.node (o20_177 P) .nil .nil) .nil))) (.node (o20_25 P) (.node (o20_41 P) (.node (o20_73 P) (.node (o20_137 P) .nil .nil) (.node (o20_201 P) .nil .nil)) (.node (o20_105 P) (.node (o20_169 P) .nil .nil) .nil)) (.node (o20_57 P) (.node (o20_89 P) (.node (o20_153 P) .nil .nil) .nil) (.node (o20_121 P) (.node (o20_185 P) .nil .nil) .nil)))) (.node (oa_13 P) (.node (o20_21 P) (.node (o20_37 P) (.node (o20_69 P) (.node (o20_133 P) .nil .nil) (.node (o20_197 P) .nil .nil)) (.node (o20_101 P) (.node (o20_165 P) .nil .nil) .nil)) (.node (o20_53 P) (.node (o20_85 P) (.node (o20_149 P) .nil .nil) .nil) (.node (o20_117 P) (.node (o20_181 P) .nil .nil) .nil))) (.node (o20_29 P) (.node (o20_45 P) (.node (o20_77 P) (.node (o20_141 P) .nil .nil) (.node (o20_205 P) .nil .nil)) (.node (o20_109 P) (.node (o20_173 P) .nil .nil) .nil)) (.node (o20_61 P) (.node (o20_93 P) (.node (o20_157 P) .nil .nil) .nil) (.node (o20_125 P) (.node (o20_189 P) .nil .nil) .nil)))))) (.node (boot_o_2 P) (.node (boot_o_4 P) (.node (boot_o_8 P) (.node (o20_16 P) (.node (o20_32 P) (.node (o20_64 P) (.node (o20_128 P) .nil .nil) (.node (o20_192 P) .nil .nil)) (.node (o20_96 P) (.node (o20_160 P) .nil .nil) .nil)) (.node (o20_48 P) (.node (o20_80 P) (.node (o20_144 P) .nil .nil) (.node (o20_208 P) .nil .nil)) (.node (o20_112 P) (.node (o20_176 P) .nil .nil) .nil))) (.node (o20_24 P) (.node (o20_40 P) (.node (o20_72 P) (.node (o20_136 P) .nil .nil) (.node (o20_200 P) .nil .nil)) (.node (o20_104 P) (.node (o20_168 P) .nil .nil) .nil)) (.node (o20_56 P) (.node (o20_88 P) (.node (o20_152 P) .nil .nil) .nil) (.node (o20_120 P) (.node (o20_184 P) .nil .nil) .nil)))) (.node (o20_12 P) (.node (o20_20 P) (.node (o20_36 P) (.node (o20_68 P) (.node (o20_132 P) .nil .nil) (.node (o20_196 P) .nil .nil)) (.node (o20_100 P) (.node (o20_164 P) .nil .nil) .nil)) (.node (o20_52 P) (.node (o20_84 P) (.node (o20_148 P) .nil .nil) .nil) (.node (o20_116 P) (.node (o20_180 P) .nil .nil) .nil))) (.node (o20_28 P) (.node (o20_44 P) (.node (o20_76 P) (.node (o20_140 P) .nil .nil) (.node (o20_204 P) .nil .nil)) (.node (o20_108 P) (.node (o20_172 P) .nil .nil) .nil)) (.node (o20_60 P) (.node (o20_92 P) (.node (o20_156 P) .nil .nil) .nil) (.node (o20_124 P) (.node (o20_188 P) .nil .nil) .nil))))) (.node (boot_o_6 P) (.node (boot_o_10 P) (.node (o20_18 P) (.node (o20_34 P) (.node (o20_66 P) (.node (o20_130 P) .nil .nil) (.node (o20_194 P) .nil .nil)) (.node (o20_98 P) (.node (o20_162 P) .nil .nil) .nil)) (.node (o20_50 P) (.node (o20_82 P) (.node (o20_146 P) .nil .nil) (.node (o20_210 P) .nil .nil)) (.node (o20_114 P) (.node (o20_178 P) .nil .nil) .nil))) (.node (o20_26 P) (.node (o20_42 P) (.node (o20_74 P) (.node (o20_138 P) .nil .nil) (.node (o20_202 P) .nil .nil)) (.node (o20_106 P) (.node (o20_170 P) .nil .nil) .nil)) (.node (o20_58 P) (.node (o20_90 P) (.node (o20_154 P) .nil .nil) .nil) (.node (o20_122 P) (.node (o20_186 P) .nil .nil) .nil)))) (.node (oa_14 P) (.node (o20_22 P) (.node (o20_38 P) (.node (o20_70 P) (.node (o20_134 P) .nil .nil) (.node (o20_198 P) .nil .nil)) (.node (o20_102 P) (.node (o20_166 P) .nil .nil) .nil)) (.node (o20_54 P) (.node (o20_86 P) (.node (o20_150 P) .nil .nil) .nil) (.node (o20_118 P) (.node (o20_182 P) .nil .nil) .nil))) (.node (o20_30 P) (.node (o20_46 P) (.node (o20_78 P) (.node (o20_142 P) .nil .nil) (.node (o20_206 P) .nil .nil)) (.node (o20_110 P) (.node (o20_174 P) .nil .nil) .nil)) (.node (o20_62 P) (.node (o20_94 P) (.node (o20_158 P) .nil .nil) .nil) (.node (o20_126 P) (.node (o20_190 P) .nil .nil) .nil)))))))
def S20 (w : World) (os : OsState) : SharedT := ⟨T20 w.params, 212, (boot_heap w.params).life, Array.mk [], boot_drawn, 457, os⟩
def o84_3 (P : Params) : Obj := ⟨(.type "dict"), .none, (.dict #[⟨PyData.keyHash P (Str.ofString "__name__"), (.str (Str.ofString "__name__") 165), (.str (Str.ofString "plinth.machine") 840)⟩, ⟨PyData.keyHash P (Str.ofString "__doc__"), (.str (Str.ofString "__doc__") 166), .none⟩, ⟨PyData.keyHash P (Str.ofString "__package__"), (.str (Str.ofString "__package__") 167), .none⟩, ⟨PyData.keyHash P (Str.ofString "__loader__"), (.str (Str.ofString "__loader__") 168), (.builtin "__main__.__loader__#opaque")⟩, ⟨PyData.keyHash P (Str.ofString "__spec__"), (.str (Str.ofString "__spec__") 169), .none⟩, ⟨PyData.keyHash P (Str.ofString "__annotations__"), (.str (Str.ofString "__annotations__") 170), (.ref 6)⟩, ⟨PyData.keyHash P (Str.ofString "__builtins__"), (.str (Str.ofString "__builtins__") 171), (.ref 4)⟩, ⟨PyData.keyHash P (Str.ofString "__file__"), (.str (Str.ofString "__file__") 173), (.str (Str.ofString "/claim/cut.py") 172)⟩, ⟨PyData.keyHash P (Str.ofString "__cached__"), (.str (Str.ofString "__cached__") 174), .none⟩, ⟨PyData.keyHash P (Str.ofString "_wall"), (.str (Str.ofString "_wall") 193), (.ref 21)⟩, ⟨PyData.keyHash P (Str.ofString "PlinthError"), (.str (Str.ofString "PlinthError") 213), (.ref 31)⟩, ⟨PyData.keyHash P (Str.ofString "NotText"), (.str (Str.ofString "NotText") 229), (.ref 44)⟩, ⟨PyData.keyHash P (Str.ofString "NotNumeral"), (.str (Str.ofString "NotNumeral") 245), (.ref 56)⟩, ⟨PyData.keyHash P (Str.ofString "BadFuel"), (.str (Str.ofString "BadFuel") 261), (.ref 68)⟩, ⟨PyData.keyHash P (Str.ofString "BadPlan"), (.str (Str.ofString "BadPlan") 286), (.ref 87)⟩, ⟨PyData.keyHash P (Str.ofString "BadClaim"), (.str (Str.ofString "BadClaim") 302), (.ref 99)⟩, ⟨PyData.keyHash P (Str.ofString "BadTrap"), (.str (Str.ofString "BadTrap") 318), (.ref 111)⟩, ⟨PyData.keyHash P (Str.ofString "NotPlantable"), (.str (Str.ofString "NotPlantable") 334), (.ref 123)⟩, ⟨PyData.keyHash P (Str.ofString "BadName"), (.str (Str.ofString "BadName") 350), (.ref 135)⟩, ⟨PyData.keyHash P (Str.ofString "BadKind"), (.str (Str.ofString "BadKind") 366), (.ref 147)⟩, ⟨PyData.keyHash P (Str.ofString "NoEntry"), (.str (Str.ofString "NoEntry") 391), (.ref 166)⟩, ⟨PyData.keyHash P (Str.ofString "OutOfRange"), (.str (Str.ofString "OutOfRange") 407), (.ref 178)⟩, ⟨PyData.keyHash P (Str.ofString "BadJournal"), (.str (Str.ofString "BadJournal") 432), (.ref 197)⟩, ⟨PyData.keyHash P (Str.ofString "OpenTrial"), (.str (Str.ofString "OpenTrial") 448), (.ref 209)⟩, ⟨PyData.keyHash P (Str.ofString "NEWLINE"), (.str (Str.ofString "NEWLINE") 452), (.int (10) 451)⟩, ⟨PyData.keyHash P (Str.ofString "PRINTABLE"), (.str (Str.ofString "PRINTABLE") 454), (.str (Str.ofString " !\"#$&'()*+,-./0123456789:;<=>?@ABCDEFGHIJKLMNOPQRSTUVWXYZ[\\]^_`abcdefghijklmnopqrstuvwxyz{|}~") 453)⟩, ⟨PyData.keyHash P (Str.ofString "DIGITS_signs"), (.str (Str.ofString "DIGITS_signs") 456), (.str (Str.ofString "0123456789") 455)⟩, ⟨PyData.keyHash P (Str.ofString "LIMIT"), (.str (Str.ofString "LIMIT") 460), (.int (1000000000000000000000000000000000000000000000000000000000000) 459)⟩, ⟨PyData.keyHash P (Str.ofString "codes_of"), (.str (Str.ofString "codes_of") 469), (.ref 218)⟩, ⟨PyData.keyHash P (Str.ofString "_char"), (.str (Str.ofString "_char") 476), (.ref 225)⟩, ⟨PyData.keyHash P (Str.ofString "text_of"), (.str (Str.ofString "text_of") 486), (.ref 232)⟩, ⟨PyData.keyHash P (Str.ofString "readable"), (.str (Str.ofString "readable") 495), (.ref 239)⟩, ⟨PyData.keyHash P (Str.ofString "numeral"), (.str (Str.ofString "numeral") 502), (.ref 246)⟩, ⟨PyData.keyHash P (Str.ofString "number_of"), (.str (Str.ofString "number_of") 511), (.ref 253)⟩, ⟨PyData.keyHash P (Str.ofString "is_digit"), (.str (Str.ofString "is_digit") 520), (.ref 260)⟩, ⟨PyData.keyHash P (Str.ofString "read_digits"), (.str (Str.ofString "read_digits") 530), (.ref 267)⟩, ⟨PyData.keyHash P (Str.ofString "ShortReader"), (.str (Str.ofString "ShortReader") 598), (.ref 312)⟩, ⟨PyData.keyHash P (Str.ofString "translate_short"), (.str (Str.ofString "translate_short") 606), (.ref 323)⟩, ⟨PyData.keyHash P (Str.ofString "BLANK"), (.str (Str.ofString "BLANK") 610), (.int (32) 609)⟩, ⟨PyData.keyHash P (Str.ofString "QUOTE"), (.str (Str.ofString "QUOTE") 612), (.int (39) 611)⟩, ⟨PyData.keyHash P (Str.ofString "RETURN_translate"), (.str (Str.ofString "RETURN_translate") 614), (.int (41) 613)⟩, ⟨PyData.keyHash P (Str.ofString "COLON"), (.str (Str.ofString "COLON") 616), (.int (58) 615)⟩, ⟨PyData.keyHash P (Str.ofString "SEMICOLON"), (.str (Str.ofString "SEMICOLON") 618), (.int (59) 617)⟩, ⟨PyData.keyHash P (Str.ofString "ASSIGN"), (.str (Str.ofString "ASSIGN") 620), (.int (61) 619)⟩, ⟨PyData.keyHash P (Str.ofString "PUSH_translate"), (.str (Str.ofString "PUSH_translate") 622), (.int (35) 621)⟩, ⟨PyData.keyHash P (Str.ofString "TEST_translate"), (.str (Str.ofString "TEST_translate") 624), (.int (63) 623)⟩, ⟨PyData.keyHash P (Str.ofString "Translator"), (.str (Str.ofString "Translator") 751), (.ref 411)⟩, ⟨PyData.keyHash P (Str.ofString "translate"), (.str (Str.ofString "translate") 766), (.ref 423)⟩, ⟨PyData.keyHash P (Str.ofString "DIGITS_audit"), (.str (Str.ofString "DIGITS_audit") 770), (.str (Str.ofString "digits") 769)⟩, ⟨PyData.keyHash P (Str.ofString "SHORT"), (.str (Str.ofString "SHORT") 772), (.str (Str.ofString "short") 771)⟩, ⟨PyData.keyHash P (Str.ofString "PLAIN"), (.str (Str.ofString "PLAIN") 774), (.str (Str.ofString "plain") 773)⟩, ⟨PyData.keyHash P (Str.ofString "TURNED"), (.str (Str.ofString "TURNED") 776), (.str (Str.ofString "turned") 775)⟩, ⟨PyData.keyHash P (Str.ofString "KINDS"), (.str (Str.ofString "KINDS") 777), (.ref 424)⟩, ⟨PyData.keyHash P (Str.ofString "due"), (.str (Str.ofString "due") 786), (.ref 431)⟩, ⟨PyData.keyHash P (Str.ofString "due_audit"), (.str (Str.ofString "due_audit") 787), (.ref 431)⟩, ⟨PyData.keyHash P (Str.ofString "first_difference"), (.str (Str.ofString "first_difference") 797), (.ref 438)⟩, ⟨PyData.keyHash P (Str.ofString "audit"), (.str (Str.ofString "audit") 807), (.ref 445)⟩, ⟨PyData.keyHash P (Str.ofString "nodes_of"), (.str (Str.ofString "nodes_of") 815), (.ref 450)⟩, ⟨PyData.keyHash P (Str.ofString "image_of"), (.str (Str.ofString "image_of") 827), (.ref 457)⟩, ⟨PyData.keyHash P (Str.ofString "table_of"), (.str (Str.ofString "table_of") 839), (.ref 464)⟩, ⟨PyData.keyHash P (Str.ofString "FIRST_LETTER"), (.str (Str.ofString "FIRST_LETTER") 843), (.int (97) 842)⟩, ⟨PyData.keyHash P (Str.ofString "LAST_LETTER"), (.str (Str.ofString "LAST_LETTER") 845), (.int (122) 844)⟩, ⟨PyData.keyHash P (Str.ofString "FIRST_CAPITAL"), (.str (Str.ofString "FIRST_CAPITAL") 847), (.int (65) 846)⟩, ⟨PyData.keyHash P (Str.ofString "LAST_CAPITAL"), (.str (Str.ofString "LAST_CAPITAL") 849), (.int (90) 848)⟩, ⟨PyData.keyHash P (Str.ofString "LAST_LOW"), (.str (Str.ofString "LAST_LOW") 851), (.int (199) 850)⟩, ⟨PyData.keyHash P (Str.ofString "_push"), (.str (Str.ofString "_push") 859), (.ref 471)⟩, ⟨PyData.keyHash P (Str.ofString "_plus"), (.str (Str.ofString "_plus") 868), (.ref 478)⟩, ⟨PyData.keyHash P (Str.ofString "_minus"), (.str (Str.ofString "_minus") 877), (.ref 485)⟩, ⟨PyData.keyHash P (Str.ofString "_digit"), (.str (Str.ofString "_digit") 886), (.ref 492)⟩, ⟨PyData.keyHash P (Str.ofString "_less"), (.str (Str.ofString "_less") 895), (.ref 499)⟩, ⟨PyData.keyHash P (Str.ofString "_same"), (.str (Str.ofString "_same") 904), (.ref 506)⟩, ⟨PyData.keyHash P (Str.ofString "_load"), (.str (Str.ofString "_load") 912), (.ref 513)⟩, ⟨PyData.keyHash P (Str.ofString "_keep"), (.str (Str.ofString "_keep") 921), (.ref 520)⟩, ⟨PyData.keyHash P (Str.ofString "_assign"), (.str (Str.ofString "_assign") 929), (.ref 527)⟩, ⟨PyData.keyHash P (Str.ofString "_take"), (.str (Str.ofString "_take") 937), (.ref 534)⟩, ⟨PyData.keyHash P (Str.ofString "_rewind"), (.str (Str.ofString "_rewind") 945), (.ref 541)⟩, ⟨PyData.keyHash P (Str.ofString "_emit"), (.str (Str.ofString "_emit") 953), (.ref 548)⟩, ⟨PyData.keyHash P (Str.ofString "_cell"), (.str (Str.ofString "_cell") 962), (.ref 555)⟩, ⟨PyData.keyHash P (Str.ofString "_drop"), (.str (Str.ofString "_drop") 970), (.ref 562)⟩, ⟨PyData.keyHash P (Str.ofString "_double"), (.str (Str.ofString "_double") 979), (.ref 569)⟩, ⟨PyData.keyHash P (Str.ofString "_exchange"), (.str (Str.ofString "_exchange") 989), (.ref 576)⟩, ⟨PyData.keyHash P (Str.ofString "_test"), (.str (Str.ofString "_test") 997), (.ref 583)⟩, ⟨PyData.keyHash P (Str.ofString "_call"), (.str (Str.ofString "_call") 1006), (.ref 590)⟩, ⟨PyData.keyHash P (Str.ofString "_call_low"), (.str (Str.ofString "_call_low") 1015), (.ref 597)⟩, ⟨PyData.keyHash P (Str.ofString "_return"), (.str (Str.ofString "_return") 1023), (.ref 604)⟩] 85), #[]⟩
def o84_12 (P : Params) : Obj := ⟨.none, .none, (.fields #[(.int (1) 0), (.int (0) 0), (.ref 20), (.int (5) 0), (.int (0) 0), (.ref 27), (.int (7) 0), (.int (0) 0), (.ref 40), (.int (9) 0), (.int (0) 0), (.ref 52), (.int (11) 0), (.int (0) 0), (.ref 64), (.int (13) 0), (.int (0) 0), (.ref 76), (.int (18) 0), (.int (0) 0), (.ref 95), (.int (20) 0), (.int (0) 0), (.ref 107), (.int (22) 0), (.int (0) 0), (.ref 119), (.int (24) 0), (.int (0) 0), (.ref 131), (.int (26) 0), (.int (0) 0), (.ref 143), (.int (28) 0), (.int (0) 0), (.ref 155), (.int (33) 0), (.int (0) 0), (.ref 174), (.int (35) 0), (.int (0) 0), (.ref 186), (.int (40) 0), (.int (0) 0), (.ref 205), (.int (47) 0), (.int (0) 0), (.ref 217), (.int (54) 0), (.int (0) 0), (.ref 224), (.int (62) 0), (.int (0) 0), (.ref 231), (.int (70) 0), (.int (0) 0), (.ref 238), (.int (77) 0), (.int (0) 0), (.ref 245), (.int (81) 0), (.int (0) 0), (.ref 252), (.int (94) 0), (.int (0) 0), (.ref 259), (.int (96) 0), (.int (0) 0), (.ref 266), (.int (111) 0), (.int (0) 0), (.ref 273), (.int (152) 0), (.int (0) 0), (.ref 322), (.int (165) 0), (.int (0) 0), (.ref 329), (.int (273) 0), (.int (0) 0), (.ref 422), (.int (284) 0), (.int (0) 0), (.ref 430), (.int (296) 0), (.int (0) 0), (.ref 437), (.int (303) 0), (.int (0) 0), (.ref 444), (.int (311) 0), (.int (0) 0), (.ref 449), (.int (313) 0), (.int (0) 0), (.ref 456), (.int (318) 0), (.int (0) 0), (.ref 463), (.int (329) 0), (.int (0) 0), (.ref 470), (.int (331) 0), (.int (0) 0), (.ref 477), (.int (334) 0), (.int (0) 0), (.ref 484), (.int (337) 0), (.int (0) 0), (.ref 491), (.int (340) 0), (.int (0) 0), (.ref 498), (.int (343) 0), (.int (0) 0), (.ref 505), (.int (346) 0), (.int (0) 0), (.ref 512), (.int (348) 0), (.int (0) 0), (.ref 519), (.int (351) 0), (.int (0) 0), (.ref 526), (.int (353) 0), (.int (0) 0), (.ref 533), (.int (359) 0), (.int (0) 0), (.ref 540), (.int (361) 0), (.int (0) 0), (.ref 547), (.int (363) 0), (.int (0) 0), (.ref 554), (.int (369) 0), (.int (0) 0), (.ref 561), (.int (371) 0), (.int (0) 0), (.ref 568), (.int (374) 0), (.int (0) 0), (.ref 575), (.int (378) 0), (.int (0) 0), (.ref 582), (.int (381) 0), (.int (0) 0), (.ref 589), (.int (385) 0), (.int (0) 0), (.ref 596), (.int (392) 0), (.int (0) 0), (.ref 603)]), #[]⟩
def o84_212 (P : Params) : Obj := ⟨(.type "tuple"), .none, (.seq #[] 0), #[]⟩
def o84_213 (P : Params) : Obj := ⟨.none, .none, (.fields #[]), #[]⟩
def o84_214 (P : Params) : Obj := ⟨(.type "tuple"), .none, (.seq #[(.str (Str.ofString "text") 464), (.str (Str.ofString "codes") 465), (.str (Str.ofString "char") 466)] 0), #[]⟩
def o84_215 (P : Params) : Obj := ⟨(.type "tuple"), .none, (.seq #[] 0), #[]⟩
def o84_216 (P : Params) : Obj := ⟨.none, .none, (.func ⟨(Str.ofString "codes_of"), (Str.ofString "codes_of"), defArgs (top 21), .stmts (defBody (top 21)), defScope (top 21), 0, [], .none, .none, .none, .none, .none, .none, .none, 0⟩), #[]⟩
def o84_217 (P : Params) : Obj := ⟨(.type "code"), .none, (.fields #[(.str (Str.ofString "codes_of") 461), (.str (Str.ofString "codes_of") 462), (.str (Str.ofString "/claim/cut.py") 463), (.int (47) 0), (.int (1) 0), (.int (0) 0), (.int (0) 0), (.int (3) 0), (.ref 212), (.bool true), (.int (181) 0), (.ref 213), .none, (.ref 214), (.ref 215), (.ref 216), (.int (467) 0), (.int (47) 0), (.str (Str.ofString "/claim/cut.py") 468)]), #[]⟩
def o84_218 (P : Params) : Obj := ⟨(.type "function"), .none, (.func ⟨(Str.ofString "codes_of"), (Str.ofString "codes_of"), defArgs (top 21), .stmts (defBody (top 21)), defScope (top 21), 3, [], .none, .none, .none, (.str (Str.ofString "plinth.signs") 449), .none, (.ref 217), .none, 0⟩), #[]⟩
def o84_219 (P : Params) : Obj := ⟨(.type "tuple"), .none, (.seq #[] 0), #[]⟩
def o84_220 (P : Params) : Obj := ⟨.none, .none, (.fields #[]), #[]⟩
def o84_221 (P : Params) : Obj := ⟨(.type "tuple"), .none, (.seq #[(.str (Str.ofString "code") 473)] 0), #[]⟩
def o84_222 (P : Params) : Obj := ⟨(.type "tuple"), .none, (.seq #[] 0), #[]⟩
def o84_223 (P : Params) : Obj := ⟨.none, .none, (.func ⟨(Str.ofString "_char"), (Str.ofString "_char"), defArgs (top 22), .stmts (defBody (top 22)), defScope (top 22), 0, [], .none, .none, .none, .none, .none, .none, .none, 0⟩), #[]⟩
def o84_224 (P : Params) : Obj := ⟨(.type "code"), .none, (.fields #[(.str (Str.ofString "_char") 470), (.str (Str.ofString "_char") 471), (.str (Str.ofString "/claim/cut.py") 472), (.int (54) 0), (.int (1) 0), (.int (0) 0), (.int (0) 0), (.int (3) 0), (.ref 219), (.bool true), (.int (181) 0), (.ref 220), .none, (.ref 221), (.ref 222), (.ref 223), (.int (474) 0), (.int (54) 0), (.str (Str.ofString "/claim/cut.py") 475)]), #[]⟩
def o84_225 (P : Params) : Obj := ⟨(.type "function"), .none, (.func ⟨(Str.ofString "_char"), (Str.ofString "_char"), defArgs (top 22), .stmts (defBody (top 22)), defScope (top 22), 3, [], .none, .none, .none, (.str (Str.ofString "plinth.signs") 449), .none, (.ref 224), .none, 0⟩), #[]⟩
def o84_226 (P : Params) : Obj := ⟨(.type "tuple"), .none, (.seq #[] 0), #[]⟩
def o84_227 (P : Params) : Obj := ⟨.none, .none, (.fields #[]), #[]⟩
def o84_228 (P : Params) : Obj := ⟨(.type "tuple"), .none, (.seq #[(.str (Str.ofString "codes") 480), (.str (Str.ofString "chars") 481), (.str (Str.ofString "code") 482), (.str (Str.ofString "char") 483)] 0), #[]⟩
def o84_229 (P : Params) : Obj := ⟨(.type "tuple"), .none, (.seq #[] 0), #[]⟩
def o84_230 (P : Params) : Obj := ⟨.none, .none, (.func ⟨(Str.ofString "text_of"), (Str.ofString "text_of"), defArgs (top 23), .stmts (defBody (top 23)), defScope (top 23), 0, [], .none, .none, .none, .none, .none, .none, .none, 0⟩), #[]⟩
def o84_231 (P : Params) : Obj := ⟨(.type "code"), .none, (.fields #[(.str (Str.ofString "text_of") 477), (.str (Str.ofString "text_of") 478), (.str (Str.ofString "/claim/cut.py") 479), (.int (62) 0), (.int (1) 0), (.int (0) 0), (.int (0) 0), (.int (3) 0), (.ref 226), (.bool true), (.int (181) 0), (.ref 227), .none, (.ref 228), (.ref 229), (.ref 230), (.int (484) 0), (.int (62) 0), (.str (Str.ofString "/claim/cut.py") 485)]), #[]⟩
def o84_232 (P : Params) : Obj := ⟨(.type "function"), .none, (.func ⟨(Str.ofString "text_of"), (Str.ofString "text_of"), defArgs (top 23), .stmts (defBody (top 23)), defScope (top 23), 3, [], .none, .none, .none, (.str (Str.ofString "plinth.signs") 449), .none, (.ref 231), .none, 0⟩), #[]⟩
def o84_233 (P : Params) : Obj := ⟨(.type "tuple"), .none, (.seq #[] 0), #[]⟩
def o84_234 (P : Params) : Obj := ⟨.none, .none, (.fields #[]), #[]⟩
def o84_235 (P : Params) : Obj := ⟨(.type "tuple"), .none, (.seq #[(.str (Str.ofString "codes") 490), (.str (Str.ofString "result") 491), (.str (Str.ofString "code") 492)] 0), #[]⟩
def o84_236 (P : Params) : Obj := ⟨(.type "tuple"), .none, (.seq #[] 0), #[]⟩
def o84_237 (P : Params) : Obj := ⟨.none, .none, (.func ⟨(Str.ofString "readable"), (Str.ofString "readable"), defArgs (top 24), .stmts (defBody (top 24)), defScope (top 24), 0, [], .none, .none, .none, .none, .none, .none, .none, 0⟩), #[]⟩
def o84_238 (P : Params) : Obj := ⟨(.type "code"), .none, (.fields #[(.str (Str.ofString "readable") 487), (.str (Str.ofString "readable") 488), (.str (Str.ofString "/claim/cut.py") 489), (.int (70) 0), (.int (1) 0), (.int (0) 0), (.int (0) 0), (.int (3) 0), (.ref 233), (.bool true), (.int (181) 0), (.ref 234), .none, (.ref 235), (.ref 236), (.ref 237), (.int (493) 0), (.int (70) 0), (.str (Str.ofString "/claim/cut.py") 494)]), #[]⟩
def o84_239 (P : Params) : Obj := ⟨(.type "function"), .none, (.func ⟨(Str.ofString "readable"), (Str.ofString "readable"), defArgs (top 24), .stmts (defBody (top 24)), defScope (top 24), 3, [], .none, .none, .none, (.str (Str.ofString "plinth.signs") 449), .none, (.ref 238), .none, 0⟩), #[]⟩
def o84_240 (P : Params) : Obj := ⟨(.type "tuple"), .none, (.seq #[] 0), #[]⟩
def o84_241 (P : Params) : Obj := ⟨.none, .none, (.fields #[]), #[]⟩
def o84_242 (P : Params) : Obj := ⟨(.type "tuple"), .none, (.seq #[(.str (Str.ofString "number") 499)] 0), #[]⟩
def o84_243 (P : Params) : Obj := ⟨(.type "tuple"), .none, (.seq #[] 0), #[]⟩
def o84_244 (P : Params) : Obj := ⟨.none, .none, (.func ⟨(Str.ofString "numeral"), (Str.ofString "numeral"), defArgs (top 25), .stmts (defBody (top 25)), defScope (top 25), 0, [], .none, .none, .none, .none, .none, .none, .none, 0⟩), #[]⟩
def o84_245 (P : Params) : Obj := ⟨(.type "code"), .none, (.fields #[(.str (Str.ofString "numeral") 496), (.str (Str.ofString "numeral") 497), (.str (Str.ofString "/claim/cut.py") 498), (.int (77) 0), (.int (1) 0), (.int (0) 0), (.int (0) 0), (.int (3) 0), (.ref 240), (.bool true), (.int (181) 0), (.ref 241), .none, (.ref 242), (.ref 243), (.ref 244), (.int (500) 0), (.int (77) 0), (.str (Str.ofString "/claim/cut.py") 501)]), #[]⟩
def o84_246 (P : Params) : Obj := ⟨(.type "function"), .none, (.func ⟨(Str.ofString "numeral"), (Str.ofString "numeral"), defArgs (top 25), .stmts (defBody (top 25)), defScope (top 25), 3, [], .none, .none, .none, (.str (Str.ofString "plinth.signs") 449), .none, (.ref 245), .none, 0⟩), #[]⟩
def o84_247 (P : Params) : Obj := ⟨(.type "tuple"), .none, (.seq #[] 0), #[]⟩
def o84_248 (P : Params) : Obj := ⟨.none, .none, (.fields #[]), #[]⟩
def o84_249 (P : Params) : Obj := ⟨(.type "tuple"), .none, (.seq #[(.str (Str.ofString "text") 506), (.str (Str.ofString "digits") 507), (.str (Str.ofString "char") 508)] 0), #[]⟩
def o84_250 (P : Params) : Obj := ⟨(.type "tuple"), .none, (.seq #[] 0), #[]⟩
def o84_251 (P : Params) : Obj := ⟨.none, .none, (.func ⟨(Str.ofString "number_of"), (Str.ofString "number_of"), defArgs (top 26), .stmts (defBody (top 26)), defScope (top 26), 0, [], .none, .none, .none, .none, .none, .none, .none, 0⟩), #[]⟩
def o84_252 (P : Params) : Obj := ⟨(.type "code"), .none, (.fields #[(.str (Str.ofString "number_of") 503), (.str (Str.ofString "number_of") 504), (.str (Str.ofString "/claim/cut.py") 505), (.int (81) 0), (.int (1) 0), (.int (0) 0), (.int (0) 0), (.int (3) 0), (.ref 247), (.bool true), (.int (181) 0), (.ref 248), .none, (.ref 249), (.ref 250), (.ref 251), (.int (509) 0), (.int (81) 0), (.str (Str.ofString "/claim/cut.py") 510)]), #[]⟩
def o84_253 (P : Params) : Obj := ⟨(.type "function"), .none, (.func ⟨(Str.ofString "number_of"), (Str.ofString "number_of"), defArgs (top 26), .stmts (defBody (top 26)), defScope (top 26), 3, [], .none, .none, .none, (.str (Str.ofString "plinth.signs") 449), .none, (.ref 252), .none, 0⟩), #[]⟩
def o84_254 (P : Params) : Obj := ⟨(.type "tuple"), .none, (.seq #[] 0), #[]⟩
def o84_255 (P : Params) : Obj := ⟨.none, .none, (.fields #[]), #[]⟩
def o84_256 (P : Params) : Obj := ⟨(.type "tuple"), .none, (.seq #[(.str (Str.ofString "code") 517)] 0), #[]⟩
def o84_257 (P : Params) : Obj := ⟨(.type "tuple"), .none, (.seq #[] 0), #[]⟩
def o84_258 (P : Params) : Obj := ⟨.none, .none, (.func ⟨(Str.ofString "is_digit"), (Str.ofString "is_digit"), defArgs (top 28), .stmts (defBody (top 28)), defScope (top 28), 0, [], .none, .none, .none, .none, .none, .none, .none, 0⟩), #[]⟩
def o84_259 (P : Params) : Obj := ⟨(.type "code"), .none, (.fields #[(.str (Str.ofString "is_digit") 514), (.str (Str.ofString "is_digit") 515), (.str (Str.ofString "/claim/cut.py") 516), (.int (94) 0), (.int (1) 0), (.int (0) 0), (.int (0) 0), (.int (3) 0), (.ref 254), (.bool true), (.int (181) 0), (.ref 255), .none, (.ref 256), (.ref 257), (.ref 258), (.int (518) 0), (.int (94) 0), (.str (Str.ofString "/claim/cut.py") 519)]), #[]⟩
def o84_260 (P : Params) : Obj := ⟨(.type "function"), .none, (.func ⟨(Str.ofString "is_digit"), (Str.ofString "is_digit"), defArgs (top 28), .stmts (defBody (top 28)), defScope (top 28), 3, [], .none, .none, .none, (.str (Str.ofString "plinth.digits") 512), .none, (.ref 259), .none, 0⟩), #[]⟩
def o84_261 (P : Params) : Obj := ⟨(.type "tuple"), .none, (.seq #[] 0), #[]⟩
def o84_262 (P : Params) : Obj := ⟨.none, .none, (.fields #[]), #[]⟩
def o84_263 (P : Params) : Obj := ⟨(.type "tuple"), .none, (.seq #[(.str (Str.ofString "codes") 524), (.str (Str.ofString "numbers") 525), (.str (Str.ofString "value") 526), (.str (Str.ofString "code") 527)] 0), #[]⟩
def o84_264 (P : Params) : Obj := ⟨(.type "tuple"), .none, (.seq #[] 0), #[]⟩
def o84_265 (P : Params) : Obj := ⟨.none, .none, (.func ⟨(Str.ofString "read_digits"), (Str.ofString "read_digits"), defArgs (top 29), .stmts (defBody (top 29)), defScope (top 29), 0, [], .none, .none, .none, .none, .none, .none, .none, 0⟩), #[]⟩
def o84_266 (P : Params) : Obj := ⟨(.type "code"), .none, (.fields #[(.str (Str.ofString "read_digits") 521), (.str (Str.ofString "read_digits") 522), (.str (Str.ofString "/claim/cut.py") 523), (.int (96) 0), (.int (1) 0), (.int (0) 0), (.int (0) 0), (.int (3) 0), (.ref 261), (.bool true), (.int (181) 0), (.ref 262), .none, (.ref 263), (.ref 264), (.ref 265), (.int (528) 0), (.int (96) 0), (.str (Str.ofString "/claim/cut.py") 529)]), #[]⟩
def o84_267 (P : Params) : Obj := ⟨(.type "function"), .none, (.func ⟨(Str.ofString "read_digits"), (Str.ofString "read_digits"), defArgs (top 29), .stmts (defBody (top 29)), defScope (top 29), 3, [], .none, .none, .none, (.str (Str.ofString "plinth.digits") 512), .none, (.ref 266), .none, 0⟩), #[]⟩
def o84_268 (P : Params) : Obj := ⟨(.type "tuple"), .none, (.seq #[] 0), #[]⟩
def o84_269 (P : Params) : Obj := ⟨(.type "builtin_function_or_method"), .none, (.fields #[(.builtin "type.__prepare__"), (.type "type")]), #[]⟩
def o84_270 (P : Params) : Obj := ⟨(.type "dict"), .none, (.dict #[⟨PyData.keyHash P (Str.ofString "__module__"), (.str (Str.ofString "__module__") 540), (.str (Str.ofString "plinth.short") 531)⟩, ⟨PyData.keyHash P (Str.ofString "__qualname__"), (.str (Str.ofString "__qualname__") 542), (.str (Str.ofString "ShortReader") 541)⟩, ⟨PyData.keyHash P (Str.ofString "__firstlineno__"), (.str (Str.ofString "__firstlineno__") 544), (.int (111) 543)⟩, ⟨PyData.keyHash P (Str.ofString "__init__"), (.str (Str.ofString "__init__") 551), (.ref 281)⟩, ⟨PyData.keyHash P (Str.ofString "feed"), (.str (Str.ofString "feed") 560), (.ref 288)⟩, ⟨PyData.keyHash P (Str.ofString "image"), (.str (Str.ofString "image") 567), (.ref 295)⟩, ⟨PyData.keyHash P (Str.ofString "_take"), (.str (Str.ofString "_take") 575), (.ref 302)⟩, ⟨PyData.keyHash P (Str.ofString "_emit"), (.str (Str.ofString "_emit") 585), (.ref 309)⟩, ⟨PyData.keyHash P (Str.ofString "__static_attributes__"), (.str (Str.ofString "__static_attributes__") 591), (.ref 310)⟩] 9), #[]⟩
def o84_271 (P : Params) : Obj := ⟨(.type "tuple"), .none, (.seq #[] 0), #[]⟩
def o84_272 (P : Params) : Obj := ⟨.none, .none, (.fields #[(.int (113) 0), (.int (4) 0), (.ref 280), (.int (120) 0), (.int (4) 0), (.ref 287), (.int (124) 0), (.int (4) 0), (.ref 294), (.int (127) 0), (.int (4) 0), (.ref 301), (.int (148) 0), (.int (4) 0), (.ref 308)]), #[]⟩
def o84_273 (P : Params) : Obj := ⟨(.type "code"), .none, (.fields #[(.str (Str.ofString "ShortReader") 535), (.str (Str.ofString "ShortReader") 536), (.str (Str.ofString "/claim/cut.py") 537), (.int (111) 0), (.int (0) 0), (.int (0) 0), (.int (0) 0), (.int (0) 0), (.ref 271), (.bool false), (.int (181) 0), (.ref 272), .none, .none, .none, .none, (.int (538) 0), (.int (111) 0), (.str (Str.ofString "/claim/cut.py") 539)]), #[]⟩
def o84_274 (P : Params) : Obj := ⟨(.type "frame"), .none, .plain, #[(.some (.ref 273)), (.some (.ref 3)), (.some (.ref 270)), .none, (.some (.str (Str.ofString "plinth.short") 531)), .none, (.some (.ref 0))]⟩
def o84_275 (P : Params) : Obj := ⟨(.type "tuple"), .none, (.seq #[] 0), #[]⟩
def o84_276 (P : Params) : Obj := ⟨.none, .none, (.fields #[]), #[]⟩
def o84_277 (P : Params) : Obj := ⟨(.type "tuple"), .none, (.seq #[(.str (Str.ofString "self") 548)] 0), #[]⟩
def o84_278 (P : Params) : Obj := ⟨(.type "tuple"), .none, (.seq #[] 0), #[]⟩
def o84_279 (P : Params) : Obj := ⟨.none, .none, (.func ⟨(Str.ofString "__init__"), (Str.ofString "ShortReader.__init__"), defArgs (inClass (top 31) 0), .stmts (defBody (inClass (top 31) 0)), defScope (inClass (top 31) 0), 0, [], .none, .none, .none, .none, .none, .none, .none, 0⟩), #[]⟩
def o84_280 (P : Params) : Obj := ⟨(.type "code"), .none, (.fields #[(.str (Str.ofString "__init__") 545), (.str (Str.ofString "ShortReader.__init__") 546), (.str (Str.ofString "/claim/cut.py") 547), (.int (113) 0), (.int (1) 0), (.int (0) 0), (.int (0) 0), (.int (3) 0), (.ref 275), (.bool true), (.int (181) 0), (.ref 276), .none, (.ref 277), (.ref 278), (.ref 279), (.int (549) 0), (.int (113) 0), (.str (Str.ofString "/claim/cut.py") 550)]), #[]⟩
def o84_281 (P : Params) : Obj := ⟨(.type "function"), .none, (.func ⟨(Str.ofString "__init__"), (Str.ofString "ShortReader.__init__"), defArgs (inClass (top 31) 0), .stmts (defBody (inClass (top 31) 0)), defScope (inClass (top 31) 0), 3, [], .none, .none, .none, (.str (Str.ofString "plinth.short") 531), .none, (.ref 280), .none, 0⟩), #[]⟩
def o84_282 (P : Params) : Obj := ⟨(.type "tuple"), .none, (.seq #[] 0), #[]⟩
def o84_283 (P : Params) : Obj := ⟨.none, .none, (.fields #[]), #[]⟩
def o84_284 (P : Params) : Obj := ⟨(.type "tuple"), .none, (.seq #[(.str (Str.ofString "self") 555), (.str (Str.ofString "codes") 556), (.str (Str.ofString "code") 557)] 0), #[]⟩
def o84_285 (P : Params) : Obj := ⟨(.type "tuple"), .none, (.seq #[] 0), #[]⟩
def o84_286 (P : Params) : Obj := ⟨.none, .none, (.func ⟨(Str.ofString "feed"), (Str.ofString "ShortReader.feed"), defArgs (inClass (top 31) 1), .stmts (defBody (inClass (top 31) 1)), defScope (inClass (top 31) 1), 0, [], .none, .none, .none, .none, .none, .none, .none, 0⟩), #[]⟩
def o84_287 (P : Params) : Obj := ⟨(.type "code"), .none, (.fields #[(.str (Str.ofString "feed") 552), (.str (Str.ofString "ShortReader.feed") 553), (.str (Str.ofString "/claim/cut.py") 554), (.int (120) 0), (.int (2) 0), (.int (0) 0), (.int (0) 0), (.int (3) 0), (.ref 282), (.bool true), (.int (181) 0), (.ref 283), .none, (.ref 284), (.ref 285), (.ref 286), (.int (558) 0), (.int (120) 0), (.str (Str.ofString "/claim/cut.py") 559)]), #[]⟩
def o84_288 (P : Params) : Obj := ⟨(.type "function"), .none, (.func ⟨(Str.ofString "feed"), (Str.ofString "ShortReader.feed"), defArgs (inClass (top 31) 1), .stmts (defBody (inClass (top 31) 1)), defScope (inClass (top 31) 1), 3, [], .none, .none, .none, (.str (Str.ofString "plinth.short") 531), .none, (.ref 287), .none, 0⟩), #[]⟩
def o84_289 (P : Params) : Obj := ⟨(.type "tuple"), .none, (.seq #[] 0), #[]⟩
def o84_290 (P : Params) : Obj := ⟨.none, .none, (.fields #[]), #[]⟩
def o84_291 (P : Params) : Obj := ⟨(.type "tuple"), .none, (.seq #[(.str (Str.ofString "self") 564)] 0), #[]⟩
def o84_292 (P : Params) : Obj := ⟨(.type "tuple"), .none, (.seq #[] 0), #[]⟩
def o84_293 (P : Params) : Obj := ⟨.none, .none, (.func ⟨(Str.ofString "image"), (Str.ofString "ShortReader.image"), defArgs (inClass (top 31) 2), .stmts (defBody (inClass (top 31) 2)), defScope (inClass (top 31) 2), 0, [], .none, .none, .none, .none, .none, .none, .none, 0⟩), #[]⟩
def o84_294 (P : Params) : Obj := ⟨(.type "code"), .none, (.fields #[(.str (Str.ofString "image") 561), (.str (Str.ofString "ShortReader.image") 562), (.str (Str.ofString "/claim/cut.py") 563), (.int (124) 0), (.int (1) 0), (.int (0) 0), (.int (0) 0), (.int (3) 0), (.ref 289), (.bool true), (.int (181) 0), (.ref 290), .none, (.ref 291), (.ref 292), (.ref 293), (.int (565) 0), (.int (124) 0), (.str (Str.ofString "/claim/cut.py") 566)]), #[]⟩
def o84_295 (P : Params) : Obj := ⟨(.type "function"), .none, (.func ⟨(Str.ofString "image"), (Str.ofString "ShortReader.image"), defArgs (inClass (top 31) 2), .stmts (defBody (inClass (top 31) 2)), defScope (inClass (top 31) 2), 3, [], .none, .none, .none, (.str (Str.ofString "plinth.short") 531), .none, (.ref 294), .none, 0⟩), #[]⟩
def o84_296 (P : Params) : Obj := ⟨(.type "tuple"), .none, (.seq #[] 0), #[]⟩
def o84_297 (P : Params) : Obj := ⟨.none, .none, (.fields #[]), #[]⟩
def o84_298 (P : Params) : Obj := ⟨(.type "tuple"), .none, (.seq #[(.str (Str.ofString "self") 571), (.str (Str.ofString "code") 572)] 0), #[]⟩
def o84_299 (P : Params) : Obj := ⟨(.type "tuple"), .none, (.seq #[] 0), #[]⟩
def o84_300 (P : Params) : Obj := ⟨.none, .none, (.func ⟨(Str.ofString "_take"), (Str.ofString "ShortReader._take"), defArgs (inClass (top 31) 3), .stmts (defBody (inClass (top 31) 3)), defScope (inClass (top 31) 3), 0, [], .none, .none, .none, .none, .none, .none, .none, 0⟩), #[]⟩
def o84_301 (P : Params) : Obj := ⟨(.type "code"), .none, (.fields #[(.str (Str.ofString "_take") 568), (.str (Str.ofString "ShortReader._take") 569), (.str (Str.ofString "/claim/cut.py") 570), (.int (127) 0), (.int (2) 0), (.int (0) 0), (.int (0) 0), (.int (3) 0), (.ref 296), (.bool true), (.int (181) 0), (.ref 297), .none, (.ref 298), (.ref 299), (.ref 300), (.int (573) 0), (.int (127) 0), (.str (Str.ofString "/claim/cut.py") 574)]), #[]⟩
def o84_302 (P : Params) : Obj := ⟨(.type "function"), .none, (.func ⟨(Str.ofString "_take"), (Str.ofString "ShortReader._take"), defArgs (inClass (top 31) 3), .stmts (defBody (inClass (top 31) 3)), defScope (inClass (top 31) 3), 3, [], .none, .none, .none, (.str (Str.ofString "plinth.short") 531), .none, (.ref 301), .none, 0⟩), #[]⟩
def o84_303 (P : Params) : Obj := ⟨(.type "tuple"), .none, (.seq #[] 0), #[]⟩
def o84_304 (P : Params) : Obj := ⟨.none, .none, (.fields #[]), #[]⟩
def o84_305 (P : Params) : Obj := ⟨(.type "tuple"), .none, (.seq #[(.str (Str.ofString "self") 579), (.str (Str.ofString "op") 580), (.str (Str.ofString "arg") 581), (.str (Str.ofString "successor") 582)] 0), #[]⟩
def o84_306 (P : Params) : Obj := ⟨(.type "tuple"), .none, (.seq #[] 0), #[]⟩
def o84_307 (P : Params) : Obj := ⟨.none, .none, (.func ⟨(Str.ofString "_emit"), (Str.ofString "ShortReader._emit"), defArgs (inClass (top 31) 4), .stmts (defBody (inClass (top 31) 4)), defScope (inClass (top 31) 4), 0, [], .none, .none, .none, .none, .none, .none, .none, 0⟩), #[]⟩
def o84_308 (P : Params) : Obj := ⟨(.type "code"), .none, (.fields #[(.str (Str.ofString "_emit") 576), (.str (Str.ofString "ShortReader._emit") 577), (.str (Str.ofString "/claim/cut.py") 578), (.int (148) 0), (.int (4) 0), (.int (0) 0), (.int (0) 0), (.int (3) 0), (.ref 303), (.bool true), (.int (181) 0), (.ref 304), .none, (.ref 305), (.ref 306), (.ref 307), (.int (583) 0), (.int (148) 0), (.str (Str.ofString "/claim/cut.py") 584)]), #[]⟩
def o84_309 (P : Params) : Obj := ⟨(.type "function"), .none, (.func ⟨(Str.ofString "_emit"), (Str.ofString "ShortReader._emit"), defArgs (inClass (top 31) 4), .stmts (defBody (inClass (top 31) 4)), defScope (inClass (top 31) 4), 3, [], .none, .none, .none, (.str (Str.ofString "plinth.short") 531), .none, (.ref 308), .none, 0⟩), #[]⟩
def o84_310 (P : Params) : Obj := ⟨(.type "tuple"), .none, (.seq #[(.str (Str.ofString "_cells") 586), (.str (Str.ofString "finished") 587), (.str (Str.ofString "m") 588), (.str (Str.ofString "r") 589), (.str (Str.ofString "waiting") 590)] 0), #[]⟩
def o84_311 (P : Params) : Obj := ⟨(.type "dict"), .none, (.dict #[⟨PyData.keyHash P (Str.ofString "__module__"), (.str (Str.ofString "__module__") 540), (.str (Str.ofString "plinth.short") 531)⟩, ⟨PyData.keyHash P (Str.ofString "__firstlineno__"), (.str (Str.ofString "__firstlineno__") 544), (.int (111) 543)⟩, ⟨PyData.keyHash P (Str.ofString "__init__"), (.str (Str.ofString "__init__") 551), (.ref 281)⟩, ⟨PyData.keyHash P (Str.ofString "feed"), (.str (Str.ofString "feed") 560), (.ref 288)⟩, ⟨PyData.keyHash P (Str.ofString "image"), (.str (Str.ofString "image") 567), (.ref 295)⟩, ⟨PyData.keyHash P (Str.ofString "_take"), (.str (Str.ofString "_take") 575), (.ref 302)⟩, ⟨PyData.keyHash P (Str.ofString "_emit"), (.str (Str.ofString "_emit") 585), (.ref 309)⟩, ⟨PyData.keyHash P (Str.ofString "__static_attributes__"), (.str (Str.ofString "__static_attributes__") 591), (.ref 310)⟩, ⟨PyData.keyHash P (Str.ofString "__dict__"), (.str (Str.ofString "__dict__") 593), (.ref 313)⟩, ⟨PyData.keyHash P (Str.ofString "__weakref__"), (.str (Str.ofString "__weakref__") 595), (.ref 314)⟩, ⟨PyData.keyHash P (Str.ofString "__doc__"), (.str (Str.ofString "__doc__") 596), .none⟩] 4), #[]⟩
def o84_312 (P : Params) : Obj := ⟨(.type "type"), .none, (.cls ⟨(Str.ofString "ShortReader"), [(.type "object")], [(.ref 312), (.type "object")], 311, (Str.ofString "ShortReader"), true, [], [], false, .none, false⟩), #[.none, .none, (.some (.str (Str.ofString "ShortReader") 533)), (.some (.str (Str.ofString "ShortReader") 541)), (.some (.builtin "object.__new__")), (.some (.bool true))]⟩
def o84_313 (P : Params) : Obj := ⟨(.type "getset_descriptor"), .none, (.fields #[(.str (Str.ofString "__dict__") 592), (.ref 312), (.builtin "function.__dict__"), (.builtin "function.__dict__#set")]), #[]⟩
def o84_314 (P : Params) : Obj := ⟨(.type "getset_descriptor"), .none, (.fields #[(.str (Str.ofString "__weakref__") 594), (.ref 312), (.builtin "ExceptionGroup.__weakref__"), .none]), #[]⟩
def o84_315 (P : Params) : Obj := ⟨(.type "super"), .none, (.fields #[(.ref 312), (.ref 312), (.ref 312)]), #[]⟩
def o84_316 (P : Params) : Obj := ⟨(.type "builtin_function_or_method"), .none, (.fields #[(.builtin "object.__init_subclass__"), (.ref 312)]), #[]⟩
def o84_317 (P : Params) : Obj := ⟨(.type "tuple"), .none, (.seq #[] 0), #[]⟩
def o84_318 (P : Params) : Obj := ⟨.none, .none, (.fields #[]), #[]⟩
def o84_319 (P : Params) : Obj := ⟨(.type "tuple"), .none, (.seq #[(.str (Str.ofString "codes") 602), (.str (Str.ofString "reader") 603)] 0), #[]⟩
def o84_320 (P : Params) : Obj := ⟨(.type "tuple"), .none, (.seq #[] 0), #[]⟩
def o84_321 (P : Params) : Obj := ⟨.none, .none, (.func ⟨(Str.ofString "translate_short"), (Str.ofString "translate_short"), defArgs (top 32), .stmts (defBody (top 32)), defScope (top 32), 0, [], .none, .none, .none, .none, .none, .none, .none, 0⟩), #[]⟩
def o84_322 (P : Params) : Obj := ⟨(.type "code"), .none, (.fields #[(.str (Str.ofString "translate_short") 599), (.str (Str.ofString "translate_short") 600), (.str (Str.ofString "/claim/cut.py") 601), (.int (152) 0), (.int (1) 0), (.int (0) 0), (.int (0) 0), (.int (3) 0), (.ref 317), (.bool true), (.int (181) 0), (.ref 318), .none, (.ref 319), (.ref 320), (.ref 321), (.int (604) 0), (.int (152) 0), (.str (Str.ofString "/claim/cut.py") 605)]), #[]⟩
def o84_323 (P : Params) : Obj := ⟨(.type "function"), .none, (.func ⟨(Str.ofString "translate_short"), (Str.ofString "translate_short"), defArgs (top 32), .stmts (defBody (top 32)), defScope (top 32), 3, [], .none, .none, .none, (.str (Str.ofString "plinth.short") 531), .none, (.ref 322), .none, 0⟩), #[]⟩
def o84_324 (P : Params) : Obj := ⟨(.type "tuple"), .none, (.seq #[] 0), #[]⟩
def o84_325 (P : Params) : Obj := ⟨(.type "builtin_function_or_method"), .none, (.fields #[(.builtin "type.__prepare__"), (.type "type")]), #[]⟩
def o84_326 (P : Params) : Obj := ⟨(.type "dict"), .none, (.dict #[⟨PyData.keyHash P (Str.ofString "__module__"), (.str (Str.ofString "__module__") 632), (.str (Str.ofString "plinth.translate") 607)⟩, ⟨PyData.keyHash P (Str.ofString "__qualname__"), (.str (Str.ofString "__qualname__") 634), (.str (Str.ofString "Translator") 633)⟩, ⟨PyData.keyHash P (Str.ofString "__firstlineno__"), (.str (Str.ofString "__firstlineno__") 636), (.int (165) 635)⟩, ⟨PyData.keyHash P (Str.ofString "__init__"), (.str (Str.ofString "__init__") 649), (.ref 338)⟩, ⟨PyData.keyHash P (Str.ofString "popped"), (.str (Str.ofString "popped") 656), (.ref 345)⟩, ⟨PyData.keyHash P (Str.ofString "number"), (.str (Str.ofString "number") 664), (.ref 352)⟩, ⟨PyData.keyHash P (Str.ofString "put_node"), (.str (Str.ofString "put_node") 674), (.ref 359)⟩, ⟨PyData.keyHash P (Str.ofString "emit"), (.str (Str.ofString "emit") 683), (.ref 366)⟩, ⟨PyData.keyHash P (Str.ofString "end_numeral"), (.str (Str.ofString "end_numeral") 690), (.ref 373)⟩, ⟨PyData.keyHash P (Str.ofString "paired"), (.str (Str.ofString "paired") 699), (.ref 380)⟩, ⟨PyData.keyHash P (Str.ofString "bracket"), (.str (Str.ofString "bracket") 710), (.ref 387)⟩, ⟨PyData.keyHash P (Str.ofString "sign"), (.str (Str.ofString "sign") 718), (.ref 394)⟩, ⟨PyData.keyHash P (Str.ofString "take"), (.str (Str.ofString "take") 727), (.ref 401)⟩, ⟨PyData.keyHash P (Str.ofString "finish"), (.str (Str.ofString "finish") 734), (.ref 408)⟩, ⟨PyData.keyHash P (Str.ofString "__static_attributes__"), (.str (Str.ofString "__static_attributes__") 744), (.ref 409)⟩] 15), #[]⟩
def o84_327 (P : Params) : Obj := ⟨(.type "tuple"), .none, (.seq #[] 0), #[]⟩
def o84_328 (P : Params) : Obj := ⟨.none, .none, (.fields #[(.int (167) 0), (.int (4) 0), (.ref 337), (.int (178) 0), (.int (4) 0), (.ref 344), (.int (183) 0), (.int (4) 0), (.ref 351), (.int (188) 0), (.int (4) 0), (.ref 358), (.int (191) 0), (.int (4) 0), (.ref 365), (.int (195) 0), (.int (4) 0), (.ref 372), (.int (200) 0), (.int (4) 0), (.ref 379), (.int (211) 0), (.int (4) 0), (.ref 386), (.int (236) 0), (.int (4) 0), (.ref 393), (.int (249) 0), (.int (4) 0), (.ref 400), (.int (265) 0), (.int (4) 0), (.ref 407)]), #[]⟩
def o84_329 (P : Params) : Obj := ⟨(.type "code"), .none, (.fields #[(.str (Str.ofString "Translator") 627), (.str (Str.ofString "Translator") 628), (.str (Str.ofString "/claim/cut.py") 629), (.int (165) 0), (.int (0) 0), (.int (0) 0), (.int (0) 0), (.int (0) 0), (.ref 327), (.bool false), (.int (181) 0), (.ref 328), .none, .none, .none, .none, (.int (630) 0), (.int (165) 0), (.str (Str.ofString "/claim/cut.py") 631)]), #[]⟩
def o84_330 (P : Params) : Obj := ⟨(.type "frame"), .none, .plain, #[(.some (.ref 329)), (.some (.ref 3)), (.some (.ref 326)), .none, (.some (.str (Str.ofString "plinth.translate") 607)), .none, (.some (.ref 0))]⟩
def o84_331 (P : Params) : Obj := ⟨(.type "dict"), .none, (.dict #[⟨PyData.keyHash P (Str.ofString "first"), (.str (Str.ofString "first") 639), (.int (200) 637)⟩, ⟨PyData.keyHash P (Str.ofString "by"), (.str (Str.ofString "by") 640), (.int (1) 638)⟩] 2), #[]⟩
def o84_332 (P : Params) : Obj := ⟨(.type "tuple"), .none, (.seq #[] 0), #[]⟩
def o84_333 (P : Params) : Obj := ⟨.none, .none, (.fields #[]), #[]⟩
def o84_334 (P : Params) : Obj := ⟨(.type "tuple"), .none, (.seq #[(.str (Str.ofString "self") 644), (.str (Str.ofString "first") 645), (.str (Str.ofString "by") 646)] 0), #[]⟩
def o84_335 (P : Params) : Obj := ⟨(.type "tuple"), .none, (.seq #[] 0), #[]⟩
def o84_336 (P : Params) : Obj := ⟨.none, .none, (.func ⟨(Str.ofString "__init__"), (Str.ofString "Translator.__init__"), defArgs (inClass (top 42) 0), .stmts (defBody (inClass (top 42) 0)), defScope (inClass (top 42) 0), 0, [], .none, .none, .none, .none, .none, .none, .none, 0⟩), #[]⟩
def o84_337 (P : Params) : Obj := ⟨(.type "code"), .none, (.fields #[(.str (Str.ofString "__init__") 641), (.str (Str.ofString "Translator.__init__") 642), (.str (Str.ofString "/claim/cut.py") 643), (.int (167) 0), (.int (1) 0), (.int (0) 0), (.int (2) 0), (.int (3) 0), (.ref 332), (.bool true), (.int (181) 0), (.ref 333), .none, (.ref 334), (.ref 335), (.ref 336), (.int (647) 0), (.int (167) 0), (.str (Str.ofString "/claim/cut.py") 648)]), #[]⟩
def o84_338 (P : Params) : Obj := ⟨(.type "function"), .none, (.func ⟨(Str.ofString "__init__"), (Str.ofString "Translator.__init__"), defArgs (inClass (top 42) 0), .stmts (defBody (inClass (top 42) 0)), defScope (inClass (top 42) 0), 3, [], .none, (.ref 331), .none, (.str (Str.ofString "plinth.translate") 607), .none, (.ref 337), .none, 0⟩), #[]⟩
def o84_339 (P : Params) : Obj := ⟨(.type "tuple"), .none, (.seq #[] 0), #[]⟩
def o84_340 (P : Params) : Obj := ⟨.none, .none, (.fields #[]), #[]⟩
def o84_341 (P : Params) : Obj := ⟨(.type "tuple"), .none, (.seq #[(.str (Str.ofString "self") 653)] 0), #[]⟩
def o84_342 (P : Params) : Obj := ⟨(.type "tuple"), .none, (.seq #[] 0), #[]⟩
def o84_343 (P : Params) : Obj := ⟨.none, .none, (.func ⟨(Str.ofString "popped"), (Str.ofString "Translator.popped"), defArgs (inClass (top 42) 1), .stmts (defBody (inClass (top 42) 1)), defScope (inClass (top 42) 1), 0, [], .none, .none, .none, .none, .none, .none, .none, 0⟩), #[]⟩
def o84_344 (P : Params) : Obj := ⟨(.type "code"), .none, (.fields #[(.str (Str.ofString "popped") 650), (.str (Str.ofString "Translator.popped") 651), (.str (Str.ofString "/claim/cut.py") 652), (.int (178) 0), (.int (1) 0), (.int (0) 0), (.int (0) 0), (.int (3) 0), (.ref 339), (.bool true), (.int (181) 0), (.ref 340), .none, (.ref 341), (.ref 342), (.ref 343), (.int (654) 0), (.int (178) 0), (.str (Str.ofString "/claim/cut.py") 655)]), #[]⟩
def o84_345 (P : Params) : Obj := ⟨(.type "function"), .none, (.func ⟨(Str.ofString "popped"), (Str.ofString "Translator.popped"), defArgs (inClass (top 42) 1), .stmts (defBody (inClass (top 42) 1)), defScope (inClass (top 42) 1), 3, [], .none, .none, .none, (.str (Str.ofString "plinth.translate") 607), .none, (.ref 344), .none, 0⟩), #[]⟩
def o84_346 (P : Params) : Obj := ⟨(.type "tuple"), .none, (.seq #[] 0), #[]⟩
def o84_347 (P : Params) : Obj := ⟨.none, .none, (.fields #[]), #[]⟩
def o84_348 (P : Params) : Obj := ⟨(.type "tuple"), .none, (.seq #[(.str (Str.ofString "self") 660), (.str (Str.ofString "taken") 661)] 0), #[]⟩
def o84_349 (P : Params) : Obj := ⟨(.type "tuple"), .none, (.seq #[] 0), #[]⟩
def o84_350 (P : Params) : Obj := ⟨.none, .none, (.func ⟨(Str.ofString "number"), (Str.ofString "Translator.number"), defArgs (inClass (top 42) 2), .stmts (defBody (inClass (top 42) 2)), defScope (inClass (top 42) 2), 0, [], .none, .none, .none, .none, .none, .none, .none, 0⟩), #[]⟩
def o84_351 (P : Params) : Obj := ⟨(.type "code"), .none, (.fields #[(.str (Str.ofString "number") 657), (.str (Str.ofString "Translator.number") 658), (.str (Str.ofString "/claim/cut.py") 659), (.int (183) 0), (.int (1) 0), (.int (0) 0), (.int (0) 0), (.int (3) 0), (.ref 346), (.bool true), (.int (181) 0), (.ref 347), .none, (.ref 348), (.ref 349), (.ref 350), (.int (662) 0), (.int (183) 0), (.str (Str.ofString "/claim/cut.py") 663)]), #[]⟩
def o84_352 (P : Params) : Obj := ⟨(.type "function"), .none, (.func ⟨(Str.ofString "number"), (Str.ofString "Translator.number"), defArgs (inClass (top 42) 2), .stmts (defBody (inClass (top 42) 2)), defScope (inClass (top 42) 2), 3, [], .none, .none, .none, (.str (Str.ofString "plinth.translate") 607), .none, (.ref 351), .none, 0⟩), #[]⟩
def o84_353 (P : Params) : Obj := ⟨(.type "tuple"), .none, (.seq #[] 0), #[]⟩
def o84_354 (P : Params) : Obj := ⟨.none, .none, (.fields #[]), #[]⟩
def o84_355 (P : Params) : Obj := ⟨(.type "tuple"), .none, (.seq #[(.str (Str.ofString "self") 668), (.str (Str.ofString "op") 669), (.str (Str.ofString "arg") 670), (.str (Str.ofString "successor") 671)] 0), #[]⟩
def o84_356 (P : Params) : Obj := ⟨(.type "tuple"), .none, (.seq #[] 0), #[]⟩
def o84_357 (P : Params) : Obj := ⟨.none, .none, (.func ⟨(Str.ofString "put_node"), (Str.ofString "Translator.put_node"), defArgs (inClass (top 42) 3), .stmts (defBody (inClass (top 42) 3)), defScope (inClass (top 42) 3), 0, [], .none, .none, .none, .none, .none, .none, .none, 0⟩), #[]⟩
def o84_358 (P : Params) : Obj := ⟨(.type "code"), .none, (.fields #[(.str (Str.ofString "put_node") 665), (.str (Str.ofString "Translator.put_node") 666), (.str (Str.ofString "/claim/cut.py") 667), (.int (188) 0), (.int (4) 0), (.int (0) 0), (.int (0) 0), (.int (3) 0), (.ref 353), (.bool true), (.int (181) 0), (.ref 354), .none, (.ref 355), (.ref 356), (.ref 357), (.int (672) 0), (.int (188) 0), (.str (Str.ofString "/claim/cut.py") 673)]), #[]⟩
def o84_359 (P : Params) : Obj := ⟨(.type "function"), .none, (.func ⟨(Str.ofString "put_node"), (Str.ofString "Translator.put_node"), defArgs (inClass (top 42) 3), .stmts (defBody (inClass (top 42) 3)), defScope (inClass (top 42) 3), 3, [], .none, .none, .none, (.str (Str.ofString "plinth.translate") 607), .none, (.ref 358), .none, 0⟩), #[]⟩
def o84_360 (P : Params) : Obj := ⟨(.type "tuple"), .none, (.seq #[] 0), #[]⟩
def o84_361 (P : Params) : Obj := ⟨.none, .none, (.fields #[]), #[]⟩
def o84_362 (P : Params) : Obj := ⟨(.type "tuple"), .none, (.seq #[(.str (Str.ofString "self") 678), (.str (Str.ofString "op") 679), (.str (Str.ofString "arg") 680)] 0), #[]⟩
def o84_363 (P : Params) : Obj := ⟨(.type "tuple"), .none, (.seq #[] 0), #[]⟩
def o84_364 (P : Params) : Obj := ⟨.none, .none, (.func ⟨(Str.ofString "emit"), (Str.ofString "Translator.emit"), defArgs (inClass (top 42) 4), .stmts (defBody (inClass (top 42) 4)), defScope (inClass (top 42) 4), 0, [], .none, .none, .none, .none, .none, .none, .none, 0⟩), #[]⟩
def o84_365 (P : Params) : Obj := ⟨(.type "code"), .none, (.fields #[(.str (Str.ofString "emit") 675), (.str (Str.ofString "Translator.emit") 676), (.str (Str.ofString "/claim/cut.py") 677), (.int (191) 0), (.int (3) 0), (.int (0) 0), (.int (0) 0), (.int (3) 0), (.ref 360), (.bool true), (.int (181) 0), (.ref 361), .none, (.ref 362), (.ref 363), (.ref 364), (.int (681) 0), (.int (191) 0), (.str (Str.ofString "/claim/cut.py") 682)]), #[]⟩
def o84_366 (P : Params) : Obj := ⟨(.type "function"), .none, (.func ⟨(Str.ofString "emit"), (Str.ofString "Translator.emit"), defArgs (inClass (top 42) 4), .stmts (defBody (inClass (top 42) 4)), defScope (inClass (top 42) 4), 3, [], .none, .none, .none, (.str (Str.ofString "plinth.translate") 607), .none, (.ref 365), .none, 0⟩), #[]⟩
def o84_367 (P : Params) : Obj := ⟨(.type "tuple"), .none, (.seq #[] 0), #[]⟩
def o84_368 (P : Params) : Obj := ⟨.none, .none, (.fields #[]), #[]⟩
def o84_369 (P : Params) : Obj := ⟨(.type "tuple"), .none, (.seq #[(.str (Str.ofString "self") 687)] 0), #[]⟩
def o84_370 (P : Params) : Obj := ⟨(.type "tuple"), .none, (.seq #[] 0), #[]⟩
def o84_371 (P : Params) : Obj := ⟨.none, .none, (.func ⟨(Str.ofString "end_numeral"), (Str.ofString "Translator.end_numeral"), defArgs (inClass (top 42) 5), .stmts (defBody (inClass (top 42) 5)), defScope (inClass (top 42) 5), 0, [], .none, .none, .none, .none, .none, .none, .none, 0⟩), #[]⟩
def o84_372 (P : Params) : Obj := ⟨(.type "code"), .none, (.fields #[(.str (Str.ofString "end_numeral") 684), (.str (Str.ofString "Translator.end_numeral") 685), (.str (Str.ofString "/claim/cut.py") 686), (.int (195) 0), (.int (1) 0), (.int (0) 0), (.int (0) 0), (.int (3) 0), (.ref 367), (.bool true), (.int (181) 0), (.ref 368), .none, (.ref 369), (.ref 370), (.ref 371), (.int (688) 0), (.int (195) 0), (.str (Str.ofString "/claim/cut.py") 689)]), #[]⟩
def o84_373 (P : Params) : Obj := ⟨(.type "function"), .none, (.func ⟨(Str.ofString "end_numeral"), (Str.ofString "Translator.end_numeral"), defArgs (inClass (top 42) 5), .stmts (defBody (inClass (top 42) 5)), defScope (inClass (top 42) 5), 3, [], .none, .none, .none, (.str (Str.ofString "plinth.translate") 607), .none, (.ref 372), .none, 0⟩), #[]⟩
def o84_374 (P : Params) : Obj := ⟨(.type "tuple"), .none, (.seq #[] 0), #[]⟩
def o84_375 (P : Params) : Obj := ⟨.none, .none, (.fields #[]), #[]⟩
def o84_376 (P : Params) : Obj := ⟨(.type "tuple"), .none, (.seq #[(.str (Str.ofString "self") 694), (.str (Str.ofString "code") 695), (.str (Str.ofString "sign") 696)] 0), #[]⟩
def o84_377 (P : Params) : Obj := ⟨(.type "tuple"), .none, (.seq #[] 0), #[]⟩
def o84_378 (P : Params) : Obj := ⟨.none, .none, (.func ⟨(Str.ofString "paired"), (Str.ofString "Translator.paired"), defArgs (inClass (top 42) 6), .stmts (defBody (inClass (top 42) 6)), defScope (inClass (top 42) 6), 0, [], .none, .none, .none, .none, .none, .none, .none, 0⟩), #[]⟩
def o84_379 (P : Params) : Obj := ⟨(.type "code"), .none, (.fields #[(.str (Str.ofString "paired") 691), (.str (Str.ofString "Translator.paired") 692), (.str (Str.ofString "/claim/cut.py") 693), (.int (200) 0), (.int (2) 0), (.int (0) 0), (.int (0) 0), (.int (3) 0), (.ref 374), (.bool true), (.int (181) 0), (.ref 375), .none, (.ref 376), (.ref 377), (.ref 378), (.int (697) 0), (.int (200) 0), (.str (Str.ofString "/claim/cut.py") 698)]), #[]⟩
def o84_380 (P : Params) : Obj := ⟨(.type "function"), .none, (.func ⟨(Str.ofString "paired"), (Str.ofString "Translator.paired"), defArgs (inClass (top 42) 6), .stmts (defBody (inClass (top 42) 6)), defScope (inClass (top 42) 6), 3, [], .none, .none, .none, (.str (Str.ofString "plinth.translate") 607), .none, (.ref 379), .none, 0⟩), #[]⟩
def o84_381 (P : Params) : Obj := ⟨(.type "tuple"), .none, (.seq #[] 0), #[]⟩
def o84_382 (P : Params) : Obj := ⟨.none, .none, (.fields #[]), #[]⟩
def o84_383 (P : Params) : Obj := ⟨(.type "tuple"), .none, (.seq #[(.str (Str.ofString "self") 703), (.str (Str.ofString "code") 704), (.str (Str.ofString "other") 705), (.str (Str.ofString "after") 706), (.str (Str.ofString "start") 707)] 0), #[]⟩
def o84_384 (P : Params) : Obj := ⟨(.type "tuple"), .none, (.seq #[] 0), #[]⟩
def o84_385 (P : Params) : Obj := ⟨.none, .none, (.func ⟨(Str.ofString "bracket"), (Str.ofString "Translator.bracket"), defArgs (inClass (top 42) 7), .stmts (defBody (inClass (top 42) 7)), defScope (inClass (top 42) 7), 0, [], .none, .none, .none, .none, .none, .none, .none, 0⟩), #[]⟩
def o84_386 (P : Params) : Obj := ⟨(.type "code"), .none, (.fields #[(.str (Str.ofString "bracket") 700), (.str (Str.ofString "Translator.bracket") 701), (.str (Str.ofString "/claim/cut.py") 702), (.int (211) 0), (.int (2) 0), (.int (0) 0), (.int (0) 0), (.int (3) 0), (.ref 381), (.bool true), (.int (181) 0), (.ref 382), .none, (.ref 383), (.ref 384), (.ref 385), (.int (708) 0), (.int (211) 0), (.str (Str.ofString "/claim/cut.py") 709)]), #[]⟩
def o84_387 (P : Params) : Obj := ⟨(.type "function"), .none, (.func ⟨(Str.ofString "bracket"), (Str.ofString "Translator.bracket"), defArgs (inClass (top 42) 7), .stmts (defBody (inClass (top 42) 7)), defScope (inClass (top 42) 7), 3, [], .none, .none, .none, (.str (Str.ofString "plinth.translate") 607), .none, (.ref 386), .none, 0⟩), #[]⟩
def o84_388 (P : Params) : Obj := ⟨(.type "tuple"), .none, (.seq #[] 0), #[]⟩
def o84_389 (P : Params) : Obj := ⟨.none, .none, (.fields #[]), #[]⟩
def o84_390 (P : Params) : Obj := ⟨(.type "tuple"), .none, (.seq #[(.str (Str.ofString "self") 714), (.str (Str.ofString "code") 715)] 0), #[]⟩
def o84_391 (P : Params) : Obj := ⟨(.type "tuple"), .none, (.seq #[] 0), #[]⟩
def o84_392 (P : Params) : Obj := ⟨.none, .none, (.func ⟨(Str.ofString "sign"), (Str.ofString "Translator.sign"), defArgs (inClass (top 42) 8), .stmts (defBody (inClass (top 42) 8)), defScope (inClass (top 42) 8), 0, [], .none, .none, .none, .none, .none, .none, .none, 0⟩), #[]⟩
def o84_393 (P : Params) : Obj := ⟨(.type "code"), .none, (.fields #[(.str (Str.ofString "sign") 711), (.str (Str.ofString "Translator.sign") 712), (.str (Str.ofString "/claim/cut.py") 713), (.int (236) 0), (.int (2) 0), (.int (0) 0), (.int (0) 0), (.int (3) 0), (.ref 388), (.bool true), (.int (181) 0), (.ref 389), .none, (.ref 390), (.ref 391), (.ref 392), (.int (716) 0), (.int (236) 0), (.str (Str.ofString "/claim/cut.py") 717)]), #[]⟩
def o84_394 (P : Params) : Obj := ⟨(.type "function"), .none, (.func ⟨(Str.ofString "sign"), (Str.ofString "Translator.sign"), defArgs (inClass (top 42) 8), .stmts (defBody (inClass (top 42) 8)), defScope (inClass (top 42) 8), 3, [], .none, .none, .none, (.str (Str.ofString "plinth.translate") 607), .none, (.ref 393), .none, 0⟩), #[]⟩
def o84_395 (P : Params) : Obj := ⟨(.type "tuple"), .none, (.seq #[] 0), #[]⟩
def o84_396 (P : Params) : Obj := ⟨.none, .none, (.fields #[]), #[]⟩
def o84_397 (P : Params) : Obj := ⟨(.type "tuple"), .none, (.seq #[(.str (Str.ofString "self") 722), (.str (Str.ofString "code") 723), (.str (Str.ofString "value") 724)] 0), #[]⟩
def o84_398 (P : Params) : Obj := ⟨(.type "tuple"), .none, (.seq #[] 0), #[]⟩
def o84_399 (P : Params) : Obj := ⟨.none, .none, (.func ⟨(Str.ofString "take"), (Str.ofString "Translator.take"), defArgs (inClass (top 42) 9), .stmts (defBody (inClass (top 42) 9)), defScope (inClass (top 42) 9), 0, [], .none, .none, .none, .none, .none, .none, .none, 0⟩), #[]⟩
def o84_400 (P : Params) : Obj := ⟨(.type "code"), .none, (.fields #[(.str (Str.ofString "take") 719), (.str (Str.ofString "Translator.take") 720), (.str (Str.ofString "/claim/cut.py") 721), (.int (249) 0), (.int (2) 0), (.int (0) 0), (.int (0) 0), (.int (3) 0), (.ref 395), (.bool true), (.int (181) 0), (.ref 396), .none, (.ref 397), (.ref 398), (.ref 399), (.int (725) 0), (.int (249) 0), (.str (Str.ofString "/claim/cut.py") 726)]), #[]⟩
def o84_401 (P : Params) : Obj := ⟨(.type "function"), .none, (.func ⟨(Str.ofString "take"), (Str.ofString "Translator.take"), defArgs (inClass (top 42) 9), .stmts (defBody (inClass (top 42) 9)), defScope (inClass (top 42) 9), 3, [], .none, .none, .none, (.str (Str.ofString "plinth.translate") 607), .none, (.ref 400), .none, 0⟩), #[]⟩
def o84_402 (P : Params) : Obj := ⟨(.type "tuple"), .none, (.seq #[] 0), #[]⟩
def o84_403 (P : Params) : Obj := ⟨.none, .none, (.fields #[]), #[]⟩
def o84_404 (P : Params) : Obj := ⟨(.type "tuple"), .none, (.seq #[(.str (Str.ofString "self") 731)] 0), #[]⟩
def o84_405 (P : Params) : Obj := ⟨(.type "tuple"), .none, (.seq #[] 0), #[]⟩
def o84_406 (P : Params) : Obj := ⟨.none, .none, (.func ⟨(Str.ofString "finish"), (Str.ofString "Translator.finish"), defArgs (inClass (top 42) 10), .stmts (defBody (inClass (top 42) 10)), defScope (inClass (top 42) 10), 0, [], .none, .none, .none, .none, .none, .none, .none, 0⟩), #[]⟩
def o84_407 (P : Params) : Obj := ⟨(.type "code"), .none, (.fields #[(.str (Str.ofString "finish") 728), (.str (Str.ofString "Translator.finish") 729), (.str (Str.ofString "/claim/cut.py") 730), (.int (265) 0), (.int (1) 0), (.int (0) 0), (.int (0) 0), (.int (3) 0), (.ref 402), (.bool true), (.int (181) 0), (.ref 403), .none, (.ref 404), (.ref 405), (.ref 406), (.int (732) 0), (.int (265) 0), (.str (Str.ofString "/claim/cut.py") 733)]), #[]⟩
def o84_408 (P : Params) : Obj := ⟨(.type "function"), .none, (.func ⟨(Str.ofString "finish"), (Str.ofString "Translator.finish"), defArgs (inClass (top 42) 10), .stmts (defBody (inClass (top 42) 10)), defScope (inClass (top 42) 10), 3, [], .none, .none, .none, (.str (Str.ofString "plinth.translate") 607), .none, (.ref 407), .none, 0⟩), #[]⟩
def o84_409 (P : Params) : Obj := ⟨(.type "tuple"), .none, (.seq #[(.str (Str.ofString "by") 735), (.str (Str.ofString "finished") 736), (.str (Str.ofString "image") 737), (.str (Str.ofString "k") 738), (.str (Str.ofString "m") 739), (.str (Str.ofString "numeral") 740), (.str (Str.ofString "over") 741), (.str (Str.ofString "pile") 742), (.str (Str.ofString "waiting") 743)] 0), #[]⟩
def o84_410 (P : Params) : Obj := ⟨(.type "dict"), .none, (.dict #[⟨PyData.keyHash P (Str.ofString "__module__"), (.str (Str.ofString "__module__") 632), (.str (Str.ofString "plinth.translate") 607)⟩, ⟨PyData.keyHash P (Str.ofString "__firstlineno__"), (.str (Str.ofString "__firstlineno__") 636), (.int (165) 635)⟩, ⟨PyData.keyHash P (Str.ofString "__init__"), (.str (Str.ofString "__init__") 649), (.ref 338)⟩, ⟨PyData.keyHash P (Str.ofString "popped"), (.str (Str.ofString "popped") 656), (.ref 345)⟩, ⟨PyData.keyHash P (Str.ofString "number"), (.str (Str.ofString "number") 664), (.ref 352)⟩, ⟨PyData.keyHash P (Str.ofString "put_node"), (.str (Str.ofString "put_node") 674), (.ref 359)⟩, ⟨PyData.keyHash P (Str.ofString "emit"), (.str (Str.ofString "emit") 683), (.ref 366)⟩, ⟨PyData.keyHash P (Str.ofString "end_numeral"), (.str (Str.ofString "end_numeral") 690), (.ref 373)⟩, ⟨PyData.keyHash P (Str.ofString "paired"), (.str (Str.ofString "paired") 699), (.ref 380)⟩, ⟨PyData.keyHash P (Str.ofString "bracket"), (.str (Str.ofString "bracket") 710), (.ref 387)⟩, ⟨PyData.keyHash P (Str.ofString "sign"), (.str (Str.ofString "sign") 718), (.ref 394)⟩, ⟨PyData.keyHash P (Str.ofString "take"), (.str (Str.ofString "take") 727), (.ref 401)⟩, ⟨PyData.keyHash P (Str.ofString "finish"), (.str (Str.ofString "finish") 734), (.ref 408)⟩, ⟨PyData.keyHash P (Str.ofString "__static_attributes__"), (.str (Str.ofString "__static_attributes__") 744), (.ref 409)⟩, ⟨PyData.keyHash P (Str.ofString "__dict__"), (.str (Str.ofString "__dict__") 746), (.ref 412)⟩, ⟨PyData.keyHash P (Str.ofString "__weakref__"), (.str (Str.ofString "__weakref__") 748), (.ref 413)⟩, ⟨PyData.keyHash P (Str.ofString "__doc__"), (.str (Str.ofString "__doc__") 749), .none⟩] 4), #[]⟩
def o84_411 (P : Params) : Obj := ⟨(.type "type"), .none, (.cls ⟨(Str.ofString "Translator"), [(.type "object")], [(.ref 411), (.type "object")], 410, (Str.ofString "Translator"), true, [], [], false, .none, false⟩), #[.none, .none, (.some (.str (Str.ofString "Translator") 625)), (.some (.str (Str.ofString "Translator") 633)), (.some (.builtin "object.__new__")), (.some (.bool true))]⟩
def o84_412 (P : Params) : Obj := ⟨(.type "getset_descriptor"), .none, (.fields #[(.str (Str.ofString "__dict__") 745), (.ref 411), (.builtin "function.__dict__"), (.builtin "function.__dict__#set")]), #[]⟩
def o84_413 (P : Params) : Obj := ⟨(.type "getset_descriptor"), .none, (.fields #[(.str (Str.ofString "__weakref__") 747), (.ref 411), (.builtin "ExceptionGroup.__weakref__"), .none]), #[]⟩
def o84_414 (P : Params) : Obj := ⟨(.type "super"), .none, (.fields #[(.ref 411), (.ref 411), (.ref 411)]), #[]⟩
def o84_415 (P : Params) : Obj := ⟨(.type "builtin_function_or_method"), .none, (.fields #[(.builtin "object.__init_subclass__"), (.ref 411)]), #[]⟩
def o84_416 (P : Params) : Obj := ⟨(.type "dict"), .none, (.dict #[⟨PyData.keyHash P (Str.ofString "first"), (.str (Str.ofString "first") 754), (.int (200) 752)⟩, ⟨PyData.keyHash P (Str.ofString "by"), (.str (Str.ofString "by") 755), (.int (1) 753)⟩] 2), #[]⟩
def o84_417 (P : Params) : Obj := ⟨(.type "tuple"), .none, (.seq #[] 0), #[]⟩
def o84_418 (P : Params) : Obj := ⟨.none, .none, (.fields #[]), #[]⟩
def o84_419 (P : Params) : Obj := ⟨(.type "tuple"), .none, (.seq #[(.str (Str.ofString "codes") 759), (.str (Str.ofString "first") 760), (.str (Str.ofString "by") 761), (.str (Str.ofString "translator") 762), (.str (Str.ofString "code") 763)] 0), #[]⟩
def o84_420 (P : Params) : Obj := ⟨(.type "tuple"), .none, (.seq #[] 0), #[]⟩
def o84_421 (P : Params) : Obj := ⟨.none, .none, (.func ⟨(Str.ofString "translate"), (Str.ofString "translate"), defArgs (top 43), .stmts (defBody (top 43)), defScope (top 43), 0, [], .none, .none, .none, .none, .none, .none, .none, 0⟩), #[]⟩
def o84_422 (P : Params) : Obj := ⟨(.type "code"), .none, (.fields #[(.str (Str.ofString "translate") 756), (.str (Str.ofString "translate") 757), (.str (Str.ofString "/claim/cut.py") 758), (.int (273) 0), (.int (1) 0), (.int (0) 0), (.int (2) 0), (.int (3) 0), (.ref 417), (.bool true), (.int (181) 0), (.ref 418), .none, (.ref 419), (.ref 420), (.ref 421), (.int (764) 0), (.int (273) 0), (.str (Str.ofString "/claim/cut.py") 765)]), #[]⟩
def o84_423 (P : Params) : Obj := ⟨(.type "function"), .none, (.func ⟨(Str.ofString "translate"), (Str.ofString "translate"), defArgs (top 43), .stmts (defBody (top 43)), defScope (top 43), 3, [], .none, (.ref 416), .none, (.str (Str.ofString "plinth.translate") 607), .none, (.ref 422), .none, 0⟩), #[]⟩
def o84_424 (P : Params) : Obj := ⟨(.type "tuple"), .none, (.seq #[(.str (Str.ofString "digits") 769), (.str (Str.ofString "short") 771), (.str (Str.ofString "plain") 773), (.str (Str.ofString "turned") 775)] 0), #[]⟩
def o84_425 (P : Params) : Obj := ⟨(.type "tuple"), .none, (.seq #[] 0), #[]⟩
def o84_426 (P : Params) : Obj := ⟨.none, .none, (.fields #[]), #[]⟩
def o84_427 (P : Params) : Obj := ⟨(.type "tuple"), .none, (.seq #[(.str (Str.ofString "kind") 781), (.str (Str.ofString "text") 782), (.str (Str.ofString "codes") 783)] 0), #[]⟩
def o84_428 (P : Params) : Obj := ⟨(.type "tuple"), .none, (.seq #[] 0), #[]⟩
def o84_429 (P : Params) : Obj := ⟨.none, .none, (.func ⟨(Str.ofString "due"), (Str.ofString "due"), defArgs (top 50), .stmts (defBody (top 50)), defScope (top 50), 0, [], .none, .none, .none, .none, .none, .none, .none, 0⟩), #[]⟩
def o84_430 (P : Params) : Obj := ⟨(.type "code"), .none, (.fields #[(.str (Str.ofString "due") 778), (.str (Str.ofString "due") 779), (.str (Str.ofString "/claim/cut.py") 780), (.int (284) 0), (.int (2) 0), (.int (0) 0), (.int (0) 0), (.int (3) 0), (.ref 425), (.bool true), (.int (181) 0), (.ref 426), .none, (.ref 427), (.ref 428), (.ref 429), (.int (784) 0), (.int (284) 0), (.str (Str.ofString "/claim/cut.py") 785)]), #[]⟩
def o84_431 (P : Params) : Obj := ⟨(.type "function"), .none, (.func ⟨(Str.ofString "due"), (Str.ofString "due"), defArgs (top 50), .stmts (defBody (top 50)), defScope (top 50), 3, [], .none, .none, .none, (.str (Str.ofString "plinth.audit") 767), .none, (.ref 430), .none, 0⟩), #[]⟩
def o84_432 (P : Params) : Obj := ⟨(.type "tuple"), .none, (.seq #[] 0), #[]⟩
def o84_433 (P : Params) : Obj := ⟨.none, .none, (.fields #[]), #[]⟩
def o84_434 (P : Params) : Obj := ⟨(.type "tuple"), .none, (.seq #[(.str (Str.ofString "one") 791), (.str (Str.ofString "other") 792), (.str (Str.ofString "at") 793), (.str (Str.ofString "number") 794)] 0), #[]⟩
def o84_435 (P : Params) : Obj := ⟨(.type "tuple"), .none, (.seq #[] 0), #[]⟩
def o84_436 (P : Params) : Obj := ⟨.none, .none, (.func ⟨(Str.ofString "first_difference"), (Str.ofString "first_difference"), defArgs (top 52), .stmts (defBody (top 52)), defScope (top 52), 0, [], .none, .none, .none, .none, .none, .none, .none, 0⟩), #[]⟩
def o84_437 (P : Params) : Obj := ⟨(.type "code"), .none, (.fields #[(.str (Str.ofString "first_difference") 788), (.str (Str.ofString "first_difference") 789), (.str (Str.ofString "/claim/cut.py") 790), (.int (296) 0), (.int (2) 0), (.int (0) 0), (.int (0) 0), (.int (3) 0), (.ref 432), (.bool true), (.int (181) 0), (.ref 433), .none, (.ref 434), (.ref 435), (.ref 436), (.int (795) 0), (.int (296) 0), (.str (Str.ofString "/claim/cut.py") 796)]), #[]⟩
def o84_438 (P : Params) : Obj := ⟨(.type "function"), .none, (.func ⟨(Str.ofString "first_difference"), (Str.ofString "first_difference"), defArgs (top 52), .stmts (defBody (top 52)), defScope (top 52), 3, [], .none, .none, .none, (.str (Str.ofString "plinth.audit") 767), .none, (.ref 437), .none, 0⟩), #[]⟩
def o84_439 (P : Params) : Obj := ⟨(.type "tuple"), .none, (.seq #[] 0), #[]⟩
def o84_440 (P : Params) : Obj := ⟨.none, .none, (.fields #[]), #[]⟩
def o84_441 (P : Params) : Obj := ⟨(.type "tuple"), .none, (.seq #[(.str (Str.ofString "shelf") 801), (.str (Str.ofString "found") 802), (.str (Str.ofString "name") 803), (.str (Str.ofString "place") 804)] 0), #[]⟩
def o84_442 (P : Params) : Obj := ⟨(.type "tuple"), .none, (.seq #[] 0), #[]⟩
def o84_443 (P : Params) : Obj := ⟨.none, .none, (.func ⟨(Str.ofString "audit"), (Str.ofString "audit"), defArgs (top 53), .stmts (defBody (top 53)), defScope (top 53), 0, [], .none, .none, .none, .none, .none, .none, .none, 0⟩), #[]⟩
def o84_444 (P : Params) : Obj := ⟨(.type "code"), .none, (.fields #[(.str (Str.ofString "audit") 798), (.str (Str.ofString "audit") 799), (.str (Str.ofString "/claim/cut.py") 800), (.int (303) 0), (.int (1) 0), (.int (0) 0), (.int (0) 0), (.int (3) 0), (.ref 439), (.bool true), (.int (181) 0), (.ref 440), .none, (.ref 441), (.ref 442), (.ref 443), (.int (805) 0), (.int (303) 0), (.str (Str.ofString "/claim/cut.py") 806)]), #[]⟩
def o84_445 (P : Params) : Obj := ⟨(.type "function"), .none, (.func ⟨(Str.ofString "audit"), (Str.ofString "audit"), defArgs (top 53), .stmts (defBody (top 53)), defScope (top 53), 3, [], .none, .none, .none, (.str (Str.ofString "plinth.audit") 767), .none, (.ref 444), .none, 0⟩), #[]⟩
def o84_446 (P : Params) : Obj := ⟨(.type "tuple"), .none, (.seq #[] 0), #[]⟩
def o84_447 (P : Params) : Obj := ⟨.none, .none, (.fields #[]), #[]⟩
def o84_448 (P : Params) : Obj := ⟨.none, .none, (.func ⟨(Str.ofString "nodes_of"), (Str.ofString "nodes_of"), defArgs (top 55), .stmts (defBody (top 55)), defScope (top 55), 0, [], .none, .none, .none, .none, .none, .none, .none, 0⟩), #[]⟩
def o84_449 (P : Params) : Obj := ⟨(.type "code"), .none, (.fields #[(.str (Str.ofString "nodes_of") 810), (.str (Str.ofString "nodes_of") 811), (.str (Str.ofString "/claim/cut.py") 812), (.int (311) 0), (.int (1) 0), (.int (0) 0), (.int (0) 0), (.int (3) 0), (.ref 446), (.bool true), (.int (181) 0), (.ref 447), .none, .none, .none, (.ref 448), (.int (813) 0), (.int (311) 0), (.str (Str.ofString "/claim/cut.py") 814)]), #[]⟩
def o84_450 (P : Params) : Obj := ⟨(.type "function"), .none, (.func ⟨(Str.ofString "nodes_of"), (Str.ofString "nodes_of"), defArgs (top 55), .stmts (defBody (top 55)), defScope (top 55), 3, [], .none, .none, .none, (.str (Str.ofString "plinth.nodes") 808), .none, (.ref 449), .none, 0⟩), #[]⟩
def o84_451 (P : Params) : Obj := ⟨(.type "tuple"), .none, (.seq #[] 0), #[]⟩
def o84_452 (P : Params) : Obj := ⟨.none, .none, (.fields #[]), #[]⟩
def o84_453 (P : Params) : Obj := ⟨(.type "tuple"), .none, (.seq #[(.str (Str.ofString "nodes") 819), (.str (Str.ofString "image") 820), (.str (Str.ofString "number") 821), (.str (Str.ofString "operation") 822), (.str (Str.ofString "argument") 823), (.str (Str.ofString "successor") 824)] 0), #[]⟩
def o84_454 (P : Params) : Obj := ⟨(.type "tuple"), .none, (.seq #[] 0), #[]⟩
def o84_455 (P : Params) : Obj := ⟨.none, .none, (.func ⟨(Str.ofString "image_of"), (Str.ofString "image_of"), defArgs (top 56), .stmts (defBody (top 56)), defScope (top 56), 0, [], .none, .none, .none, .none, .none, .none, .none, 0⟩), #[]⟩
def o84_456 (P : Params) : Obj := ⟨(.type "code"), .none, (.fields #[(.str (Str.ofString "image_of") 816), (.str (Str.ofString "image_of") 817), (.str (Str.ofString "/claim/cut.py") 818), (.int (313) 0), (.int (1) 0), (.int (0) 0), (.int (0) 0), (.int (3) 0), (.ref 451), (.bool true), (.int (181) 0), (.ref 452), .none, (.ref 453), (.ref 454), (.ref 455), (.int (825) 0), (.int (313) 0), (.str (Str.ofString "/claim/cut.py") 826)]), #[]⟩
def o84_457 (P : Params) : Obj := ⟨(.type "function"), .none, (.func ⟨(Str.ofString "image_of"), (Str.ofString "image_of"), defArgs (top 56), .stmts (defBody (top 56)), defScope (top 56), 3, [], .none, .none, .none, (.str (Str.ofString "plinth.nodes") 808), .none, (.ref 456), .none, 0⟩), #[]⟩
def o84_458 (P : Params) : Obj := ⟨(.type "tuple"), .none, (.seq #[] 0), #[]⟩
def o84_459 (P : Params) : Obj := ⟨.none, .none, (.fields #[]), #[]⟩
def o84_460 (P : Params) : Obj := ⟨(.type "tuple"), .none, (.seq #[(.str (Str.ofString "image") 831), (.str (Str.ofString "table") 832), (.str (Str.ofString "number") 833), (.str (Str.ofString "operation") 834), (.str (Str.ofString "argument") 835), (.str (Str.ofString "successor") 836)] 0), #[]⟩
def o84_461 (P : Params) : Obj := ⟨(.type "tuple"), .none, (.seq #[] 0), #[]⟩
def o84_462 (P : Params) : Obj := ⟨.none, .none, (.func ⟨(Str.ofString "table_of"), (Str.ofString "table_of"), defArgs (top 57), .stmts (defBody (top 57)), defScope (top 57), 0, [], .none, .none, .none, .none, .none, .none, .none, 0⟩), #[]⟩
def o84_463 (P : Params) : Obj := ⟨(.type "code"), .none, (.fields #[(.str (Str.ofString "table_of") 828), (.str (Str.ofString "table_of") 829), (.str (Str.ofString "/claim/cut.py") 830), (.int (318) 0), (.int (1) 0), (.int (0) 0), (.int (0) 0), (.int (3) 0), (.ref 458), (.bool true), (.int (181) 0), (.ref 459), .none, (.ref 460), (.ref 461), (.ref 462), (.int (837) 0), (.int (318) 0), (.str (Str.ofString "/claim/cut.py") 838)]), #[]⟩
def o84_464 (P : Params) : Obj := ⟨(.type "function"), .none, (.func ⟨(Str.ofString "table_of"), (Str.ofString "table_of"), defArgs (top 57), .stmts (defBody (top 57)), defScope (top 57), 3, [], .none, .none, .none, (.str (Str.ofString "plinth.nodes") 808), .none, (.ref 463), .none, 0⟩), #[]⟩
def o84_465 (P : Params) : Obj := ⟨(.type "tuple"), .none, (.seq #[] 0), #[]⟩
def o84_466 (P : Params) : Obj := ⟨.none, .none, (.fields #[]), #[]⟩
def o84_467 (P : Params) : Obj := ⟨(.type "tuple"), .none, (.seq #[(.str (Str.ofString "state") 855), (.str (Str.ofString "argument") 856)] 0), #[]⟩
def o84_468 (P : Params) : Obj := ⟨(.type "tuple"), .none, (.seq #[] 0), #[]⟩
def o84_469 (P : Params) : Obj := ⟨.none, .none, (.func ⟨(Str.ofString "_push"), (Str.ofString "_push"), defArgs (top 64), .stmts (defBody (top 64)), defScope (top 64), 0, [], .none, .none, .none, .none, .none, .none, .none, 0⟩), #[]⟩
def o84_470 (P : Params) : Obj := ⟨(.type "code"), .none, (.fields #[(.str (Str.ofString "_push") 852), (.str (Str.ofString "_push") 853), (.str (Str.ofString "/claim/cut.py") 854), (.int (329) 0), (.int (2) 0), (.int (0) 0), (.int (0) 0), (.int (3) 0), (.ref 465), (.bool true), (.int (181) 0), (.ref 466), .none, (.ref 467), (.ref 468), (.ref 469), (.int (857) 0), (.int (329) 0), (.str (Str.ofString "/claim/cut.py") 858)]), #[]⟩
def o84_471 (P : Params) : Obj := ⟨(.type "function"), .none, (.func ⟨(Str.ofString "_push"), (Str.ofString "_push"), defArgs (top 64), .stmts (defBody (top 64)), defScope (top 64), 3, [], .none, .none, .none, (.str (Str.ofString "plinth.machine") 840), .none, (.ref 470), .none, 0⟩), #[]⟩
def o84_472 (P : Params) : Obj := ⟨(.type "tuple"), .none, (.seq #[] 0), #[]⟩
def o84_473 (P : Params) : Obj := ⟨.none, .none, (.fields #[]), #[]⟩
def o84_474 (P : Params) : Obj := ⟨(.type "tuple"), .none, (.seq #[(.str (Str.ofString "state") 863), (.str (Str.ofString "argument") 864), (.str (Str.ofString "second") 865)] 0), #[]⟩
def o84_475 (P : Params) : Obj := ⟨(.type "tuple"), .none, (.seq #[] 0), #[]⟩
def o84_476 (P : Params) : Obj := ⟨.none, .none, (.func ⟨(Str.ofString "_plus"), (Str.ofString "_plus"), defArgs (top 65), .stmts (defBody (top 65)), defScope (top 65), 0, [], .none, .none, .none, .none, .none, .none, .none, 0⟩), #[]⟩
def o84_477 (P : Params) : Obj := ⟨(.type "code"), .none, (.fields #[(.str (Str.ofString "_plus") 860), (.str (Str.ofString "_plus") 861), (.str (Str.ofString "/claim/cut.py") 862), (.int (331) 0), (.int (2) 0), (.int (0) 0), (.int (0) 0), (.int (3) 0), (.ref 472), (.bool true), (.int (181) 0), (.ref 473), .none, (.ref 474), (.ref 475), (.ref 476), (.int (866) 0), (.int (331) 0), (.str (Str.ofString "/claim/cut.py") 867)]), #[]⟩
def o84_478 (P : Params) : Obj := ⟨(.type "function"), .none, (.func ⟨(Str.ofString "_plus"), (Str.ofString "_plus"), defArgs (top 65), .stmts (defBody (top 65)), defScope (top 65), 3, [], .none, .none, .none, (.str (Str.ofString "plinth.machine") 840), .none, (.ref 477), .none, 0⟩), #[]⟩
def o84_479 (P : Params) : Obj := ⟨(.type "tuple"), .none, (.seq #[] 0), #[]⟩
def o84_480 (P : Params) : Obj := ⟨.none, .none, (.fields #[]), #[]⟩
def o84_481 (P : Params) : Obj := ⟨(.type "tuple"), .none, (.seq #[(.str (Str.ofString "state") 872), (.str (Str.ofString "argument") 873), (.str (Str.ofString "second") 874)] 0), #[]⟩
def o84_482 (P : Params) : Obj := ⟨(.type "tuple"), .none, (.seq #[] 0), #[]⟩
def o84_483 (P : Params) : Obj := ⟨.none, .none, (.func ⟨(Str.ofString "_minus"), (Str.ofString "_minus"), defArgs (top 66), .stmts (defBody (top 66)), defScope (top 66), 0, [], .none, .none, .none, .none, .none, .none, .none, 0⟩), #[]⟩
def o84_484 (P : Params) : Obj := ⟨(.type "code"), .none, (.fields #[(.str (Str.ofString "_minus") 869), (.str (Str.ofString "_minus") 870), (.str (Str.ofString "/claim/cut.py") 871), (.int (334) 0), (.int (2) 0), (.int (0) 0), (.int (0) 0), (.int (3) 0), (.ref 479), (.bool true), (.int (181) 0), (.ref 480), .none, (.ref 481), (.ref 482), (.ref 483), (.int (875) 0), (.int (334) 0), (.str (Str.ofString "/claim/cut.py") 876)]), #[]⟩
def o84_485 (P : Params) : Obj := ⟨(.type "function"), .none, (.func ⟨(Str.ofString "_minus"), (Str.ofString "_minus"), defArgs (top 66), .stmts (defBody (top 66)), defScope (top 66), 3, [], .none, .none, .none, (.str (Str.ofString "plinth.machine") 840), .none, (.ref 484), .none, 0⟩), #[]⟩
def o84_486 (P : Params) : Obj := ⟨(.type "tuple"), .none, (.seq #[] 0), #[]⟩
def o84_487 (P : Params) : Obj := ⟨.none, .none, (.fields #[]), #[]⟩
def o84_488 (P : Params) : Obj := ⟨(.type "tuple"), .none, (.seq #[(.str (Str.ofString "state") 881), (.str (Str.ofString "argument") 882), (.str (Str.ofString "second") 883)] 0), #[]⟩
def o84_489 (P : Params) : Obj := ⟨(.type "tuple"), .none, (.seq #[] 0), #[]⟩
def o84_490 (P : Params) : Obj := ⟨.none, .none, (.func ⟨(Str.ofString "_digit"), (Str.ofString "_digit"), defArgs (top 67), .stmts (defBody (top 67)), defScope (top 67), 0, [], .none, .none, .none, .none, .none, .none, .none, 0⟩), #[]⟩
def o84_491 (P : Params) : Obj := ⟨(.type "code"), .none, (.fields #[(.str (Str.ofString "_digit") 878), (.str (Str.ofString "_digit") 879), (.str (Str.ofString "/claim/cut.py") 880), (.int (337) 0), (.int (2) 0), (.int (0) 0), (.int (0) 0), (.int (3) 0), (.ref 486), (.bool true), (.int (181) 0), (.ref 487), .none, (.ref 488), (.ref 489), (.ref 490), (.int (884) 0), (.int (337) 0), (.str (Str.ofString "/claim/cut.py") 885)]), #[]⟩
def o84_492 (P : Params) : Obj := ⟨(.type "function"), .none, (.func ⟨(Str.ofString "_digit"), (Str.ofString "_digit"), defArgs (top 67), .stmts (defBody (top 67)), defScope (top 67), 3, [], .none, .none, .none, (.str (Str.ofString "plinth.machine") 840), .none, (.ref 491), .none, 0⟩), #[]⟩
def o84_493 (P : Params) : Obj := ⟨(.type "tuple"), .none, (.seq #[] 0), #[]⟩
def o84_494 (P : Params) : Obj := ⟨.none, .none, (.fields #[]), #[]⟩
def o84_495 (P : Params) : Obj := ⟨(.type "tuple"), .none, (.seq #[(.str (Str.ofString "state") 890), (.str (Str.ofString "argument") 891), (.str (Str.ofString "second") 892)] 0), #[]⟩
def o84_496 (P : Params) : Obj := ⟨(.type "tuple"), .none, (.seq #[] 0), #[]⟩
def o84_497 (P : Params) : Obj := ⟨.none, .none, (.func ⟨(Str.ofString "_less"), (Str.ofString "_less"), defArgs (top 68), .stmts (defBody (top 68)), defScope (top 68), 0, [], .none, .none, .none, .none, .none, .none, .none, 0⟩), #[]⟩
def o84_498 (P : Params) : Obj := ⟨(.type "code"), .none, (.fields #[(.str (Str.ofString "_less") 887), (.str (Str.ofString "_less") 888), (.str (Str.ofString "/claim/cut.py") 889), (.int (340) 0), (.int (2) 0), (.int (0) 0), (.int (0) 0), (.int (3) 0), (.ref 493), (.bool true), (.int (181) 0), (.ref 494), .none, (.ref 495), (.ref 496), (.ref 497), (.int (893) 0), (.int (340) 0), (.str (Str.ofString "/claim/cut.py") 894)]), #[]⟩
def o84_499 (P : Params) : Obj := ⟨(.type "function"), .none, (.func ⟨(Str.ofString "_less"), (Str.ofString "_less"), defArgs (top 68), .stmts (defBody (top 68)), defScope (top 68), 3, [], .none, .none, .none, (.str (Str.ofString "plinth.machine") 840), .none, (.ref 498), .none, 0⟩), #[]⟩
def o84_500 (P : Params) : Obj := ⟨(.type "tuple"), .none, (.seq #[] 0), #[]⟩
def o84_501 (P : Params) : Obj := ⟨.none, .none, (.fields #[]), #[]⟩
def o84_502 (P : Params) : Obj := ⟨(.type "tuple"), .none, (.seq #[(.str (Str.ofString "state") 899), (.str (Str.ofString "argument") 900), (.str (Str.ofString "second") 901)] 0), #[]⟩
def o84_503 (P : Params) : Obj := ⟨(.type "tuple"), .none, (.seq #[] 0), #[]⟩
def o84_504 (P : Params) : Obj := ⟨.none, .none, (.func ⟨(Str.ofString "_same"), (Str.ofString "_same"), defArgs (top 69), .stmts (defBody (top 69)), defScope (top 69), 0, [], .none, .none, .none, .none, .none, .none, .none, 0⟩), #[]⟩
def o84_505 (P : Params) : Obj := ⟨(.type "code"), .none, (.fields #[(.str (Str.ofString "_same") 896), (.str (Str.ofString "_same") 897), (.str (Str.ofString "/claim/cut.py") 898), (.int (343) 0), (.int (2) 0), (.int (0) 0), (.int (0) 0), (.int (3) 0), (.ref 500), (.bool true), (.int (181) 0), (.ref 501), .none, (.ref 502), (.ref 503), (.ref 504), (.int (902) 0), (.int (343) 0), (.str (Str.ofString "/claim/cut.py") 903)]), #[]⟩
def o84_506 (P : Params) : Obj := ⟨(.type "function"), .none, (.func ⟨(Str.ofString "_same"), (Str.ofString "_same"), defArgs (top 69), .stmts (defBody (top 69)), defScope (top 69), 3, [], .none, .none, .none, (.str (Str.ofString "plinth.machine") 840), .none, (.ref 505), .none, 0⟩), #[]⟩
def o84_507 (P : Params) : Obj := ⟨(.type "tuple"), .none, (.seq #[] 0), #[]⟩
def o84_508 (P : Params) : Obj := ⟨.none, .none, (.fields #[]), #[]⟩
def o84_509 (P : Params) : Obj := ⟨(.type "tuple"), .none, (.seq #[(.str (Str.ofString "state") 908), (.str (Str.ofString "argument") 909)] 0), #[]⟩
def o84_510 (P : Params) : Obj := ⟨(.type "tuple"), .none, (.seq #[] 0), #[]⟩
def o84_511 (P : Params) : Obj := ⟨.none, .none, (.func ⟨(Str.ofString "_load"), (Str.ofString "_load"), defArgs (top 70), .stmts (defBody (top 70)), defScope (top 70), 0, [], .none, .none, .none, .none, .none, .none, .none, 0⟩), #[]⟩
def o84_512 (P : Params) : Obj := ⟨(.type "code"), .none, (.fields #[(.str (Str.ofString "_load") 905), (.str (Str.ofString "_load") 906), (.str (Str.ofString "/claim/cut.py") 907), (.int (346) 0), (.int (2) 0), (.int (0) 0), (.int (0) 0), (.int (3) 0), (.ref 507), (.bool true), (.int (181) 0), (.ref 508), .none, (.ref 509), (.ref 510), (.ref 511), (.int (910) 0), (.int (346) 0), (.str (Str.ofString "/claim/cut.py") 911)]), #[]⟩
def o84_513 (P : Params) : Obj := ⟨(.type "function"), .none, (.func ⟨(Str.ofString "_load"), (Str.ofString "_load"), defArgs (top 70), .stmts (defBody (top 70)), defScope (top 70), 3, [], .none, .none, .none, (.str (Str.ofString "plinth.machine") 840), .none, (.ref 512), .none, 0⟩), #[]⟩
def o84_514 (P : Params) : Obj := ⟨(.type "tuple"), .none, (.seq #[] 0), #[]⟩
def o84_515 (P : Params) : Obj := ⟨.none, .none, (.fields #[]), #[]⟩
def o84_516 (P : Params) : Obj := ⟨(.type "tuple"), .none, (.seq #[(.str (Str.ofString "state") 916), (.str (Str.ofString "argument") 917), (.str (Str.ofString "address") 918)] 0), #[]⟩
def o84_517 (P : Params) : Obj := ⟨(.type "tuple"), .none, (.seq #[] 0), #[]⟩
def o84_518 (P : Params) : Obj := ⟨.none, .none, (.func ⟨(Str.ofString "_keep"), (Str.ofString "_keep"), defArgs (top 71), .stmts (defBody (top 71)), defScope (top 71), 0, [], .none, .none, .none, .none, .none, .none, .none, 0⟩), #[]⟩
def o84_519 (P : Params) : Obj := ⟨(.type "code"), .none, (.fields #[(.str (Str.ofString "_keep") 913), (.str (Str.ofString "_keep") 914), (.str (Str.ofString "/claim/cut.py") 915), (.int (348) 0), (.int (2) 0), (.int (0) 0), (.int (0) 0), (.int (3) 0), (.ref 514), (.bool true), (.int (181) 0), (.ref 515), .none, (.ref 516), (.ref 517), (.ref 518), (.int (919) 0), (.int (348) 0), (.str (Str.ofString "/claim/cut.py") 920)]), #[]⟩
def o84_520 (P : Params) : Obj := ⟨(.type "function"), .none, (.func ⟨(Str.ofString "_keep"), (Str.ofString "_keep"), defArgs (top 71), .stmts (defBody (top 71)), defScope (top 71), 3, [], .none, .none, .none, (.str (Str.ofString "plinth.machine") 840), .none, (.ref 519), .none, 0⟩), #[]⟩
def o84_521 (P : Params) : Obj := ⟨(.type "tuple"), .none, (.seq #[] 0), #[]⟩
def o84_522 (P : Params) : Obj := ⟨.none, .none, (.fields #[]), #[]⟩
def o84_523 (P : Params) : Obj := ⟨(.type "tuple"), .none, (.seq #[(.str (Str.ofString "state") 925), (.str (Str.ofString "argument") 926)] 0), #[]⟩
def o84_524 (P : Params) : Obj := ⟨(.type "tuple"), .none, (.seq #[] 0), #[]⟩
def o84_525 (P : Params) : Obj := ⟨.none, .none, (.func ⟨(Str.ofString "_assign"), (Str.ofString "_assign"), defArgs (top 72), .stmts (defBody (top 72)), defScope (top 72), 0, [], .none, .none, .none, .none, .none, .none, .none, 0⟩), #[]⟩
def o84_526 (P : Params) : Obj := ⟨(.type "code"), .none, (.fields #[(.str (Str.ofString "_assign") 922), (.str (Str.ofString "_assign") 923), (.str (Str.ofString "/claim/cut.py") 924), (.int (351) 0), (.int (2) 0), (.int (0) 0), (.int (0) 0), (.int (3) 0), (.ref 521), (.bool true), (.int (181) 0), (.ref 522), .none, (.ref 523), (.ref 524), (.ref 525), (.int (927) 0), (.int (351) 0), (.str (Str.ofString "/claim/cut.py") 928)]), #[]⟩
def o84_527 (P : Params) : Obj := ⟨(.type "function"), .none, (.func ⟨(Str.ofString "_assign"), (Str.ofString "_assign"), defArgs (top 72), .stmts (defBody (top 72)), defScope (top 72), 3, [], .none, .none, .none, (.str (Str.ofString "plinth.machine") 840), .none, (.ref 526), .none, 0⟩), #[]⟩
def o84_528 (P : Params) : Obj := ⟨(.type "tuple"), .none, (.seq #[] 0), #[]⟩
def o84_529 (P : Params) : Obj := ⟨.none, .none, (.fields #[]), #[]⟩
def o84_530 (P : Params) : Obj := ⟨(.type "tuple"), .none, (.seq #[(.str (Str.ofString "state") 933), (.str (Str.ofString "argument") 934)] 0), #[]⟩
def o84_531 (P : Params) : Obj := ⟨(.type "tuple"), .none, (.seq #[] 0), #[]⟩
def o84_532 (P : Params) : Obj := ⟨.none, .none, (.func ⟨(Str.ofString "_take"), (Str.ofString "_take"), defArgs (top 73), .stmts (defBody (top 73)), defScope (top 73), 0, [], .none, .none, .none, .none, .none, .none, .none, 0⟩), #[]⟩
def o84_533 (P : Params) : Obj := ⟨(.type "code"), .none, (.fields #[(.str (Str.ofString "_take") 930), (.str (Str.ofString "_take") 931), (.str (Str.ofString "/claim/cut.py") 932), (.int (353) 0), (.int (2) 0), (.int (0) 0), (.int (0) 0), (.int (3) 0), (.ref 528), (.bool true), (.int (181) 0), (.ref 529), .none, (.ref 530), (.ref 531), (.ref 532), (.int (935) 0), (.int (353) 0), (.str (Str.ofString "/claim/cut.py") 936)]), #[]⟩
def o84_534 (P : Params) : Obj := ⟨(.type "function"), .none, (.func ⟨(Str.ofString "_take"), (Str.ofString "_take"), defArgs (top 73), .stmts (defBody (top 73)), defScope (top 73), 3, [], .none, .none, .none, (.str (Str.ofString "plinth.machine") 840), .none, (.ref 533), .none, 0⟩), #[]⟩
def o84_535 (P : Params) : Obj := ⟨(.type "tuple"), .none, (.seq #[] 0), #[]⟩
def o84_536 (P : Params) : Obj := ⟨.none, .none, (.fields #[]), #[]⟩
def o84_537 (P : Params) : Obj := ⟨(.type "tuple"), .none, (.seq #[(.str (Str.ofString "state") 941), (.str (Str.ofString "argument") 942)] 0), #[]⟩
def o84_538 (P : Params) : Obj := ⟨(.type "tuple"), .none, (.seq #[] 0), #[]⟩
def o84_539 (P : Params) : Obj := ⟨.none, .none, (.func ⟨(Str.ofString "_rewind"), (Str.ofString "_rewind"), defArgs (top 74), .stmts (defBody (top 74)), defScope (top 74), 0, [], .none, .none, .none, .none, .none, .none, .none, 0⟩), #[]⟩
def o84_540 (P : Params) : Obj := ⟨(.type "code"), .none, (.fields #[(.str (Str.ofString "_rewind") 938), (.str (Str.ofString "_rewind") 939), (.str (Str.ofString "/claim/cut.py") 940), (.int (359) 0), (.int (2) 0), (.int (0) 0), (.int (0) 0), (.int (3) 0), (.ref 535), (.bool true), (.int (181) 0), (.ref 536), .none, (.ref 537), (.ref 538), (.ref 539), (.int (943) 0), (.int (359) 0), (.str (Str.ofString "/claim/cut.py") 944)]), #[]⟩
def o84_541 (P : Params) : Obj := ⟨(.type "function"), .none, (.func ⟨(Str.ofString "_rewind"), (Str.ofString "_rewind"), defArgs (top 74), .stmts (defBody (top 74)), defScope (top 74), 3, [], .none, .none, .none, (.str (Str.ofString "plinth.machine") 840), .none, (.ref 540), .none, 0⟩), #[]⟩
def o84_542 (P : Params) : Obj := ⟨(.type "tuple"), .none, (.seq #[] 0), #[]⟩
def o84_543 (P : Params) : Obj := ⟨.none, .none, (.fields #[]), #[]⟩
def o84_544 (P : Params) : Obj := ⟨(.type "tuple"), .none, (.seq #[(.str (Str.ofString "state") 949), (.str (Str.ofString "argument") 950)] 0), #[]⟩
def o84_545 (P : Params) : Obj := ⟨(.type "tuple"), .none, (.seq #[] 0), #[]⟩
def o84_546 (P : Params) : Obj := ⟨.none, .none, (.func ⟨(Str.ofString "_emit"), (Str.ofString "_emit"), defArgs (top 75), .stmts (defBody (top 75)), defScope (top 75), 0, [], .none, .none, .none, .none, .none, .none, .none, 0⟩), #[]⟩
def o84_547 (P : Params) : Obj := ⟨(.type "code"), .none, (.fields #[(.str (Str.ofString "_emit") 946), (.str (Str.ofString "_emit") 947), (.str (Str.ofString "/claim/cut.py") 948), (.int (361) 0), (.int (2) 0), (.int (0) 0), (.int (0) 0), (.int (3) 0), (.ref 542), (.bool true), (.int (181) 0), (.ref 543), .none, (.ref 544), (.ref 545), (.ref 546), (.int (951) 0), (.int (361) 0), (.str (Str.ofString "/claim/cut.py") 952)]), #[]⟩
def o84_548 (P : Params) : Obj := ⟨(.type "function"), .none, (.func ⟨(Str.ofString "_emit"), (Str.ofString "_emit"), defArgs (top 75), .stmts (defBody (top 75)), defScope (top 75), 3, [], .none, .none, .none, (.str (Str.ofString "plinth.machine") 840), .none, (.ref 547), .none, 0⟩), #[]⟩
def o84_549 (P : Params) : Obj := ⟨(.type "tuple"), .none, (.seq #[] 0), #[]⟩
def o84_550 (P : Params) : Obj := ⟨.none, .none, (.fields #[]), #[]⟩
def o84_551 (P : Params) : Obj := ⟨(.type "tuple"), .none, (.seq #[(.str (Str.ofString "state") 957), (.str (Str.ofString "argument") 958), (.str (Str.ofString "index") 959)] 0), #[]⟩
def o84_552 (P : Params) : Obj := ⟨(.type "tuple"), .none, (.seq #[] 0), #[]⟩
def o84_553 (P : Params) : Obj := ⟨.none, .none, (.func ⟨(Str.ofString "_cell"), (Str.ofString "_cell"), defArgs (top 76), .stmts (defBody (top 76)), defScope (top 76), 0, [], .none, .none, .none, .none, .none, .none, .none, 0⟩), #[]⟩
def o84_554 (P : Params) : Obj := ⟨(.type "code"), .none, (.fields #[(.str (Str.ofString "_cell") 954), (.str (Str.ofString "_cell") 955), (.str (Str.ofString "/claim/cut.py") 956), (.int (363) 0), (.int (2) 0), (.int (0) 0), (.int (0) 0), (.int (3) 0), (.ref 549), (.bool true), (.int (181) 0), (.ref 550), .none, (.ref 551), (.ref 552), (.ref 553), (.int (960) 0), (.int (363) 0), (.str (Str.ofString "/claim/cut.py") 961)]), #[]⟩
def o84_555 (P : Params) : Obj := ⟨(.type "function"), .none, (.func ⟨(Str.ofString "_cell"), (Str.ofString "_cell"), defArgs (top 76), .stmts (defBody (top 76)), defScope (top 76), 3, [], .none, .none, .none, (.str (Str.ofString "plinth.machine") 840), .none, (.ref 554), .none, 0⟩), #[]⟩
def o84_556 (P : Params) : Obj := ⟨(.type "tuple"), .none, (.seq #[] 0), #[]⟩
def o84_557 (P : Params) : Obj := ⟨.none, .none, (.fields #[]), #[]⟩
def o84_558 (P : Params) : Obj := ⟨(.type "tuple"), .none, (.seq #[(.str (Str.ofString "state") 966), (.str (Str.ofString "argument") 967)] 0), #[]⟩
def o84_559 (P : Params) : Obj := ⟨(.type "tuple"), .none, (.seq #[] 0), #[]⟩
def o84_560 (P : Params) : Obj := ⟨.none, .none, (.func ⟨(Str.ofString "_drop"), (Str.ofString "_drop"), defArgs (top 77), .stmts (defBody (top 77)), defScope (top 77), 0, [], .none, .none, .none, .none, .none, .none, .none, 0⟩), #[]⟩
def o84_561 (P : Params) : Obj := ⟨(.type "code"), .none, (.fields #[(.str (Str.ofString "_drop") 963), (.str (Str.ofString "_drop") 964), (.str (Str.ofString "/claim/cut.py") 965), (.int (369) 0), (.int (2) 0), (.int (0) 0), (.int (0) 0), (.int (3) 0), (.ref 556), (.bool true), (.int (181) 0), (.ref 557), .none, (.ref 558), (.ref 559), (.ref 560), (.int (968) 0), (.int (369) 0), (.str (Str.ofString "/claim/cut.py") 969)]), #[]⟩
def o84_562 (P : Params) : Obj := ⟨(.type "function"), .none, (.func ⟨(Str.ofString "_drop"), (Str.ofString "_drop"), defArgs (top 77), .stmts (defBody (top 77)), defScope (top 77), 3, [], .none, .none, .none, (.str (Str.ofString "plinth.machine") 840), .none, (.ref 561), .none, 0⟩), #[]⟩
def o84_563 (P : Params) : Obj := ⟨(.type "tuple"), .none, (.seq #[] 0), #[]⟩
def o84_564 (P : Params) : Obj := ⟨.none, .none, (.fields #[]), #[]⟩
def o84_565 (P : Params) : Obj := ⟨(.type "tuple"), .none, (.seq #[(.str (Str.ofString "state") 974), (.str (Str.ofString "argument") 975), (.str (Str.ofString "top") 976)] 0), #[]⟩
def o84_566 (P : Params) : Obj := ⟨(.type "tuple"), .none, (.seq #[] 0), #[]⟩
def o84_567 (P : Params) : Obj := ⟨.none, .none, (.func ⟨(Str.ofString "_double"), (Str.ofString "_double"), defArgs (top 78), .stmts (defBody (top 78)), defScope (top 78), 0, [], .none, .none, .none, .none, .none, .none, .none, 0⟩), #[]⟩
def o84_568 (P : Params) : Obj := ⟨(.type "code"), .none, (.fields #[(.str (Str.ofString "_double") 971), (.str (Str.ofString "_double") 972), (.str (Str.ofString "/claim/cut.py") 973), (.int (371) 0), (.int (2) 0), (.int (0) 0), (.int (0) 0), (.int (3) 0), (.ref 563), (.bool true), (.int (181) 0), (.ref 564), .none, (.ref 565), (.ref 566), (.ref 567), (.int (977) 0), (.int (371) 0), (.str (Str.ofString "/claim/cut.py") 978)]), #[]⟩
def o84_569 (P : Params) : Obj := ⟨(.type "function"), .none, (.func ⟨(Str.ofString "_double"), (Str.ofString "_double"), defArgs (top 78), .stmts (defBody (top 78)), defScope (top 78), 3, [], .none, .none, .none, (.str (Str.ofString "plinth.machine") 840), .none, (.ref 568), .none, 0⟩), #[]⟩
def o84_570 (P : Params) : Obj := ⟨(.type "tuple"), .none, (.seq #[] 0), #[]⟩
def o84_571 (P : Params) : Obj := ⟨.none, .none, (.fields #[]), #[]⟩
def o84_572 (P : Params) : Obj := ⟨(.type "tuple"), .none, (.seq #[(.str (Str.ofString "state") 983), (.str (Str.ofString "argument") 984), (.str (Str.ofString "second") 985), (.str (Str.ofString "first") 986)] 0), #[]⟩
def o84_573 (P : Params) : Obj := ⟨(.type "tuple"), .none, (.seq #[] 0), #[]⟩
def o84_574 (P : Params) : Obj := ⟨.none, .none, (.func ⟨(Str.ofString "_exchange"), (Str.ofString "_exchange"), defArgs (top 79), .stmts (defBody (top 79)), defScope (top 79), 0, [], .none, .none, .none, .none, .none, .none, .none, 0⟩), #[]⟩
def o84_575 (P : Params) : Obj := ⟨(.type "code"), .none, (.fields #[(.str (Str.ofString "_exchange") 980), (.str (Str.ofString "_exchange") 981), (.str (Str.ofString "/claim/cut.py") 982), (.int (374) 0), (.int (2) 0), (.int (0) 0), (.int (0) 0), (.int (3) 0), (.ref 570), (.bool true), (.int (181) 0), (.ref 571), .none, (.ref 572), (.ref 573), (.ref 574), (.int (987) 0), (.int (374) 0), (.str (Str.ofString "/claim/cut.py") 988)]), #[]⟩
def o84_576 (P : Params) : Obj := ⟨(.type "function"), .none, (.func ⟨(Str.ofString "_exchange"), (Str.ofString "_exchange"), defArgs (top 79), .stmts (defBody (top 79)), defScope (top 79), 3, [], .none, .none, .none, (.str (Str.ofString "plinth.machine") 840), .none, (.ref 575), .none, 0⟩), #[]⟩
def o84_577 (P : Params) : Obj := ⟨(.type "tuple"), .none, (.seq #[] 0), #[]⟩
def o84_578 (P : Params) : Obj := ⟨.none, .none, (.fields #[]), #[]⟩
def o84_579 (P : Params) : Obj := ⟨(.type "tuple"), .none, (.seq #[(.str (Str.ofString "state") 993), (.str (Str.ofString "argument") 994)] 0), #[]⟩
def o84_580 (P : Params) : Obj := ⟨(.type "tuple"), .none, (.seq #[] 0), #[]⟩
def o84_581 (P : Params) : Obj := ⟨.none, .none, (.func ⟨(Str.ofString "_test"), (Str.ofString "_test"), defArgs (top 80), .stmts (defBody (top 80)), defScope (top 80), 0, [], .none, .none, .none, .none, .none, .none, .none, 0⟩), #[]⟩
def o84_582 (P : Params) : Obj := ⟨(.type "code"), .none, (.fields #[(.str (Str.ofString "_test") 990), (.str (Str.ofString "_test") 991), (.str (Str.ofString "/claim/cut.py") 992), (.int (378) 0), (.int (2) 0), (.int (0) 0), (.int (0) 0), (.int (3) 0), (.ref 577), (.bool true), (.int (181) 0), (.ref 578), .none, (.ref 579), (.ref 580), (.ref 581), (.int (995) 0), (.int (378) 0), (.str (Str.ofString "/claim/cut.py") 996)]), #[]⟩
def o84_583 (P : Params) : Obj := ⟨(.type "function"), .none, (.func ⟨(Str.ofString "_test"), (Str.ofString "_test"), defArgs (top 80), .stmts (defBody (top 80)), defScope (top 80), 3, [], .none, .none, .none, (.str (Str.ofString "plinth.machine") 840), .none, (.ref 582), .none, 0⟩), #[]⟩
def o84_584 (P : Params) : Obj := ⟨(.type "tuple"), .none, (.seq #[] 0), #[]⟩
def o84_585 (P : Params) : Obj := ⟨.none, .none, (.fields #[]), #[]⟩
def o84_586 (P : Params) : Obj := ⟨(.type "tuple"), .none, (.seq #[(.str (Str.ofString "state") 1001), (.str (Str.ofString "argument") 1002), (.str (Str.ofString "number") 1003)] 0), #[]⟩
def o84_587 (P : Params) : Obj := ⟨(.type "tuple"), .none, (.seq #[] 0), #[]⟩
def o84_588 (P : Params) : Obj := ⟨.none, .none, (.func ⟨(Str.ofString "_call"), (Str.ofString "_call"), defArgs (top 81), .stmts (defBody (top 81)), defScope (top 81), 0, [], .none, .none, .none, .none, .none, .none, .none, 0⟩), #[]⟩
def o84_589 (P : Params) : Obj := ⟨(.type "code"), .none, (.fields #[(.str (Str.ofString "_call") 998), (.str (Str.ofString "_call") 999), (.str (Str.ofString "/claim/cut.py") 1000), (.int (381) 0), (.int (2) 0), (.int (0) 0), (.int (0) 0), (.int (3) 0), (.ref 584), (.bool true), (.int (181) 0), (.ref 585), .none, (.ref 586), (.ref 587), (.ref 588), (.int (1004) 0), (.int (381) 0), (.str (Str.ofString "/claim/cut.py") 1005)]), #[]⟩
def o84_590 (P : Params) : Obj := ⟨(.type "function"), .none, (.func ⟨(Str.ofString "_call"), (Str.ofString "_call"), defArgs (top 81), .stmts (defBody (top 81)), defScope (top 81), 3, [], .none, .none, .none, (.str (Str.ofString "plinth.machine") 840), .none, (.ref 589), .none, 0⟩), #[]⟩
def o84_591 (P : Params) : Obj := ⟨(.type "tuple"), .none, (.seq #[] 0), #[]⟩
def o84_592 (P : Params) : Obj := ⟨.none, .none, (.fields #[]), #[]⟩
def o84_593 (P : Params) : Obj := ⟨(.type "tuple"), .none, (.seq #[(.str (Str.ofString "state") 1010), (.str (Str.ofString "argument") 1011), (.str (Str.ofString "number") 1012)] 0), #[]⟩
def o84_594 (P : Params) : Obj := ⟨(.type "tuple"), .none, (.seq #[] 0), #[]⟩
def o84_595 (P : Params) : Obj := ⟨.none, .none, (.func ⟨(Str.ofString "_call_low"), (Str.ofString "_call_low"), defArgs (top 82), .stmts (defBody (top 82)), defScope (top 82), 0, [], .none, .none, .none, .none, .none, .none, .none, 0⟩), #[]⟩
def o84_596 (P : Params) : Obj := ⟨(.type "code"), .none, (.fields #[(.str (Str.ofString "_call_low") 1007), (.str (Str.ofString "_call_low") 1008), (.str (Str.ofString "/claim/cut.py") 1009), (.int (385) 0), (.int (2) 0), (.int (0) 0), (.int (0) 0), (.int (3) 0), (.ref 591), (.bool true), (.int (181) 0), (.ref 592), .none, (.ref 593), (.ref 594), (.ref 595), (.int (1013) 0), (.int (385) 0), (.str (Str.ofString "/claim/cut.py") 1014)]), #[]⟩
def o84_597 (P : Params) : Obj := ⟨(.type "function"), .none, (.func ⟨(Str.ofString "_call_low"), (Str.ofString "_call_low"), defArgs (top 82), .stmts (defBody (top 82)), defScope (top 82), 3, [], .none, .none, .none, (.str (Str.ofString "plinth.machine") 840), .none, (.ref 596), .none, 0⟩), #[]⟩
def o84_598 (P : Params) : Obj := ⟨(.type "tuple"), .none, (.seq #[] 0), #[]⟩
def o84_599 (P : Params) : Obj := ⟨.none, .none, (.fields #[]), #[]⟩
def o84_600 (P : Params) : Obj := ⟨(.type "tuple"), .none, (.seq #[(.str (Str.ofString "state") 1019), (.str (Str.ofString "argument") 1020)] 0), #[]⟩
def o84_601 (P : Params) : Obj := ⟨(.type "tuple"), .none, (.seq #[] 0), #[]⟩
def o84_602 (P : Params) : Obj := ⟨.none, .none, (.func ⟨(Str.ofString "_return"), (Str.ofString "_return"), defArgs (top 83), .stmts (defBody (top 83)), defScope (top 83), 0, [], .none, .none, .none, .none, .none, .none, .none, 0⟩), #[]⟩
def o84_603 (P : Params) : Obj := ⟨(.type "code"), .none, (.fields #[(.str (Str.ofString "_return") 1016), (.str (Str.ofString "_return") 1017), (.str (Str.ofString "/claim/cut.py") 1018), (.int (392) 0), (.int (2) 0), (.int (0) 0), (.int (0) 0), (.int (3) 0), (.ref 598), (.bool true), (.int (181) 0), (.ref 599), .none, (.ref 600), (.ref 601), (.ref 602), (.int (1021) 0), (.int (392) 0), (.str (Str.ofString "/claim/cut.py") 1022)]), #[]⟩
def o84_604 (P : Params) : Obj := ⟨(.type "function"), .none, (.func ⟨(Str.ofString "_return"), (Str.ofString "_return"), defArgs (top 83), .stmts (defBody (top 83)), defScope (top 83), 3, [], .none, .none, .none, (.str (Str.ofString "plinth.machine") 840), .none, (.ref 603), .none, 0⟩), #[]⟩
def T84 (P : Params) : BT := (.node (boot_o_0 P) (.node (boot_o_1 P) (.node (o84_3 P) (.node (boot_o_7 P) (.node (o20_15 P) (.node (o20_31 P) (.node (o20_63 P) (.node (o20_127 P) (.node (o84_255 P) (.node (o84_511 P) .nil .nil) .nil) (.node (o84_383 P) .nil .nil)) (.node (o20_191 P) (.node (o84_319 P) (.node (o84_575 P) .nil .nil) .nil) (.node (o84_447 P) .nil .nil))) (.node (o20_95 P) (.node (o20_159 P) (.node (o84_287 P) (.node (o84_543 P) .nil .nil) .nil) (.node (o84_415 P) .nil .nil)) (.node (o84_223 P) (.node (o84_351 P) .nil .nil) (.node (o84_479 P) .nil .nil)))) (.node (o20_47 P) (.node (o20_79 P) (.node (o20_143 P) (.node (o84_271 P) (.node (o84_527 P) .nil .nil) .nil) (.node (o84_399 P) .nil .nil)) (.node (o20_207 P) (.node (o84_335 P) (.node (o84_591 P) .nil .nil) .nil) (.node (o84_463 P) .nil .nil))) (.node (o20_111 P) (.node (o20_175 P) (.node (o84_303 P) (.node (o84_559 P) .nil .nil) .nil) (.node (o84_431 P) .nil .nil)) (.node (o84_239 P) (.node (o84_367 P) .nil .nil) (.node (o84_495 P) .nil .nil))))) (.node (o20_23 P) (.node (o20_39 P) (.node (o20_71 P) (.node (o20_135 P) (.node (o84_263 P) (.node (o84_519 P) .nil .nil) .nil) (.node (o84_391 P) .nil .nil)) (.node (o20_199 P) (.node (o84_327 P) (.node (o84_583 P) .nil .nil) .nil) (.node (o84_455 P) .nil .nil))) (.node (o20_103 P) (.node (o20_167 P) (.node (o84_295 P) (.node (o84_551 P) .nil .nil) .nil) (.node (o84_423 P) .nil .nil)) (.node (o84_231 P) (.node (o84_359 P) .nil .nil) (.node (o84_487 P) .nil .nil)))) (.node (o20_55 P) (.node (o20_87 P) (.node (o20_151 P) (.node (o84_279 P) (.node (o84_535 P) .nil .nil) .nil) (.node (o84_407 P) .nil .nil)) (.node (o84_215 P) (.node (o84_343 P) (.node (o84_599 P) .nil .nil) .nil) (.node (o84_471 P) .nil .nil))) (.node (o20_119 P) (.node (o20_183 P) (.node (o84_311 P) (.node (o84_567 P) .nil .nil) .nil) (.node (o84_439 P) .nil .nil)) (.node (o84_247 P) (.node (o84_375 P) .nil .nil) (.node (o84_503 P) .nil .nil)))))) (.node (oa_11 P) (.node (o20_19 P) (.node (o20_35 P) (.node (o20_67 P) (.node (o20_131 P) (.node (o84_259 P) (.node (o84_515 P) .nil .nil) .nil) (.node (o84_387 P) .nil .nil)) (.node (o20_195 P) (.node (o84_323 P) (.node (o84_579 P) .nil .nil) .nil) (.node (o84_451 P) .nil .nil))) (.node (o20_99 P) (.node (o20_163 P) (.node (o84_291 P) (.node (o84_547 P) .nil .nil) .nil) (.node (o84_419 P) .nil .nil)) (.node (o84_227 P) (.node (o84_355 P) .nil .nil) (.node (o84_483 P) .nil .nil)))) (.node (o20_51 P) (.node (o20_83 P) (.node (o20_147 P) (.node (o84_275 P) (.node (o84_531 P) .nil .nil) .nil) (.node (o84_403 P) .nil .nil)) (.node (o20_211 P) (.node (o84_339 P) (.node (o84_595 P) .nil .nil) .nil) (.node (o84_467 P) .nil .nil))) (.node (o20_115 P) (.node (o20_179 P) (.node (o84_307 P) (.node (o84_563 P) .nil .nil) .nil) (.node (o84_435 P) .nil .nil)) (.node (o84_243 P) (.node (o84_371 P) .nil .nil) (.node (o84_499 P) .nil .nil))))) (.node (o20_27 P) (.node (o20_43 P) (.node (o20_75 P) (.node (o20_139 P) (.node (o84_267 P) (.node (o84_523 P) .nil .nil) .nil) (.node (o84_395 P) .nil .nil)) (.node (o20_203 P) (.node (o84_331 P) (.node (o84_587 P) .nil .nil) .nil) (.node (o84_459 P) .nil .nil))) (.node (o20_107 P) (.node (o20_171 P) (.node (o84_299 P) (.node (o84_555 P) .nil .nil) .nil) (.node (o84_427 P) .nil .nil)) (.node (o84_235 P) (.node (o84_363 P) .nil .nil) (.node (o84_491 P) .nil .nil)))) (.node (o20_59 P) (.node (o20_91 P) (.node (o20_155 P) (.node (o84_283 P) (.node (o84_539 P) .nil .nil) .nil) (.node (o84_411 P) .nil .nil)) (.node (o84_219 P) (.node (o84_347 P) (.node (o84_603 P) .nil .nil) .nil) (.node (o84_475 P) .nil .nil))) (.node (o20_123 P) (.node (o20_187 P) (.node (o84_315 P) (.node (o84_571 P) .nil .nil) .nil) (.node (o84_443 P) .nil .nil)) (.node (o84_251 P) (.node (o84_379 P) .nil .nil) (.node (o84_507 P) .nil .nil))))))) (.node (boot_o_5 P) (.node (boot_o_9 P) (.node (o20_17 P) (.node (o20_33 P) (.node (o20_65 P) (.node (o20_129 P) (.node (o84_257 P) (.node (o84_513 P) .nil .nil) .nil) (.node (o84_385 P) .nil .nil)) (.node (o20_193 P) (.node (o84_321 P) (.node (o84_577 P) .nil .nil) .nil) (.node (o84_449 P) .nil .nil))) (.node (o20_97 P) (.node (o20_161 P) (.node (o84_289 P) (.node (o84_545 P) .nil .nil) .nil) (.node (o84_417 P) .nil .nil)) (.node (o84_225 P) (.node (o84_353 P) .nil .nil) (.node (o84_481 P) .nil .nil)))) (.node (o20_49 P) (.node (o20_81 P) (.node (o20_145 P) (.node (o84_273 P) (.node (o84_529 P) .nil .nil) .nil) (.node (o84_401 P) .nil .nil)) (.node (o20_209 P) (.node (o84_337 P) (.node (o84_593 P) .nil .nil) .nil) (.node (o84_465 P) .nil .nil))) (.node (o20_113 P) (.node (o20_177 P) (.node (o84_305 P) (.node (o84_561 P) .nil .nil) .nil) (.node (o84_433 P) .nil .nil)) (.node (o84_241 P) (.node (o84_369 P) .nil .nil) (.node (o84_497 P) .nil .nil))))) (.node (o20_25 P) (.node (o20_41 P) (.node (o20_73 P) (.node (o20_137 P) (.node (o84_265 P) (.node (o84_521 P) .nil .nil) .nil) (.node (o84_393 P) .nil .nil)) (.node (o20_201 P) (.node (o84_329 P) (.node (o84_585 P) .nil .nil) .nil) (.node (o84_457 P) .nil .nil))) (.node (o20_105 P) (.node (o20_169 P) (.node (o84_297 P) (.node (o84_553 P) .nil .nil) .nil) (.node (o84_425 P) .nil .nil)) (.node (o84_233 P) (.node (o84_361 P) .nil .nil) (.node (o84_489 P) .nil .nil)))) (.node (o20_57 P) (.node (o20_89 P) (.node (o20_153 P) (.node (o84_281 P) (.node (o84_537 P) .nil .nil) .nil) (.node (o84_409 P) .nil .nil)) (.node (o84_217 P) (.node (o84_345 P) (.node (o84_601 P) .nil .nil) .nil) (.node (o84_473 P) .nil .nil))) (.node (o20_121 P) (.node (o20_185 P) (.node (o84_313 P) (.node (o84_569 P) .nil .nil) .nil) (.node (o84_441 P) .nil .nil)) (.node (o84_249 P) (.node (o84_377 P) .nil .nil) (.node (o84_505 P) .nil .nil)))))) (.node (oa_13 P) (.node (o20_21 P) (.node (o20_37 P) (.node (o20_69 P) (.node (o20_133 P) (.node (o84_261 P) (.node (o84_517 P) .nil .nil) .nil) (.node (o84_389 P) .nil .nil)) (.node (o20_197 P) (.node (o84_325 P) (.node (o84_581 P) .nil .nil) .nil) (.node (o84_453 P) .nil .nil))) (.node (o20_101 P) (.node (o20_165 P) (.node (o84_293 P) (.node (o84_549 P) .nil .nil) .nil) (.node (o84_421 P) .nil .nil)) (.node (o84_229 P) (.node (o84_357 P) .nil .nil) (.node (o84_485 P) .nil .nil)))) (.node (o20_53 P) (.node (o20_85 P) (.node (o20_149 P) (.node (o84_277 P) (.node (o84_533 P) .nil .nil) .nil) (.node (o84_405 P) .nil .nil)) (.node (o84_213 P) (.node (o84_341 P) (.node (o84_597 P) .nil .nil) .nil) (.node (o84_469 P) .nil .nil))) (.node (o20_117 P) (.node (o20_181 P) (.node (o84_309 P) (.node (o84_565 P) .nil .nil) .nil) (.node (o84_437 P) .nil .nil)) (.node (o84_245 P) (.node (o84_373 P) .nil .nil) (.node (o84_501 P) .nil .nil))))) (.node (o20_29 P) (.node (o20_45 P) (.node (o20_77 P) (.node (o20_141 P) (.node (o84_269 P) (.node (o84_525 P) .nil .nil) .nil) (.node (o84_397 P) .nil .nil)) (.node (o20_205 P) (.node (o84_333 P) (.node (o84_589 P) .nil .nil) .nil) (.node (o84_461 P) .nil .nil))) (.node (o20_109 P) (.node (o20_173 P) (.node (o84_301 P) (.node (o84_557 P) .nil .nil) .nil) (.node (o84_429 P) .nil .nil)) (.node (o84_237 P) (.node (o84_365 P) .nil .nil) (.node (o84_493 P) .nil .nil)))) (.node (o20_61 P) (.node (o20_93 P) (.node (o20_157 P) (.node (o84_285 P) (.node (o84_541 P) .nil .nil) .nil) (.node (o84_413 P) .nil .nil)) (.node (o84_221 P) (.node (o84_349 P) .nil .nil) (.node (o84_477 P) .nil .nil))) (.node (o20_125 P) (.node (o20_189 P) (.node (o84_317 P) (.node (o84_573 P) .nil .nil) .nil) (.node (o84_445 P) .nil .nil)) (.node (o84_253 P) (.node (o84_381 P) .nil .nil) (.node (o84_509 P) .nil .nil)))))))) (.node (boot_o_2 P) (.node (boot_o_4 P) (.node (boot_o_8 P) (.node (o20_16 P) (.node (o20_32 P) (.node (o20_64 P) (.node (o20_128 P) (.node (o84_256 P) (.node (o84_512 P) .nil .nil) .nil) (.node (o84_384 P) .nil .nil)) (.node (o20_192 P) (.node (o84_320 P) (.node (o84_576 P) .nil .nil) .nil) (.node (o84_448 P) .nil .nil))) (.node (o20_96 P) (.node (o20_160 P) (.node (o84_288 P) (.node (o84_544 P) .nil .nil) .nil) (.node (o84_416 P) .nil .nil)) (.node (o84_224 P) (.node (o84_352 P) .nil .nil) (.node (o84_480 P) .nil .nil)))) (.node (o20_48 P) (.node (o20_80 P) (.node (o20_144 P) (.node (o84_272 P) (.node (o84_528 P) .nil .nil) .nil) (.node (o84_400 P) .nil .nil)) (.node (o20_208 P) (.node (o84_336 P) (.node (o84_592 P) .nil .nil) .nil) (.node (o84_464 P) .nil .nil))) (.node (o20_112 P) (.node (o20_176 P) (.node (o84_304 P) (.node (o84_560 P) .nil .nil) .nil) (.node (o84_432 P) .nil .nil)) (.node (o84_240 P) (.node (o84_368 P) .nil .nil) (.node (o84_496 P) .nil .nil))))) (.node (o20_24 P) (.node (o20_40 P) (.node (o20_72 P) (.node (o20_136 P) (.node (o84_264 P) (.node (o84_520 P) .nil .nil) .nil) (.node (o84_392 P) .nil .nil)) (.node (o20_200 P) (.node (o84_328 P) (.node (o84_584 P) .nil .nil) .nil) (.node (o84_456 P) .nil .nil))) (.node (o20_104 P) (.node (o20_168 P) (.node (o84_296 P) (.node (o84_552 P) .nil .nil) .nil) (.node (o84_424 P) .nil .nil)) (.node (o84_232 P) (.node (o84_360 P) .nil .nil) (.node (o84_488 P) .nil .nil)))) (.node (o20_56 P) (.node (o20_88 P) (.node (o20_152 P) (.node (o84_280 P) (.node (o84_536 P) .nil .nil) .nil) (.node (o84_408 P) .nil .nil)) (.node (o84_216 P) (.node (o84_344 P) (.node (o84_600 P) .nil .nil) .nil) (.node (o84_472 P) .nil .nil))) (.node (o20_120 P) (.node (o20_184 P) (.node (o84_312 P) (.node (o84_568 P) .nil .nil) .nil) (.node (o84_440 P) .nil .nil)) (.node (o84_248 P) (.node (o84_376 P) .nil .nil) (.node (o84_504 P) .nil .nil)))))) (.node (o84_12 P) (.node (o20_20 P) (.node (o20_36 P) (.node (o20_68 P) (.node (o20_132 P) (.node (o84_260 P) (.node (o84_516 P) .nil .nil) .nil) (.node (o84_388 P) .nil .nil)) (.node (o20_196 P) (.node (o84_324 P) (.node (o84_580 P) .nil .nil) .nil) (.node (o84_452 P) .nil .nil))) (.node (o20_100 P) (.node (o20_164 P) (.node (o84_292 P) (.node (o84_548 P) .nil .nil) .nil) (.node (o84_420 P) .nil .nil)) (.node (o84_228 P) (.node (o84_356 P) .nil .nil) (.node (o84_484 P) .nil .nil)))) (.node (o20_52 P) (.node (o20_84 P) (.node (o20_148 P) (.node (o84_276 P) (.node (o84_532 P) .nil .nil) .nil) (.node (o84_404 P) .nil .nil)) (.node (o84_212 P) (.node (o84_340 P) (.node (o84_596 P) .nil .nil) .nil) (.node (o84_468 P) .nil .nil))) (.node (o20_116 P) (.node (o20_180 P) (.node (o84_308 P) (.node (o84_564 P) .nil .nil) .nil) (.node (o84_436 P) .nil .nil)) (.node (o84_244 P) (.node (o84_372 P) .nil .nil) (.node (o84_500 P) .nil .nil))))) (.node (o20_28 P) (.node (o20_44 P) (.node (o20_76 P) (.node (o20_140 P) (.node (o84_268 P) (.node (o84_524 P) .nil .nil) .nil) (.node (o84_396 P) .nil .nil)) (.node (o20_204 P) (.node (o84_332 P) (.node (o84_588 P) .nil .nil) .nil) (.node (o84_460 P) .nil .nil))) (.node (o20_108 P) (.node (o20_172 P) (.node (o84_300 P) (.node (o84_556 P) .nil .nil) .nil) (.node (o84_428 P) .nil .nil)) (.node (o84_236 P) (.node (o84_364 P) .nil .nil) (.node (o84_492 P) .nil .nil)))) (.node (o20_60 P) (.node (o20_92 P) (.node (o20_156 P) (.node (o84_284 P) (.node (o84_540 P) .nil .nil) .nil) (.node (o84_412 P) .nil .nil)) (.node (o84_220 P) (.node (o84_348 P) (.node (o84_604 P) .nil .nil) .nil) (.node (o84_476 P) .nil .nil))) (.node (o20_124 P) (.node (o20_188 P) (.node (o84_316 P) (.node (o84_572 P) .nil .nil) .nil) (.node (o84_444 P) .nil .nil)) (.node (o84_252 P) (.node (o84_380 P) .nil .nil) (.node (o84_508 P) .nil .nil))))))) (.node (boot_o_6 P) (.node (boot_o_10 P) (.node (o20_18 P) (.node (o20_34 P) (.node (o20_66 P) (.node (o20_130 P) (.node (o84_258 P) (.node (o84_514 P) .nil .nil) .nil) (.node (o84_386 P) .nil .nil)) (.node (o20_194 P) (.node (o84_322 P) (.node (o84_578 P) .nil .nil) .nil) (.node (o84_450 P) .nil .nil))) (.node (o20_98 P) (.node (o20_162 P) (.node (o84_290 P) (.node (o84_546 P) .nil .nil) .nil) (.node (o84_418 P) .nil .nil)) (.node (o84_226 P) (.node (o84_354 P) .nil .nil) (.node (o84_482 P) .nil .nil)))) (.node (o20_50 P) (.node (o20_82 P) (.node (o20_146 P) (.node (o84_274 P) (.node (o84_530 P) .nil .nil) .nil) (.node (o84_402 P) .nil .nil)) (.node (o20_210 P) (.node (o84_338 P) (.node (o84_594 P) .nil .nil) .nil) (.node (o84_466 P) .nil .nil))) (.node (o20_114 P) (.node (o20_178 P) (.node (o84_306 P) (.node (o84_562 P) .nil .nil) .nil) (.node (o84_434 P) .nil .nil)) (.node (o84_242 P) (.node (o84_370 P) .nil .nil) (.node (o84_498 P) .nil .nil))))) (.node (o20_26 P) (.node (o20_42 P) (.node (o20_74 P) (.node (o20_138 P) (.node (o84_266 P) (.node (o84_522 P) .nil .nil) .nil) (.node (o84_394 P) .nil .nil)) (.node (o20_202 P) (.node (o84_330 P) (.node (o84_586 P) .nil .nil) .nil) (.node (o84_458 P) .nil .nil))) (.node (o20_106 P) (.node (o20_170 P) (.node (o84_298 P) (.node (o84_554 P) .nil .nil) .nil) (.node (o84_426 P) .nil .nil)) (.node (o84_234 P) (.node (o84_362 P) .nil .nil) (.node (o84_490 P) .nil .nil)))) (.node (o20_58 P) (.node (o20_90 P) (.node (o20_154 P) (.node (o84_282 P) (.node (o84_538 P) .nil .nil) .nil) (.node (o84_410 P) .nil .nil)) (.node (o84_218 P) (.node (o84_346 P) (.node (o84_602 P) .nil .nil) .nil) (.node (o84_474 P) .nil .nil))) (.node (o20_122 P) (.node (o20_186 P) (.node (o84_314 P) (.node (o84_570 P) .nil .nil) .nil) (.node (o84_442 P) .nil .nil)) (.node (o84_250 P) (.node (o84_378 P) .nil .nil) (.node (o84_506 P) .nil .nil)))))) (.node (oa_14 P) (.node (o20_22 P) (.node (o20_38 P) (.node (o20_70 P) (.node (o20_134 P) (.node (o84_262 P) (.node (o84_518 P) .nil .nil) .nil) (.node (o84_390 P) .nil .nil)) (.node (o20_198 P) (.node (o84_326 P) (.node (o84_582 P) .nil .nil) .nil) (.node (o84_454 P) .nil .nil))) (.node (o20_102 P) (.node (o20_166 P) (.node (o84_294 P) (.node (o84_550 P) .nil .nil) .nil) (.node (o84_422 P) .nil .nil)) (.node (o84_230 P) (.node (o84_358 P) .nil .nil) (.node (o84_486 P) .nil .nil)))) (.node (o20_54 P) (.node (o20_86 P) (.node (o20_150 P) (.node (o84_278 P) (.node (o84_534 P) .nil .nil) .nil) (.node (o84_406 P) .nil .nil)) (.node (o84_214 P) (.node (o84_342 P) (.node (o84_598 P) .nil .nil) .nil) (.node (o84_470 P) .nil .nil))) (.node (o20_118 P) (.node (o20_182 P) (.node (o84_310 P) (.node (o84_566 P) .nil .nil) .nil) (.node (o84_438 P) .nil .nil)) (.node (o84_246 P) (.node (o84_374 P) .nil .nil) (.node (o84_502 P) .nil .nil))))) (.node (o20_30 P) (.node (o20_46 P) (.node (o20_78 P) (.node (o20_142 P) (.node (o84_270 P) (.node (o84_526 P) .nil .nil) .nil) (.node (o84_398 P) .nil .nil)) (.node (o20_206 P) (.node (o84_334 P) (.node (o84_590 P) .nil .nil) .nil) (.node (o84_462 P) .nil .nil))) (.node (o20_110 P) (.node (o20_174 P) (.node (o84_302 P) (.node (o84_558 P) .nil .nil) .nil) (.node (o84_430 P) .nil .nil)) (.node (o84_238 P) (.node (o84_366 P) .nil .nil) (.node (o84_494 P) .nil .nil)))) (.node (o20_62 P) (.node (o20_94 P) (.node (o20_158 P) (.node (o84_286 P) (.node (o84_542 P) .nil .nil) .nil) (.node (o84_414 P) .nil .nil)) (.node (o84_222 P) (.node (o84_350 P) .nil .nil) (.node (o84_478 P) .nil .nil))) (.node (o20_126 P) (.node (o20_190 P) (.node (o84_318 P) (.node (o84_574 P) .nil .nil) .nil) (.node (o84_446 P) .nil .nil)) (.node (o84_254 P) (.node (o84_382 P) .nil .nil) (.node (o84_510 P) .nil .nil)))))))))
def S84 (w : World) (os : OsState) : SharedT := ⟨T84 w.params, 605, (boot_heap w.params).life, Array.mk [], boot_drawn, 1024, os⟩
def o85_3 (P : Params) : Obj := ⟨(.type "dict"), .none, (.dict #[⟨PyData.keyHash P (Str.ofString "__name__"), (.str (Str.ofString "__name__") 165), (.str (Str.ofString "plinth.machine") 840)⟩, ⟨PyData.keyHash P (Str.ofString "__doc__"), (.str (Str.ofString "__doc__") 166), .none⟩, ⟨PyData.keyHash P (Str.ofString "__package__"), (.str (Str.ofString "__package__") 167), .none⟩, ⟨PyData.keyHash P (Str.ofString "__loader__"), (.str (Str.ofString "__loader__") 168), (.builtin "__main__.__loader__#opaque")⟩, ⟨PyData.keyHash P (Str.ofString "__spec__"), (.str (Str.ofString "__spec__") 169), .none⟩, ⟨PyData.keyHash P (Str.ofString "__annotations__"), (.str (Str.ofString "__annotations__") 170), (.ref 6)⟩, ⟨PyData.keyHash P (Str.ofString "__builtins__"), (.str (Str.ofString "__builtins__") 171), (.ref 4)⟩, ⟨PyData.keyHash P (Str.ofString "__file__"), (.str (Str.ofString "__file__") 173), (.str (Str.ofString "/claim/cut.py") 172)⟩, ⟨PyData.keyHash P (Str.ofString "__cached__"), (.str (Str.ofString "__cached__") 174), .none⟩, ⟨PyData.keyHash P (Str.ofString "_wall"), (.str (Str.ofString "_wall") 193), (.ref 21)⟩, ⟨PyData.keyHash P (Str.ofString "PlinthError"), (.str (Str.ofString "PlinthError") 213), (.ref 31)⟩, ⟨PyData.keyHash P (Str.ofString "NotText"), (.str (Str.ofString "NotText") 229), (.ref 44)⟩, ⟨PyData.keyHash P (Str.ofString "NotNumeral"), (.str (Str.ofString "NotNumeral") 245), (.ref 56)⟩, ⟨PyData.keyHash P (Str.ofString "BadFuel"), (.str (Str.ofString "BadFuel") 261), (.ref 68)⟩, ⟨PyData.keyHash P (Str.ofString "BadPlan"), (.str (Str.ofString "BadPlan") 286), (.ref 87)⟩, ⟨PyData.keyHash P (Str.ofString "BadClaim"), (.str (Str.ofString "BadClaim") 302), (.ref 99)⟩, ⟨PyData.keyHash P (Str.ofString "BadTrap"), (.str (Str.ofString "BadTrap") 318), (.ref 111)⟩, ⟨PyData.keyHash P (Str.ofString "NotPlantable"), (.str (Str.ofString "NotPlantable") 334), (.ref 123)⟩, ⟨PyData.keyHash P (Str.ofString "BadName"), (.str (Str.ofString "BadName") 350), (.ref 135)⟩, ⟨PyData.keyHash P (Str.ofString "BadKind"), (.str (Str.ofString "BadKind") 366), (.ref 147)⟩, ⟨PyData.keyHash P (Str.ofString "NoEntry"), (.str (Str.ofString "NoEntry") 391), (.ref 166)⟩, ⟨PyData.keyHash P (Str.ofString "OutOfRange"), (.str (Str.ofString "OutOfRange") 407), (.ref 178)⟩, ⟨PyData.keyHash P (Str.ofString "BadJournal"), (.str (Str.ofString "BadJournal") 432), (.ref 197)⟩, ⟨PyData.keyHash P (Str.ofString "OpenTrial"), (.str (Str.ofString "OpenTrial") 448), (.ref 209)⟩, ⟨PyData.keyHash P (Str.ofString "NEWLINE"), (.str (Str.ofString "NEWLINE") 452), (.int (10) 451)⟩, ⟨PyData.keyHash P (Str.ofString "PRINTABLE"), (.str (Str.ofString "PRINTABLE") 454), (.str (Str.ofString " !\"#$&'()*+,-./0123456789:;<=>?@ABCDEFGHIJKLMNOPQRSTUVWXYZ[\\]^_`abcdefghijklmnopqrstuvwxyz{|}~") 453)⟩, ⟨PyData.keyHash P (Str.ofString "DIGITS_signs"), (.str (Str.ofString "DIGITS_signs") 456), (.str (Str.ofString "0123456789") 455)⟩, ⟨PyData.keyHash P (Str.ofString "LIMIT"), (.str (Str.ofString "LIMIT") 460), (.int (1000000000000000000000000000000000000000000000000000000000000) 459)⟩, ⟨PyData.keyHash P (Str.ofString "codes_of"), (.str (Str.ofString "codes_of") 469), (.ref 218)⟩, ⟨PyData.keyHash P (Str.ofString "_char"), (.str (Str.ofString "_char") 476), (.ref 225)⟩, ⟨PyData.keyHash P (Str.ofString "text_of"), (.str (Str.ofString "text_of") 486), (.ref 232)⟩, ⟨PyData.keyHash P (Str.ofString "readable"), (.str (Str.ofString "readable") 495), (.ref 239)⟩, ⟨PyData.keyHash P (Str.ofString "numeral"), (.str (Str.ofString "numeral") 502), (.ref 246)⟩, ⟨PyData.keyHash P (Str.ofString "number_of"), (.str (Str.ofString "number_of") 511), (.ref 253)⟩, ⟨PyData.keyHash P (Str.ofString "is_digit"), (.str (Str.ofString "is_digit") 520), (.ref 260)⟩, ⟨PyData.keyHash P (Str.ofString "read_digits"), (.str (Str.ofString "read_digits") 530), (.ref 267)⟩, ⟨PyData.keyHash P (Str.ofString "ShortReader"), (.str (Str.ofString "ShortReader") 598), (.ref 312)⟩, ⟨PyData.keyHash P (Str.ofString "translate_short"), (.str (Str.ofString "translate_short") 606), (.ref 323)⟩, ⟨PyData.keyHash P (Str.ofString "BLANK"), (.str (Str.ofString "BLANK") 610), (.int (32) 609)⟩, ⟨PyData.keyHash P (Str.ofString "QUOTE"), (.str (Str.ofString "QUOTE") 612), (.int (39) 611)⟩, ⟨PyData.keyHash P (Str.ofString "RETURN_translate"), (.str (Str.ofString "RETURN_translate") 614), (.int (41) 613)⟩, ⟨PyData.keyHash P (Str.ofString "COLON"), (.str (Str.ofString "COLON") 616), (.int (58) 615)⟩, ⟨PyData.keyHash P (Str.ofString "SEMICOLON"), (.str (Str.ofString "SEMICOLON") 618), (.int (59) 617)⟩, ⟨PyData.keyHash P (Str.ofString "ASSIGN"), (.str (Str.ofString "ASSIGN") 620), (.int (61) 619)⟩, ⟨PyData.keyHash P (Str.ofString "PUSH_translate"), (.str (Str.ofString "PUSH_translate") 622), (.int (35) 621)⟩, ⟨PyData.keyHash P (Str.ofString "TEST_translate"), (.str (Str.ofString "TEST_translate") 624), (.int (63) 623)⟩, ⟨PyData.keyHash P (Str.ofString "Translator"), (.str (Str.ofString "Translator") 751), (.ref 411)⟩, ⟨PyData.keyHash P (Str.ofString "translate"), (.str (Str.ofString "translate") 766), (.ref 423)⟩, ⟨PyData.keyHash P (Str.ofString "DIGITS_audit"), (.str (Str.ofString "DIGITS_audit") 770), (.str (Str.ofString "digits") 769)⟩, ⟨PyData.keyHash P (Str.ofString "SHORT"), (.str (Str.ofString "SHORT") 772), (.str (Str.ofString "short") 771)⟩, ⟨PyData.keyHash P (Str.ofString "PLAIN"), (.str (Str.ofString "PLAIN") 774), (.str (Str.ofString "plain") 773)⟩, ⟨PyData.keyHash P (Str.ofString "TURNED"), (.str (Str.ofString "TURNED") 776), (.str (Str.ofString "turned") 775)⟩, ⟨PyData.keyHash P (Str.ofString "KINDS"), (.str (Str.ofString "KINDS") 777), (.ref 424)⟩, ⟨PyData.keyHash P (Str.ofString "due"), (.str (Str.ofString "due") 786), (.ref 431)⟩, ⟨PyData.keyHash P (Str.ofString "due_audit"), (.str (Str.ofString "due_audit") 787), (.ref 431)⟩, ⟨PyData.keyHash P (Str.ofString "first_difference"), (.str (Str.ofString "first_difference") 797), (.ref 438)⟩, ⟨PyData.keyHash P (Str.ofString "audit"), (.str (Str.ofString "audit") 807), (.ref 445)⟩, ⟨PyData.keyHash P (Str.ofString "nodes_of"), (.str (Str.ofString "nodes_of") 815), (.ref 450)⟩, ⟨PyData.keyHash P (Str.ofString "image_of"), (.str (Str.ofString "image_of") 827), (.ref 457)⟩, ⟨PyData.keyHash P (Str.ofString "table_of"), (.str (Str.ofString "table_of") 839), (.ref 464)⟩, ⟨PyData.keyHash P (Str.ofString "FIRST_LETTER"), (.str (Str.ofString "FIRST_LETTER") 843), (.int (97) 842)⟩, ⟨PyData.keyHash P (Str.ofString "LAST_LETTER"), (.str (Str.ofString "LAST_LETTER") 845), (.int (122) 844)⟩, ⟨PyData.keyHash P (Str.ofString "FIRST_CAPITAL"), (.str (Str.ofString "FIRST_CAPITAL") 847), (.int (65) 846)⟩, ⟨PyData.keyHash P (Str.ofString "LAST_CAPITAL"), (.str (Str.ofString "LAST_CAPITAL") 849), (.int (90) 848)⟩, ⟨PyData.keyHash P (Str.ofString "LAST_LOW"), (.str (Str.ofString "LAST_LOW") 851), (.int (199) 850)⟩, ⟨PyData.keyHash P (Str.ofString "_push"), (.str (Str.ofString "_push") 859), (.ref 471)⟩, ⟨PyData.keyHash P (Str.ofString "_plus"), (.str (Str.ofString "_plus") 868), (.ref 478)⟩, ⟨PyData.keyHash P (Str.ofString "_minus"), (.str (Str.ofString "_minus") 877), (.ref 485)⟩, ⟨PyData.keyHash P (Str.ofString "_digit"), (.str (Str.ofString "_digit") 886), (.ref 492)⟩, ⟨PyData.keyHash P (Str.ofString "_less"), (.str (Str.ofString "_less") 895), (.ref 499)⟩, ⟨PyData.keyHash P (Str.ofString "_same"), (.str (Str.ofString "_same") 904), (.ref 506)⟩, ⟨PyData.keyHash P (Str.ofString "_load"), (.str (Str.ofString "_load") 912), (.ref 513)⟩, ⟨PyData.keyHash P (Str.ofString "_keep"), (.str (Str.ofString "_keep") 921), (.ref 520)⟩, ⟨PyData.keyHash P (Str.ofString "_assign"), (.str (Str.ofString "_assign") 929), (.ref 527)⟩, ⟨PyData.keyHash P (Str.ofString "_take"), (.str (Str.ofString "_take") 937), (.ref 534)⟩, ⟨PyData.keyHash P (Str.ofString "_rewind"), (.str (Str.ofString "_rewind") 945), (.ref 541)⟩, ⟨PyData.keyHash P (Str.ofString "_emit"), (.str (Str.ofString "_emit") 953), (.ref 548)⟩, ⟨PyData.keyHash P (Str.ofString "_cell"), (.str (Str.ofString "_cell") 962), (.ref 555)⟩, ⟨PyData.keyHash P (Str.ofString "_drop"), (.str (Str.ofString "_drop") 970), (.ref 562)⟩, ⟨PyData.keyHash P (Str.ofString "_double"), (.str (Str.ofString "_double") 979), (.ref 569)⟩, ⟨PyData.keyHash P (Str.ofString "_exchange"), (.str (Str.ofString "_exchange") 989), (.ref 576)⟩, ⟨PyData.keyHash P (Str.ofString "_test"), (.str (Str.ofString "_test") 997), (.ref 583)⟩, ⟨PyData.keyHash P (Str.ofString "_call"), (.str (Str.ofString "_call") 1006), (.ref 590)⟩, ⟨PyData.keyHash P (Str.ofString "_call_low"), (.str (Str.ofString "_call_low") 1015), (.ref 597)⟩, ⟨PyData.keyHash P (Str.ofString "_return"), (.str (Str.ofString "_return") 1023), (.ref 604)⟩, ⟨PyData.keyHash P (Str.ofString "DEEDS"), (.str (Str.ofString "DEEDS") 1064), (.ref 605)⟩] 86), #[]⟩
def o85_605 (P : Params) : Obj := ⟨(.type "dict"), .none, (.dict #[⟨(35), (.int (35) 1024), (.ref 471)⟩, ⟨(43), (.int (43) 1026), (.ref 478)⟩, ⟨(45), (.int (45) 1028), (.ref 485)⟩, ⟨(42), (.int (42) 1030), (.ref 492)⟩, ⟨(60), (.int (60) 1032), (.ref 499)⟩, ⟨(126), (.int (126) 1034), (.ref 506)⟩, ⟨(64), (.int (64) 1036), (.ref 513)⟩, ⟨(33), (.int (33) 1038), (.ref 520)⟩, ⟨(61), (.int (61) 1040), (.ref 527)⟩, ⟨(44), (.int (44) 1042), (.ref 534)⟩, ⟨(94), (.int (94) 1044), (.ref 541)⟩, ⟨(46), (.int (46) 1046), (.ref 548)⟩, ⟨(38), (.int (38) 1048), (.ref 555)⟩, ⟨(95), (.int (95) 1050), (.ref 562)⟩, ⟨(34), (.int (34) 1052), (.ref 569)⟩, ⟨(92), (.int (92) 1054), (.ref 576)⟩, ⟨(63), (.int (63) 1056), (.ref 583)⟩, ⟨(40), (.int (40) 1058), (.ref 590)⟩, ⟨(36), (.int (36) 1059), (.ref 597)⟩, ⟨(41), (.int (41) 1060), (.ref 604)⟩] 20), #[]⟩
def o85_606 (P : Params) : Obj := ⟨(.type "dict"), .none, (.dict #[⟨(40), (.int (40) 1058), (.ref 590)⟩, ⟨(36), (.int (36) 1059), (.ref 597)⟩, ⟨(41), (.int (41) 1060), (.ref 604)⟩] 3), #[]⟩
def T85 (P : Params) : BT := (.node (boot_o_0 P) (.node (boot_o_1 P) (.node (o85_3 P) (.node (boot_o_7 P) (.node (o20_15 P) (.node (o20_31 P) (.node (o20_63 P) (.node (o20_127 P) (.node (o84_255 P) (.node (o84_511 P) .nil .nil) .nil) (.node (o84_383 P) .nil .nil)) (.node (o20_191 P) (.node (o84_319 P) (.node (o84_575 P) .nil .nil) .nil) (.node (o84_447 P) .nil .nil))) (.node (o20_95 P) (.node (o20_159 P) (.node (o84_287 P) (.node (o84_543 P) .nil .nil) .nil) (.node (o84_415 P) .nil .nil)) (.node (o84_223 P) (.node (o84_351 P) .nil .nil) (.node (o84_479 P) .nil .nil)))) (.node (o20_47 P) (.node (o20_79 P) (.node (o20_143 P) (.node (o84_271 P) (.node (o84_527 P) .nil .nil) .nil) (.node (o84_399 P) .nil .nil)) (.node (o20_207 P) (.node (o84_335 P) (.node (o84_591 P) .nil .nil) .nil) (.node (o84_463 P) .nil .nil))) (.node (o20_111 P) (.node (o20_175 P) (.node (o84_303 P) (.node (o84_559 P) .nil .nil) .nil) (.node (o84_431 P) .nil .nil)) (.node (o84_239 P) (.node (o84_367 P) .nil .nil) (.node (o84_495 P) .nil .nil))))) (.node (o20_23 P) (.node (o20_39 P) (.node (o20_71 P) (.node (o20_135 P) (.node (o84_263 P) (.node (o84_519 P) .nil .nil) .nil) (.node (o84_391 P) .nil .nil)) (.node (o20_199 P) (.node (o84_327 P) (.node (o84_583 P) .nil .nil) .nil) (.node (o84_455 P) .nil .nil))) (.node (o20_103 P) (.node (o20_167 P) (.node (o84_295 P) (.node (o84_551 P) .nil .nil) .nil) (.node (o84_423 P) .nil .nil)) (.node (o84_231 P) (.node (o84_359 P) .nil .nil) (.node (o84_487 P) .nil .nil)))) (.node (o20_55 P) (.node (o20_87 P) (.node (o20_151 P) (.node (o84_279 P) (.node (o84_535 P) .nil .nil) .nil) (.node (o84_407 P) .nil .nil)) (.node (o84_215 P) (.node (o84_343 P) (.node (o84_599 P) .nil .nil) .nil) (.node (o84_471 P) .nil .nil))) (.node (o20_119 P) (.node (o20_183 P) (.node (o84_311 P) (.node (o84_567 P) .nil .nil) .nil) (.node (o84_439 P) .nil .nil)) (.node (o84_247 P) (.node (o84_375 P) .nil .nil) (.node (o84_503 P) .nil .nil)))))) (.node (oa_11 P) (.node (o20_19 P) (.node (o20_35 P) (.node (o20_67 P) (.node (o20_131 P) (.node (o84_259 P) (.node (o84_515 P) .nil .nil) .nil) (.node (o84_387 P) .nil .nil)) (.node (o20_195 P) (.node (o84_323 P) (.node (o84_579 P) .nil .nil) .nil) (.node (o84_451 P) .nil .nil))) (.node (o20_99 P) (.node (o20_163 P) (.node (o84_291 P) (.node (o84_547 P) .nil .nil) .nil) (.node (o84_419 P) .nil .nil)) (.node (o84_227 P) (.node (o84_355 P) .nil .nil) (.node (o84_483 P) .nil .nil)))) (.node (o20_51 P) (.node (o20_83 P) (.node (o20_147 P) (.node (o84_275 P) (.node (o84_531 P) .nil .nil) .nil) (.node (o84_403 P) .nil .nil)) (.node (o20_211 P) (.node (o84_339 P) (.node (o84_595 P) .nil .nil) .nil) (.node (o84_467 P) .nil .nil))) (.node (o20_115 P) (.node (o20_179 P) (.node (o84_307 P) (.node (o84_563 P) .nil .nil) .nil) (.node (o84_435 P) .nil .nil)) (.node (o84_243 P) (.node (o84_371 P) .nil .nil) (.node (o84_499 P) .nil .nil))))) (.node (o20_27 P) (.node (o20_43 P) (.node (o20_75 P) (.node (o20_139 P) (.node (o84_267 P) (.node (o84_523 P) .nil .nil) .nil) (.node (o84_395 P) .nil .nil)) (.node (o20_203 P) (.node (o84_331 P) (.node (o84_587 P) .nil .nil) .nil) (.node (o84_459 P) .nil .nil))) (.node (o20_107 P) (.node (o20_171 P) (.node (o84_299 P) (.node (o84_555 P) .nil .nil) .nil) (.node (o84_427 P) .nil .nil)) (.node (o84_235 P) (.node (o84_363 P) .nil .nil) (.node (o84_491 P) .nil .nil)))) (.node (o20_59 P) (.node (o20_91 P) (.node (o20_155 P) (.node (o84_283 P) (.node (o84_539 P) .nil .nil) .nil) (.node (o84_411 P) .nil .nil)) (.node (o84_219 P) (.node (o84_347 P) (.node (o84_603 P) .nil .nil) .nil) (.node (o84_475 P) .nil .nil))) (.node (o20_123 P) (.node (o20_187 P) (.node (o84_315 P) (.node (o84_571 P) .nil .nil) .nil) (.node (o84_443 P) .nil .nil)) (.node (o84_251 P) (.node (o84_379 P) .nil .nil) (.node (o84_507 P) .nil .nil))))))) (.node (boot_o_5 P) (.node (boot_o_9 P) (.node (o20_17 P) (.node (o20_33 P) (.node (o20_65 P) (.node (o20_129 P) (.node (o84_257 P) (.node (o84_513 P) .nil .nil) .nil) (.node (o84_385 P) .nil .nil)) (.node (o20_193 P) (.node (o84_321 P) (.node (o84_577 P) .nil .nil) .nil) (.node (o84_449 P) .nil .nil))) (.node (o20_97 P) (.node (o20_161 P) (.node (o84_289 P) (.node (o84_545 P) .nil .nil) .nil) (.node (o84_417 P) .nil .nil)) (.node (o84_225 P) (.node (o84_353 P) .nil .nil) (.node (o84_481 P) .nil .nil)))) (.node (o20_49 P) (.node (o20_81 P) (.node (o20_145 P) (.node (o84_273 P) (.node (o84_529 P) .nil .nil) .nil) (.node (o84_401 P) .nil .nil)) (.node (o20_209 P) (.node (o84_337 P) (.node (o84_593 P) .nil .nil) .nil) (.node (o84_465 P) .nil .nil))) (.node (o20_113 P) (.node (o20_177 P) (.node (o84_305 P) (.node (o84_561 P) .nil .nil) .nil) (.node (o84_433 P) .nil .nil)) (.node (o84_241 P) (.node (o84_369 P) .nil .nil) (.node (o84_497 P) .nil .nil))))) (.node (o20_25 P) (.node (o20_41 P) (.node (o20_73 P) (.node (o20_137 P) (.node (o84_265 P) (.node (o84_521 P) .nil .nil) .nil) (.node (o84_393 P) .nil .nil)) (.node (o20_201 P) (.node (o84_329 P) (.node (o84_585 P) .nil .nil) .nil) (.node (o84_457 P) .nil .nil))) (.node (o20_105 P) (.node (o20_169 P) (.node (o84_297 P) (.node (o84_553 P) .nil .nil) .nil) (.node (o84_425 P) .nil .nil)) (.node (o84_233 P) (.node (o84_361 P) .nil .nil) (.node (o84_489 P) .nil .nil)))) (.node (o20_57 P) (.node (o20_89 P) (.node (o20_153 P) (.node (o84_281 P) (.node (o84_537 P) .nil .nil) .nil) (.node (o84_409 P) .nil .nil)) (.node (o84_217 P) (.node (o84_345 P) (.node (o84_601 P) .nil .nil) .nil) (.node (o84_473 P) .nil .nil))) (.node (o20_121 P) (.node (o20_185 P) (.node (o84_313 P) (.node (o84_569 P) .nil .nil) .nil) (.node (o84_441 P) .nil .nil)) (.node (o84_249 P) (.node (o84_377 P) .nil .nil) (.node (o84_505 P) .nil .nil)))))) (.node (oa_13 P) (.node (o20_21 P) (.node (o20_37 P) (.node (o20_69 P) (.node (o20_133 P) (.node (o84_261 P) (.node (o84_517 P) .nil .nil) .nil) (.node (o84_389 P) .nil .nil)) (.node (o20_197 P) (.node (o84_325 P) (.node (o84_581 P) .nil .nil) .nil) (.node (o84_453 P) .nil .nil))) (.node (o20_101 P) (.node (o20_165 P) (.node (o84_293 P) (.node (o84_549 P) .nil .nil) .nil) (.node (o84_421 P) .nil .nil)) (.node (o84_229 P) (.node (o84_357 P) .nil .nil) (.node (o84_485 P) .nil .nil)))) (.node (o20_53 P) (.node (o20_85 P) (.node (o20_149 P) (.node (o84_277 P) (.node (o84_533 P) .nil .nil) .nil) (.node (o84_405 P) .nil .nil)) (.node (o84_213 P) (.node (o84_341 P) (.node (o84_597 P) .nil .nil) .nil) (.node (o84_469 P) .nil .nil))) (.node (o20_117 P) (.node (o20_181 P) (.node (o84_309 P) (.node (o84_565 P) .nil .nil) .nil) (.node (o84_437 P) .nil .nil)) (.node (o84_245 P) (.node (o84_373 P) .nil .nil) (.node (o84_501 P) .nil .nil))))) (.node (o20_29 P) (.node (o20_45 P) (.node (o20_77 P) (.node (o20_141 P) (.node (o84_269 P) (.node (o84_525 P) .nil .nil) .nil) (.node (o84_397 P) .nil .nil)) (.node (o20_205 P) (.node (o84_333 P) (.node (o84_589 P) .nil .nil) .nil) (.node (o84_461 P) .nil .nil))) (.node (o20_109 P) (.node (o20_173 P) (.node (o84_301 P) (.node (o84_557 P) .nil .nil) .nil) (.node (o84_429 P) .nil .nil)) (.node (o84_237 P) (.node (o84_365 P) .nil .nil) (.node (o84_493 P) .nil .nil)))) (.node (o20_61 P) (.node (o20_93 P) (.node (o20_157 P) (.node (o84_285 P) (.node (o84_541 P) .nil .nil) .nil) (.node (o84_413 P) .nil .nil)) (.node (o84_221 P) (.node (o84_349 P) (.node (o85_605 P) .nil .nil) .nil) (.node (o84_477 P) .nil .nil))) (.node (o20_125 P) (.node (o20_189 P) (.node (o84_317 P) (.node (o84_573 P) .nil .nil) .nil) (.node (o84_445 P) .nil .nil)) (.node (o84_253 P) (.node (o84_381 P) .nil .nil) (.node (o84_509 P) .nil .nil)))))))) (.node (boot_o_2 P) (.node (boot_o_4 P) (.node (boot_o_8 P) (.node (o20_16 P) (.node (o20_32 P) (.node (o20_64 P) (.node (o20_128 P) (.node (o84_256 P) (.node (o84_512 P) .nil .nil) .nil) (.node (o84_384 P) .nil .nil)) (.node (o20_192 P) (.node (o84_320 P) (.node (o84_576 P) .nil .nil) .nil) (.node (o84_448 P) .nil .nil))) (.node (o20_96 P) (.node (o20_160 P) (.node (o84_288 P) (.node (o84_544 P) .nil .nil) .nil) (.node (o84_416 P) .nil .nil)) (.node (o84_224 P) (.node (o84_352 P) .nil .nil) (.node (o84_480 P) .nil .nil)))) (.node (o20_48 P) (.node (o20_80 P) (.node (o20_144 P) (.node (o84_272 P) (.node (o84_528 P) .nil .nil) .nil) (.node (o84_400 P) .nil .nil)) (.node (o20_208 P) (.node (o84_336 P) (.node (o84_592 P) .nil .nil) .nil) (.node (o84_464 P) .nil .nil))) (.node (o20_112 P) (.node (o20_176 P) (.node (o84_304 P) (.node (o84_560 P) .nil .nil) .nil) (.node (o84_432 P) .nil .nil)) (.node (o84_240 P) (.node (o84_368 P) .nil .nil) (.node (o84_496 P) .nil .nil))))) (.node (o20_24 P) (.node (o20_40 P) (.node (o20_72 P) (.node (o20_136 P) (.node (o84_264 P) (.node (o84_520 P) .nil .nil) .nil) (.node (o84_392 P) .nil .nil)) (.node (o20_200 P) (.node (o84_328 P) (.node (o84_584 P) .nil .nil) .nil) (.node (o84_456 P) .nil .nil))) (.node (o20_104 P) (.node (o20_168 P) (.node (o84_296 P) (.node (o84_552 P) .nil .nil) .nil) (.node (o84_424 P) .nil .nil)) (.node (o84_232 P) (.node (o84_360 P) .nil .nil) (.node (o84_488 P) .nil .nil)))) (.node (o20_56 P) (.node (o20_88 P) (.node (o20_152 P) (.node (o84_280 P) (.node (o84_536 P) .nil .nil) .nil) (.node (o84_408 P) .nil .nil)) (.node (o84_216 P) (.node (o84_344 P) (.node (o84_600 P) .nil .nil) .nil) (.node (o84_472 P) .nil .nil))) (.node (o20_120 P) (.node (o20_184 P) (.node (o84_312 P) (.node (o84_568 P) .nil .nil) .nil) (.node (o84_440 P) .nil .nil)) (.node (o84_248 P) (.node (o84_376 P) .nil .nil) (.node (o84_504 P) .nil .nil)))))) (.node (o84_12 P) (.node (o20_20 P) (.node (o20_36 P) (.node (o20_68 P) (.node (o20_132 P) (.node (o84_260 P) (.node (o84_516 P) .nil .nil) .nil) (.node (o84_388 P) .nil .nil)) (.node (o20_196 P) (.node (o84_324 P) (.node (o84_580 P) .nil .nil) .nil) (.node (o84_452 P) .nil .nil))) (.node (o20_100 P) (.node (o20_164 P) (.node (o84_292 P) (.node (o84_548 P) .nil .nil) .nil) (.node (o84_420 P) .nil .nil)) (.node (o84_228 P) (.node (o84_356 P) .nil .nil) (.node (o84_484 P) .nil .nil)))) (.node (o20_52 P) (.node (o20_84 P) (.node (o20_148 P) (.node (o84_276 P) (.node (o84_532 P) .nil .nil) .nil) (.node (o84_404 P) .nil .nil)) (.node (o84_212 P) (.node (o84_340 P) (.node (o84_596 P) .nil .nil) .nil) (.node (o84_468 P) .nil .nil))) (.node (o20_116 P) (.node (o20_180 P) (.node (o84_308 P) (.node (o84_564 P) .nil .nil) .nil) (.node (o84_436 P) .nil .nil)) (.node (o84_244 P) (.node (o84_372 P) .nil .nil) (.node (o84_500 P) .nil .nil))))) (.node (o20_28 P) (.node (o20_44 P) (.node (o20_76 P) (.node (o20_140 P) (.node (o84_268 P) (.node (o84_524 P) .nil .nil) .nil) (.node (o84_396 P) .nil .nil)) (.node (o20_204 P) (.node (o84_332 P) (.node (o84_588 P) .nil .nil) .nil) (.node (o84_460 P) .nil .nil))) (.node (o20_108 P) (.node (o20_172 P) (.node (o84_300 P) (.node (o84_556 P) .nil .nil) .nil) (.node (o84_428 P) .nil .nil)) (.node (o84_236 P) (.node (o84_364 P) .nil .nil) (.node (o84_492 P) .nil .nil)))) (.node (o20_60 P) (.node (o20_92 P) (.node (o20_156 P) (.node (o84_284 P) (.node (o84_540 P) .nil .nil) .nil) (.node (o84_412 P) .nil .nil)) (.node (o84_220 P) (.node (o84_348 P) (.node (o84_604 P) .nil .nil) .nil) (.node (o84_476 P) .nil .nil))) (.node (o20_124 P) (.node (o20_188 P) (.node (o84_316 P) (.node (o84_572 P) .nil .nil) .nil) (.node (o84_444 P) .nil .nil)) (.node (o84_252 P) (.node (o84_380 P) .nil .nil) (.node (o84_508 P) .nil .nil))))))) (.node (boot_o_6 P) (.node (boot_o_10 P) (.node (o20_18 P) (.node (o20_34 P) (.node (o20_66 P) (.node (o20_130 P) (.node (o84_258 P) (.node (o84_514 P) .nil .nil) .nil) (.node (o84_386 P) .nil .nil)) (.node (o20_194 P) (.node (o84_322 P) (.node (o84_578 P) .nil .nil) .nil) (.node (o84_450 P) .nil .nil))) (.node (o20_98 P) (.node (o20_162 P) (.node (o84_290 P) (.node (o84_546 P) .nil .nil) .nil) (.node (o84_418 P) .nil .nil)) (.node (o84_226 P) (.node (o84_354 P) .nil .nil) (.node (o84_482 P) .nil .nil)))) (.node (o20_50 P) (.node (o20_82 P) (.node (o20_146 P) (.node (o84_274 P) (.node (o84_530 P) .nil .nil) .nil) (.node (o84_402 P) .nil .nil)) (.node (o20_210 P) (.node (o84_338 P) (.node (o84_594 P) .nil .nil) .nil) (.node (o84_466 P) .nil .nil))) (.node (o20_114 P) (.node (o20_178 P) (.node (o84_306 P) (.node (o84_562 P) .nil .nil) .nil) (.node (o84_434 P) .nil .nil)) (.node (o84_242 P) (.node (o84_370 P) .nil .nil) (.node (o84_498 P) .nil .nil))))) (.node (o20_26 P) (.node (o20_42 P) (.node (o20_74 P) (.node (o20_138 P) (.node (o84_266 P) (.node (o84_522 P) .nil .nil) .nil) (.node (o84_394 P) .nil .nil)) (.node (o20_202 P) (.node (o84_330 P) (.node (o84_586 P) .nil .nil) .nil) (.node (o84_458 P) .nil .nil))) (.node (o20_106 P) (.node (o20_170 P) (.node (o84_298 P) (.node (o84_554 P) .nil .nil) .nil) (.node (o84_426 P) .nil .nil)) (.node (o84_234 P) (.node (o84_362 P) .nil .nil) (.node (o84_490 P) .nil .nil)))) (.node (o20_58 P) (.node (o20_90 P) (.node (o20_154 P) (.node (o84_282 P) (.node (o84_538 P) .nil .nil) .nil) (.node (o84_410 P) .nil .nil)) (.node (o84_218 P) (.node (o84_346 P) (.node (o84_602 P) .nil .nil) .nil) (.node (o84_474 P) .nil .nil))) (.node (o20_122 P) (.node (o20_186 P) (.node (o84_314 P) (.node (o84_570 P) .nil .nil) .nil) (.node (o84_442 P) .nil .nil)) (.node (o84_250 P) (.node (o84_378 P) .nil .nil) (.node (o84_506 P) .nil .nil)))))) (.node (oa_14 P) (.node (o20_22 P) (.node (o20_38 P) (.node (o20_70 P) (.node (o20_134 P) (.node (o84_262 P) (.node (o84_518 P) .nil .nil) .nil) (.node (o84_390 P) .nil .nil)) (.node (o20_198 P) (.node (o84_326 P) (.node (o84_582 P) .nil .nil) .nil) (.node (o84_454 P) .nil .nil))) (.node (o20_102 P) (.node (o20_166 P) (.node (o84_294 P) (.node (o84_550 P) .nil .nil) .nil) (.node (o84_422 P) .nil .nil)) (.node (o84_230 P) (.node (o84_358 P) .nil .nil) (.node (o84_486 P) .nil .nil)))) (.node (o20_54 P) (.node (o20_86 P) (.node (o20_150 P) (.node (o84_278 P) (.node (o84_534 P) .nil .nil) .nil) (.node (o84_406 P) .nil .nil)) (.node (o84_214 P) (.node (o84_342 P) (.node (o84_598 P) .nil .nil) .nil) (.node (o84_470 P) .nil .nil))) (.node (o20_118 P) (.node (o20_182 P) (.node (o84_310 P) (.node (o84_566 P) .nil .nil) .nil) (.node (o84_438 P) .nil .nil)) (.node (o84_246 P) (.node (o84_374 P) .nil .nil) (.node (o84_502 P) .nil .nil))))) (.node (o20_30 P) (.node (o20_46 P) (.node (o20_78 P) (.node (o20_142 P) (.node (o84_270 P) (.node (o84_526 P) .nil .nil) .nil) (.node (o84_398 P) .nil .nil)) (.node (o20_206 P) (.node (o84_334 P) (.node (o84_590 P) .nil .nil) .nil) (.node (o84_462 P) .nil .nil))) (.node (o20_110 P) (.node (o20_174 P) (.node (o84_302 P) (.node (o84_558 P) .nil .nil) .nil) (.node (o84_430 P) .nil .nil)) (.node (o84_238 P) (.node (o84_366 P) .nil .nil) (.node (o84_494 P) .nil .nil)))) (.node (o20_62 P) (.node (o20_94 P) (.node (o20_158 P) (.node (o84_286 P) (.node (o84_542 P) .nil .nil) .nil) (.node (o84_414 P) .nil .nil)) (.node (o84_222 P) (.node (o84_350 P) (.node (o85_606 P) .nil .nil) .nil) (.node (o84_478 P) .nil .nil))) (.node (o20_126 P) (.node (o20_190 P) (.node (o84_318 P) (.node (o84_574 P) .nil .nil) .nil) (.node (o84_446 P) .nil .nil)) (.node (o84_254 P) (.node (o84_382 P) .nil .nil) (.node (o84_510 P) .nil .nil)))))))))
def S85 (w : World) (os : OsState) : SharedT := ⟨T85 w.params, 607, (boot_heap w.params).life, Array.mk [], boot_drawn, 1065, os⟩
def o150_3 (P : Params) : Obj := ⟨(.type "dict"), .none, (.dict #[⟨PyData.keyHash P (Str.ofString "__name__"), (.str (Str.ofString "__name__") 165), (.str (Str.ofString "plinth.threads") 1745)⟩, ⟨PyData.keyHash P (Str.ofString "__doc__"), (.str (Str.ofString "__doc__") 166), .none⟩, ⟨PyData.keyHash P (Str.ofString "__package__"), (.str (Str.ofString "__package__") 167), .none⟩, ⟨PyData.keyHash P (Str.ofString "__loader__"), (.str (Str.ofString "__loader__") 168), (.builtin "__main__.__loader__#opaque")⟩, ⟨PyData.keyHash P (Str.ofString "__spec__"), (.str (Str.ofString "__spec__") 169), .none⟩, ⟨PyData.keyHash P (Str.ofString "__annotations__"), (.str (Str.ofString "__annotations__") 170), (.ref 6)⟩, ⟨PyData.keyHash P (Str.ofString "__builtins__"), (.str (Str.ofString "__builtins__") 171), (.ref 4)⟩, ⟨PyData.keyHash P (Str.ofString "__file__"), (.str (Str.ofString "__file__") 173), (.str (Str.ofString "/claim/cut.py") 172)⟩, ⟨PyData.keyHash P (Str.ofString "__cached__"), (.str (Str.ofString "__cached__") 174), .none⟩, ⟨PyData.keyHash P (Str.ofString "_wall"), (.str (Str.ofString "_wall") 193), (.ref 21)⟩, ⟨PyData.keyHash P (Str.ofString "PlinthError"), (.str (Str.ofString "PlinthError") 213), (.ref 31)⟩, ⟨PyData.keyHash P (Str.ofString "NotText"), (.str (Str.ofString "NotText") 229), (.ref 44)⟩, ⟨PyData.keyHash P (Str.ofString "NotNumeral"), (.str (Str.ofString "NotNumeral") 245), (.ref 56)⟩, ⟨PyData.keyHash P (Str.ofString "BadFuel"), (.str (Str.ofString "BadFuel") 261), (.ref 68)⟩, ⟨PyData.keyHash P (Str.ofString "BadPlan"), (.str (Str.ofString "BadPlan") 286), (.ref 87)⟩, ⟨PyData.keyHash P (Str.ofString "BadClaim"), (.str (Str.ofString "BadClaim") 302), (.ref 99)⟩, ⟨PyData.keyHash P (Str.ofString "BadTrap"), (.str (Str.ofString "BadTrap") 318), (.ref 111)⟩, ⟨PyData.keyHash P (Str.ofString "NotPlantable"), (.str (Str.ofString "NotPlantable") 334), (.ref 123)⟩, ⟨PyData.keyHash P (Str.ofString "BadName"), (.str (Str.ofString "BadName") 350), (.ref 135)⟩, ⟨PyData.keyHash P (Str.ofString "BadKind"), (.str (Str.ofString "BadKind") 366), (.ref 147)⟩, ⟨PyData.keyHash P (Str.ofString "NoEntry"), (.str (Str.ofString "NoEntry") 391), (.ref 166)⟩, ⟨PyData.keyHash P (Str.ofString "OutOfRange"), (.str (Str.ofString "OutOfRange") 407), (.ref 178)⟩, ⟨PyData.keyHash P (Str.ofString "BadJournal"), (.str (Str.ofString "BadJournal") 432), (.ref 197)⟩, ⟨PyData.keyHash P (Str.ofString "OpenTrial"), (.str (Str.ofString "OpenTrial") 448), (.ref 209)⟩, ⟨PyData.keyHash P (Str.ofString "NEWLINE"), (.str (Str.ofString "NEWLINE") 452), (.int (10) 451)⟩, ⟨PyData.keyHash P (Str.ofString "PRINTABLE"), (.str (Str.ofString "PRINTABLE") 454), (.str (Str.ofString " !\"#$&'()*+,-./0123456789:;<=>?@ABCDEFGHIJKLMNOPQRSTUVWXYZ[\\]^_`abcdefghijklmnopqrstuvwxyz{|}~") 453)⟩, ⟨PyData.keyHash P (Str.ofString "DIGITS_signs"), (.str (Str.ofString "DIGITS_signs") 456), (.str (Str.ofString "0123456789") 455)⟩, ⟨PyData.keyHash P (Str.ofString "LIMIT"), (.str (Str.ofString "LIMIT") 460), (.int (1000000000000000000000000000000000000000000000000000000000000) 459)⟩, ⟨PyData.keyHash P (Str.ofString "codes_of"), (.str (Str.ofString "codes_of") 469), (.ref 218)⟩, ⟨PyData.keyHash P (Str.ofString "_char"), (.str (Str.ofString "_char") 476), (.ref 225)⟩, ⟨PyData.keyHash P (Str.ofString "text_of"), (.str (Str.ofString "text_of") 486), (.ref 232)⟩, ⟨PyData.keyHash P (Str.ofString "readable"), (.str (Str.ofString "readable") 495), (.ref 239)⟩, ⟨PyData.keyHash P (Str.ofString "numeral"), (.str (Str.ofString "numeral") 502), (.ref 246)⟩, ⟨PyData.keyHash P (Str.ofString "number_of"), (.str (Str.ofString "number_of") 511), (.ref 253)⟩, ⟨PyData.keyHash P (Str.ofString "is_digit"), (.str (Str.ofString "is_digit") 520), (.ref 260)⟩, ⟨PyData.keyHash P (Str.ofString "read_digits"), (.str (Str.ofString "read_digits") 530), (.ref 267)⟩, ⟨PyData.keyHash P (Str.ofString "ShortReader"), (.str (Str.ofString "ShortReader") 598), (.ref 312)⟩, ⟨PyData.keyHash P (Str.ofString "translate_short"), (.str (Str.ofString "translate_short") 606), (.ref 323)⟩, ⟨PyData.keyHash P (Str.ofString "BLANK"), (.str (Str.ofString "BLANK") 610), (.int (32) 609)⟩, ⟨PyData.keyHash P (Str.ofString "QUOTE"), (.str (Str.ofString "QUOTE") 612), (.int (39) 611)⟩, ⟨PyData.keyHash P (Str.ofString "RETURN_translate"), (.str (Str.ofString "RETURN_translate") 614), (.int (41) 613)⟩, ⟨PyData.keyHash P (Str.ofString "COLON"), (.str (Str.ofString "COLON") 616), (.int (58) 615)⟩, ⟨PyData.keyHash P (Str.ofString "SEMICOLON"), (.str (Str.ofString "SEMICOLON") 618), (.int (59) 617)⟩, ⟨PyData.keyHash P (Str.ofString "ASSIGN"), (.str (Str.ofString "ASSIGN") 620), (.int (61) 619)⟩, ⟨PyData.keyHash P (Str.ofString "PUSH_translate"), (.str (Str.ofString "PUSH_translate") 622), (.int (35) 621)⟩, ⟨PyData.keyHash P (Str.ofString "TEST_translate"), (.str (Str.ofString "TEST_translate") 624), (.int (63) 623)⟩, ⟨PyData.keyHash P (Str.ofString "Translator"), (.str (Str.ofString "Translator") 751), (.ref 411)⟩, ⟨PyData.keyHash P (Str.ofString "translate"), (.str (Str.ofString "translate") 766), (.ref 423)⟩, ⟨PyData.keyHash P (Str.ofString "DIGITS_audit"), (.str (Str.ofString "DIGITS_audit") 770), (.str (Str.ofString "digits") 769)⟩, ⟨PyData.keyHash P (Str.ofString "SHORT"), (.str (Str.ofString "SHORT") 772), (.str (Str.ofString "short") 771)⟩, ⟨PyData.keyHash P (Str.ofString "PLAIN"), (.str (Str.ofString "PLAIN") 774), (.str (Str.ofString "plain") 773)⟩, ⟨PyData.keyHash P (Str.ofString "TURNED"), (.str (Str.ofString "TURNED") 776), (.str (Str.ofString "turned") 775)⟩, ⟨PyData.keyHash P (Str.ofString "KINDS"), (.str (Str.ofString "KINDS") 777), (.ref 424)⟩, ⟨PyData.keyHash P (Str.ofString "due"), (.str (Str.ofString "due") 786), (.ref 848)⟩, ⟨PyData.keyHash P (Str.ofString "due_audit"), (.str (Str.ofString "due_audit") 787), (.ref 431)⟩, ⟨PyData.keyHash P (Str.ofString "first_difference"), (.str (Str.ofString "first_difference") 797), (.ref 438)⟩, ⟨PyData.keyHash P (Str.ofString "audit"), (.str (Str.ofString "audit") 807), (.ref 445)⟩, ⟨PyData.keyHash P (Str.ofString "nodes_of"), (.str (Str.ofString "nodes_of") 815), (.ref 450)⟩, ⟨PyData.keyHash P (Str.ofString "image_of"), (.str (Str.ofString "image_of") 827), (.ref 457)⟩, ⟨PyData.keyHash P (Str.ofString "table_of"), (.str (Str.ofString "table_of") 839), (.ref 464)⟩, ⟨PyData.keyHash P (Str.ofString "FIRST_LETTER"), (.str (Str.ofString "FIRST_LETTER") 843), (.int (97) 842)⟩, ⟨PyData.keyHash P (Str.ofString "LAST_LETTER"), (.str (Str.ofString "LAST_LETTER") 845), (.int (122) 844)⟩, ⟨PyData.keyHash P (Str.ofString "FIRST_CAPITAL"), (.str (Str.ofString "FIRST_CAPITAL") 847), (.int (65) 846)⟩, ⟨PyData.keyHash P (Str.ofString "LAST_CAPITAL"), (.str (Str.ofString "LAST_CAPITAL") 849), (.int (90) 848)⟩, ⟨PyData.keyHash P (Str.ofString "LAST_LOW"), (.str (Str.ofString "LAST_LOW") 851), (.int (199) 850)⟩, ⟨PyData.keyHash P (Str.ofString "_push"), (.str (Str.ofString "_push") 859), (.ref 471)⟩, ⟨PyData.keyHash P (Str.ofString "_plus"), (.str (Str.ofString "_plus") 868), (.ref 478)⟩, ⟨PyData.keyHash P (Str.ofString "_minus"), (.str (Str.ofString "_minus") 877), (.ref 485)⟩, ⟨PyData.keyHash P (Str.ofString "_digit"), (.str (Str.ofString "_digit") 886), (.ref 492)⟩, ⟨PyData.keyHash P (Str.ofString "_less"), (.str (Str.ofString "_less") 895), (.ref 499)⟩, ⟨PyData.keyHash P (Str.ofString "_same"), (.str (Str.ofString "_same") 904), (.ref 506)⟩, ⟨PyData.keyHash P (Str.ofString "_load"), (.str (Str.ofString "_load") 912), (.ref 513)⟩, ⟨PyData.keyHash P (Str.ofString "_keep"), (.str (Str.ofString "_keep") 921), (.ref 520)⟩, ⟨PyData.keyHash P (Str.ofString "_assign"), (.str (Str.ofString "_assign") 929), (.ref 527)⟩, ⟨PyData.keyHash P (Str.ofString "_take"), (.str (Str.ofString "_take") 937), (.ref 534)⟩, ⟨PyData.keyHash P (Str.ofString "_rewind"), (.str (Str.ofString "_rewind") 945), (.ref 541)⟩, ⟨PyData.keyHash P (Str.ofString "_emit"), (.str (Str.ofString "_emit") 953), (.ref 548)⟩, ⟨PyData.keyHash P (Str.ofString "_cell"), (.str (Str.ofString "_cell") 962), (.ref 555)⟩, ⟨PyData.keyHash P (Str.ofString "_drop"), (.str (Str.ofString "_drop") 970), (.ref 562)⟩, ⟨PyData.keyHash P (Str.ofString "_double"), (.str (Str.ofString "_double") 979), (.ref 569)⟩, ⟨PyData.keyHash P (Str.ofString "_exchange"), (.str (Str.ofString "_exchange") 989), (.ref 576)⟩, ⟨PyData.keyHash P (Str.ofString "_test"), (.str (Str.ofString "_test") 997), (.ref 583)⟩, ⟨PyData.keyHash P (Str.ofString "_call"), (.str (Str.ofString "_call") 1006), (.ref 590)⟩, ⟨PyData.keyHash P (Str.ofString "_call_low"), (.str (Str.ofString "_call_low") 1015), (.ref 597)⟩, ⟨PyData.keyHash P (Str.ofString "_return"), (.str (Str.ofString "_return") 1023), (.ref 604)⟩, ⟨PyData.keyHash P (Str.ofString "DEEDS"), (.str (Str.ofString "DEEDS") 1064), (.ref 605)⟩, ⟨PyData.keyHash P (Str.ofString "State"), (.str (Str.ofString "State") 1143), (.ref 656)⟩, ⟨PyData.keyHash P (Str.ofString "run"), (.str (Str.ofString "run") 1154), (.ref 667)⟩, ⟨PyData.keyHash P (Str.ofString "_parts"), (.str (Str.ofString "_parts") 1163), (.ref 674)⟩, ⟨PyData.keyHash P (Str.ofString "_reach"), (.str (Str.ofString "_reach") 1175), (.ref 681)⟩, ⟨PyData.keyHash P (Str.ofString "_rules_of"), (.str (Str.ofString "_rules_of") 1184), (.ref 688)⟩, ⟨PyData.keyHash P (Str.ofString "_twice"), (.str (Str.ofString "_twice") 1194), (.ref 695)⟩, ⟨PyData.keyHash P (Str.ofString "_missing"), (.str (Str.ofString "_missing") 1205), (.ref 702)⟩, ⟨PyData.keyHash P (Str.ofString "check_plan"), (.str (Str.ofString "check_plan") 1216), (.ref 709)⟩, ⟨PyData.keyHash P (Str.ofString "order_of"), (.str (Str.ofString "order_of") 1222), (.ref 714)⟩, ⟨PyData.keyHash P (Str.ofString "_check_name"), (.str (Str.ofString "_check_name") 1231), (.ref 721)⟩, ⟨PyData.keyHash P (Str.ofString "needs"), (.str (Str.ofString "needs") 1240), (.ref 728)⟩, ⟨PyData.keyHash P (Str.ofString "Build"), (.str (Str.ofString "Build") 1339), (.ref 788)⟩, ⟨PyData.keyHash P (Str.ofString "build_all"), (.str (Str.ofString "build_all") 1352), (.ref 799)⟩, ⟨PyData.keyHash P (Str.ofString "start"), (.str (Str.ofString "start") 1362), (.ref 806)⟩, ⟨PyData.keyHash P (Str.ofString "state_of"), (.str (Str.ofString "state_of") 1374), (.ref 813)⟩, ⟨PyData.keyHash P (Str.ofString "next_state"), (.str (Str.ofString "next_state") 1384), (.ref 820)⟩, ⟨PyData.keyHash P (Str.ofString "story"), (.str (Str.ofString "story") 1395), (.ref 827)⟩, ⟨PyData.keyHash P (Str.ofString "right_claim"), (.str (Str.ofString "right_claim") 1407), (.ref 834)⟩, ⟨PyData.keyHash P (Str.ofString "entry"), (.str (Str.ofString "entry") 1415), (.ref 841)⟩, ⟨PyData.keyHash P (Str.ofString "due_claims"), (.str (Str.ofString "due_claims") 1427), (.ref 848)⟩, ⟨PyData.keyHash P (Str.ofString "_agree"), (.str (Str.ofString "_agree") 1437), (.ref 855)⟩, ⟨PyData.keyHash P (Str.ofString "dispute"), (.str (Str.ofString "dispute") 1452), (.ref 862)⟩, ⟨PyData.keyHash P (Str.ofString "BASE"), (.str (Str.ofString "BASE") 1456), (.int (1000000) 1455)⟩, ⟨PyData.keyHash P (Str.ofString "MOST_LURE"), (.str (Str.ofString "MOST_LURE") 1458), (.int (12) 1457)⟩, ⟨PyData.keyHash P (Str.ofString "MOST_EXTRA"), (.str (Str.ofString "MOST_EXTRA") 1460), (.int (24) 1459)⟩, ⟨PyData.keyHash P (Str.ofString "FIXED"), (.str (Str.ofString "FIXED") 1462), (.int (14) 1461)⟩, ⟨PyData.keyHash P (Str.ofString "PUSH_traps"), (.str (Str.ofString "PUSH_traps") 1464), (.int (35) 1463)⟩, ⟨PyData.keyHash P (Str.ofString "CELL"), (.str (Str.ofString "CELL") 1466), (.int (38) 1465)⟩, ⟨PyData.keyHash P (Str.ofString "CALL"), (.str (Str.ofString "CALL") 1468), (.int (40) 1467)⟩, ⟨PyData.keyHash P (Str.ofString "RETURN_traps"), (.str (Str.ofString "RETURN_traps") 1470), (.int (41) 1469)⟩, ⟨PyData.keyHash P (Str.ofString "PLUS"), (.str (Str.ofString "PLUS") 1472), (.int (43) 1471)⟩, ⟨PyData.keyHash P (Str.ofString "TAKE"), (.str (Str.ofString "TAKE") 1474), (.int (44) 1473)⟩, ⟨PyData.keyHash P (Str.ofString "GIVE"), (.str (Str.ofString "GIVE") 1476), (.int (46) 1475)⟩, ⟨PyData.keyHash P (Str.ofString "DOUBLE"), (.str (Str.ofString "DOUBLE") 1478), (.int (34) 1477)⟩, ⟨PyData.keyHash P (Str.ofString "TEST_traps"), (.str (Str.ofString "TEST_traps") 1480), (.int (63) 1479)⟩, ⟨PyData.keyHash P (Str.ofString "REWIND"), (.str (Str.ofString "REWIND") 1482), (.int (94) 1481)⟩, ⟨PyData.keyHash P (Str.ofString "DROP"), (.str (Str.ofString "DROP") 1484), (.int (95) 1483)⟩, ⟨PyData.keyHash P (Str.ofString "SAME"), (.str (Str.ofString "SAME") 1486), (.int (126) 1485)⟩, ⟨PyData.keyHash P (Str.ofString "is_trap"), (.str (Str.ofString "is_trap") 1492), (.ref 867)⟩, ⟨PyData.keyHash P (Str.ofString "is_plantable"), (.str (Str.ofString "is_plantable") 1502), (.ref 874)⟩, ⟨PyData.keyHash P (Str.ofString "beginning"), (.str (Str.ofString "beginning") 1508), (.ref 881)⟩, ⟨PyData.keyHash P (Str.ofString "comparison"), (.str (Str.ofString "comparison") 1517), (.ref 888)⟩, ⟨PyData.keyHash P (Str.ofString "writing"), (.str (Str.ofString "writing") 1525), (.ref 895)⟩, ⟨PyData.keyHash P (Str.ofString "copying"), (.str (Str.ofString "copying") 1534), (.ref 902)⟩, ⟨PyData.keyHash P (Str.ofString "trap_nodes"), (.str (Str.ofString "trap_nodes") 1549), (.ref 909)⟩, ⟨PyData.keyHash P (Str.ofString "plant"), (.str (Str.ofString "plant") 1558), (.ref 916)⟩, ⟨PyData.keyHash P (Str.ofString "LONGEST_NAME"), (.str (Str.ofString "LONGEST_NAME") 1562), (.int (12) 1561)⟩, ⟨PyData.keyHash P (Str.ofString "Entry"), (.str (Str.ofString "Entry") 1595), (.ref 933)⟩, ⟨PyData.keyHash P (Str.ofString "check_new"), (.str (Str.ofString "check_new") 1605), (.ref 944)⟩, ⟨PyData.keyHash P (Str.ofString "Shelf"), (.str (Str.ofString "Shelf") 1744), (.ref 1039)⟩, ⟨PyData.keyHash P (Str.ofString "SIGNS"), (.str (Str.ofString "SIGNS") 1767), (.ref 1044)⟩, ⟨PyData.keyHash P (Str.ofString "PAIRS"), (.str (Str.ofString "PAIRS") 1773), (.ref 1045)⟩, ⟨PyData.keyHash P (Str.ofString "is_letter"), (.str (Str.ofString "is_letter") 1780), (.ref 1052)⟩, ⟨PyData.keyHash P (Str.ofString "is_nop"), (.str (Str.ofString "is_nop") 1787), (.ref 1059)⟩, ⟨PyData.keyHash P (Str.ofString "combined"), (.str (Str.ofString "combined") 1796), (.ref 1066)⟩, ⟨PyData.keyHash P (Str.ofString "written"), (.str (Str.ofString "written") 1808), (.ref 1073)⟩] 142), #[]⟩
def o150_12 (P : Params) : Obj := ⟨.none, .none, (.fields #[(.int (1) 0), (.int (0) 0), (.ref 20), (.int (5) 0), (.int (0) 0), (.ref 27), (.int (7) 0), (.int (0) 0), (.ref 40), (.int (9) 0), (.int (0) 0), (.ref 52), (.int (11) 0), (.int (0) 0), (.ref 64), (.int (13) 0), (.int (0) 0), (.ref 76), (.int (18) 0), (.int (0) 0), (.ref 95), (.int (20) 0), (.int (0) 0), (.ref 107), (.int (22) 0), (.int (0) 0), (.ref 119), (.int (24) 0), (.int (0) 0), (.ref 131), (.int (26) 0), (.int (0) 0), (.ref 143), (.int (28) 0), (.int (0) 0), (.ref 155), (.int (33) 0), (.int (0) 0), (.ref 174), (.int (35) 0), (.int (0) 0), (.ref 186), (.int (40) 0), (.int (0) 0), (.ref 205), (.int (47) 0), (.int (0) 0), (.ref 217), (.int (54) 0), (.int (0) 0), (.ref 224), (.int (62) 0), (.int (0) 0), (.ref 231), (.int (70) 0), (.int (0) 0), (.ref 238), (.int (77) 0), (.int (0) 0), (.ref 245), (.int (81) 0), (.int (0) 0), (.ref 252), (.int (94) 0), (.int (0) 0), (.ref 259), (.int (96) 0), (.int (0) 0), (.ref 266), (.int (111) 0), (.int (0) 0), (.ref 273), (.int (152) 0), (.int (0) 0), (.ref 322), (.int (165) 0), (.int (0) 0), (.ref 329), (.int (273) 0), (.int (0) 0), (.ref 422), (.int (284) 0), (.int (0) 0), (.ref 430), (.int (296) 0), (.int (0) 0), (.ref 437), (.int (303) 0), (.int (0) 0), (.ref 444), (.int (311) 0), (.int (0) 0), (.ref 449), (.int (313) 0), (.int (0) 0), (.ref 456), (.int (318) 0), (.int (0) 0), (.ref 463), (.int (329) 0), (.int (0) 0), (.ref 470), (.int (331) 0), (.int (0) 0), (.ref 477), (.int (334) 0), (.int (0) 0), (.ref 484), (.int (337) 0), (.int (0) 0), (.ref 491), (.int (340) 0), (.int (0) 0), (.ref 498), (.int (343) 0), (.int (0) 0), (.ref 505), (.int (346) 0), (.int (0) 0), (.ref 512), (.int (348) 0), (.int (0) 0), (.ref 519), (.int (351) 0), (.int (0) 0), (.ref 526), (.int (353) 0), (.int (0) 0), (.ref 533), (.int (359) 0), (.int (0) 0), (.ref 540), (.int (361) 0), (.int (0) 0), (.ref 547), (.int (363) 0), (.int (0) 0), (.ref 554), (.int (369) 0), (.int (0) 0), (.ref 561), (.int (371) 0), (.int (0) 0), (.ref 568), (.int (374) 0), (.int (0) 0), (.ref 575), (.int (378) 0), (.int (0) 0), (.ref 582), (.int (381) 0), (.int (0) 0), (.ref 589), (.int (385) 0), (.int (0) 0), (.ref 596), (.int (392) 0), (.int (0) 0), (.ref 603), (.int (396) 0), (.int (0) 0), (.ref 612), (.int (445) 0), (.int (0) 0), (.ref 666), (.int (450) 0), (.int (0) 0), (.ref 673), (.int (452) 0), (.int (0) 0), (.ref 680), (.int (464) 0), (.int (0) 0), (.ref 687), (.int (469) 0), (.int (0) 0), (.ref 694), (.int (476) 0), (.int (0) 0), (.ref 701), (.int (482) 0), (.int (0) 0), (.ref 708), (.int (493) 0), (.int (0) 0), (.ref 713), (.int (504) 0), (.int (0) 0), (.ref 720), (.int (508) 0), (.int (0) 0), (.ref 727), (.int (512) 0), (.int (0) 0), (.ref 734), (.int (580) 0), (.int (0) 0), (.ref 798), (.int (590) 0), (.int (0) 0), (.ref 805), (.int (592) 0), (.int (0) 0), (.ref 812), (.int (602) 0), (.int (0) 0), (.ref 819), (.int (607) 0), (.int (0) 0), (.ref 826), (.int (616) 0), (.int (0) 0), (.ref 833), (.int (621) 0), (.int (0) 0), (.ref 840), (.int (627) 0), (.int (0) 0), (.ref 847), (.int (638) 0), (.int (0) 0), (.ref 854), (.int (640) 0), (.int (0) 0), (.ref 861), (.int (676) 0), (.int (0) 0), (.ref 866), (.int (682) 0), (.int (0) 0), (.ref 873), (.int (689) 0), (.int (0) 0), (.ref 880), (.int (691) 0), (.int (0) 0), (.ref 887), (.int (693) 0), (.int (0) 0), (.ref 894), (.int (695) 0), (.int (0) 0), (.ref 901), (.int (698) 0), (.int (0) 0), (.ref 908), (.int (712) 0), (.int (0) 0), (.ref 915), (.int (720) 0), (.int (0) 0), (.ref 922), (.int (726) 0), (.int (0) 0), (.ref 943), (.int (735) 0), (.int (0) 0), (.ref 950), (.int (795) 0), (.int (0) 0), (.ref 1051), (.int (797) 0), (.int (0) 0), (.ref 1058), (.int (799) 0), (.int (0) 0), (.ref 1065), (.int (809) 0), (.int (0) 0), (.ref 1072)]), #[]⟩
def o150_607 (P : Params) : Obj := ⟨(.type "tuple"), .none, (.seq #[] 0), #[]⟩
def o150_608 (P : Params) : Obj := ⟨(.type "builtin_function_or_method"), .none, (.fields #[(.builtin "type.__prepare__"), (.type "type")]), #[]⟩
def o150_609 (P : Params) : Obj := ⟨(.type "dict"), .none, (.dict #[⟨PyData.keyHash P (Str.ofString "__module__"), (.str (Str.ofString "__module__") 1072), (.str (Str.ofString "plinth.machine") 840)⟩, ⟨PyData.keyHash P (Str.ofString "__qualname__"), (.str (Str.ofString "__qualname__") 1074), (.str (Str.ofString "State") 1073)⟩, ⟨PyData.keyHash P (Str.ofString "__firstlineno__"), (.str (Str.ofString "__firstlineno__") 1076), (.int (396) 1075)⟩, ⟨PyData.keyHash P (Str.ofString "__init__"), (.str (Str.ofString "__init__") 1085), (.ref 620)⟩, ⟨PyData.keyHash P (Str.ofString "pull"), (.str (Str.ofString "pull") 1092), (.ref 627)⟩, ⟨PyData.keyHash P (Str.ofString "has_ended"), (.str (Str.ofString "has_ended") 1099), (.ref 634)⟩, ⟨PyData.keyHash P (Str.ofString "step"), (.str (Str.ofString "step") 1110), (.ref 641)⟩, ⟨PyData.keyHash P (Str.ofString "advance"), (.str (Str.ofString "advance") 1119), (.ref 648)⟩, ⟨PyData.keyHash P (Str.ofString "plain"), (.str (Str.ofString "plain") 1125), (.ref 653)⟩, ⟨PyData.keyHash P (Str.ofString "__static_attributes__"), (.str (Str.ofString "__static_attributes__") 1136), (.ref 654)⟩] 10), #[]⟩
def o150_610 (P : Params) : Obj := ⟨(.type "tuple"), .none, (.seq #[] 0), #[]⟩
def o150_611 (P : Params) : Obj := ⟨.none, .none, (.fields #[(.int (398) 0), (.int (4) 0), (.ref 619), (.int (410) 0), (.int (4) 0), (.ref 626), (.int (415) 0), (.int (4) 0), (.ref 633), (.int (418) 0), (.int (4) 0), (.ref 640), (.int (434) 0), (.int (4) 0), (.ref 647), (.int (442) 0), (.int (4) 0), (.ref 652)]), #[]⟩
def o150_612 (P : Params) : Obj := ⟨(.type "code"), .none, (.fields #[(.str (Str.ofString "State") 1067), (.str (Str.ofString "State") 1068), (.str (Str.ofString "/claim/cut.py") 1069), (.int (396) 0), (.int (0) 0), (.int (0) 0), (.int (0) 0), (.int (0) 0), (.ref 610), (.bool false), (.int (181) 0), (.ref 611), .none, .none, .none, .none, (.int (1070) 0), (.int (396) 0), (.str (Str.ofString "/claim/cut.py") 1071)]), #[]⟩
def o150_613 (P : Params) : Obj := ⟨(.type "frame"), .none, .plain, #[(.some (.ref 612)), (.some (.ref 3)), (.some (.ref 609)), .none, (.some (.str (Str.ofString "plinth.machine") 840)), .none, (.some (.ref 0))]⟩
def o150_614 (P : Params) : Obj := ⟨(.type "tuple"), .none, (.seq #[] 0), #[]⟩
def o150_615 (P : Params) : Obj := ⟨.none, .none, (.fields #[]), #[]⟩
def o150_616 (P : Params) : Obj := ⟨(.type "tuple"), .none, (.seq #[(.str (Str.ofString "self") 1080), (.str (Str.ofString "image") 1081), (.str (Str.ofString "numbers") 1082)] 0), #[]⟩
def o150_617 (P : Params) : Obj := ⟨(.type "tuple"), .none, (.seq #[] 0), #[]⟩
def o150_618 (P : Params) : Obj := ⟨.none, .none, (.func ⟨(Str.ofString "__init__"), (Str.ofString "State.__init__"), defArgs (inClass (top 85) 0), .stmts (defBody (inClass (top 85) 0)), defScope (inClass (top 85) 0), 0, [], .none, .none, .none, .none, .none, .none, .none, 0⟩), #[]⟩
def o150_619 (P : Params) : Obj := ⟨(.type "code"), .none, (.fields #[(.str (Str.ofString "__init__") 1077), (.str (Str.ofString "State.__init__") 1078), (.str (Str.ofString "/claim/cut.py") 1079), (.int (398) 0), (.int (3) 0), (.int (0) 0), (.int (0) 0), (.int (3) 0), (.ref 614), (.bool true), (.int (181) 0), (.ref 615), .none, (.ref 616), (.ref 617), (.ref 618), (.int (1083) 0), (.int (398) 0), (.str (Str.ofString "/claim/cut.py") 1084)]), #[]⟩
def o150_620 (P : Params) : Obj := ⟨(.type "function"), .none, (.func ⟨(Str.ofString "__init__"), (Str.ofString "State.__init__"), defArgs (inClass (top 85) 0), .stmts (defBody (inClass (top 85) 0)), defScope (inClass (top 85) 0), 3, [], .none, .none, .none, (.str (Str.ofString "plinth.machine") 840), .none, (.ref 619), .none, 0⟩), #[]⟩
def o150_621 (P : Params) : Obj := ⟨(.type "tuple"), .none, (.seq #[] 0), #[]⟩
def o150_622 (P : Params) : Obj := ⟨.none, .none, (.fields #[]), #[]⟩
def o150_623 (P : Params) : Obj := ⟨(.type "tuple"), .none, (.seq #[(.str (Str.ofString "self") 1089)] 0), #[]⟩
def o150_624 (P : Params) : Obj := ⟨(.type "tuple"), .none, (.seq #[] 0), #[]⟩
def o150_625 (P : Params) : Obj := ⟨.none, .none, (.func ⟨(Str.ofString "pull"), (Str.ofString "State.pull"), defArgs (inClass (top 85) 1), .stmts (defBody (inClass (top 85) 1)), defScope (inClass (top 85) 1), 0, [], .none, .none, .none, .none, .none, .none, .none, 0⟩), #[]⟩
def o150_626 (P : Params) : Obj := ⟨(.type "code"), .none, (.fields #[(.str (Str.ofString "pull") 1086), (.str (Str.ofString "State.pull") 1087), (.str (Str.ofString "/claim/cut.py") 1088), (.int (410) 0), (.int (1) 0), (.int (0) 0), (.int (0) 0), (.int (3) 0), (.ref 621), (.bool true), (.int (181) 0), (.ref 622), .none, (.ref 623), (.ref 624), (.ref 625), (.int (1090) 0), (.int (410) 0), (.str (Str.ofString "/claim/cut.py") 1091)]), #[]⟩
def o150_627 (P : Params) : Obj := ⟨(.type "function"), .none, (.func ⟨(Str.ofString "pull"), (Str.ofString "State.pull"), defArgs (inClass (top 85) 1), .stmts (defBody (inClass (top 85) 1)), defScope (inClass (top 85) 1), 3, [], .none, .none, .none, (.str (Str.ofString "plinth.machine") 840), .none, (.ref 626), .none, 0⟩), #[]⟩
def o150_628 (P : Params) : Obj := ⟨(.type "tuple"), .none, (.seq #[] 0), #[]⟩
def o150_629 (P : Params) : Obj := ⟨.none, .none, (.fields #[]), #[]⟩
def o150_630 (P : Params) : Obj := ⟨(.type "tuple"), .none, (.seq #[(.str (Str.ofString "self") 1096)] 0), #[]⟩
def o150_631 (P : Params) : Obj := ⟨(.type "tuple"), .none, (.seq #[] 0), #[]⟩
def o150_632 (P : Params) : Obj := ⟨.none, .none, (.func ⟨(Str.ofString "has_ended"), (Str.ofString "State.has_ended"), defArgs (inClass (top 85) 2), .stmts (defBody (inClass (top 85) 2)), defScope (inClass (top 85) 2), 0, [], .none, .none, .none, .none, .none, .none, .none, 0⟩), #[]⟩
def o150_633 (P : Params) : Obj := ⟨(.type "code"), .none, (.fields #[(.str (Str.ofString "has_ended") 1093), (.str (Str.ofString "State.has_ended") 1094), (.str (Str.ofString "/claim/cut.py") 1095), (.int (415) 0), (.int (1) 0), (.int (0) 0), (.int (0) 0), (.int (3) 0), (.ref 628), (.bool true), (.int (181) 0), (.ref 629), .none, (.ref 630), (.ref 631), (.ref 632), (.int (1097) 0), (.int (415) 0), (.str (Str.ofString "/claim/cut.py") 1098)]), #[]⟩
def o150_634 (P : Params) : Obj := ⟨(.type "function"), .none, (.func ⟨(Str.ofString "has_ended"), (Str.ofString "State.has_ended"), defArgs (inClass (top 85) 2), .stmts (defBody (inClass (top 85) 2)), defScope (inClass (top 85) 2), 3, [], .none, .none, .none, (.str (Str.ofString "plinth.machine") 840), .none, (.ref 633), .none, 0⟩), #[]⟩
def o150_635 (P : Params) : Obj := ⟨(.type "tuple"), .none, (.seq #[] 0), #[]⟩
def o150_636 (P : Params) : Obj := ⟨.none, .none, (.fields #[]), #[]⟩
def o150_637 (P : Params) : Obj := ⟨(.type "tuple"), .none, (.seq #[(.str (Str.ofString "self") 1103), (.str (Str.ofString "operation") 1104), (.str (Str.ofString "argument") 1105), (.str (Str.ofString "successor") 1106), (.str (Str.ofString "deed") 1107)] 0), #[]⟩
def o150_638 (P : Params) : Obj := ⟨(.type "tuple"), .none, (.seq #[] 0), #[]⟩
def o150_639 (P : Params) : Obj := ⟨.none, .none, (.func ⟨(Str.ofString "step"), (Str.ofString "State.step"), defArgs (inClass (top 85) 3), .stmts (defBody (inClass (top 85) 3)), defScope (inClass (top 85) 3), 0, [], .none, .none, .none, .none, .none, .none, .none, 0⟩), #[]⟩
def o150_640 (P : Params) : Obj := ⟨(.type "code"), .none, (.fields #[(.str (Str.ofString "step") 1100), (.str (Str.ofString "State.step") 1101), (.str (Str.ofString "/claim/cut.py") 1102), (.int (418) 0), (.int (1) 0), (.int (0) 0), (.int (0) 0), (.int (3) 0), (.ref 635), (.bool true), (.int (181) 0), (.ref 636), .none, (.ref 637), (.ref 638), (.ref 639), (.int (1108) 0), (.int (418) 0), (.str (Str.ofString "/claim/cut.py") 1109)]), #[]⟩
def o150_641 (P : Params) : Obj := ⟨(.type "function"), .none, (.func ⟨(Str.ofString "step"), (Str.ofString "State.step"), defArgs (inClass (top 85) 3), .stmts (defBody (inClass (top 85) 3)), defScope (inClass (top 85) 3), 3, [], .none, .none, .none, (.str (Str.ofString "plinth.machine") 840), .none, (.ref 640), .none, 0⟩), #[]⟩
def o150_642 (P : Params) : Obj := ⟨(.type "tuple"), .none, (.seq #[] 0), #[]⟩
def o150_643 (P : Params) : Obj := ⟨.none, .none, (.fields #[]), #[]⟩
def o150_644 (P : Params) : Obj := ⟨(.type "tuple"), .none, (.seq #[(.str (Str.ofString "self") 1114), (.str (Str.ofString "fuel") 1115), (.str (Str.ofString "made") 1116)] 0), #[]⟩
def o150_645 (P : Params) : Obj := ⟨(.type "tuple"), .none, (.seq #[] 0), #[]⟩
def o150_646 (P : Params) : Obj := ⟨.none, .none, (.func ⟨(Str.ofString "advance"), (Str.ofString "State.advance"), defArgs (inClass (top 85) 4), .stmts (defBody (inClass (top 85) 4)), defScope (inClass (top 85) 4), 0, [], .none, .none, .none, .none, .none, .none, .none, 0⟩), #[]⟩
def o150_647 (P : Params) : Obj := ⟨(.type "code"), .none, (.fields #[(.str (Str.ofString "advance") 1111), (.str (Str.ofString "State.advance") 1112), (.str (Str.ofString "/claim/cut.py") 1113), (.int (434) 0), (.int (1) 0), (.int (0) 0), (.int (1) 0), (.int (3) 0), (.ref 642), (.bool true), (.int (181) 0), (.ref 643), .none, (.ref 644), (.ref 645), (.ref 646), (.int (1117) 0), (.int (434) 0), (.str (Str.ofString "/claim/cut.py") 1118)]), #[]⟩
def o150_648 (P : Params) : Obj := ⟨(.type "function"), .none, (.func ⟨(Str.ofString "advance"), (Str.ofString "State.advance"), defArgs (inClass (top 85) 4), .stmts (defBody (inClass (top 85) 4)), defScope (inClass (top 85) 4), 3, [], .none, .none, .none, (.str (Str.ofString "plinth.machine") 840), .none, (.ref 647), .none, 0⟩), #[]⟩
def o150_649 (P : Params) : Obj := ⟨(.type "tuple"), .none, (.seq #[] 0), #[]⟩
def o150_650 (P : Params) : Obj := ⟨.none, .none, (.fields #[]), #[]⟩
def o150_651 (P : Params) : Obj := ⟨.none, .none, (.func ⟨(Str.ofString "plain"), (Str.ofString "State.plain"), defArgs (inClass (top 85) 5), .stmts (defBody (inClass (top 85) 5)), defScope (inClass (top 85) 5), 0, [], .none, .none, .none, .none, .none, .none, .none, 0⟩), #[]⟩
def o150_652 (P : Params) : Obj := ⟨(.type "code"), .none, (.fields #[(.str (Str.ofString "plain") 1120), (.str (Str.ofString "State.plain") 1121), (.str (Str.ofString "/claim/cut.py") 1122), (.int (442) 0), (.int (1) 0), (.int (0) 0), (.int (0) 0), (.int (3) 0), (.ref 649), (.bool true), (.int (181) 0), (.ref 650), .none, .none, .none, (.ref 651), (.int (1123) 0), (.int (442) 0), (.str (Str.ofString "/claim/cut.py") 1124)]), #[]⟩
def o150_653 (P : Params) : Obj := ⟨(.type "function"), .none, (.func ⟨(Str.ofString "plain"), (Str.ofString "State.plain"), defArgs (inClass (top 85) 5), .stmts (defBody (inClass (top 85) 5)), defScope (inClass (top 85) 5), 3, [], .none, .none, .none, (.str (Str.ofString "plinth.machine") 840), .none, (.ref 652), .none, 0⟩), #[]⟩
def o150_654 (P : Params) : Obj := ⟨(.type "tuple"), .none, (.seq #[(.str (Str.ofString "at") 1126), (.str (Str.ofString "back") 1127), (.str (Str.ofString "image") 1128), (.str (Str.ofString "numbers") 1129), (.str (Str.ofString "output") 1130), (.str (Str.ofString "place") 1131), (.str (Str.ofString "stack") 1132), (.str (Str.ofString "steps") 1133), (.str (Str.ofString "store") 1134), (.str (Str.ofString "table") 1135)] 0), #[]⟩
def o150_655 (P : Params) : Obj := ⟨(.type "dict"), .none, (.dict #[⟨PyData.keyHash P (Str.ofString "__module__"), (.str (Str.ofString "__module__") 1072), (.str (Str.ofString "plinth.machine") 840)⟩, ⟨PyData.keyHash P (Str.ofString "__firstlineno__"), (.str (Str.ofString "__firstlineno__") 1076), (.int (396) 1075)⟩, ⟨PyData.keyHash P (Str.ofString "__init__"), (.str (Str.ofString "__init__") 1085), (.ref 620)⟩, ⟨PyData.keyHash P (Str.ofString "pull"), (.str (Str.ofString "pull") 1092), (.ref 627)⟩, ⟨PyData.keyHash P (Str.ofString "has_ended"), (.str (Str.ofString "has_ended") 1099), (.ref 634)⟩, ⟨PyData.keyHash P (Str.ofString "step"), (.str (Str.ofString "step") 1110), (.ref 641)⟩, ⟨PyData.keyHash P (Str.ofString "advance"), (.str (Str.ofString "advance") 1119), (.ref 648)⟩, ⟨PyData.keyHash P (Str.ofString "plain"), (.str (Str.ofString "plain") 1125), (.ref 653)⟩, ⟨PyData.keyHash P (Str.ofString "__static_attributes__"), (.str (Str.ofString "__static_attributes__") 1136), (.ref 654)⟩, ⟨PyData.keyHash P (Str.ofString "__dict__"), (.str (Str.ofString "__dict__") 1138), (.ref 657)⟩, ⟨PyData.keyHash P (Str.ofString "__weakref__"), (.str (Str.ofString "__weakref__") 1140), (.ref 658)⟩, ⟨PyData.keyHash P (Str.ofString "__doc__"), (.str (Str.ofString "__doc__") 1141), .none⟩] 4), #[]⟩
def o150_656 (P : Params) : Obj := ⟨(.type "type"), .none, (.cls ⟨(Str.ofString "State"), [(.type "object")], [(.ref 656), (.type "object")], 655, (Str.ofString "State"), true, [], [], false, .none, false⟩), #[.none, .none, (.some (.str (Str.ofString "State") 1065)), (.some (.str (Str.ofString "State") 1073)), (.some (.builtin "object.__new__")), (.some (.bool true))]⟩
def o150_657 (P : Params) : Obj := ⟨(.type "getset_descriptor"), .none, (.fields #[(.str (Str.ofString "__dict__") 1137), (.ref 656), (.builtin "function.__dict__"), (.builtin "function.__dict__#set")]), #[]⟩
def o150_658 (P : Params) : Obj := ⟨(.type "getset_descriptor"), .none, (.fields #[(.str (Str.ofString "__weakref__") 1139), (.ref 656), (.builtin "ExceptionGroup.__weakref__"), .none]), #[]⟩
def o150_659 (P : Params) : Obj := ⟨(.type "super"), .none, (.fields #[(.ref 656), (.ref 656), (.ref 656)]), #[]⟩
def o150_660 (P : Params) : Obj := ⟨(.type "builtin_function_or_method"), .none, (.fields #[(.builtin "object.__init_subclass__"), (.ref 656)]), #[]⟩
def o150_661 (P : Params) : Obj := ⟨(.type "tuple"), .none, (.seq #[] 0), #[]⟩
def o150_662 (P : Params) : Obj := ⟨.none, .none, (.fields #[]), #[]⟩
def o150_663 (P : Params) : Obj := ⟨(.type "tuple"), .none, (.seq #[(.str (Str.ofString "image") 1147), (.str (Str.ofString "numbers") 1148), (.str (Str.ofString "fuel") 1149), (.str (Str.ofString "state") 1150), (.str (Str.ofString "steps") 1151)] 0), #[]⟩
def o150_664 (P : Params) : Obj := ⟨(.type "tuple"), .none, (.seq #[] 0), #[]⟩
def o150_665 (P : Params) : Obj := ⟨.none, .none, (.func ⟨(Str.ofString "run"), (Str.ofString "run"), defArgs (top 86), .stmts (defBody (top 86)), defScope (top 86), 0, [], .none, .none, .none, .none, .none, .none, .none, 0⟩), #[]⟩
def o150_666 (P : Params) : Obj := ⟨(.type "code"), .none, (.fields #[(.str (Str.ofString "run") 1144), (.str (Str.ofString "run") 1145), (.str (Str.ofString "/claim/cut.py") 1146), (.int (445) 0), (.int (2) 0), (.int (0) 0), (.int (1) 0), (.int (3) 0), (.ref 661), (.bool true), (.int (181) 0), (.ref 662), .none, (.ref 663), (.ref 664), (.ref 665), (.int (1152) 0), (.int (445) 0), (.str (Str.ofString "/claim/cut.py") 1153)]), #[]⟩
def o150_667 (P : Params) : Obj := ⟨(.type "function"), .none, (.func ⟨(Str.ofString "run"), (Str.ofString "run"), defArgs (top 86), .stmts (defBody (top 86)), defScope (top 86), 3, [], .none, .none, .none, (.str (Str.ofString "plinth.machine") 840), .none, (.ref 666), .none, 0⟩), #[]⟩
def o150_668 (P : Params) : Obj := ⟨(.type "tuple"), .none, (.seq #[] 0), #[]⟩
def o150_669 (P : Params) : Obj := ⟨.none, .none, (.fields #[]), #[]⟩
def o150_670 (P : Params) : Obj := ⟨(.type "tuple"), .none, (.seq #[(.str (Str.ofString "rule") 1160)] 0), #[]⟩
def o150_671 (P : Params) : Obj := ⟨(.type "tuple"), .none, (.seq #[] 0), #[]⟩
def o150_672 (P : Params) : Obj := ⟨.none, .none, (.func ⟨(Str.ofString "_parts"), (Str.ofString "_parts"), defArgs (top 88), .stmts (defBody (top 88)), defScope (top 88), 0, [], .none, .none, .none, .none, .none, .none, .none, 0⟩), #[]⟩
def o150_673 (P : Params) : Obj := ⟨(.type "code"), .none, (.fields #[(.str (Str.ofString "_parts") 1157), (.str (Str.ofString "_parts") 1158), (.str (Str.ofString "/claim/cut.py") 1159), (.int (450) 0), (.int (1) 0), (.int (0) 0), (.int (0) 0), (.int (3) 0), (.ref 668), (.bool true), (.int (181) 0), (.ref 669), .none, (.ref 670), (.ref 671), (.ref 672), (.int (1161) 0), (.int (450) 0), (.str (Str.ofString "/claim/cut.py") 1162)]), #[]⟩
def o150_674 (P : Params) : Obj := ⟨(.type "function"), .none, (.func ⟨(Str.ofString "_parts"), (Str.ofString "_parts"), defArgs (top 88), .stmts (defBody (top 88)), defScope (top 88), 3, [], .none, .none, .none, (.str (Str.ofString "plinth.plans") 1155), .none, (.ref 673), .none, 0⟩), #[]⟩
def o150_675 (P : Params) : Obj := ⟨(.type "tuple"), .none, (.seq #[] 0), #[]⟩
def o150_676 (P : Params) : Obj := ⟨.none, .none, (.fields #[]), #[]⟩
def o150_677 (P : Params) : Obj := ⟨(.type "tuple"), .none, (.seq #[(.str (Str.ofString "rules") 1167), (.str (Str.ofString "name") 1168), (.str (Str.ofString "found") 1169), (.str (Str.ofString "waiting") 1170), (.str (Str.ofString "item") 1171), (.str (Str.ofString "part") 1172)] 0), #[]⟩
def o150_678 (P : Params) : Obj := ⟨(.type "tuple"), .none, (.seq #[] 0), #[]⟩
def o150_679 (P : Params) : Obj := ⟨.none, .none, (.func ⟨(Str.ofString "_reach"), (Str.ofString "_reach"), defArgs (top 89), .stmts (defBody (top 89)), defScope (top 89), 0, [], .none, .none, .none, .none, .none, .none, .none, 0⟩), #[]⟩
def o150_680 (P : Params) : Obj := ⟨(.type "code"), .none, (.fields #[(.str (Str.ofString "_reach") 1164), (.str (Str.ofString "_reach") 1165), (.str (Str.ofString "/claim/cut.py") 1166), (.int (452) 0), (.int (2) 0), (.int (0) 0), (.int (0) 0), (.int (3) 0), (.ref 675), (.bool true), (.int (181) 0), (.ref 676), .none, (.ref 677), (.ref 678), (.ref 679), (.int (1173) 0), (.int (452) 0), (.str (Str.ofString "/claim/cut.py") 1174)]), #[]⟩
def o150_681 (P : Params) : Obj := ⟨(.type "function"), .none, (.func ⟨(Str.ofString "_reach"), (Str.ofString "_reach"), defArgs (top 89), .stmts (defBody (top 89)), defScope (top 89), 3, [], .none, .none, .none, (.str (Str.ofString "plinth.plans") 1155), .none, (.ref 680), .none, 0⟩), #[]⟩
def o150_682 (P : Params) : Obj := ⟨(.type "tuple"), .none, (.seq #[] 0), #[]⟩
def o150_683 (P : Params) : Obj := ⟨.none, .none, (.fields #[]), #[]⟩
def o150_684 (P : Params) : Obj := ⟨(.type "tuple"), .none, (.seq #[(.str (Str.ofString "plan") 1179), (.str (Str.ofString "rules") 1180), (.str (Str.ofString "rule") 1181)] 0), #[]⟩
def o150_685 (P : Params) : Obj := ⟨(.type "tuple"), .none, (.seq #[] 0), #[]⟩
def o150_686 (P : Params) : Obj := ⟨.none, .none, (.func ⟨(Str.ofString "_rules_of"), (Str.ofString "_rules_of"), defArgs (top 90), .stmts (defBody (top 90)), defScope (top 90), 0, [], .none, .none, .none, .none, .none, .none, .none, 0⟩), #[]⟩
def o150_687 (P : Params) : Obj := ⟨(.type "code"), .none, (.fields #[(.str (Str.ofString "_rules_of") 1176), (.str (Str.ofString "_rules_of") 1177), (.str (Str.ofString "/claim/cut.py") 1178), (.int (464) 0), (.int (1) 0), (.int (0) 0), (.int (0) 0), (.int (3) 0), (.ref 682), (.bool true), (.int (181) 0), (.ref 683), .none, (.ref 684), (.ref 685), (.ref 686), (.int (1182) 0), (.int (464) 0), (.str (Str.ofString "/claim/cut.py") 1183)]), #[]⟩
def o150_688 (P : Params) : Obj := ⟨(.type "function"), .none, (.func ⟨(Str.ofString "_rules_of"), (Str.ofString "_rules_of"), defArgs (top 90), .stmts (defBody (top 90)), defScope (top 90), 3, [], .none, .none, .none, (.str (Str.ofString "plinth.plans") 1155), .none, (.ref 687), .none, 0⟩), #[]⟩
def o150_689 (P : Params) : Obj := ⟨(.type "tuple"), .none, (.seq #[] 0), #[]⟩
def o150_690 (P : Params) : Obj := ⟨.none, .none, (.fields #[]), #[]⟩
def o150_691 (P : Params) : Obj := ⟨(.type "tuple"), .none, (.seq #[(.str (Str.ofString "plan") 1188), (.str (Str.ofString "given") 1189), (.str (Str.ofString "known") 1190), (.str (Str.ofString "rule") 1191)] 0), #[]⟩
def o150_692 (P : Params) : Obj := ⟨(.type "tuple"), .none, (.seq #[] 0), #[]⟩
def o150_693 (P : Params) : Obj := ⟨.none, .none, (.func ⟨(Str.ofString "_twice"), (Str.ofString "_twice"), defArgs (top 91), .stmts (defBody (top 91)), defScope (top 91), 0, [], .none, .none, .none, .none, .none, .none, .none, 0⟩), #[]⟩
def o150_694 (P : Params) : Obj := ⟨(.type "code"), .none, (.fields #[(.str (Str.ofString "_twice") 1185), (.str (Str.ofString "_twice") 1186), (.str (Str.ofString "/claim/cut.py") 1187), (.int (469) 0), (.int (2) 0), (.int (0) 0), (.int (0) 0), (.int (3) 0), (.ref 689), (.bool true), (.int (181) 0), (.ref 690), .none, (.ref 691), (.ref 692), (.ref 693), (.int (1192) 0), (.int (469) 0), (.str (Str.ofString "/claim/cut.py") 1193)]), #[]⟩
def o150_695 (P : Params) : Obj := ⟨(.type "function"), .none, (.func ⟨(Str.ofString "_twice"), (Str.ofString "_twice"), defArgs (top 91), .stmts (defBody (top 91)), defScope (top 91), 3, [], .none, .none, .none, (.str (Str.ofString "plinth.plans") 1155), .none, (.ref 694), .none, 0⟩), #[]⟩
def o150_696 (P : Params) : Obj := ⟨(.type "tuple"), .none, (.seq #[] 0), #[]⟩
def o150_697 (P : Params) : Obj := ⟨.none, .none, (.fields #[]), #[]⟩
def o150_698 (P : Params) : Obj := ⟨(.type "tuple"), .none, (.seq #[(.str (Str.ofString "plan") 1198), (.str (Str.ofString "given") 1199), (.str (Str.ofString "rules") 1200), (.str (Str.ofString "rule") 1201), (.str (Str.ofString "part") 1202)] 0), #[]⟩
def o150_699 (P : Params) : Obj := ⟨(.type "tuple"), .none, (.seq #[] 0), #[]⟩
def o150_700 (P : Params) : Obj := ⟨.none, .none, (.func ⟨(Str.ofString "_missing"), (Str.ofString "_missing"), defArgs (top 92), .stmts (defBody (top 92)), defScope (top 92), 0, [], .none, .none, .none, .none, .none, .none, .none, 0⟩), #[]⟩
def o150_701 (P : Params) : Obj := ⟨(.type "code"), .none, (.fields #[(.str (Str.ofString "_missing") 1195), (.str (Str.ofString "_missing") 1196), (.str (Str.ofString "/claim/cut.py") 1197), (.int (476) 0), (.int (3) 0), (.int (0) 0), (.int (0) 0), (.int (3) 0), (.ref 696), (.bool true), (.int (181) 0), (.ref 697), .none, (.ref 698), (.ref 699), (.ref 700), (.int (1203) 0), (.int (476) 0), (.str (Str.ofString "/claim/cut.py") 1204)]), #[]⟩
def o150_702 (P : Params) : Obj := ⟨(.type "function"), .none, (.func ⟨(Str.ofString "_missing"), (Str.ofString "_missing"), defArgs (top 92), .stmts (defBody (top 92)), defScope (top 92), 3, [], .none, .none, .none, (.str (Str.ofString "plinth.plans") 1155), .none, (.ref 701), .none, 0⟩), #[]⟩
def o150_703 (P : Params) : Obj := ⟨(.type "tuple"), .none, (.seq #[] 0), #[]⟩
def o150_704 (P : Params) : Obj := ⟨.none, .none, (.fields #[]), #[]⟩
def o150_705 (P : Params) : Obj := ⟨(.type "tuple"), .none, (.seq #[(.str (Str.ofString "plan") 1209), (.str (Str.ofString "given") 1210), (.str (Str.ofString "name") 1211), (.str (Str.ofString "rules") 1212), (.str (Str.ofString "rule") 1213)] 0), #[]⟩
def o150_706 (P : Params) : Obj := ⟨(.type "tuple"), .none, (.seq #[] 0), #[]⟩
def o150_707 (P : Params) : Obj := ⟨.none, .none, (.func ⟨(Str.ofString "check_plan"), (Str.ofString "check_plan"), defArgs (top 93), .stmts (defBody (top 93)), defScope (top 93), 0, [], .none, .none, .none, .none, .none, .none, .none, 0⟩), #[]⟩
def o150_708 (P : Params) : Obj := ⟨(.type "code"), .none, (.fields #[(.str (Str.ofString "check_plan") 1206), (.str (Str.ofString "check_plan") 1207), (.str (Str.ofString "/claim/cut.py") 1208), (.int (482) 0), (.int (2) 0), (.int (0) 0), (.int (0) 0), (.int (3) 0), (.ref 703), (.bool true), (.int (181) 0), (.ref 704), .none, (.ref 705), (.ref 706), (.ref 707), (.int (1214) 0), (.int (482) 0), (.str (Str.ofString "/claim/cut.py") 1215)]), #[]⟩
def o150_709 (P : Params) : Obj := ⟨(.type "function"), .none, (.func ⟨(Str.ofString "check_plan"), (Str.ofString "check_plan"), defArgs (top 93), .stmts (defBody (top 93)), defScope (top 93), 3, [], .none, .none, .none, (.str (Str.ofString "plinth.plans") 1155), .none, (.ref 708), .none, 0⟩), #[]⟩
def o150_710 (P : Params) : Obj := ⟨(.type "tuple"), .none, (.seq #[] 0), #[]⟩
def o150_711 (P : Params) : Obj := ⟨.none, .none, (.fields #[]), #[]⟩
def o150_712 (P : Params) : Obj := ⟨.none, .none, (.func ⟨(Str.ofString "order_of"), (Str.ofString "order_of"), defArgs (top 94), .stmts (defBody (top 94)), defScope (top 94), 0, [], .none, .none, .none, .none, .none, .none, .none, 0⟩), #[]⟩
def o150_713 (P : Params) : Obj := ⟨(.type "code"), .none, (.fields #[(.str (Str.ofString "order_of") 1217), (.str (Str.ofString "order_of") 1218), (.str (Str.ofString "/claim/cut.py") 1219), (.int (493) 0), (.int (2) 0), (.int (0) 0), (.int (0) 0), (.int (3) 0), (.ref 710), (.bool true), (.int (181) 0), (.ref 711), .none, .none, .none, (.ref 712), (.int (1220) 0), (.int (493) 0), (.str (Str.ofString "/claim/cut.py") 1221)]), #[]⟩
def o150_714 (P : Params) : Obj := ⟨(.type "function"), .none, (.func ⟨(Str.ofString "order_of"), (Str.ofString "order_of"), defArgs (top 94), .stmts (defBody (top 94)), defScope (top 94), 3, [], .none, .none, .none, (.str (Str.ofString "plinth.plans") 1155), .none, (.ref 713), .none, 0⟩), #[]⟩
def o150_715 (P : Params) : Obj := ⟨(.type "tuple"), .none, (.seq #[] 0), #[]⟩
def o150_716 (P : Params) : Obj := ⟨.none, .none, (.fields #[]), #[]⟩
def o150_717 (P : Params) : Obj := ⟨(.type "tuple"), .none, (.seq #[(.str (Str.ofString "plan") 1226), (.str (Str.ofString "given") 1227), (.str (Str.ofString "name") 1228)] 0), #[]⟩
def o150_718 (P : Params) : Obj := ⟨(.type "tuple"), .none, (.seq #[] 0), #[]⟩
def o150_719 (P : Params) : Obj := ⟨.none, .none, (.func ⟨(Str.ofString "_check_name"), (Str.ofString "_check_name"), defArgs (top 95), .stmts (defBody (top 95)), defScope (top 95), 0, [], .none, .none, .none, .none, .none, .none, .none, 0⟩), #[]⟩
def o150_720 (P : Params) : Obj := ⟨(.type "code"), .none, (.fields #[(.str (Str.ofString "_check_name") 1223), (.str (Str.ofString "_check_name") 1224), (.str (Str.ofString "/claim/cut.py") 1225), (.int (504) 0), (.int (3) 0), (.int (0) 0), (.int (0) 0), (.int (3) 0), (.ref 715), (.bool true), (.int (181) 0), (.ref 716), .none, (.ref 717), (.ref 718), (.ref 719), (.int (1229) 0), (.int (504) 0), (.str (Str.ofString "/claim/cut.py") 1230)]), #[]⟩
def o150_721 (P : Params) : Obj := ⟨(.type "function"), .none, (.func ⟨(Str.ofString "_check_name"), (Str.ofString "_check_name"), defArgs (top 95), .stmts (defBody (top 95)), defScope (top 95), 3, [], .none, .none, .none, (.str (Str.ofString "plinth.plans") 1155), .none, (.ref 720), .none, 0⟩), #[]⟩
def o150_722 (P : Params) : Obj := ⟨(.type "tuple"), .none, (.seq #[] 0), #[]⟩
def o150_723 (P : Params) : Obj := ⟨.none, .none, (.fields #[]), #[]⟩
def o150_724 (P : Params) : Obj := ⟨(.type "tuple"), .none, (.seq #[(.str (Str.ofString "plan") 1235), (.str (Str.ofString "given") 1236), (.str (Str.ofString "name") 1237)] 0), #[]⟩
def o150_725 (P : Params) : Obj := ⟨(.type "tuple"), .none, (.seq #[] 0), #[]⟩
def o150_726 (P : Params) : Obj := ⟨.none, .none, (.func ⟨(Str.ofString "needs"), (Str.ofString "needs"), defArgs (top 96), .stmts (defBody (top 96)), defScope (top 96), 0, [], .none, .none, .none, .none, .none, .none, .none, 0⟩), #[]⟩
def o150_727 (P : Params) : Obj := ⟨(.type "code"), .none, (.fields #[(.str (Str.ofString "needs") 1232), (.str (Str.ofString "needs") 1233), (.str (Str.ofString "/claim/cut.py") 1234), (.int (508) 0), (.int (3) 0), (.int (0) 0), (.int (0) 0), (.int (3) 0), (.ref 722), (.bool true), (.int (181) 0), (.ref 723), .none, (.ref 724), (.ref 725), (.ref 726), (.int (1238) 0), (.int (508) 0), (.str (Str.ofString "/claim/cut.py") 1239)]), #[]⟩
def o150_728 (P : Params) : Obj := ⟨(.type "function"), .none, (.func ⟨(Str.ofString "needs"), (Str.ofString "needs"), defArgs (top 96), .stmts (defBody (top 96)), defScope (top 96), 3, [], .none, .none, .none, (.str (Str.ofString "plinth.plans") 1155), .none, (.ref 727), .none, 0⟩), #[]⟩
def o150_729 (P : Params) : Obj := ⟨(.type "tuple"), .none, (.seq #[] 0), #[]⟩
def o150_730 (P : Params) : Obj := ⟨(.type "builtin_function_or_method"), .none, (.fields #[(.builtin "type.__prepare__"), (.type "type")]), #[]⟩
def o150_731 (P : Params) : Obj := ⟨(.type "dict"), .none, (.dict #[⟨PyData.keyHash P (Str.ofString "__module__"), (.str (Str.ofString "__module__") 1250), (.str (Str.ofString "plinth.builds") 1241)⟩, ⟨PyData.keyHash P (Str.ofString "__qualname__"), (.str (Str.ofString "__qualname__") 1252), (.str (Str.ofString "Build") 1251)⟩, ⟨PyData.keyHash P (Str.ofString "__firstlineno__"), (.str (Str.ofString "__firstlineno__") 1254), (.int (512) 1253)⟩, ⟨PyData.keyHash P (Str.ofString "__init__"), (.str (Str.ofString "__init__") 1260), (.ref 740)⟩, ⟨PyData.keyHash P (Str.ofString "_made"), (.str (Str.ofString "_made") 1276), (.ref 747)⟩, ⟨PyData.keyHash P (Str.ofString "advance"), (.str (Str.ofString "advance") 1287), (.ref 754)⟩, ⟨PyData.keyHash P (Str.ofString "finish"), (.str (Str.ofString "finish") 1295), (.ref 761)⟩, ⟨PyData.keyHash P (Str.ofString "content"), (.str (Str.ofString "content") 1304), (.ref 768)⟩, ⟨PyData.keyHash P (Str.ofString "failed"), (.str (Str.ofString "failed") 1310), (.ref 773)⟩, ⟨PyData.keyHash P (Str.ofString "record"), (.str (Str.ofString "record") 1316), (.ref 778)⟩, ⟨PyData.keyHash P (Str.ofString "restore"), (.str (Str.ofString "restore") 1325), (.ref 785)⟩, ⟨PyData.keyHash P (Str.ofString "__static_attributes__"), (.str (Str.ofString "__static_attributes__") 1332), (.ref 786)⟩] 12), #[]⟩
def o150_732 (P : Params) : Obj := ⟨(.type "tuple"), .none, (.seq #[] 0), #[]⟩
def o150_733 (P : Params) : Obj := ⟨.none, .none, (.fields #[(.int (514) 0), (.int (4) 0), (.ref 739), (.int (524) 0), (.int (4) 0), (.ref 746), (.int (540) 0), (.int (4) 0), (.ref 753), (.int (549) 0), (.int (4) 0), (.ref 760), (.int (555) 0), (.int (4) 0), (.ref 767), (.int (565) 0), (.int (4) 0), (.ref 772), (.int (568) 0), (.int (4) 0), (.ref 777), (.int (578) 0), (.int (4) 0), (.ref 784)]), #[]⟩
def o150_734 (P : Params) : Obj := ⟨(.type "code"), .none, (.fields #[(.str (Str.ofString "Build") 1245), (.str (Str.ofString "Build") 1246), (.str (Str.ofString "/claim/cut.py") 1247), (.int (512) 0), (.int (0) 0), (.int (0) 0), (.int (0) 0), (.int (0) 0), (.ref 732), (.bool false), (.int (181) 0), (.ref 733), .none, .none, .none, .none, (.int (1248) 0), (.int (512) 0), (.str (Str.ofString "/claim/cut.py") 1249)]), #[]⟩
def o150_735 (P : Params) : Obj := ⟨(.type "frame"), .none, .plain, #[(.some (.ref 734)), (.some (.ref 3)), (.some (.ref 731)), .none, (.some (.str (Str.ofString "plinth.builds") 1241)), .none, (.some (.ref 0))]⟩
def o150_736 (P : Params) : Obj := ⟨(.type "tuple"), .none, (.seq #[] 0), #[]⟩
def o150_737 (P : Params) : Obj := ⟨.none, .none, (.fields #[]), #[]⟩
def o150_738 (P : Params) : Obj := ⟨.none, .none, (.func ⟨(Str.ofString "__init__"), (Str.ofString "Build.__init__"), defArgs (inClass (top 98) 0), .stmts (defBody (inClass (top 98) 0)), defScope (inClass (top 98) 0), 0, [], .none, .none, .none, .none, .none, .none, .none, 0⟩), #[]⟩
def o150_739 (P : Params) : Obj := ⟨(.type "code"), .none, (.fields #[(.str (Str.ofString "__init__") 1255), (.str (Str.ofString "Build.__init__") 1256), (.str (Str.ofString "/claim/cut.py") 1257), (.int (514) 0), (.int (3) 0), (.int (0) 0), (.int (1) 0), (.int (3) 0), (.ref 736), (.bool true), (.int (181) 0), (.ref 737), .none, .none, .none, (.ref 738), (.int (1258) 0), (.int (514) 0), (.str (Str.ofString "/claim/cut.py") 1259)]), #[]⟩
def o150_740 (P : Params) : Obj := ⟨(.type "function"), .none, (.func ⟨(Str.ofString "__init__"), (Str.ofString "Build.__init__"), defArgs (inClass (top 98) 0), .stmts (defBody (inClass (top 98) 0)), defScope (inClass (top 98) 0), 3, [], .none, .none, .none, (.str (Str.ofString "plinth.builds") 1241), .none, (.ref 739), .none, 0⟩), #[]⟩
def o150_741 (P : Params) : Obj := ⟨(.type "tuple"), .none, (.seq #[] 0), #[]⟩
def o150_742 (P : Params) : Obj := ⟨.none, .none, (.fields #[]), #[]⟩
def o150_743 (P : Params) : Obj := ⟨(.type "tuple"), .none, (.seq #[(.str (Str.ofString "self") 1264), (.str (Str.ofString "tool") 1265), (.str (Str.ofString "sources") 1266), (.str (Str.ofString "image") 1267), (.str (Str.ofString "numbers") 1268), (.str (Str.ofString "name") 1269), (.str (Str.ofString "content") 1270), (.str (Str.ofString "ended") 1271), (.str (Str.ofString "output") 1272), (.str (Str.ofString "steps") 1273)] 0), #[]⟩
def o150_744 (P : Params) : Obj := ⟨(.type "tuple"), .none, (.seq #[] 0), #[]⟩
def o150_745 (P : Params) : Obj := ⟨.none, .none, (.func ⟨(Str.ofString "_made"), (Str.ofString "Build._made"), defArgs (inClass (top 98) 1), .stmts (defBody (inClass (top 98) 1)), defScope (inClass (top 98) 1), 0, [], .none, .none, .none, .none, .none, .none, .none, 0⟩), #[]⟩
def o150_746 (P : Params) : Obj := ⟨(.type "code"), .none, (.fields #[(.str (Str.ofString "_made") 1261), (.str (Str.ofString "Build._made") 1262), (.str (Str.ofString "/claim/cut.py") 1263), (.int (524) 0), (.int (3) 0), (.int (0) 0), (.int (0) 0), (.int (3) 0), (.ref 741), (.bool true), (.int (181) 0), (.ref 742), .none, (.ref 743), (.ref 744), (.ref 745), (.int (1274) 0), (.int (524) 0), (.str (Str.ofString "/claim/cut.py") 1275)]), #[]⟩
def o150_747 (P : Params) : Obj := ⟨(.type "function"), .none, (.func ⟨(Str.ofString "_made"), (Str.ofString "Build._made"), defArgs (inClass (top 98) 1), .stmts (defBody (inClass (top 98) 1)), defScope (inClass (top 98) 1), 3, [], .none, .none, .none, (.str (Str.ofString "plinth.builds") 1241), .none, (.ref 746), .none, 0⟩), #[]⟩
def o150_748 (P : Params) : Obj := ⟨(.type "tuple"), .none, (.seq #[] 0), #[]⟩
def o150_749 (P : Params) : Obj := ⟨.none, .none, (.fields #[]), #[]⟩
def o150_750 (P : Params) : Obj := ⟨(.type "tuple"), .none, (.seq #[(.str (Str.ofString "self") 1280), (.str (Str.ofString "target") 1281), (.str (Str.ofString "name") 1282), (.str (Str.ofString "tool") 1283), (.str (Str.ofString "sources") 1284)] 0), #[]⟩
def o150_751 (P : Params) : Obj := ⟨(.type "tuple"), .none, (.seq #[] 0), #[]⟩
def o150_752 (P : Params) : Obj := ⟨.none, .none, (.func ⟨(Str.ofString "advance"), (Str.ofString "Build.advance"), defArgs (inClass (top 98) 2), .stmts (defBody (inClass (top 98) 2)), defScope (inClass (top 98) 2), 0, [], .none, .none, .none, .none, .none, .none, .none, 0⟩), #[]⟩
def o150_753 (P : Params) : Obj := ⟨(.type "code"), .none, (.fields #[(.str (Str.ofString "advance") 1277), (.str (Str.ofString "Build.advance") 1278), (.str (Str.ofString "/claim/cut.py") 1279), (.int (540) 0), (.int (1) 0), (.int (0) 0), (.int (0) 0), (.int (3) 0), (.ref 748), (.bool true), (.int (181) 0), (.ref 749), .none, (.ref 750), (.ref 751), (.ref 752), (.int (1285) 0), (.int (540) 0), (.str (Str.ofString "/claim/cut.py") 1286)]), #[]⟩
def o150_754 (P : Params) : Obj := ⟨(.type "function"), .none, (.func ⟨(Str.ofString "advance"), (Str.ofString "Build.advance"), defArgs (inClass (top 98) 2), .stmts (defBody (inClass (top 98) 2)), defScope (inClass (top 98) 2), 3, [], .none, .none, .none, (.str (Str.ofString "plinth.builds") 1241), .none, (.ref 753), .none, 0⟩), #[]⟩
def o150_755 (P : Params) : Obj := ⟨(.type "tuple"), .none, (.seq #[] 0), #[]⟩
def o150_756 (P : Params) : Obj := ⟨.none, .none, (.fields #[]), #[]⟩
def o150_757 (P : Params) : Obj := ⟨(.type "tuple"), .none, (.seq #[(.str (Str.ofString "self") 1291), (.str (Str.ofString "count") 1292)] 0), #[]⟩
def o150_758 (P : Params) : Obj := ⟨(.type "tuple"), .none, (.seq #[] 0), #[]⟩
def o150_759 (P : Params) : Obj := ⟨.none, .none, (.func ⟨(Str.ofString "finish"), (Str.ofString "Build.finish"), defArgs (inClass (top 98) 3), .stmts (defBody (inClass (top 98) 3)), defScope (inClass (top 98) 3), 0, [], .none, .none, .none, .none, .none, .none, .none, 0⟩), #[]⟩
def o150_760 (P : Params) : Obj := ⟨(.type "code"), .none, (.fields #[(.str (Str.ofString "finish") 1288), (.str (Str.ofString "Build.finish") 1289), (.str (Str.ofString "/claim/cut.py") 1290), (.int (549) 0), (.int (1) 0), (.int (0) 0), (.int (0) 0), (.int (3) 0), (.ref 755), (.bool true), (.int (181) 0), (.ref 756), .none, (.ref 757), (.ref 758), (.ref 759), (.int (1293) 0), (.int (549) 0), (.str (Str.ofString "/claim/cut.py") 1294)]), #[]⟩
def o150_761 (P : Params) : Obj := ⟨(.type "function"), .none, (.func ⟨(Str.ofString "finish"), (Str.ofString "Build.finish"), defArgs (inClass (top 98) 3), .stmts (defBody (inClass (top 98) 3)), defScope (inClass (top 98) 3), 3, [], .none, .none, .none, (.str (Str.ofString "plinth.builds") 1241), .none, (.ref 760), .none, 0⟩), #[]⟩
def o150_762 (P : Params) : Obj := ⟨(.type "tuple"), .none, (.seq #[] 0), #[]⟩
def o150_763 (P : Params) : Obj := ⟨.none, .none, (.fields #[]), #[]⟩
def o150_764 (P : Params) : Obj := ⟨(.type "tuple"), .none, (.seq #[(.str (Str.ofString "self") 1299), (.str (Str.ofString "name") 1300), (.str (Str.ofString "content") 1301)] 0), #[]⟩
def o150_765 (P : Params) : Obj := ⟨(.type "tuple"), .none, (.seq #[] 0), #[]⟩
def o150_766 (P : Params) : Obj := ⟨.none, .none, (.func ⟨(Str.ofString "content"), (Str.ofString "Build.content"), defArgs (inClass (top 98) 4), .stmts (defBody (inClass (top 98) 4)), defScope (inClass (top 98) 4), 0, [], .none, .none, .none, .none, .none, .none, .none, 0⟩), #[]⟩
def o150_767 (P : Params) : Obj := ⟨(.type "code"), .none, (.fields #[(.str (Str.ofString "content") 1296), (.str (Str.ofString "Build.content") 1297), (.str (Str.ofString "/claim/cut.py") 1298), (.int (555) 0), (.int (2) 0), (.int (0) 0), (.int (0) 0), (.int (3) 0), (.ref 762), (.bool true), (.int (181) 0), (.ref 763), .none, (.ref 764), (.ref 765), (.ref 766), (.int (1302) 0), (.int (555) 0), (.str (Str.ofString "/claim/cut.py") 1303)]), #[]⟩
def o150_768 (P : Params) : Obj := ⟨(.type "function"), .none, (.func ⟨(Str.ofString "content"), (Str.ofString "Build.content"), defArgs (inClass (top 98) 4), .stmts (defBody (inClass (top 98) 4)), defScope (inClass (top 98) 4), 3, [], .none, .none, .none, (.str (Str.ofString "plinth.builds") 1241), .none, (.ref 767), .none, 0⟩), #[]⟩
def o150_769 (P : Params) : Obj := ⟨(.type "tuple"), .none, (.seq #[] 0), #[]⟩
def o150_770 (P : Params) : Obj := ⟨.none, .none, (.fields #[]), #[]⟩
def o150_771 (P : Params) : Obj := ⟨.none, .none, (.func ⟨(Str.ofString "failed"), (Str.ofString "Build.failed"), defArgs (inClass (top 98) 5), .stmts (defBody (inClass (top 98) 5)), defScope (inClass (top 98) 5), 0, [], .none, .none, .none, .none, .none, .none, .none, 0⟩), #[]⟩
def o150_772 (P : Params) : Obj := ⟨(.type "code"), .none, (.fields #[(.str (Str.ofString "failed") 1305), (.str (Str.ofString "Build.failed") 1306), (.str (Str.ofString "/claim/cut.py") 1307), (.int (565) 0), (.int (1) 0), (.int (0) 0), (.int (0) 0), (.int (3) 0), (.ref 769), (.bool true), (.int (181) 0), (.ref 770), .none, .none, .none, (.ref 771), (.int (1308) 0), (.int (565) 0), (.str (Str.ofString "/claim/cut.py") 1309)]), #[]⟩
def o150_773 (P : Params) : Obj := ⟨(.type "function"), .none, (.func ⟨(Str.ofString "failed"), (Str.ofString "Build.failed"), defArgs (inClass (top 98) 5), .stmts (defBody (inClass (top 98) 5)), defScope (inClass (top 98) 5), 3, [], .none, .none, .none, (.str (Str.ofString "plinth.builds") 1241), .none, (.ref 772), .none, 0⟩), #[]⟩
def o150_774 (P : Params) : Obj := ⟨(.type "tuple"), .none, (.seq #[] 0), #[]⟩
def o150_775 (P : Params) : Obj := ⟨.none, .none, (.fields #[]), #[]⟩
def o150_776 (P : Params) : Obj := ⟨.none, .none, (.func ⟨(Str.ofString "record"), (Str.ofString "Build.record"), defArgs (inClass (top 98) 6), .stmts (defBody (inClass (top 98) 6)), defScope (inClass (top 98) 6), 0, [], .none, .none, .none, .none, .none, .none, .none, 0⟩), #[]⟩
def o150_777 (P : Params) : Obj := ⟨(.type "code"), .none, (.fields #[(.str (Str.ofString "record") 1311), (.str (Str.ofString "Build.record") 1312), (.str (Str.ofString "/claim/cut.py") 1313), (.int (568) 0), (.int (1) 0), (.int (0) 0), (.int (0) 0), (.int (3) 0), (.ref 774), (.bool true), (.int (181) 0), (.ref 775), .none, .none, .none, (.ref 776), (.int (1314) 0), (.int (568) 0), (.str (Str.ofString "/claim/cut.py") 1315)]), #[]⟩
def o150_778 (P : Params) : Obj := ⟨(.type "function"), .none, (.func ⟨(Str.ofString "record"), (Str.ofString "Build.record"), defArgs (inClass (top 98) 6), .stmts (defBody (inClass (top 98) 6)), defScope (inClass (top 98) 6), 3, [], .none, .none, .none, (.str (Str.ofString "plinth.builds") 1241), .none, (.ref 777), .none, 0⟩), #[]⟩
def o150_779 (P : Params) : Obj := ⟨(.type "tuple"), .none, (.seq #[] 0), #[]⟩
def o150_780 (P : Params) : Obj := ⟨.none, .none, (.fields #[]), #[]⟩
def o150_781 (P : Params) : Obj := ⟨(.type "tuple"), .none, (.seq #[(.str (Str.ofString "self") 1320), (.str (Str.ofString "done") 1321), (.str (Str.ofString "steps") 1322)] 0), #[]⟩
def o150_782 (P : Params) : Obj := ⟨(.type "tuple"), .none, (.seq #[] 0), #[]⟩
def o150_783 (P : Params) : Obj := ⟨.none, .none, (.func ⟨(Str.ofString "restore"), (Str.ofString "Build.restore"), defArgs (inClass (top 98) 7), .stmts (defBody (inClass (top 98) 7)), defScope (inClass (top 98) 7), 0, [], .none, .none, .none, .none, .none, .none, .none, 0⟩), #[]⟩
def o150_784 (P : Params) : Obj := ⟨(.type "code"), .none, (.fields #[(.str (Str.ofString "restore") 1317), (.str (Str.ofString "Build.restore") 1318), (.str (Str.ofString "/claim/cut.py") 1319), (.int (578) 0), (.int (3) 0), (.int (0) 0), (.int (0) 0), (.int (3) 0), (.ref 779), (.bool true), (.int (181) 0), (.ref 780), .none, (.ref 781), (.ref 782), (.ref 783), (.int (1323) 0), (.int (578) 0), (.str (Str.ofString "/claim/cut.py") 1324)]), #[]⟩
def o150_785 (P : Params) : Obj := ⟨(.type "function"), .none, (.func ⟨(Str.ofString "restore"), (Str.ofString "Build.restore"), defArgs (inClass (top 98) 7), .stmts (defBody (inClass (top 98) 7)), defScope (inClass (top 98) 7), 3, [], .none, .none, .none, (.str (Str.ofString "plinth.builds") 1241), .none, (.ref 784), .none, 0⟩), #[]⟩
def o150_786 (P : Params) : Obj := ⟨(.type "tuple"), .none, (.seq #[(.str (Str.ofString "_done") 1326), (.str (Str.ofString "_fuel") 1327), (.str (Str.ofString "_given") 1328), (.str (Str.ofString "_order") 1329), (.str (Str.ofString "_plan") 1330), (.str (Str.ofString "steps") 1331)] 0), #[]⟩
def o150_787 (P : Params) : Obj := ⟨(.type "dict"), .none, (.dict #[⟨PyData.keyHash P (Str.ofString "__module__"), (.str (Str.ofString "__module__") 1250), (.str (Str.ofString "plinth.builds") 1241)⟩, ⟨PyData.keyHash P (Str.ofString "__firstlineno__"), (.str (Str.ofString "__firstlineno__") 1254), (.int (512) 1253)⟩, ⟨PyData.keyHash P (Str.ofString "__init__"), (.str (Str.ofString "__init__") 1260), (.ref 740)⟩, ⟨PyData.keyHash P (Str.ofString "_made"), (.str (Str.ofString "_made") 1276), (.ref 747)⟩, ⟨PyData.keyHash P (Str.ofString "advance"), (.str (Str.ofString "advance") 1287), (.ref 754)⟩, ⟨PyData.keyHash P (Str.ofString "finish"), (.str (Str.ofString "finish") 1295), (.ref 761)⟩, ⟨PyData.keyHash P (Str.ofString "content"), (.str (Str.ofString "content") 1304), (.ref 768)⟩, ⟨PyData.keyHash P (Str.ofString "failed"), (.str (Str.ofString "failed") 1310), (.ref 773)⟩, ⟨PyData.keyHash P (Str.ofString "record"), (.str (Str.ofString "record") 1316), (.ref 778)⟩, ⟨PyData.keyHash P (Str.ofString "restore"), (.str (Str.ofString "restore") 1325), (.ref 785)⟩, ⟨PyData.keyHash P (Str.ofString "__static_attributes__"), (.str (Str.ofString "__static_attributes__") 1332), (.ref 786)⟩, ⟨PyData.keyHash P (Str.ofString "__dict__"), (.str (Str.ofString "__dict__") 1334), (.ref 789)⟩, ⟨PyData.keyHash P (Str.ofString "__weakref__"), (.str (Str.ofString "__weakref__") 1336), (.ref 790)⟩, ⟨PyData.keyHash P (Str.ofString "__doc__"), (.str (Str.ofString "__doc__") 1337), .none⟩] 4), #[]⟩
def o150_788 (P : Params) : Obj := ⟨(.type "type"), .none, (.cls ⟨(Str.ofString "Build"), [(.type "object")], [(.ref 788), (.type "object")], 787, (Str.ofString "Build"), true, [], [], false, .none, false⟩), #[.none, .none, (.some (.str (Str.ofString "Build") 1243)), (.some (.str (Str.ofString "Build") 1251)), (.some (.builtin "object.__new__")), (.some (.bool true))]⟩
def o150_789 (P : Params) : Obj := ⟨(.type "getset_descriptor"), .none, (.fields #[(.str (Str.ofString "__dict__") 1333), (.ref 788), (.builtin "function.__dict__"), (.builtin "function.__dict__#set")]), #[]⟩
def o150_790 (P : Params) : Obj := ⟨(.type "getset_descriptor"), .none, (.fields #[(.str (Str.ofString "__weakref__") 1335), (.ref 788), (.builtin "ExceptionGroup.__weakref__"), .none]), #[]⟩
def o150_791 (P : Params) : Obj := ⟨(.type "super"), .none, (.fields #[(.ref 788), (.ref 788), (.ref 788)]), #[]⟩
def o150_792 (P : Params) : Obj := ⟨(.type "builtin_function_or_method"), .none, (.fields #[(.builtin "object.__init_subclass__"), (.ref 788)]), #[]⟩
def o150_793 (P : Params) : Obj := ⟨(.type "tuple"), .none, (.seq #[] 0), #[]⟩
def o150_794 (P : Params) : Obj := ⟨.none, .none, (.fields #[]), #[]⟩
def o150_795 (P : Params) : Obj := ⟨(.type "tuple"), .none, (.seq #[(.str (Str.ofString "plan") 1343), (.str (Str.ofString "given") 1344), (.str (Str.ofString "fuel") 1345), (.str (Str.ofString "build") 1346), (.str (Str.ofString "contents") 1347), (.str (Str.ofString "rule") 1348), (.str (Str.ofString "content") 1349)] 0), #[]⟩
def o150_796 (P : Params) : Obj := ⟨(.type "tuple"), .none, (.seq #[] 0), #[]⟩
def o150_797 (P : Params) : Obj := ⟨.none, .none, (.func ⟨(Str.ofString "build_all"), (Str.ofString "build_all"), defArgs (top 99), .stmts (defBody (top 99)), defScope (top 99), 0, [], .none, .none, .none, .none, .none, .none, .none, 0⟩), #[]⟩
def o150_798 (P : Params) : Obj := ⟨(.type "code"), .none, (.fields #[(.str (Str.ofString "build_all") 1340), (.str (Str.ofString "build_all") 1341), (.str (Str.ofString "/claim/cut.py") 1342), (.int (580) 0), (.int (2) 0), (.int (0) 0), (.int (1) 0), (.int (3) 0), (.ref 793), (.bool true), (.int (181) 0), (.ref 794), .none, (.ref 795), (.ref 796), (.ref 797), (.int (1350) 0), (.int (580) 0), (.str (Str.ofString "/claim/cut.py") 1351)]), #[]⟩
def o150_799 (P : Params) : Obj := ⟨(.type "function"), .none, (.func ⟨(Str.ofString "build_all"), (Str.ofString "build_all"), defArgs (top 99), .stmts (defBody (top 99)), defScope (top 99), 3, [], .none, .none, .none, (.str (Str.ofString "plinth.builds") 1241), .none, (.ref 798), .none, 0⟩), #[]⟩
def o150_800 (P : Params) : Obj := ⟨(.type "tuple"), .none, (.seq #[] 0), #[]⟩
def o150_801 (P : Params) : Obj := ⟨.none, .none, (.fields #[]), #[]⟩
def o150_802 (P : Params) : Obj := ⟨(.type "tuple"), .none, (.seq #[(.str (Str.ofString "image") 1358), (.str (Str.ofString "numbers") 1359)] 0), #[]⟩
def o150_803 (P : Params) : Obj := ⟨(.type "tuple"), .none, (.seq #[] 0), #[]⟩
def o150_804 (P : Params) : Obj := ⟨.none, .none, (.func ⟨(Str.ofString "start"), (Str.ofString "start"), defArgs (top 101), .stmts (defBody (top 101)), defScope (top 101), 0, [], .none, .none, .none, .none, .none, .none, .none, 0⟩), #[]⟩
def o150_805 (P : Params) : Obj := ⟨(.type "code"), .none, (.fields #[(.str (Str.ofString "start") 1355), (.str (Str.ofString "start") 1356), (.str (Str.ofString "/claim/cut.py") 1357), (.int (590) 0), (.int (2) 0), (.int (0) 0), (.int (0) 0), (.int (3) 0), (.ref 800), (.bool true), (.int (181) 0), (.ref 801), .none, (.ref 802), (.ref 803), (.ref 804), (.int (1360) 0), (.int (590) 0), (.str (Str.ofString "/claim/cut.py") 1361)]), #[]⟩
def o150_806 (P : Params) : Obj := ⟨(.type "function"), .none, (.func ⟨(Str.ofString "start"), (Str.ofString "start"), defArgs (top 101), .stmts (defBody (top 101)), defScope (top 101), 3, [], .none, .none, .none, (.str (Str.ofString "plinth.story") 1353), .none, (.ref 805), .none, 0⟩), #[]⟩
def o150_807 (P : Params) : Obj := ⟨(.type "tuple"), .none, (.seq #[] 0), #[]⟩
def o150_808 (P : Params) : Obj := ⟨.none, .none, (.fields #[]), #[]⟩
def o150_809 (P : Params) : Obj := ⟨(.type "tuple"), .none, (.seq #[(.str (Str.ofString "image") 1366), (.str (Str.ofString "numbers") 1367), (.str (Str.ofString "plain") 1368), (.str (Str.ofString "state") 1369), (.str (Str.ofString "address") 1370), (.str (Str.ofString "number") 1371)] 0), #[]⟩
def o150_810 (P : Params) : Obj := ⟨(.type "tuple"), .none, (.seq #[] 0), #[]⟩
def o150_811 (P : Params) : Obj := ⟨.none, .none, (.func ⟨(Str.ofString "state_of"), (Str.ofString "state_of"), defArgs (top 102), .stmts (defBody (top 102)), defScope (top 102), 0, [], .none, .none, .none, .none, .none, .none, .none, 0⟩), #[]⟩
def o150_812 (P : Params) : Obj := ⟨(.type "code"), .none, (.fields #[(.str (Str.ofString "state_of") 1363), (.str (Str.ofString "state_of") 1364), (.str (Str.ofString "/claim/cut.py") 1365), (.int (592) 0), (.int (3) 0), (.int (0) 0), (.int (0) 0), (.int (3) 0), (.ref 807), (.bool true), (.int (181) 0), (.ref 808), .none, (.ref 809), (.ref 810), (.ref 811), (.int (1372) 0), (.int (592) 0), (.str (Str.ofString "/claim/cut.py") 1373)]), #[]⟩
def o150_813 (P : Params) : Obj := ⟨(.type "function"), .none, (.func ⟨(Str.ofString "state_of"), (Str.ofString "state_of"), defArgs (top 102), .stmts (defBody (top 102)), defScope (top 102), 3, [], .none, .none, .none, (.str (Str.ofString "plinth.story") 1353), .none, (.ref 812), .none, 0⟩), #[]⟩
def o150_814 (P : Params) : Obj := ⟨(.type "tuple"), .none, (.seq #[] 0), #[]⟩
def o150_815 (P : Params) : Obj := ⟨.none, .none, (.fields #[]), #[]⟩
def o150_816 (P : Params) : Obj := ⟨(.type "tuple"), .none, (.seq #[(.str (Str.ofString "image") 1378), (.str (Str.ofString "numbers") 1379), (.str (Str.ofString "state") 1380), (.str (Str.ofString "following") 1381)] 0), #[]⟩
def o150_817 (P : Params) : Obj := ⟨(.type "tuple"), .none, (.seq #[] 0), #[]⟩
def o150_818 (P : Params) : Obj := ⟨.none, .none, (.func ⟨(Str.ofString "next_state"), (Str.ofString "next_state"), defArgs (top 103), .stmts (defBody (top 103)), defScope (top 103), 0, [], .none, .none, .none, .none, .none, .none, .none, 0⟩), #[]⟩
def o150_819 (P : Params) : Obj := ⟨(.type "code"), .none, (.fields #[(.str (Str.ofString "next_state") 1375), (.str (Str.ofString "next_state") 1376), (.str (Str.ofString "/claim/cut.py") 1377), (.int (602) 0), (.int (3) 0), (.int (0) 0), (.int (0) 0), (.int (3) 0), (.ref 814), (.bool true), (.int (181) 0), (.ref 815), .none, (.ref 816), (.ref 817), (.ref 818), (.int (1382) 0), (.int (602) 0), (.str (Str.ofString "/claim/cut.py") 1383)]), #[]⟩
def o150_820 (P : Params) : Obj := ⟨(.type "function"), .none, (.func ⟨(Str.ofString "next_state"), (Str.ofString "next_state"), defArgs (top 103), .stmts (defBody (top 103)), defScope (top 103), 3, [], .none, .none, .none, (.str (Str.ofString "plinth.story") 1353), .none, (.ref 819), .none, 0⟩), #[]⟩
def o150_821 (P : Params) : Obj := ⟨(.type "tuple"), .none, (.seq #[] 0), #[]⟩
def o150_822 (P : Params) : Obj := ⟨.none, .none, (.fields #[]), #[]⟩
def o150_823 (P : Params) : Obj := ⟨(.type "tuple"), .none, (.seq #[(.str (Str.ofString "image") 1388), (.str (Str.ofString "numbers") 1389), (.str (Str.ofString "fuel") 1390), (.str (Str.ofString "state") 1391), (.str (Str.ofString "states") 1392)] 0), #[]⟩
def o150_824 (P : Params) : Obj := ⟨(.type "tuple"), .none, (.seq #[] 0), #[]⟩
def o150_825 (P : Params) : Obj := ⟨.none, .none, (.func ⟨(Str.ofString "story"), (Str.ofString "story"), defArgs (top 104), .stmts (defBody (top 104)), defScope (top 104), 0, [], .none, .none, .none, .none, .none, .none, .none, 0⟩), #[]⟩
def o150_826 (P : Params) : Obj := ⟨(.type "code"), .none, (.fields #[(.str (Str.ofString "story") 1385), (.str (Str.ofString "story") 1386), (.str (Str.ofString "/claim/cut.py") 1387), (.int (607) 0), (.int (2) 0), (.int (0) 0), (.int (1) 0), (.int (3) 0), (.ref 821), (.bool true), (.int (181) 0), (.ref 822), .none, (.ref 823), (.ref 824), (.ref 825), (.int (1393) 0), (.int (607) 0), (.str (Str.ofString "/claim/cut.py") 1394)]), #[]⟩
def o150_827 (P : Params) : Obj := ⟨(.type "function"), .none, (.func ⟨(Str.ofString "story"), (Str.ofString "story"), defArgs (top 104), .stmts (defBody (top 104)), defScope (top 104), 3, [], .none, .none, .none, (.str (Str.ofString "plinth.story") 1353), .none, (.ref 826), .none, 0⟩), #[]⟩
def o150_828 (P : Params) : Obj := ⟨(.type "tuple"), .none, (.seq #[] 0), #[]⟩
def o150_829 (P : Params) : Obj := ⟨.none, .none, (.fields #[]), #[]⟩
def o150_830 (P : Params) : Obj := ⟨(.type "tuple"), .none, (.seq #[(.str (Str.ofString "image") 1401), (.str (Str.ofString "numbers") 1402), (.str (Str.ofString "fuel") 1403), (.str (Str.ofString "states") 1404)] 0), #[]⟩
def o150_831 (P : Params) : Obj := ⟨(.type "tuple"), .none, (.seq #[] 0), #[]⟩
def o150_832 (P : Params) : Obj := ⟨.none, .none, (.func ⟨(Str.ofString "right_claim"), (Str.ofString "right_claim"), defArgs (top 106), .stmts (defBody (top 106)), defScope (top 106), 0, [], .none, .none, .none, .none, .none, .none, .none, 0⟩), #[]⟩
def o150_833 (P : Params) : Obj := ⟨(.type "code"), .none, (.fields #[(.str (Str.ofString "right_claim") 1398), (.str (Str.ofString "right_claim") 1399), (.str (Str.ofString "/claim/cut.py") 1400), (.int (616) 0), (.int (2) 0), (.int (0) 0), (.int (1) 0), (.int (3) 0), (.ref 828), (.bool true), (.int (181) 0), (.ref 829), .none, (.ref 830), (.ref 831), (.ref 832), (.int (1405) 0), (.int (616) 0), (.str (Str.ofString "/claim/cut.py") 1406)]), #[]⟩
def o150_834 (P : Params) : Obj := ⟨(.type "function"), .none, (.func ⟨(Str.ofString "right_claim"), (Str.ofString "right_claim"), defArgs (top 106), .stmts (defBody (top 106)), defScope (top 106), 3, [], .none, .none, .none, (.str (Str.ofString "plinth.claims") 1396), .none, (.ref 833), .none, 0⟩), #[]⟩
def o150_835 (P : Params) : Obj := ⟨(.type "tuple"), .none, (.seq #[] 0), #[]⟩
def o150_836 (P : Params) : Obj := ⟨.none, .none, (.fields #[]), #[]⟩
def o150_837 (P : Params) : Obj := ⟨(.type "tuple"), .none, (.seq #[(.str (Str.ofString "claim") 1411), (.str (Str.ofString "index") 1412)] 0), #[]⟩
def o150_838 (P : Params) : Obj := ⟨(.type "tuple"), .none, (.seq #[] 0), #[]⟩
def o150_839 (P : Params) : Obj := ⟨.none, .none, (.func ⟨(Str.ofString "entry"), (Str.ofString "entry"), defArgs (top 107), .stmts (defBody (top 107)), defScope (top 107), 0, [], .none, .none, .none, .none, .none, .none, .none, 0⟩), #[]⟩
def o150_840 (P : Params) : Obj := ⟨(.type "code"), .none, (.fields #[(.str (Str.ofString "entry") 1408), (.str (Str.ofString "entry") 1409), (.str (Str.ofString "/claim/cut.py") 1410), (.int (621) 0), (.int (2) 0), (.int (0) 0), (.int (0) 0), (.int (3) 0), (.ref 835), (.bool true), (.int (181) 0), (.ref 836), .none, (.ref 837), (.ref 838), (.ref 839), (.int (1413) 0), (.int (621) 0), (.str (Str.ofString "/claim/cut.py") 1414)]), #[]⟩
def o150_841 (P : Params) : Obj := ⟨(.type "function"), .none, (.func ⟨(Str.ofString "entry"), (Str.ofString "entry"), defArgs (top 107), .stmts (defBody (top 107)), defScope (top 107), 3, [], .none, .none, .none, (.str (Str.ofString "plinth.claims") 1396), .none, (.ref 840), .none, 0⟩), #[]⟩
def o150_842 (P : Params) : Obj := ⟨(.type "tuple"), .none, (.seq #[] 0), #[]⟩
def o150_843 (P : Params) : Obj := ⟨.none, .none, (.fields #[]), #[]⟩
def o150_844 (P : Params) : Obj := ⟨(.type "tuple"), .none, (.seq #[(.str (Str.ofString "image") 1419), (.str (Str.ofString "numbers") 1420), (.str (Str.ofString "claim") 1421), (.str (Str.ofString "index") 1422), (.str (Str.ofString "before") 1423)] 0), #[]⟩
def o150_845 (P : Params) : Obj := ⟨(.type "tuple"), .none, (.seq #[] 0), #[]⟩
def o150_846 (P : Params) : Obj := ⟨.none, .none, (.func ⟨(Str.ofString "due"), (Str.ofString "due"), defArgs (top 108), .stmts (defBody (top 108)), defScope (top 108), 0, [], .none, .none, .none, .none, .none, .none, .none, 0⟩), #[]⟩
def o150_847 (P : Params) : Obj := ⟨(.type "code"), .none, (.fields #[(.str (Str.ofString "due") 1416), (.str (Str.ofString "due") 1417), (.str (Str.ofString "/claim/cut.py") 1418), (.int (627) 0), (.int (4) 0), (.int (0) 0), (.int (0) 0), (.int (3) 0), (.ref 842), (.bool true), (.int (181) 0), (.ref 843), .none, (.ref 844), (.ref 845), (.ref 846), (.int (1424) 0), (.int (627) 0), (.str (Str.ofString "/claim/cut.py") 1425)]), #[]⟩
def o150_848 (P : Params) : Obj := ⟨(.type "function"), .none, (.func ⟨(Str.ofString "due"), (Str.ofString "due"), defArgs (top 108), .stmts (defBody (top 108)), defScope (top 108), 3, [], .none, .none, .none, (.str (Str.ofString "plinth.claims") 1396), .none, (.ref 847), .none, 0⟩), #[]⟩
def o150_849 (P : Params) : Obj := ⟨(.type "tuple"), .none, (.seq #[] 0), #[]⟩
def o150_850 (P : Params) : Obj := ⟨.none, .none, (.fields #[]), #[]⟩
def o150_851 (P : Params) : Obj := ⟨(.type "tuple"), .none, (.seq #[(.str (Str.ofString "first") 1433), (.str (Str.ofString "second") 1434)] 0), #[]⟩
def o150_852 (P : Params) : Obj := ⟨(.type "tuple"), .none, (.seq #[] 0), #[]⟩
def o150_853 (P : Params) : Obj := ⟨.none, .none, (.func ⟨(Str.ofString "_agree"), (Str.ofString "_agree"), defArgs (top 111), .stmts (defBody (top 111)), defScope (top 111), 0, [], .none, .none, .none, .none, .none, .none, .none, 0⟩), #[]⟩
def o150_854 (P : Params) : Obj := ⟨(.type "code"), .none, (.fields #[(.str (Str.ofString "_agree") 1430), (.str (Str.ofString "_agree") 1431), (.str (Str.ofString "/claim/cut.py") 1432), (.int (638) 0), (.int (2) 0), (.int (0) 0), (.int (0) 0), (.int (3) 0), (.ref 849), (.bool true), (.int (181) 0), (.ref 850), .none, (.ref 851), (.ref 852), (.ref 853), (.int (1435) 0), (.int (638) 0), (.str (Str.ofString "/claim/cut.py") 1436)]), #[]⟩
def o150_855 (P : Params) : Obj := ⟨(.type "function"), .none, (.func ⟨(Str.ofString "_agree"), (Str.ofString "_agree"), defArgs (top 111), .stmts (defBody (top 111)), defScope (top 111), 3, [], .none, .none, .none, (.str (Str.ofString "plinth.disputes") 1428), .none, (.ref 854), .none, 0⟩), #[]⟩
def o150_856 (P : Params) : Obj := ⟨(.type "tuple"), .none, (.seq #[] 0), #[]⟩
def o150_857 (P : Params) : Obj := ⟨.none, .none, (.fields #[]), #[]⟩
def o150_858 (P : Params) : Obj := ⟨(.type "tuple"), .none, (.seq #[(.str (Str.ofString "image") 1441), (.str (Str.ofString "numbers") 1442), (.str (Str.ofString "first") 1443), (.str (Str.ofString "second") 1444), (.str (Str.ofString "high") 1445), (.str (Str.ofString "low") 1446), (.str (Str.ofString "asked") 1447), (.str (Str.ofString "middle") 1448), (.str (Str.ofString "right") 1449)] 0), #[]⟩
def o150_859 (P : Params) : Obj := ⟨(.type "tuple"), .none, (.seq #[] 0), #[]⟩
def o150_860 (P : Params) : Obj := ⟨.none, .none, (.func ⟨(Str.ofString "dispute"), (Str.ofString "dispute"), defArgs (top 112), .stmts (defBody (top 112)), defScope (top 112), 0, [], .none, .none, .none, .none, .none, .none, .none, 0⟩), #[]⟩
def o150_861 (P : Params) : Obj := ⟨(.type "code"), .none, (.fields #[(.str (Str.ofString "dispute") 1438), (.str (Str.ofString "dispute") 1439), (.str (Str.ofString "/claim/cut.py") 1440), (.int (640) 0), (.int (4) 0), (.int (0) 0), (.int (0) 0), (.int (3) 0), (.ref 856), (.bool true), (.int (181) 0), (.ref 857), .none, (.ref 858), (.ref 859), (.ref 860), (.int (1450) 0), (.int (640) 0), (.str (Str.ofString "/claim/cut.py") 1451)]), #[]⟩
def o150_862 (P : Params) : Obj := ⟨(.type "function"), .none, (.func ⟨(Str.ofString "dispute"), (Str.ofString "dispute"), defArgs (top 112), .stmts (defBody (top 112)), defScope (top 112), 3, [], .none, .none, .none, (.str (Str.ofString "plinth.disputes") 1428), .none, (.ref 861), .none, 0⟩), #[]⟩
def o150_863 (P : Params) : Obj := ⟨(.type "tuple"), .none, (.seq #[] 0), #[]⟩
def o150_864 (P : Params) : Obj := ⟨.none, .none, (.fields #[]), #[]⟩
def o150_865 (P : Params) : Obj := ⟨.none, .none, (.func ⟨(Str.ofString "is_trap"), (Str.ofString "is_trap"), defArgs (top 130), .stmts (defBody (top 130)), defScope (top 130), 0, [], .none, .none, .none, .none, .none, .none, .none, 0⟩), #[]⟩
def o150_866 (P : Params) : Obj := ⟨(.type "code"), .none, (.fields #[(.str (Str.ofString "is_trap") 1487), (.str (Str.ofString "is_trap") 1488), (.str (Str.ofString "/claim/cut.py") 1489), (.int (676) 0), (.int (2) 0), (.int (0) 0), (.int (0) 0), (.int (3) 0), (.ref 863), (.bool true), (.int (181) 0), (.ref 864), .none, .none, .none, (.ref 865), (.int (1490) 0), (.int (676) 0), (.str (Str.ofString "/claim/cut.py") 1491)]), #[]⟩
def o150_867 (P : Params) : Obj := ⟨(.type "function"), .none, (.func ⟨(Str.ofString "is_trap"), (Str.ofString "is_trap"), defArgs (top 130), .stmts (defBody (top 130)), defScope (top 130), 3, [], .none, .none, .none, (.str (Str.ofString "plinth.traps") 1453), .none, (.ref 866), .none, 0⟩), #[]⟩
def o150_868 (P : Params) : Obj := ⟨(.type "tuple"), .none, (.seq #[] 0), #[]⟩
def o150_869 (P : Params) : Obj := ⟨.none, .none, (.fields #[]), #[]⟩
def o150_870 (P : Params) : Obj := ⟨(.type "tuple"), .none, (.seq #[(.str (Str.ofString "image") 1496), (.str (Str.ofString "number") 1497), (.str (Str.ofString "operation") 1498), (.str (Str.ofString "_") 1499)] 0), #[]⟩
def o150_871 (P : Params) : Obj := ⟨(.type "tuple"), .none, (.seq #[] 0), #[]⟩
def o150_872 (P : Params) : Obj := ⟨.none, .none, (.func ⟨(Str.ofString "is_plantable"), (Str.ofString "is_plantable"), defArgs (top 131), .stmts (defBody (top 131)), defScope (top 131), 0, [], .none, .none, .none, .none, .none, .none, .none, 0⟩), #[]⟩
def o150_873 (P : Params) : Obj := ⟨(.type "code"), .none, (.fields #[(.str (Str.ofString "is_plantable") 1493), (.str (Str.ofString "is_plantable") 1494), (.str (Str.ofString "/claim/cut.py") 1495), (.int (682) 0), (.int (1) 0), (.int (0) 0), (.int (0) 0), (.int (3) 0), (.ref 868), (.bool true), (.int (181) 0), (.ref 869), .none, (.ref 870), (.ref 871), (.ref 872), (.int (1500) 0), (.int (682) 0), (.str (Str.ofString "/claim/cut.py") 1501)]), #[]⟩
def o150_874 (P : Params) : Obj := ⟨(.type "function"), .none, (.func ⟨(Str.ofString "is_plantable"), (Str.ofString "is_plantable"), defArgs (top 131), .stmts (defBody (top 131)), defScope (top 131), 3, [], .none, .none, .none, (.str (Str.ofString "plinth.traps") 1453), .none, (.ref 873), .none, 0⟩), #[]⟩
def o150_875 (P : Params) : Obj := ⟨(.type "tuple"), .none, (.seq #[] 0), #[]⟩
def o150_876 (P : Params) : Obj := ⟨.none, .none, (.fields #[]), #[]⟩
def o150_877 (P : Params) : Obj := ⟨(.type "tuple"), .none, (.seq #[] 0), #[]⟩
def o150_878 (P : Params) : Obj := ⟨(.type "tuple"), .none, (.seq #[] 0), #[]⟩
def o150_879 (P : Params) : Obj := ⟨.none, .none, (.func ⟨(Str.ofString "beginning"), (Str.ofString "beginning"), defArgs (top 132), .stmts (defBody (top 132)), defScope (top 132), 0, [], .none, .none, .none, .none, .none, .none, .none, 0⟩), #[]⟩
def o150_880 (P : Params) : Obj := ⟨(.type "code"), .none, (.fields #[(.str (Str.ofString "beginning") 1503), (.str (Str.ofString "beginning") 1504), (.str (Str.ofString "/claim/cut.py") 1505), (.int (689) 0), (.int (0) 0), (.int (0) 0), (.int (0) 0), (.int (3) 0), (.ref 875), (.bool true), (.int (181) 0), (.ref 876), .none, (.ref 877), (.ref 878), (.ref 879), (.int (1506) 0), (.int (689) 0), (.str (Str.ofString "/claim/cut.py") 1507)]), #[]⟩
def o150_881 (P : Params) : Obj := ⟨(.type "function"), .none, (.func ⟨(Str.ofString "beginning"), (Str.ofString "beginning"), defArgs (top 132), .stmts (defBody (top 132)), defScope (top 132), 3, [], .none, .none, .none, (.str (Str.ofString "plinth.traps") 1453), .none, (.ref 880), .none, 0⟩), #[]⟩
def o150_882 (P : Params) : Obj := ⟨(.type "tuple"), .none, (.seq #[] 0), #[]⟩
def o150_883 (P : Params) : Obj := ⟨.none, .none, (.fields #[]), #[]⟩
def o150_884 (P : Params) : Obj := ⟨(.type "tuple"), .none, (.seq #[(.str (Str.ofString "at") 1512), (.str (Str.ofString "code") 1513), (.str (Str.ofString "end") 1514)] 0), #[]⟩
def o150_885 (P : Params) : Obj := ⟨(.type "tuple"), .none, (.seq #[] 0), #[]⟩
def o150_886 (P : Params) : Obj := ⟨.none, .none, (.func ⟨(Str.ofString "comparison"), (Str.ofString "comparison"), defArgs (top 133), .stmts (defBody (top 133)), defScope (top 133), 0, [], .none, .none, .none, .none, .none, .none, .none, 0⟩), #[]⟩
def o150_887 (P : Params) : Obj := ⟨(.type "code"), .none, (.fields #[(.str (Str.ofString "comparison") 1509), (.str (Str.ofString "comparison") 1510), (.str (Str.ofString "/claim/cut.py") 1511), (.int (691) 0), (.int (3) 0), (.int (0) 0), (.int (0) 0), (.int (3) 0), (.ref 882), (.bool true), (.int (181) 0), (.ref 883), .none, (.ref 884), (.ref 885), (.ref 886), (.int (1515) 0), (.int (691) 0), (.str (Str.ofString "/claim/cut.py") 1516)]), #[]⟩
def o150_888 (P : Params) : Obj := ⟨(.type "function"), .none, (.func ⟨(Str.ofString "comparison"), (Str.ofString "comparison"), defArgs (top 133), .stmts (defBody (top 133)), defScope (top 133), 3, [], .none, .none, .none, (.str (Str.ofString "plinth.traps") 1453), .none, (.ref 887), .none, 0⟩), #[]⟩
def o150_889 (P : Params) : Obj := ⟨(.type "tuple"), .none, (.seq #[] 0), #[]⟩
def o150_890 (P : Params) : Obj := ⟨.none, .none, (.fields #[]), #[]⟩
def o150_891 (P : Params) : Obj := ⟨(.type "tuple"), .none, (.seq #[(.str (Str.ofString "at") 1521), (.str (Str.ofString "number") 1522)] 0), #[]⟩
def o150_892 (P : Params) : Obj := ⟨(.type "tuple"), .none, (.seq #[] 0), #[]⟩
def o150_893 (P : Params) : Obj := ⟨.none, .none, (.func ⟨(Str.ofString "writing"), (Str.ofString "writing"), defArgs (top 134), .stmts (defBody (top 134)), defScope (top 134), 0, [], .none, .none, .none, .none, .none, .none, .none, 0⟩), #[]⟩
def o150_894 (P : Params) : Obj := ⟨(.type "code"), .none, (.fields #[(.str (Str.ofString "writing") 1518), (.str (Str.ofString "writing") 1519), (.str (Str.ofString "/claim/cut.py") 1520), (.int (693) 0), (.int (2) 0), (.int (0) 0), (.int (0) 0), (.int (3) 0), (.ref 889), (.bool true), (.int (181) 0), (.ref 890), .none, (.ref 891), (.ref 892), (.ref 893), (.int (1523) 0), (.int (693) 0), (.str (Str.ofString "/claim/cut.py") 1524)]), #[]⟩
def o150_895 (P : Params) : Obj := ⟨(.type "function"), .none, (.func ⟨(Str.ofString "writing"), (Str.ofString "writing"), defArgs (top 134), .stmts (defBody (top 134)), defScope (top 134), 3, [], .none, .none, .none, (.str (Str.ofString "plinth.traps") 1453), .none, (.ref 894), .none, 0⟩), #[]⟩
def o150_896 (P : Params) : Obj := ⟨(.type "tuple"), .none, (.seq #[] 0), #[]⟩
def o150_897 (P : Params) : Obj := ⟨.none, .none, (.fields #[]), #[]⟩
def o150_898 (P : Params) : Obj := ⟨(.type "tuple"), .none, (.seq #[(.str (Str.ofString "at") 1529), (.str (Str.ofString "cells") 1530), (.str (Str.ofString "end") 1531)] 0), #[]⟩
def o150_899 (P : Params) : Obj := ⟨(.type "tuple"), .none, (.seq #[] 0), #[]⟩
def o150_900 (P : Params) : Obj := ⟨.none, .none, (.func ⟨(Str.ofString "copying"), (Str.ofString "copying"), defArgs (top 135), .stmts (defBody (top 135)), defScope (top 135), 0, [], .none, .none, .none, .none, .none, .none, .none, 0⟩), #[]⟩
def o150_901 (P : Params) : Obj := ⟨(.type "code"), .none, (.fields #[(.str (Str.ofString "copying") 1526), (.str (Str.ofString "copying") 1527), (.str (Str.ofString "/claim/cut.py") 1528), (.int (695) 0), (.int (2) 0), (.int (0) 0), (.int (0) 0), (.int (3) 0), (.ref 896), (.bool true), (.int (181) 0), (.ref 897), .none, (.ref 898), (.ref 899), (.ref 900), (.int (1532) 0), (.int (695) 0), (.str (Str.ofString "/claim/cut.py") 1533)]), #[]⟩
def o150_902 (P : Params) : Obj := ⟨(.type "function"), .none, (.func ⟨(Str.ofString "copying"), (Str.ofString "copying"), defArgs (top 135), .stmts (defBody (top 135)), defScope (top 135), 3, [], .none, .none, .none, (.str (Str.ofString "plinth.traps") 1453), .none, (.ref 901), .none, 0⟩), #[]⟩
def o150_903 (P : Params) : Obj := ⟨(.type "tuple"), .none, (.seq #[] 0), #[]⟩
def o150_904 (P : Params) : Obj := ⟨.none, .none, (.fields #[]), #[]⟩
def o150_905 (P : Params) : Obj := ⟨(.type "tuple"), .none, (.seq #[(.str (Str.ofString "lure") 1538), (.str (Str.ofString "extra") 1539), (.str (Str.ofString "start") 1540), (.str (Str.ofString "after") 1541), (.str (Str.ofString "nodes") 1542), (.str (Str.ofString "at") 1543), (.str (Str.ofString "code") 1544), (.str (Str.ofString "number") 1545), (.str (Str.ofString "cells") 1546)] 0), #[]⟩
def o150_906 (P : Params) : Obj := ⟨(.type "tuple"), .none, (.seq #[] 0), #[]⟩
def o150_907 (P : Params) : Obj := ⟨.none, .none, (.func ⟨(Str.ofString "trap_nodes"), (Str.ofString "trap_nodes"), defArgs (top 136), .stmts (defBody (top 136)), defScope (top 136), 0, [], .none, .none, .none, .none, .none, .none, .none, 0⟩), #[]⟩
def o150_908 (P : Params) : Obj := ⟨(.type "code"), .none, (.fields #[(.str (Str.ofString "trap_nodes") 1535), (.str (Str.ofString "trap_nodes") 1536), (.str (Str.ofString "/claim/cut.py") 1537), (.int (698) 0), (.int (2) 0), (.int (0) 0), (.int (0) 0), (.int (3) 0), (.ref 903), (.bool true), (.int (181) 0), (.ref 904), .none, (.ref 905), (.ref 906), (.ref 907), (.int (1547) 0), (.int (698) 0), (.str (Str.ofString "/claim/cut.py") 1548)]), #[]⟩
def o150_909 (P : Params) : Obj := ⟨(.type "function"), .none, (.func ⟨(Str.ofString "trap_nodes"), (Str.ofString "trap_nodes"), defArgs (top 136), .stmts (defBody (top 136)), defScope (top 136), 3, [], .none, .none, .none, (.str (Str.ofString "plinth.traps") 1453), .none, (.ref 908), .none, 0⟩), #[]⟩
def o150_910 (P : Params) : Obj := ⟨(.type "tuple"), .none, (.seq #[] 0), #[]⟩
def o150_911 (P : Params) : Obj := ⟨.none, .none, (.fields #[]), #[]⟩
def o150_912 (P : Params) : Obj := ⟨(.type "tuple"), .none, (.seq #[(.str (Str.ofString "image") 1553), (.str (Str.ofString "lure") 1554), (.str (Str.ofString "extra") 1555)] 0), #[]⟩
def o150_913 (P : Params) : Obj := ⟨(.type "tuple"), .none, (.seq #[] 0), #[]⟩
def o150_914 (P : Params) : Obj := ⟨.none, .none, (.func ⟨(Str.ofString "plant"), (Str.ofString "plant"), defArgs (top 137), .stmts (defBody (top 137)), defScope (top 137), 0, [], .none, .none, .none, .none, .none, .none, .none, 0⟩), #[]⟩
def o150_915 (P : Params) : Obj := ⟨(.type "code"), .none, (.fields #[(.str (Str.ofString "plant") 1550), (.str (Str.ofString "plant") 1551), (.str (Str.ofString "/claim/cut.py") 1552), (.int (712) 0), (.int (3) 0), (.int (0) 0), (.int (0) 0), (.int (3) 0), (.ref 910), (.bool true), (.int (181) 0), (.ref 911), .none, (.ref 912), (.ref 913), (.ref 914), (.int (1556) 0), (.int (712) 0), (.str (Str.ofString "/claim/cut.py") 1557)]), #[]⟩
def o150_916 (P : Params) : Obj := ⟨(.type "function"), .none, (.func ⟨(Str.ofString "plant"), (Str.ofString "plant"), defArgs (top 137), .stmts (defBody (top 137)), defScope (top 137), 3, [], .none, .none, .none, (.str (Str.ofString "plinth.traps") 1453), .none, (.ref 915), .none, 0⟩), #[]⟩
def o150_917 (P : Params) : Obj := ⟨(.type "tuple"), .none, (.seq #[] 0), #[]⟩
def o150_918 (P : Params) : Obj := ⟨(.type "builtin_function_or_method"), .none, (.fields #[(.builtin "type.__prepare__"), (.type "type")]), #[]⟩
def o150_919 (P : Params) : Obj := ⟨(.type "dict"), .none, (.dict #[⟨PyData.keyHash P (Str.ofString "__module__"), (.str (Str.ofString "__module__") 1570), (.str (Str.ofString "plinth.shelf") 1559)⟩, ⟨PyData.keyHash P (Str.ofString "__qualname__"), (.str (Str.ofString "__qualname__") 1572), (.str (Str.ofString "Entry") 1571)⟩, ⟨PyData.keyHash P (Str.ofString "__firstlineno__"), (.str (Str.ofString "__firstlineno__") 1574), (.int (720) 1573)⟩, ⟨PyData.keyHash P (Str.ofString "__init__"), (.str (Str.ofString "__init__") 1584), (.ref 930)⟩, ⟨PyData.keyHash P (Str.ofString "__static_attributes__"), (.str (Str.ofString "__static_attributes__") 1588), (.ref 931)⟩] 5), #[]⟩
def o150_920 (P : Params) : Obj := ⟨(.type "tuple"), .none, (.seq #[] 0), #[]⟩
def o150_921 (P : Params) : Obj := ⟨.none, .none, (.fields #[(.int (722) 0), (.int (4) 0), (.ref 929)]), #[]⟩
def o150_922 (P : Params) : Obj := ⟨(.type "code"), .none, (.fields #[(.str (Str.ofString "Entry") 1565), (.str (Str.ofString "Entry") 1566), (.str (Str.ofString "/claim/cut.py") 1567), (.int (720) 0), (.int (0) 0), (.int (0) 0), (.int (0) 0), (.int (0) 0), (.ref 920), (.bool false), (.int (181) 0), (.ref 921), .none, .none, .none, .none, (.int (1568) 0), (.int (720) 0), (.str (Str.ofString "/claim/cut.py") 1569)]), #[]⟩
def o150_923 (P : Params) : Obj := ⟨(.type "frame"), .none, .plain, #[(.some (.ref 922)), (.some (.ref 3)), (.some (.ref 919)), .none, (.some (.str (Str.ofString "plinth.shelf") 1559)), .none, (.some (.ref 0))]⟩
def o150_924 (P : Params) : Obj := ⟨(.type "tuple"), .none, (.seq #[] 0), #[]⟩
def o150_925 (P : Params) : Obj := ⟨.none, .none, (.fields #[]), #[]⟩
def o150_926 (P : Params) : Obj := ⟨(.type "tuple"), .none, (.seq #[(.str (Str.ofString "self") 1578), (.str (Str.ofString "kind") 1579), (.str (Str.ofString "text") 1580), (.str (Str.ofString "binary") 1581)] 0), #[]⟩
def o150_927 (P : Params) : Obj := ⟨(.type "tuple"), .none, (.seq #[] 0), #[]⟩
def o150_928 (P : Params) : Obj := ⟨.none, .none, (.func ⟨(Str.ofString "__init__"), (Str.ofString "Entry.__init__"), defArgs (inClass (top 140) 0), .stmts (defBody (inClass (top 140) 0)), defScope (inClass (top 140) 0), 0, [], .none, .none, .none, .none, .none, .none, .none, 0⟩), #[]⟩
def o150_929 (P : Params) : Obj := ⟨(.type "code"), .none, (.fields #[(.str (Str.ofString "__init__") 1575), (.str (Str.ofString "Entry.__init__") 1576), (.str (Str.ofString "/claim/cut.py") 1577), (.int (722) 0), (.int (4) 0), (.int (0) 0), (.int (0) 0), (.int (3) 0), (.ref 924), (.bool true), (.int (181) 0), (.ref 925), .none, (.ref 926), (.ref 927), (.ref 928), (.int (1582) 0), (.int (722) 0), (.str (Str.ofString "/claim/cut.py") 1583)]), #[]⟩
def o150_930 (P : Params) : Obj := ⟨(.type "function"), .none, (.func ⟨(Str.ofString "__init__"), (Str.ofString "Entry.__init__"), defArgs (inClass (top 140) 0), .stmts (defBody (inClass (top 140) 0)), defScope (inClass (top 140) 0), 3, [], .none, .none, .none, (.str (Str.ofString "plinth.shelf") 1559), .none, (.ref 929), .none, 0⟩), #[]⟩
def o150_931 (P : Params) : Obj := ⟨(.type "tuple"), .none, (.seq #[(.str (Str.ofString "binary") 1585), (.str (Str.ofString "kind") 1586), (.str (Str.ofString "text") 1587)] 0), #[]⟩
def o150_932 (P : Params) : Obj := ⟨(.type "dict"), .none, (.dict #[⟨PyData.keyHash P (Str.ofString "__module__"), (.str (Str.ofString "__module__") 1570), (.str (Str.ofString "plinth.shelf") 1559)⟩, ⟨PyData.keyHash P (Str.ofString "__firstlineno__"), (.str (Str.ofString "__firstlineno__") 1574), (.int (720) 1573)⟩, ⟨PyData.keyHash P (Str.ofString "__init__"), (.str (Str.ofString "__init__") 1584), (.ref 930)⟩, ⟨PyData.keyHash P (Str.ofString "__static_attributes__"), (.str (Str.ofString "__static_attributes__") 1588), (.ref 931)⟩, ⟨PyData.keyHash P (Str.ofString "__dict__"), (.str (Str.ofString "__dict__") 1590), (.ref 934)⟩, ⟨PyData.keyHash P (Str.ofString "__weakref__"), (.str (Str.ofString "__weakref__") 1592), (.ref 935)⟩, ⟨PyData.keyHash P (Str.ofString "__doc__"), (.str (Str.ofString "__doc__") 1593), .none⟩] 4), #[]⟩
def o150_933 (P : Params) : Obj := ⟨(.type "type"), .none, (.cls ⟨(Str.ofString "Entry"), [(.type "object")], [(.ref 933), (.type "object")], 932, (Str.ofString "Entry"), true, [], [], false, .none, false⟩), #[.none, .none, (.some (.str (Str.ofString "Entry") 1563)), (.some (.str (Str.ofString "Entry") 1571)), (.some (.builtin "object.__new__")), (.some (.bool true))]⟩
def o150_934 (P : Params) : Obj := ⟨(.type "getset_descriptor"), .none, (.fields #[(.str (Str.ofString "__dict__") 1589), (.ref 933), (.builtin "function.__dict__"), (.builtin "function.__dict__#set")]), #[]⟩
def o150_935 (P : Params) : Obj := ⟨(.type "getset_descriptor"), .none, (.fields #[(.str (Str.ofString "__weakref__") 1591), (.ref 933), (.builtin "ExceptionGroup.__weakref__"), .none]), #[]⟩
def o150_936 (P : Params) : Obj := ⟨(.type "super"), .none, (.fields #[(.ref 933), (.ref 933), (.ref 933)]), #[]⟩
def o150_937 (P : Params) : Obj := ⟨(.type "builtin_function_or_method"), .none, (.fields #[(.builtin "object.__init_subclass__"), (.ref 933)]), #[]⟩
def o150_938 (P : Params) : Obj := ⟨(.type "tuple"), .none, (.seq #[] 0), #[]⟩
def o150_939 (P : Params) : Obj := ⟨.none, .none, (.fields #[]), #[]⟩
def o150_940 (P : Params) : Obj := ⟨(.type "tuple"), .none, (.seq #[(.str (Str.ofString "name") 1599), (.str (Str.ofString "kind") 1600), (.str (Str.ofString "text") 1601), (.str (Str.ofString "character") 1602)] 0), #[]⟩
def o150_941 (P : Params) : Obj := ⟨(.type "tuple"), .none, (.seq #[] 0), #[]⟩
def o150_942 (P : Params) : Obj := ⟨.none, .none, (.func ⟨(Str.ofString "check_new"), (Str.ofString "check_new"), defArgs (top 141), .stmts (defBody (top 141)), defScope (top 141), 0, [], .none, .none, .none, .none, .none, .none, .none, 0⟩), #[]⟩
def o150_943 (P : Params) : Obj := ⟨(.type "code"), .none, (.fields #[(.str (Str.ofString "check_new") 1596), (.str (Str.ofString "check_new") 1597), (.str (Str.ofString "/claim/cut.py") 1598), (.int (726) 0), (.int (3) 0), (.int (0) 0), (.int (0) 0), (.int (3) 0), (.ref 938), (.bool true), (.int (181) 0), (.ref 939), .none, (.ref 940), (.ref 941), (.ref 942), (.int (1603) 0), (.int (726) 0), (.str (Str.ofString "/claim/cut.py") 1604)]), #[]⟩
def o150_944 (P : Params) : Obj := ⟨(.type "function"), .none, (.func ⟨(Str.ofString "check_new"), (Str.ofString "check_new"), defArgs (top 141), .stmts (defBody (top 141)), defScope (top 141), 3, [], .none, .none, .none, (.str (Str.ofString "plinth.shelf") 1559), .none, (.ref 943), .none, 0⟩), #[]⟩
def o150_945 (P : Params) : Obj := ⟨(.type "tuple"), .none, (.seq #[] 0), #[]⟩
def o150_946 (P : Params) : Obj := ⟨(.type "builtin_function_or_method"), .none, (.fields #[(.builtin "type.__prepare__"), (.type "type")]), #[]⟩
def o150_947 (P : Params) : Obj := ⟨(.type "dict"), .none, (.dict #[⟨PyData.keyHash P (Str.ofString "__module__"), (.str (Str.ofString "__module__") 1613), (.str (Str.ofString "plinth.shelf") 1559)⟩, ⟨PyData.keyHash P (Str.ofString "__qualname__"), (.str (Str.ofString "__qualname__") 1615), (.str (Str.ofString "Shelf") 1614)⟩, ⟨PyData.keyHash P (Str.ofString "__firstlineno__"), (.str (Str.ofString "__firstlineno__") 1617), (.int (735) 1616)⟩, ⟨PyData.keyHash P (Str.ofString "__init__"), (.str (Str.ofString "__init__") 1624), (.ref 958)⟩, ⟨PyData.keyHash P (Str.ofString "entry"), (.str (Str.ofString "entry") 1632), (.ref 965)⟩, ⟨PyData.keyHash P (Str.ofString "names"), (.str (Str.ofString "names") 1639), (.ref 972)⟩, ⟨PyData.keyHash P (Str.ofString "kind"), (.str (Str.ofString "kind") 1647), (.ref 979)⟩, ⟨PyData.keyHash P (Str.ofString "text"), (.str (Str.ofString "text") 1655), (.ref 986)⟩, ⟨PyData.keyHash P (Str.ofString "binary"), (.str (Str.ofString "binary") 1663), (.ref 993)⟩, ⟨PyData.keyHash P (Str.ofString "put"), (.str (Str.ofString "put") 1674), (.ref 1000)⟩, ⟨PyData.keyHash P (Str.ofString "build"), (.str (Str.ofString "build") 1691), (.ref 1008)⟩, ⟨PyData.keyHash P (Str.ofString "swap"), (.str (Str.ofString "swap") 1702), (.ref 1015)⟩, ⟨PyData.keyHash P (Str.ofString "clone"), (.str (Str.ofString "clone") 1713), (.ref 1022)⟩, ⟨PyData.keyHash P (Str.ofString "damage"), (.str (Str.ofString "damage") 1724), (.ref 1029)⟩, ⟨PyData.keyHash P (Str.ofString "trap"), (.str (Str.ofString "trap") 1735), (.ref 1036)⟩, ⟨PyData.keyHash P (Str.ofString "__static_attributes__"), (.str (Str.ofString "__static_attributes__") 1737), (.ref 1037)⟩] 16), #[]⟩
def o150_948 (P : Params) : Obj := ⟨(.type "tuple"), .none, (.seq #[] 0), #[]⟩
def o150_949 (P : Params) : Obj := ⟨.none, .none, (.fields #[(.int (737) 0), (.int (4) 0), (.ref 957), (.int (740) 0), (.int (4) 0), (.ref 964), (.int (745) 0), (.int (4) 0), (.ref 971), (.int (748) 0), (.int (4) 0), (.ref 978), (.int (751) 0), (.int (4) 0), (.ref 985), (.int (754) 0), (.int (4) 0), (.ref 992), (.int (757) 0), (.int (4) 0), (.ref 999), (.int (761) 0), (.int (4) 0), (.ref 1007), (.int (770) 0), (.int (4) 0), (.ref 1014), (.int (775) 0), (.int (4) 0), (.ref 1021), (.int (780) 0), (.int (4) 0), (.ref 1028), (.int (789) 0), (.int (4) 0), (.ref 1035)]), #[]⟩
def o150_950 (P : Params) : Obj := ⟨(.type "code"), .none, (.fields #[(.str (Str.ofString "Shelf") 1608), (.str (Str.ofString "Shelf") 1609), (.str (Str.ofString "/claim/cut.py") 1610), (.int (735) 0), (.int (0) 0), (.int (0) 0), (.int (0) 0), (.int (0) 0), (.ref 948), (.bool false), (.int (181) 0), (.ref 949), .none, .none, .none, .none, (.int (1611) 0), (.int (735) 0), (.str (Str.ofString "/claim/cut.py") 1612)]), #[]⟩
def o150_951 (P : Params) : Obj := ⟨(.type "frame"), .none, .plain, #[(.some (.ref 950)), (.some (.ref 3)), (.some (.ref 947)), .none, (.some (.str (Str.ofString "plinth.shelf") 1559)), .none, (.some (.ref 0))]⟩
def o150_952 (P : Params) : Obj := ⟨(.type "tuple"), .none, (.seq #[] 0), #[]⟩
def o150_953 (P : Params) : Obj := ⟨.none, .none, (.fields #[]), #[]⟩
def o150_954 (P : Params) : Obj := ⟨(.type "tuple"), .none, (.seq #[(.str (Str.ofString "self") 1621)] 0), #[]⟩
def o150_955 (P : Params) : Obj := ⟨(.type "tuple"), .none, (.seq #[] 0), #[]⟩
def o150_956 (P : Params) : Obj := ⟨.none, .none, (.func ⟨(Str.ofString "__init__"), (Str.ofString "Shelf.__init__"), defArgs (inClass (top 142) 0), .stmts (defBody (inClass (top 142) 0)), defScope (inClass (top 142) 0), 0, [], .none, .none, .none, .none, .none, .none, .none, 0⟩), #[]⟩
def o150_957 (P : Params) : Obj := ⟨(.type "code"), .none, (.fields #[(.str (Str.ofString "__init__") 1618), (.str (Str.ofString "Shelf.__init__") 1619), (.str (Str.ofString "/claim/cut.py") 1620), (.int (737) 0), (.int (1) 0), (.int (0) 0), (.int (0) 0), (.int (3) 0), (.ref 952), (.bool true), (.int (181) 0), (.ref 953), .none, (.ref 954), (.ref 955), (.ref 956), (.int (1622) 0), (.int (737) 0), (.str (Str.ofString "/claim/cut.py") 1623)]), #[]⟩
def o150_958 (P : Params) : Obj := ⟨(.type "function"), .none, (.func ⟨(Str.ofString "__init__"), (Str.ofString "Shelf.__init__"), defArgs (inClass (top 142) 0), .stmts (defBody (inClass (top 142) 0)), defScope (inClass (top 142) 0), 3, [], .none, .none, .none, (.str (Str.ofString "plinth.shelf") 1559), .none, (.ref 957), .none, 0⟩), #[]⟩
def o150_959 (P : Params) : Obj := ⟨(.type "tuple"), .none, (.seq #[] 0), #[]⟩
def o150_960 (P : Params) : Obj := ⟨.none, .none, (.fields #[]), #[]⟩
def o150_961 (P : Params) : Obj := ⟨(.type "tuple"), .none, (.seq #[(.str (Str.ofString "self") 1628), (.str (Str.ofString "name") 1629)] 0), #[]⟩
def o150_962 (P : Params) : Obj := ⟨(.type "tuple"), .none, (.seq #[] 0), #[]⟩
def o150_963 (P : Params) : Obj := ⟨.none, .none, (.func ⟨(Str.ofString "entry"), (Str.ofString "Shelf.entry"), defArgs (inClass (top 142) 1), .stmts (defBody (inClass (top 142) 1)), defScope (inClass (top 142) 1), 0, [], .none, .none, .none, .none, .none, .none, .none, 0⟩), #[]⟩
def o150_964 (P : Params) : Obj := ⟨(.type "code"), .none, (.fields #[(.str (Str.ofString "entry") 1625), (.str (Str.ofString "Shelf.entry") 1626), (.str (Str.ofString "/claim/cut.py") 1627), (.int (740) 0), (.int (2) 0), (.int (0) 0), (.int (0) 0), (.int (3) 0), (.ref 959), (.bool true), (.int (181) 0), (.ref 960), .none, (.ref 961), (.ref 962), (.ref 963), (.int (1630) 0), (.int (740) 0), (.str (Str.ofString "/claim/cut.py") 1631)]), #[]⟩
def o150_965 (P : Params) : Obj := ⟨(.type "function"), .none, (.func ⟨(Str.ofString "entry"), (Str.ofString "Shelf.entry"), defArgs (inClass (top 142) 1), .stmts (defBody (inClass (top 142) 1)), defScope (inClass (top 142) 1), 3, [], .none, .none, .none, (.str (Str.ofString "plinth.shelf") 1559), .none, (.ref 964), .none, 0⟩), #[]⟩
def o150_966 (P : Params) : Obj := ⟨(.type "tuple"), .none, (.seq #[] 0), #[]⟩
def o150_967 (P : Params) : Obj := ⟨.none, .none, (.fields #[]), #[]⟩
def o150_968 (P : Params) : Obj := ⟨(.type "tuple"), .none, (.seq #[(.str (Str.ofString "self") 1636)] 0), #[]⟩
def o150_969 (P : Params) : Obj := ⟨(.type "tuple"), .none, (.seq #[] 0), #[]⟩
def o150_970 (P : Params) : Obj := ⟨.none, .none, (.func ⟨(Str.ofString "names"), (Str.ofString "Shelf.names"), defArgs (inClass (top 142) 2), .stmts (defBody (inClass (top 142) 2)), defScope (inClass (top 142) 2), 0, [], .none, .none, .none, .none, .none, .none, .none, 0⟩), #[]⟩
def o150_971 (P : Params) : Obj := ⟨(.type "code"), .none, (.fields #[(.str (Str.ofString "names") 1633), (.str (Str.ofString "Shelf.names") 1634), (.str (Str.ofString "/claim/cut.py") 1635), (.int (745) 0), (.int (1) 0), (.int (0) 0), (.int (0) 0), (.int (3) 0), (.ref 966), (.bool true), (.int (181) 0), (.ref 967), .none, (.ref 968), (.ref 969), (.ref 970), (.int (1637) 0), (.int (745) 0), (.str (Str.ofString "/claim/cut.py") 1638)]), #[]⟩
def o150_972 (P : Params) : Obj := ⟨(.type "function"), .none, (.func ⟨(Str.ofString "names"), (Str.ofString "Shelf.names"), defArgs (inClass (top 142) 2), .stmts (defBody (inClass (top 142) 2)), defScope (inClass (top 142) 2), 3, [], .none, .none, .none, (.str (Str.ofString "plinth.shelf") 1559), .none, (.ref 971), .none, 0⟩), #[]⟩
def o150_973 (P : Params) : Obj := ⟨(.type "tuple"), .none, (.seq #[] 0), #[]⟩
def o150_974 (P : Params) : Obj := ⟨.none, .none, (.fields #[]), #[]⟩
def o150_975 (P : Params) : Obj := ⟨(.type "tuple"), .none, (.seq #[(.str (Str.ofString "self") 1643), (.str (Str.ofString "name") 1644)] 0), #[]⟩
def o150_976 (P : Params) : Obj := ⟨(.type "tuple"), .none, (.seq #[] 0), #[]⟩
def o150_977 (P : Params) : Obj := ⟨.none, .none, (.func ⟨(Str.ofString "kind"), (Str.ofString "Shelf.kind"), defArgs (inClass (top 142) 3), .stmts (defBody (inClass (top 142) 3)), defScope (inClass (top 142) 3), 0, [], .none, .none, .none, .none, .none, .none, .none, 0⟩), #[]⟩
def o150_978 (P : Params) : Obj := ⟨(.type "code"), .none, (.fields #[(.str (Str.ofString "kind") 1640), (.str (Str.ofString "Shelf.kind") 1641), (.str (Str.ofString "/claim/cut.py") 1642), (.int (748) 0), (.int (2) 0), (.int (0) 0), (.int (0) 0), (.int (3) 0), (.ref 973), (.bool true), (.int (181) 0), (.ref 974), .none, (.ref 975), (.ref 976), (.ref 977), (.int (1645) 0), (.int (748) 0), (.str (Str.ofString "/claim/cut.py") 1646)]), #[]⟩
def o150_979 (P : Params) : Obj := ⟨(.type "function"), .none, (.func ⟨(Str.ofString "kind"), (Str.ofString "Shelf.kind"), defArgs (inClass (top 142) 3), .stmts (defBody (inClass (top 142) 3)), defScope (inClass (top 142) 3), 3, [], .none, .none, .none, (.str (Str.ofString "plinth.shelf") 1559), .none, (.ref 978), .none, 0⟩), #[]⟩
def o150_980 (P : Params) : Obj := ⟨(.type "tuple"), .none, (.seq #[] 0), #[]⟩
def o150_981 (P : Params) : Obj := ⟨.none, .none, (.fields #[]), #[]⟩
def o150_982 (P : Params) : Obj := ⟨(.type "tuple"), .none, (.seq #[(.str (Str.ofString "self") 1651), (.str (Str.ofString "name") 1652)] 0), #[]⟩
def o150_983 (P : Params) : Obj := ⟨(.type "tuple"), .none, (.seq #[] 0), #[]⟩
def o150_984 (P : Params) : Obj := ⟨.none, .none, (.func ⟨(Str.ofString "text"), (Str.ofString "Shelf.text"), defArgs (inClass (top 142) 4), .stmts (defBody (inClass (top 142) 4)), defScope (inClass (top 142) 4), 0, [], .none, .none, .none, .none, .none, .none, .none, 0⟩), #[]⟩
def o150_985 (P : Params) : Obj := ⟨(.type "code"), .none, (.fields #[(.str (Str.ofString "text") 1648), (.str (Str.ofString "Shelf.text") 1649), (.str (Str.ofString "/claim/cut.py") 1650), (.int (751) 0), (.int (2) 0), (.int (0) 0), (.int (0) 0), (.int (3) 0), (.ref 980), (.bool true), (.int (181) 0), (.ref 981), .none, (.ref 982), (.ref 983), (.ref 984), (.int (1653) 0), (.int (751) 0), (.str (Str.ofString "/claim/cut.py") 1654)]), #[]⟩
def o150_986 (P : Params) : Obj := ⟨(.type "function"), .none, (.func ⟨(Str.ofString "text"), (Str.ofString "Shelf.text"), defArgs (inClass (top 142) 4), .stmts (defBody (inClass (top 142) 4)), defScope (inClass (top 142) 4), 3, [], .none, .none, .none, (.str (Str.ofString "plinth.shelf") 1559), .none, (.ref 985), .none, 0⟩), #[]⟩
def o150_987 (P : Params) : Obj := ⟨(.type "tuple"), .none, (.seq #[] 0), #[]⟩
def o150_988 (P : Params) : Obj := ⟨.none, .none, (.fields #[]), #[]⟩
def o150_989 (P : Params) : Obj := ⟨(.type "tuple"), .none, (.seq #[(.str (Str.ofString "self") 1659), (.str (Str.ofString "name") 1660)] 0), #[]⟩
def o150_990 (P : Params) : Obj := ⟨(.type "tuple"), .none, (.seq #[] 0), #[]⟩
def o150_991 (P : Params) : Obj := ⟨.none, .none, (.func ⟨(Str.ofString "binary"), (Str.ofString "Shelf.binary"), defArgs (inClass (top 142) 5), .stmts (defBody (inClass (top 142) 5)), defScope (inClass (top 142) 5), 0, [], .none, .none, .none, .none, .none, .none, .none, 0⟩), #[]⟩
def o150_992 (P : Params) : Obj := ⟨(.type "code"), .none, (.fields #[(.str (Str.ofString "binary") 1656), (.str (Str.ofString "Shelf.binary") 1657), (.str (Str.ofString "/claim/cut.py") 1658), (.int (754) 0), (.int (2) 0), (.int (0) 0), (.int (0) 0), (.int (3) 0), (.ref 987), (.bool true), (.int (181) 0), (.ref 988), .none, (.ref 989), (.ref 990), (.ref 991), (.int (1661) 0), (.int (754) 0), (.str (Str.ofString "/claim/cut.py") 1662)]), #[]⟩
def o150_993 (P : Params) : Obj := ⟨(.type "function"), .none, (.func ⟨(Str.ofString "binary"), (Str.ofString "Shelf.binary"), defArgs (inClass (top 142) 5), .stmts (defBody (inClass (top 142) 5)), defScope (inClass (top 142) 5), 3, [], .none, .none, .none, (.str (Str.ofString "plinth.shelf") 1559), .none, (.ref 992), .none, 0⟩), #[]⟩
def o150_994 (P : Params) : Obj := ⟨(.type "tuple"), .none, (.seq #[] 0), #[]⟩
def o150_995 (P : Params) : Obj := ⟨.none, .none, (.fields #[]), #[]⟩
def o150_996 (P : Params) : Obj := ⟨(.type "tuple"), .none, (.seq #[(.str (Str.ofString "self") 1667), (.str (Str.ofString "name") 1668), (.str (Str.ofString "kind") 1669), (.str (Str.ofString "text") 1670), (.str (Str.ofString "binary") 1671)] 0), #[]⟩
def o150_997 (P : Params) : Obj := ⟨(.type "tuple"), .none, (.seq #[] 0), #[]⟩
def o150_998 (P : Params) : Obj := ⟨.none, .none, (.func ⟨(Str.ofString "put"), (Str.ofString "Shelf.put"), defArgs (inClass (top 142) 6), .stmts (defBody (inClass (top 142) 6)), defScope (inClass (top 142) 6), 0, [], .none, .none, .none, .none, .none, .none, .none, 0⟩), #[]⟩
def o150_999 (P : Params) : Obj := ⟨(.type "code"), .none, (.fields #[(.str (Str.ofString "put") 1664), (.str (Str.ofString "Shelf.put") 1665), (.str (Str.ofString "/claim/cut.py") 1666), (.int (757) 0), (.int (5) 0), (.int (0) 0), (.int (0) 0), (.int (3) 0), (.ref 994), (.bool true), (.int (181) 0), (.ref 995), .none, (.ref 996), (.ref 997), (.ref 998), (.int (1672) 0), (.int (757) 0), (.str (Str.ofString "/claim/cut.py") 1673)]), #[]⟩
def o150_1000 (P : Params) : Obj := ⟨(.type "function"), .none, (.func ⟨(Str.ofString "put"), (Str.ofString "Shelf.put"), defArgs (inClass (top 142) 6), .stmts (defBody (inClass (top 142) 6)), defScope (inClass (top 142) 6), 3, [], .none, .none, .none, (.str (Str.ofString "plinth.shelf") 1559), .none, (.ref 999), .none, 0⟩), #[]⟩
def o150_1001 (P : Params) : Obj := ⟨(.type "dict"), .none, (.dict #[⟨PyData.keyHash P (Str.ofString "fuel"), (.str (Str.ofString "fuel") 1676), (.int (100000) 1675)⟩] 1), #[]⟩
def o150_1002 (P : Params) : Obj := ⟨(.type "tuple"), .none, (.seq #[] 0), #[]⟩
def o150_1003 (P : Params) : Obj := ⟨.none, .none, (.fields #[]), #[]⟩
def o150_1004 (P : Params) : Obj := ⟨(.type "tuple"), .none, (.seq #[(.str (Str.ofString "self") 1680), (.str (Str.ofString "name") 1681), (.str (Str.ofString "kind") 1682), (.str (Str.ofString "text") 1683), (.str (Str.ofString "by") 1684), (.str (Str.ofString "fuel") 1685), (.str (Str.ofString "ended") 1686), (.str (Str.ofString "output") 1687), (.str (Str.ofString "_") 1688)] 0), #[]⟩
def o150_1005 (P : Params) : Obj := ⟨(.type "tuple"), .none, (.seq #[] 0), #[]⟩
def o150_1006 (P : Params) : Obj := ⟨.none, .none, (.func ⟨(Str.ofString "build"), (Str.ofString "Shelf.build"), defArgs (inClass (top 142) 7), .stmts (defBody (inClass (top 142) 7)), defScope (inClass (top 142) 7), 0, [], .none, .none, .none, .none, .none, .none, .none, 0⟩), #[]⟩
def o150_1007 (P : Params) : Obj := ⟨(.type "code"), .none, (.fields #[(.str (Str.ofString "build") 1677), (.str (Str.ofString "Shelf.build") 1678), (.str (Str.ofString "/claim/cut.py") 1679), (.int (761) 0), (.int (4) 0), (.int (0) 0), (.int (2) 0), (.int (3) 0), (.ref 1002), (.bool true), (.int (181) 0), (.ref 1003), .none, (.ref 1004), (.ref 1005), (.ref 1006), (.int (1689) 0), (.int (761) 0), (.str (Str.ofString "/claim/cut.py") 1690)]), #[]⟩
def o150_1008 (P : Params) : Obj := ⟨(.type "function"), .none, (.func ⟨(Str.ofString "build"), (Str.ofString "Shelf.build"), defArgs (inClass (top 142) 7), .stmts (defBody (inClass (top 142) 7)), defScope (inClass (top 142) 7), 3, [], .none, (.ref 1001), .none, (.str (Str.ofString "plinth.shelf") 1559), .none, (.ref 1007), .none, 0⟩), #[]⟩
def o150_1009 (P : Params) : Obj := ⟨(.type "tuple"), .none, (.seq #[] 0), #[]⟩
def o150_1010 (P : Params) : Obj := ⟨.none, .none, (.fields #[]), #[]⟩
def o150_1011 (P : Params) : Obj := ⟨(.type "tuple"), .none, (.seq #[(.str (Str.ofString "self") 1695), (.str (Str.ofString "one") 1696), (.str (Str.ofString "other") 1697), (.str (Str.ofString "first") 1698), (.str (Str.ofString "second") 1699)] 0), #[]⟩
def o150_1012 (P : Params) : Obj := ⟨(.type "tuple"), .none, (.seq #[] 0), #[]⟩
def o150_1013 (P : Params) : Obj := ⟨.none, .none, (.func ⟨(Str.ofString "swap"), (Str.ofString "Shelf.swap"), defArgs (inClass (top 142) 8), .stmts (defBody (inClass (top 142) 8)), defScope (inClass (top 142) 8), 0, [], .none, .none, .none, .none, .none, .none, .none, 0⟩), #[]⟩
def o150_1014 (P : Params) : Obj := ⟨(.type "code"), .none, (.fields #[(.str (Str.ofString "swap") 1692), (.str (Str.ofString "Shelf.swap") 1693), (.str (Str.ofString "/claim/cut.py") 1694), (.int (770) 0), (.int (3) 0), (.int (0) 0), (.int (0) 0), (.int (3) 0), (.ref 1009), (.bool true), (.int (181) 0), (.ref 1010), .none, (.ref 1011), (.ref 1012), (.ref 1013), (.int (1700) 0), (.int (770) 0), (.str (Str.ofString "/claim/cut.py") 1701)]), #[]⟩
def o150_1015 (P : Params) : Obj := ⟨(.type "function"), .none, (.func ⟨(Str.ofString "swap"), (Str.ofString "Shelf.swap"), defArgs (inClass (top 142) 8), .stmts (defBody (inClass (top 142) 8)), defScope (inClass (top 142) 8), 3, [], .none, .none, .none, (.str (Str.ofString "plinth.shelf") 1559), .none, (.ref 1014), .none, 0⟩), #[]⟩
def o150_1016 (P : Params) : Obj := ⟨(.type "tuple"), .none, (.seq #[] 0), #[]⟩
def o150_1017 (P : Params) : Obj := ⟨.none, .none, (.fields #[]), #[]⟩
def o150_1018 (P : Params) : Obj := ⟨(.type "tuple"), .none, (.seq #[(.str (Str.ofString "self") 1706), (.str (Str.ofString "source") 1707), (.str (Str.ofString "name") 1708), (.str (Str.ofString "kept") 1709), (.str (Str.ofString "changed") 1710)] 0), #[]⟩
def o150_1019 (P : Params) : Obj := ⟨(.type "tuple"), .none, (.seq #[] 0), #[]⟩
def o150_1020 (P : Params) : Obj := ⟨.none, .none, (.func ⟨(Str.ofString "clone"), (Str.ofString "Shelf.clone"), defArgs (inClass (top 142) 9), .stmts (defBody (inClass (top 142) 9)), defScope (inClass (top 142) 9), 0, [], .none, .none, .none, .none, .none, .none, .none, 0⟩), #[]⟩
def o150_1021 (P : Params) : Obj := ⟨(.type "code"), .none, (.fields #[(.str (Str.ofString "clone") 1703), (.str (Str.ofString "Shelf.clone") 1704), (.str (Str.ofString "/claim/cut.py") 1705), (.int (775) 0), (.int (3) 0), (.int (0) 0), (.int (0) 0), (.int (3) 0), (.ref 1016), (.bool true), (.int (181) 0), (.ref 1017), .none, (.ref 1018), (.ref 1019), (.ref 1020), (.int (1711) 0), (.int (775) 0), (.str (Str.ofString "/claim/cut.py") 1712)]), #[]⟩
def o150_1022 (P : Params) : Obj := ⟨(.type "function"), .none, (.func ⟨(Str.ofString "clone"), (Str.ofString "Shelf.clone"), defArgs (inClass (top 142) 9), .stmts (defBody (inClass (top 142) 9)), defScope (inClass (top 142) 9), 3, [], .none, .none, .none, (.str (Str.ofString "plinth.shelf") 1559), .none, (.ref 1021), .none, 0⟩), #[]⟩
def o150_1023 (P : Params) : Obj := ⟨(.type "tuple"), .none, (.seq #[] 0), #[]⟩
def o150_1024 (P : Params) : Obj := ⟨.none, .none, (.fields #[]), #[]⟩
def o150_1025 (P : Params) : Obj := ⟨(.type "tuple"), .none, (.seq #[(.str (Str.ofString "self") 1717), (.str (Str.ofString "name") 1718), (.str (Str.ofString "at") 1719), (.str (Str.ofString "number") 1720), (.str (Str.ofString "binary") 1721)] 0), #[]⟩
def o150_1026 (P : Params) : Obj := ⟨(.type "tuple"), .none, (.seq #[] 0), #[]⟩
def o150_1027 (P : Params) : Obj := ⟨.none, .none, (.func ⟨(Str.ofString "damage"), (Str.ofString "Shelf.damage"), defArgs (inClass (top 142) 10), .stmts (defBody (inClass (top 142) 10)), defScope (inClass (top 142) 10), 0, [], .none, .none, .none, .none, .none, .none, .none, 0⟩), #[]⟩
def o150_1028 (P : Params) : Obj := ⟨(.type "code"), .none, (.fields #[(.str (Str.ofString "damage") 1714), (.str (Str.ofString "Shelf.damage") 1715), (.str (Str.ofString "/claim/cut.py") 1716), (.int (780) 0), (.int (4) 0), (.int (0) 0), (.int (0) 0), (.int (3) 0), (.ref 1023), (.bool true), (.int (181) 0), (.ref 1024), .none, (.ref 1025), (.ref 1026), (.ref 1027), (.int (1722) 0), (.int (780) 0), (.str (Str.ofString "/claim/cut.py") 1723)]), #[]⟩
def o150_1029 (P : Params) : Obj := ⟨(.type "function"), .none, (.func ⟨(Str.ofString "damage"), (Str.ofString "Shelf.damage"), defArgs (inClass (top 142) 10), .stmts (defBody (inClass (top 142) 10)), defScope (inClass (top 142) 10), 3, [], .none, .none, .none, (.str (Str.ofString "plinth.shelf") 1559), .none, (.ref 1028), .none, 0⟩), #[]⟩
def o150_1030 (P : Params) : Obj := ⟨(.type "tuple"), .none, (.seq #[] 0), #[]⟩
def o150_1031 (P : Params) : Obj := ⟨.none, .none, (.fields #[]), #[]⟩
def o150_1032 (P : Params) : Obj := ⟨(.type "tuple"), .none, (.seq #[(.str (Str.ofString "self") 1728), (.str (Str.ofString "name") 1729), (.str (Str.ofString "lure") 1730), (.str (Str.ofString "extra") 1731), (.str (Str.ofString "kept") 1732)] 0), #[]⟩
def o150_1033 (P : Params) : Obj := ⟨(.type "tuple"), .none, (.seq #[] 0), #[]⟩
def o150_1034 (P : Params) : Obj := ⟨.none, .none, (.func ⟨(Str.ofString "trap"), (Str.ofString "Shelf.trap"), defArgs (inClass (top 142) 11), .stmts (defBody (inClass (top 142) 11)), defScope (inClass (top 142) 11), 0, [], .none, .none, .none, .none, .none, .none, .none, 0⟩), #[]⟩
def o150_1035 (P : Params) : Obj := ⟨(.type "code"), .none, (.fields #[(.str (Str.ofString "trap") 1725), (.str (Str.ofString "Shelf.trap") 1726), (.str (Str.ofString "/claim/cut.py") 1727), (.int (789) 0), (.int (4) 0), (.int (0) 0), (.int (0) 0), (.int (3) 0), (.ref 1030), (.bool true), (.int (181) 0), (.ref 1031), .none, (.ref 1032), (.ref 1033), (.ref 1034), (.int (1733) 0), (.int (789) 0), (.str (Str.ofString "/claim/cut.py") 1734)]), #[]⟩
def o150_1036 (P : Params) : Obj := ⟨(.type "function"), .none, (.func ⟨(Str.ofString "trap"), (Str.ofString "Shelf.trap"), defArgs (inClass (top 142) 11), .stmts (defBody (inClass (top 142) 11)), defScope (inClass (top 142) 11), 3, [], .none, .none, .none, (.str (Str.ofString "plinth.shelf") 1559), .none, (.ref 1035), .none, 0⟩), #[]⟩
def o150_1037 (P : Params) : Obj := ⟨(.type "tuple"), .none, (.seq #[(.str (Str.ofString "entries") 1736)] 0), #[]⟩
def o150_1038 (P : Params) : Obj := ⟨(.type "dict"), .none, (.dict #[⟨PyData.keyHash P (Str.ofString "__module__"), (.str (Str.ofString "__module__") 1613), (.str (Str.ofString "plinth.shelf") 1559)⟩, ⟨PyData.keyHash P (Str.ofString "__firstlineno__"), (.str (Str.ofString "__firstlineno__") 1617), (.int (735) 1616)⟩, ⟨PyData.keyHash P (Str.ofString "__init__"), (.str (Str.ofString "__init__") 1624), (.ref 958)⟩, ⟨PyData.keyHash P (Str.ofString "entry"), (.str (Str.ofString "entry") 1632), (.ref 965)⟩, ⟨PyData.keyHash P (Str.ofString "names"), (.str (Str.ofString "names") 1639), (.ref 972)⟩, ⟨PyData.keyHash P (Str.ofString "kind"), (.str (Str.ofString "kind") 1647), (.ref 979)⟩, ⟨PyData.keyHash P (Str.ofString "text"), (.str (Str.ofString "text") 1655), (.ref 986)⟩, ⟨PyData.keyHash P (Str.ofString "binary"), (.str (Str.ofString "binary") 1663), (.ref 993)⟩, ⟨PyData.keyHash P (Str.ofString "put"), (.str (Str.ofString "put") 1674), (.ref 1000)⟩, ⟨PyData.keyHash P (Str.ofString "build"), (.str (Str.ofString "build") 1691), (.ref 1008)⟩, ⟨PyData.keyHash P (Str.ofString "swap"), (.str (Str.ofString "swap") 1702), (.ref 1015)⟩, ⟨PyData.keyHash P (Str.ofString "clone"), (.str (Str.ofString "clone") 1713), (.ref 1022)⟩, ⟨PyData.keyHash P (Str.ofString "damage"), (.str (Str.ofString "damage") 1724), (.ref 1029)⟩, ⟨PyData.keyHash P (Str.ofString "trap"), (.str (Str.ofString "trap") 1735), (.ref 1036)⟩, ⟨PyData.keyHash P (Str.ofString "__static_attributes__"), (.str (Str.ofString "__static_attributes__") 1737), (.ref 1037)⟩, ⟨PyData.keyHash P (Str.ofString "__dict__"), (.str (Str.ofString "__dict__") 1739), (.ref 1040)⟩, ⟨PyData.keyHash P (Str.ofString "__weakref__"), (.str (Str.ofString "__weakref__") 1741), (.ref 1041)⟩, ⟨PyData.keyHash P (Str.ofString "__doc__"), (.str (Str.ofString "__doc__") 1742), .none⟩] 4), #[]⟩
def o150_1039 (P : Params) : Obj := ⟨(.type "type"), .none, (.cls ⟨(Str.ofString "Shelf"), [(.type "object")], [(.ref 1039), (.type "object")], 1038, (Str.ofString "Shelf"), true, [], [], false, .none, false⟩), #[.none, .none, (.some (.str (Str.ofString "Shelf") 1606)), (.some (.str (Str.ofString "Shelf") 1614)), (.some (.builtin "object.__new__")), (.some (.bool true))]⟩
def o150_1040 (P : Params) : Obj := ⟨(.type "getset_descriptor"), .none, (.fields #[(.str (Str.ofString "__dict__") 1738), (.ref 1039), (.builtin "function.__dict__"), (.builtin "function.__dict__#set")]), #[]⟩
def o150_1041 (P : Params) : Obj := ⟨(.type "getset_descriptor"), .none, (.fields #[(.str (Str.ofString "__weakref__") 1740), (.ref 1039), (.builtin "ExceptionGroup.__weakref__"), .none]), #[]⟩
def o150_1042 (P : Params) : Obj := ⟨(.type "super"), .none, (.fields #[(.ref 1039), (.ref 1039), (.ref 1039)]), #[]⟩
def o150_1043 (P : Params) : Obj := ⟨(.type "builtin_function_or_method"), .none, (.fields #[(.builtin "object.__init_subclass__"), (.ref 1039)]), #[]⟩
def o150_1044 (P : Params) : Obj := ⟨(.type "tuple"), .none, (.seq #[(.int (33) 1747), (.int (34) 1748), (.int (35) 1749), (.int (36) 1750), (.int (38) 1751), (.int (40) 1752), (.int (41) 1753), (.int (42) 1754), (.int (43) 1755), (.int (44) 1756), (.int (45) 1757), (.int (46) 1758), (.int (60) 1759), (.int (61) 1760), (.int (63) 1761), (.int (64) 1762), (.int (92) 1763), (.int (94) 1764), (.int (95) 1765), (.int (126) 1766)] 0), #[]⟩
def o150_1045 (P : Params) : Obj := ⟨(.type "tuple"), .none, (.seq #[(.int (42) 1768), (.int (43) 1769), (.int (45) 1770), (.int (60) 1771), (.int (126) 1772)] 0), #[]⟩
def o150_1046 (P : Params) : Obj := ⟨(.type "tuple"), .none, (.seq #[] 0), #[]⟩
def o150_1047 (P : Params) : Obj := ⟨.none, .none, (.fields #[]), #[]⟩
def o150_1048 (P : Params) : Obj := ⟨(.type "tuple"), .none, (.seq #[(.str (Str.ofString "op") 1777)] 0), #[]⟩
def o150_1049 (P : Params) : Obj := ⟨(.type "tuple"), .none, (.seq #[] 0), #[]⟩
def o150_1050 (P : Params) : Obj := ⟨.none, .none, (.func ⟨(Str.ofString "is_letter"), (Str.ofString "is_letter"), defArgs (top 146), .stmts (defBody (top 146)), defScope (top 146), 0, [], .none, .none, .none, .none, .none, .none, .none, 0⟩), #[]⟩
def o150_1051 (P : Params) : Obj := ⟨(.type "code"), .none, (.fields #[(.str (Str.ofString "is_letter") 1774), (.str (Str.ofString "is_letter") 1775), (.str (Str.ofString "/claim/cut.py") 1776), (.int (795) 0), (.int (1) 0), (.int (0) 0), (.int (0) 0), (.int (3) 0), (.ref 1046), (.bool true), (.int (181) 0), (.ref 1047), .none, (.ref 1048), (.ref 1049), (.ref 1050), (.int (1778) 0), (.int (795) 0), (.str (Str.ofString "/claim/cut.py") 1779)]), #[]⟩
def o150_1052 (P : Params) : Obj := ⟨(.type "function"), .none, (.func ⟨(Str.ofString "is_letter"), (Str.ofString "is_letter"), defArgs (top 146), .stmts (defBody (top 146)), defScope (top 146), 3, [], .none, .none, .none, (.str (Str.ofString "plinth.threads") 1745), .none, (.ref 1051), .none, 0⟩), #[]⟩
def o150_1053 (P : Params) : Obj := ⟨(.type "tuple"), .none, (.seq #[] 0), #[]⟩
def o150_1054 (P : Params) : Obj := ⟨.none, .none, (.fields #[]), #[]⟩
def o150_1055 (P : Params) : Obj := ⟨(.type "tuple"), .none, (.seq #[(.str (Str.ofString "op") 1784)] 0), #[]⟩
def o150_1056 (P : Params) : Obj := ⟨(.type "tuple"), .none, (.seq #[] 0), #[]⟩
def o150_1057 (P : Params) : Obj := ⟨.none, .none, (.func ⟨(Str.ofString "is_nop"), (Str.ofString "is_nop"), defArgs (top 147), .stmts (defBody (top 147)), defScope (top 147), 0, [], .none, .none, .none, .none, .none, .none, .none, 0⟩), #[]⟩
def o150_1058 (P : Params) : Obj := ⟨(.type "code"), .none, (.fields #[(.str (Str.ofString "is_nop") 1781), (.str (Str.ofString "is_nop") 1782), (.str (Str.ofString "/claim/cut.py") 1783), (.int (797) 0), (.int (1) 0), (.int (0) 0), (.int (0) 0), (.int (3) 0), (.ref 1053), (.bool true), (.int (181) 0), (.ref 1054), .none, (.ref 1055), (.ref 1056), (.ref 1057), (.int (1785) 0), (.int (797) 0), (.str (Str.ofString "/claim/cut.py") 1786)]), #[]⟩
def o150_1059 (P : Params) : Obj := ⟨(.type "function"), .none, (.func ⟨(Str.ofString "is_nop"), (Str.ofString "is_nop"), defArgs (top 147), .stmts (defBody (top 147)), defScope (top 147), 3, [], .none, .none, .none, (.str (Str.ofString "plinth.threads") 1745), .none, (.ref 1058), .none, 0⟩), #[]⟩
def o150_1060 (P : Params) : Obj := ⟨(.type "tuple"), .none, (.seq #[] 0), #[]⟩
def o150_1061 (P : Params) : Obj := ⟨.none, .none, (.fields #[]), #[]⟩
def o150_1062 (P : Params) : Obj := ⟨(.type "tuple"), .none, (.seq #[(.str (Str.ofString "op") 1791), (.str (Str.ofString "x") 1792), (.str (Str.ofString "y") 1793)] 0), #[]⟩
def o150_1063 (P : Params) : Obj := ⟨(.type "tuple"), .none, (.seq #[] 0), #[]⟩
def o150_1064 (P : Params) : Obj := ⟨.none, .none, (.func ⟨(Str.ofString "combined"), (Str.ofString "combined"), defArgs (top 148), .stmts (defBody (top 148)), defScope (top 148), 0, [], .none, .none, .none, .none, .none, .none, .none, 0⟩), #[]⟩
def o150_1065 (P : Params) : Obj := ⟨(.type "code"), .none, (.fields #[(.str (Str.ofString "combined") 1788), (.str (Str.ofString "combined") 1789), (.str (Str.ofString "/claim/cut.py") 1790), (.int (799) 0), (.int (3) 0), (.int (0) 0), (.int (0) 0), (.int (3) 0), (.ref 1060), (.bool true), (.int (181) 0), (.ref 1061), .none, (.ref 1062), (.ref 1063), (.ref 1064), (.int (1794) 0), (.int (799) 0), (.str (Str.ofString "/claim/cut.py") 1795)]), #[]⟩
def o150_1066 (P : Params) : Obj := ⟨(.type "function"), .none, (.func ⟨(Str.ofString "combined"), (Str.ofString "combined"), defArgs (top 148), .stmts (defBody (top 148)), defScope (top 148), 3, [], .none, .none, .none, (.str (Str.ofString "plinth.threads") 1745), .none, (.ref 1065), .none, 0⟩), #[]⟩
def o150_1067 (P : Params) : Obj := ⟨(.type "tuple"), .none, (.seq #[] 0), #[]⟩
def o150_1068 (P : Params) : Obj := ⟨.none, .none, (.fields #[]), #[]⟩
def o150_1069 (P : Params) : Obj := ⟨(.type "tuple"), .none, (.seq #[(.str (Str.ofString "table") 1800), (.str (Str.ofString "cells") 1801), (.str (Str.ofString "number") 1802), (.str (Str.ofString "op") 1803), (.str (Str.ofString "arg") 1804), (.str (Str.ofString "successor") 1805)] 0), #[]⟩
def o150_1070 (P : Params) : Obj := ⟨(.type "tuple"), .none, (.seq #[] 0), #[]⟩
def o150_1071 (P : Params) : Obj := ⟨.none, .none, (.func ⟨(Str.ofString "written"), (Str.ofString "written"), defArgs (top 149), .stmts (defBody (top 149)), defScope (top 149), 0, [], .none, .none, .none, .none, .none, .none, .none, 0⟩), #[]⟩
def o150_1072 (P : Params) : Obj := ⟨(.type "code"), .none, (.fields #[(.str (Str.ofString "written") 1797), (.str (Str.ofString "written") 1798), (.str (Str.ofString "/claim/cut.py") 1799), (.int (809) 0), (.int (1) 0), (.int (0) 0), (.int (0) 0), (.int (3) 0), (.ref 1067), (.bool true), (.int (181) 0), (.ref 1068), .none, (.ref 1069), (.ref 1070), (.ref 1071), (.int (1806) 0), (.int (809) 0), (.str (Str.ofString "/claim/cut.py") 1807)]), #[]⟩
def o150_1073 (P : Params) : Obj := ⟨(.type "function"), .none, (.func ⟨(Str.ofString "written"), (Str.ofString "written"), defArgs (top 149), .stmts (defBody (top 149)), defScope (top 149), 3, [], .none, .none, .none, (.str (Str.ofString "plinth.threads") 1745), .none, (.ref 1072), .none, 0⟩), #[]⟩
def T150 (P : Params) : BT := (.node (boot_o_0 P) (.node (boot_o_1 P) (.node (o150_3 P) (.node (boot_o_7 P) (.node (o20_15 P) (.node (o20_31 P) (.node (o20_63 P) (.node (o20_127 P) (.node (o84_255 P) (.node (o84_511 P) (.node (o150_1023 P) .nil .nil) .nil) (.node (o150_767 P) .nil .nil)) (.node (o84_383 P) (.node (o150_639 P) .nil .nil) (.node (o150_895 P) .nil .nil))) (.node (o20_191 P) (.node (o84_319 P) (.node (o84_575 P) .nil .nil) (.node (o150_831 P) .nil .nil)) (.node (o84_447 P) (.node (o150_703 P) .nil .nil) (.node (o150_959 P) .nil .nil)))) (.node (o20_95 P) (.node (o20_159 P) (.node (o84_287 P) (.node (o84_543 P) (.node (o150_1055 P) .nil .nil) .nil) (.node (o150_799 P) .nil .nil)) (.node (o84_415 P) (.node (o150_671 P) .nil .nil) (.node (o150_927 P) .nil .nil))) (.node (o84_223 P) (.node (o84_351 P) (.node (o150_607 P) .nil .nil) (.node (o150_863 P) .nil .nil)) (.node (o84_479 P) (.node (o150_735 P) .nil .nil) (.node (o150_991 P) .nil .nil))))) (.node (o20_47 P) (.node (o20_79 P) (.node (o20_143 P) (.node (o84_271 P) (.node (o84_527 P) (.node (o150_1039 P) .nil .nil) .nil) (.node (o150_783 P) .nil .nil)) (.node (o84_399 P) (.node (o150_655 P) .nil .nil) (.node (o150_911 P) .nil .nil))) (.node (o20_207 P) (.node (o84_335 P) (.node (o84_591 P) .nil .nil) (.node (o150_847 P) .nil .nil)) (.node (o84_463 P) (.node (o150_719 P) .nil .nil) (.node (o150_975 P) .nil .nil)))) (.node (o20_111 P) (.node (o20_175 P) (.node (o84_303 P) (.node (o84_559 P) (.node (o150_1071 P) .nil .nil) .nil) (.node (o150_815 P) .nil .nil)) (.node (o84_431 P) (.node (o150_687 P) .nil .nil) (.node (o150_943 P) .nil .nil))) (.node (o84_239 P) (.node (o84_367 P) (.node (o150_623 P) .nil .nil) (.node (o150_879 P) .nil .nil)) (.node (o84_495 P) (.node (o150_751 P) .nil .nil) (.node (o150_1007 P) .nil .nil)))))) (.node (o20_23 P) (.node (o20_39 P) (.node (o20_71 P) (.node (o20_135 P) (.node (o84_263 P) (.node (o84_519 P) (.node (o150_1031 P) .nil .nil) .nil) (.node (o150_775 P) .nil .nil)) (.node (o84_391 P) (.node (o150_647 P) .nil .nil) (.node (o150_903 P) .nil .nil))) (.node (o20_199 P) (.node (o84_327 P) (.node (o84_583 P) .nil .nil) (.node (o150_839 P) .nil .nil)) (.node (o84_455 P) (.node (o150_711 P) .nil .nil) (.node (o150_967 P) .nil .nil)))) (.node (o20_103 P) (.node (o20_167 P) (.node (o84_295 P) (.node (o84_551 P) (.node (o150_1063 P) .nil .nil) .nil) (.node (o150_807 P) .nil .nil)) (.node (o84_423 P) (.node (o150_679 P) .nil .nil) (.node (o150_935 P) .nil .nil))) (.node (o84_231 P) (.node (o84_359 P) (.node (o150_615 P) .nil .nil) (.node (o150_871 P) .nil .nil)) (.node (o84_487 P) (.node (o150_743 P) .nil .nil) (.node (o150_999 P) .nil .nil))))) (.node (o20_55 P) (.node (o20_87 P) (.node (o20_151 P) (.node (o84_279 P) (.node (o84_535 P) (.node (o150_1047 P) .nil .nil) .nil) (.node (o150_791 P) .nil .nil)) (.node (o84_407 P) (.node (o150_663 P) .nil .nil) (.node (o150_919 P) .nil .nil))) (.node (o84_215 P) (.node (o84_343 P) (.node (o84_599 P) .nil .nil) (.node (o150_855 P) .nil .nil)) (.node (o84_471 P) (.node (o150_727 P) .nil .nil) (.node (o150_983 P) .nil .nil)))) (.node (o20_119 P) (.node (o20_183 P) (.node (o84_311 P) (.node (o84_567 P) .nil .nil) (.node (o150_823 P) .nil .nil)) (.node (o84_439 P) (.node (o150_695 P) .nil .nil) (.node (o150_951 P) .nil .nil))) (.node (o84_247 P) (.node (o84_375 P) (.node (o150_631 P) .nil .nil) (.node (o150_887 P) .nil .nil)) (.node (o84_503 P) (.node (o150_759 P) .nil .nil) (.node (o150_1015 P) .nil .nil))))))) (.node (oa_11 P) (.node (o20_19 P) (.node (o20_35 P) (.node (o20_67 P) (.node (o20_131 P) (.node (o84_259 P) (.node (o84_515 P) (.node (o150_1027 P) .nil .nil) .nil) (.node (o150_771 P) .nil .nil)) (.node (o84_387 P) (.node (o150_643 P) .nil .nil) (.node (o150_899 P) .nil .nil))) (.node (o20_195 P) (.node (o84_323 P) (.node (o84_579 P) .nil .nil) (.node (o150_835 P) .nil .nil)) (.node (o84_451 P) (.node (o150_707 P) .nil .nil) (.node (o150_963 P) .nil .nil)))) (.node (o20_99 P) (.node (o20_163 P) (.node (o84_291 P) (.node (o84_547 P) (.node (o150_1059 P) .nil .nil) .nil) (.node (o150_803 P) .nil .nil)) (.node (o84_419 P) (.node (o150_675 P) .nil .nil) (.node (o150_931 P) .nil .nil))) (.node (o84_227 P) (.node (o84_355 P) (.node (o150_611 P) .nil .nil) (.node (o150_867 P) .nil .nil)) (.node (o84_483 P) (.node (o150_739 P) .nil .nil) (.node (o150_995 P) .nil .nil))))) (.node (o20_51 P) (.node (o20_83 P) (.node (o20_147 P) (.node (o84_275 P) (.node (o84_531 P) (.node (o150_1043 P) .nil .nil) .nil) (.node (o150_787 P) .nil .nil)) (.node (o84_403 P) (.node (o150_659 P) .nil .nil) (.node (o150_915 P) .nil .nil))) (.node (o20_211 P) (.node (o84_339 P) (.node (o84_595 P) .nil .nil) (.node (o150_851 P) .nil .nil)) (.node (o84_467 P) (.node (o150_723 P) .nil .nil) (.node (o150_979 P) .nil .nil)))) (.node (o20_115 P) (.node (o20_179 P) (.node (o84_307 P) (.node (o84_563 P) .nil .nil) (.node (o150_819 P) .nil .nil)) (.node (o84_435 P) (.node (o150_691 P) .nil .nil) (.node (o150_947 P) .nil .nil))) (.node (o84_243 P) (.node (o84_371 P) (.node (o150_627 P) .nil .nil) (.node (o150_883 P) .nil .nil)) (.node (o84_499 P) (.node (o150_755 P) .nil .nil) (.node (o150_1011 P) .nil .nil)))))) (.node (o20_27 P) (.node (o20_43 P) (.node (o20_75 P) (.node (o20_139 P) (.node (o84_267 P) (.node (o84_523 P) (.node (o150_1035 P) .nil .nil) .nil) (.node (o150_779 P) .nil .nil)) (.node (o84_395 P) (.node (o150_651 P) .nil .nil) (.node (o150_907 P) .nil .nil))) (.node (o20_203 P) (.node (o84_331 P) (.node (o84_587 P) .nil .nil) (.node (o150_843 P) .nil .nil)) (.node (o84_459 P) (.node (o150_715 P) .nil .nil) (.node (o150_971 P) .nil .nil)))) (.node (o20_107 P) (.node (o20_171 P) (.node (o84_299 P) (.node (o84_555 P) (.node (o150_1067 P) .nil .nil) .nil) (.node (o150_811 P) .nil .nil)) (.node (o84_427 P) (.node (o150_683 P) .nil .nil) (.node (o150_939 P) .nil .nil))) (.node (o84_235 P) (.node (o84_363 P) (.node (o150_619 P) .nil .nil) (.node (o150_875 P) .nil .nil)) (.node (o84_491 P) (.node (o150_747 P) .nil .nil) (.node (o150_1003 P) .nil .nil))))) (.node (o20_59 P) (.node (o20_91 P) (.node (o20_155 P) (.node (o84_283 P) (.node (o84_539 P) (.node (o150_1051 P) .nil .nil) .nil) (.node (o150_795 P) .nil .nil)) (.node (o84_411 P) (.node (o150_667 P) .nil .nil) (.node (o150_923 P) .nil .nil))) (.node (o84_219 P) (.node (o84_347 P) (.node (o84_603 P) .nil .nil) (.node (o150_859 P) .nil .nil)) (.node (o84_475 P) (.node (o150_731 P) .nil .nil) (.node (o150_987 P) .nil .nil)))) (.node (o20_123 P) (.node (o20_187 P) (.node (o84_315 P) (.node (o84_571 P) .nil .nil) (.node (o150_827 P) .nil .nil)) (.node (o84_443 P) (.node (o150_699 P) .nil .nil) (.node (o150_955 P) .nil .nil))) (.node (o84_251 P) (.node (o84_379 P) (.node (o150_635 P) .nil .nil) (.node (o150_891 P) .nil .nil)) (.node (o84_507 P) (.node (o150_763 P) .nil .nil) (.node (o150_1019 P) .nil .nil)))))))) (.node (boot_o_5 P) (.node (boot_o_9 P) (.node (o20_17 P) (.node (o20_33 P) (.node (o20_65 P) (.node (o20_129 P) (.node (o84_257 P) (.node (o84_513 P) (.node (o150_1025 P) .nil .nil) .nil) (.node (o150_769 P) .nil .nil)) (.node (o84_385 P) (.node (o150_641 P) .nil .nil) (.node (o150_897 P) .nil .nil))) (.node (o20_193 P) (.node (o84_321 P) (.node (o84_577 P) .nil .nil) (.node (o150_833 P) .nil .nil)) (.node (o84_449 P) (.node (o150_705 P) .nil .nil) (.node (o150_961 P) .nil .nil)))) (.node (o20_97 P) (.node (o20_161 P) (.node (o84_289 P) (.node (o84_545 P) (.node (o150_1057 P) .nil .nil) .nil) (.node (o150_801 P) .nil .nil)) (.node (o84_417 P) (.node (o150_673 P) .nil .nil) (.node (o150_929 P) .nil .nil))) (.node (o84_225 P) (.node (o84_353 P) (.node (o150_609 P) .nil .nil) (.node (o150_865 P) .nil .nil)) (.node (o84_481 P) (.node (o150_737 P) .nil .nil) (.node (o150_993 P) .nil .nil))))) (.node (o20_49 P) (.node (o20_81 P) (.node (o20_145 P) (.node (o84_273 P) (.node (o84_529 P) (.node (o150_1041 P) .nil .nil) .nil) (.node (o150_785 P) .nil .nil)) (.node (o84_401 P) (.node (o150_657 P) .nil .nil) (.node (o150_913 P) .nil .nil))) (.node (o20_209 P) (.node (o84_337 P) (.node (o84_593 P) .nil .nil) (.node (o150_849 P) .nil .nil)) (.node (o84_465 P) (.node (o150_721 P) .nil .nil) (.node (o150_977 P) .nil .nil)))) (.node (o20_113 P) (.node (o20_177 P) (.node (o84_305 P) (.node (o84_561 P) (.node (o150_1073 P) .nil .nil) .nil) (.node (o150_817 P) .nil .nil)) (.node (o84_433 P) (.node (o150_689 P) .nil .nil) (.node (o150_945 P) .nil .nil))) (.node (o84_241 P) (.node (o84_369 P) (.node (o150_625 P) .nil .nil) (.node (o150_881 P) .nil .nil)) (.node (o84_497 P) (.node (o150_753 P) .nil .nil) (.node (o150_1009 P) .nil .nil)))))) (.node (o20_25 P) (.node (o20_41 P) (.node (o20_73 P) (.node (o20_137 P) (.node (o84_265 P) (.node (o84_521 P) (.node (o150_1033 P) .nil .nil) .nil) (.node (o150_777 P) .nil .nil)) (.node (o84_393 P) (.node (o150_649 P) .nil .nil) (.node (o150_905 P) .nil .nil))) (.node (o20_201 P) (.node (o84_329 P) (.node (o84_585 P) .nil .nil) (.node (o150_841 P) .nil .nil)) (.node (o84_457 P) (.node (o150_713 P) .nil .nil) (.node (o150_969 P) .nil .nil)))) (.node (o20_105 P) (.node (o20_169 P) (.node (o84_297 P) (.node (o84_553 P) (.node (o150_1065 P) .nil .nil) .nil) (.node (o150_809 P) .nil .nil)) (.node (o84_425 P) (.node (o150_681 P) .nil .nil) (.node (o150_937 P) .nil .nil))) (.node (o84_233 P) (.node (o84_361 P) (.node (o150_617 P) .nil .nil) (.node (o150_873 P) .nil .nil)) (.node (o84_489 P) (.node (o150_745 P) .nil .nil) (.node (o150_1001 P) .nil .nil))))) (.node (o20_57 P) (.node (o20_89 P) (.node (o20_153 P) (.node (o84_281 P) (.node (o84_537 P) (.node (o150_1049 P) .nil .nil) .nil) (.node (o150_793 P) .nil .nil)) (.node (o84_409 P) (.node (o150_665 P) .nil .nil) (.node (o150_921 P) .nil .nil))) (.node (o84_217 P) (.node (o84_345 P) (.node (o84_601 P) .nil .nil) (.node (o150_857 P) .nil .nil)) (.node (o84_473 P) (.node (o150_729 P) .nil .nil) (.node (o150_985 P) .nil .nil)))) (.node (o20_121 P) (.node (o20_185 P) (.node (o84_313 P) (.node (o84_569 P) .nil .nil) (.node (o150_825 P) .nil .nil)) (.node (o84_441 P) (.node (o150_697 P) .nil .nil) (.node (o150_953 P) .nil .nil))) (.node (o84_249 P) (.node (o84_377 P) (.node (o150_633 P) .nil .nil) (.node (o150_889 P) .nil .nil)) (.node (o84_505 P) (.node (o150_761 P) .nil .nil) (.node (o150_1017 P) .nil .nil))))))) (.node (oa_13 P) (.node (o20_21 P) (.node (o20_37 P) (.node (o20_69 P) (.node (o20_133 P) (.node (o84_261 P) (.node (o84_517 P) (.node (o150_1029 P) .nil .nil) .nil) (.node (o150_773 P) .nil .nil)) (.node (o84_389 P) (.node (o150_645 P) .nil .nil) (.node (o150_901 P) .nil .nil))) (.node (o20_197 P) (.node (o84_325 P) (.node (o84_581 P) .nil .nil) (.node (o150_837 P) .nil .nil)) (.node (o84_453 P) (.node (o150_709 P) .nil .nil) (.node (o150_965 P) .nil .nil)))) (.node (o20_101 P) (.node (o20_165 P) (.node (o84_293 P) (.node (o84_549 P) (.node (o150_1061 P) .nil .nil) .nil) (.node (o150_805 P) .nil .nil)) (.node (o84_421 P) (.node (o150_677 P) .nil .nil) (.node (o150_933 P) .nil .nil))) (.node (o84_229 P) (.node (o84_357 P) (.node (o150_613 P) .nil .nil) (.node (o150_869 P) .nil .nil)) (.node (o84_485 P) (.node (o150_741 P) .nil .nil) (.node (o150_997 P) .nil .nil))))) (.node (o20_53 P) (.node (o20_85 P) (.node (o20_149 P) (.node (o84_277 P) (.node (o84_533 P) (.node (o150_1045 P) .nil .nil) .nil) (.node (o150_789 P) .nil .nil)) (.node (o84_405 P) (.node (o150_661 P) .nil .nil) (.node (o150_917 P) .nil .nil))) (.node (o84_213 P) (.node (o84_341 P) (.node (o84_597 P) .nil .nil) (.node (o150_853 P) .nil .nil)) (.node (o84_469 P) (.node (o150_725 P) .nil .nil) (.node (o150_981 P) .nil .nil)))) (.node (o20_117 P) (.node (o20_181 P) (.node (o84_309 P) (.node (o84_565 P) .nil .nil) (.node (o150_821 P) .nil .nil)) (.node (o84_437 P) (.node (o150_693 P) .nil .nil) (.node (o150_949 P) .nil .nil))) (.node (o84_245 P) (.node (o84_373 P) (.node (o150_629 P) .nil .nil) (.node (o150_885 P) .nil .nil)) (.node (o84_501 P) (.node (o150_757 P) .nil .nil) (.node (o150_1013 P) .nil .nil)))))) (.node (o20_29 P) (.node (o20_45 P) (.node (o20_77 P) (.node (o20_141 P) (.node (o84_269 P) (.node (o84_525 P) (.node (o150_1037 P) .nil .nil) .nil) (.node (o150_781 P) .nil .nil)) (.node (o84_397 P) (.node (o150_653 P) .nil .nil) (.node (o150_909 P) .nil .nil))) (.node (o20_205 P) (.node (o84_333 P) (.node (o84_589 P) .nil .nil) (.node (o150_845 P) .nil .nil)) (.node (o84_461 P) (.node (o150_717 P) .nil .nil) (.node (o150_973 P) .nil .nil)))) (.node (o20_109 P) (.node (o20_173 P) (.node (o84_301 P) (.node (o84_557 P) (.node (o150_1069 P) .nil .nil) .nil) (.node (o150_813 P) .nil .nil)) (.node (o84_429 P) (.node (o150_685 P) .nil .nil) (.node (o150_941 P) .nil .nil))) (.node (o84_237 P) (.node (o84_365 P) (.node (o150_621 P) .nil .nil) (.node (o150_877 P) .nil .nil)) (.node (o84_493 P) (.node (o150_749 P) .nil .nil) (.node (o150_1005 P) .nil .nil))))) (.node (o20_61 P) (.node (o20_93 P) (.node (o20_157 P) (.node (o84_285 P) (.node (o84_541 P) (.node (o150_1053 P) .nil .nil) .nil) (.node (o150_797 P) .nil .nil)) (.node (o84_413 P) (.node (o150_669 P) .nil .nil) (.node (o150_925 P) .nil .nil))) (.node (o84_221 P) (.node (o84_349 P) (.node (o85_605 P) .nil .nil) (.node (o150_861 P) .nil .nil)) (.node (o84_477 P) (.node (o150_733 P) .nil .nil) (.node (o150_989 P) .nil .nil)))) (.node (o20_125 P) (.node (o20_189 P) (.node (o84_317 P) (.node (o84_573 P) .nil .nil) (.node (o150_829 P) .nil .nil)) (.node (o84_445 P) (.node (o150_701 P) .nil .nil) (.node (o150_957 P) .nil .nil))) (.node (o84_253 P) (.node (o84_381 P) (.node (o150_637 P) .nil .nil) (.node (o150_893 P) .nil .nil)) (.node (o84_509 P) (.node (o150_765 P) .nil .nil) (.node (o150_1021 P) .nil .nil))))))))) (.node (boot_o_2 P) (.node (boot_o_4 P) (.node (boot_o_8 P) (.node (o20_16 P) (.node (o20_32 P) (.node (o20_64 P) (.node (o20_128 P) (.node (o84_256 P) (.node (o84_512 P) (.node (o150_1024 P) .nil .nil) .nil) (.node (o150_768 P) .nil .nil)) (.node (o84_384 P) (.node (o150_640 P) .nil .nil) (.node (o150_896 P) .nil .nil))) (.node (o20_192 P) (.node (o84_320 P) (.node (o84_576 P) .nil .nil) (.node (o150_832 P) .nil .nil)) (.node (o84_448 P) (.node (o150_704 P) .nil .nil) (.node (o150_960 P) .nil .nil)))) (.node (o20_96 P) (.node (o20_160 P) (.node (o84_288 P) (.node (o84_544 P) (.node (o150_1056 P) .nil .nil) .nil) (.node (o150_800 P) .nil .nil)) (.node (o84_416 P) (.node (o150_672 P) .nil .nil) (.node (o150_928 P) .nil .nil))) (.node (o84_224 P) (.node (o84_352 P) (.node (o150_608 P) .nil .nil) (.node (o150_864 P) .nil .nil)) (.node (o84_480 P) (.node (o150_736 P) .nil .nil) (.node (o150_992 P) .nil .nil))))) (.node (o20_48 P) (.node (o20_80 P) (.node (o20_144 P) (.node (o84_272 P) (.node (o84_528 P) (.node (o150_1040 P) .nil .nil) .nil) (.node (o150_784 P) .nil .nil)) (.node (o84_400 P) (.node (o150_656 P) .nil .nil) (.node (o150_912 P) .nil .nil))) (.node (o20_208 P) (.node (o84_336 P) (.node (o84_592 P) .nil .nil) (.node (o150_848 P) .nil .nil)) (.node (o84_464 P) (.node (o150_720 P) .nil .nil) (.node (o150_976 P) .nil .nil)))) (.node (o20_112 P) (.node (o20_176 P) (.node (o84_304 P) (.node (o84_560 P) (.node (o150_1072 P) .nil .nil) .nil) (.node (o150_816 P) .nil .nil)) (.node (o84_432 P) (.node (o150_688 P) .nil .nil) (.node (o150_944 P) .nil .nil))) (.node (o84_240 P) (.node (o84_368 P) (.node (o150_624 P) .nil .nil) (.node (o150_880 P) .nil .nil)) (.node (o84_496 P) (.node (o150_752 P) .nil .nil) (.node (o150_1008 P) .nil .nil)))))) (.node (o20_24 P) (.node (o20_40 P) (.node (o20_72 P) (.node (o20_136 P) (.node (o84_264 P) (.node (o84_520 P) (.node (o150_1032 P) .nil .nil) .nil) (.node (o150_776 P) .nil .nil)) (.node (o84_392 P) (.node (o150_648 P) .nil .nil) (.node (o150_904 P) .nil .nil))) (.node (o20_200 P) (.node (o84_328 P) (.node (o84_584 P) .nil .nil) (.node (o150_840 P) .nil .nil)) (.node (o84_456 P) (.node (o150_712 P) .nil .nil) (.node (o150_968 P) .nil .nil)))) (.node (o20_104 P) (.node (o20_168 P) (.node (o84_296 P) (.node (o84_552 P) (.node (o150_1064 P) .nil .nil) .nil) (.node (o150_808 P) .nil .nil)) (.node (o84_424 P) (.node (o150_680 P) .nil .nil) (.node (o150_936 P) .nil .nil))) (.node (o84_232 P) (.node (o84_360 P) (.node (o150_616 P) .nil .nil) (.node (o150_872 P) .nil .nil)) (.node (o84_488 P) (.node (o150_744 P) .nil .nil) (.node (o150_1000 P) .nil .nil))))) (.node (o20_56 P) (.node (o20_88 P) (.node (o20_152 P) (.node (o84_280 P) (.node (o84_536 P) (.node (o150_1048 P) .nil .nil) .nil) (.node (o150_792 P) .nil .nil)) (.node (o84_408 P) (.node (o150_664 P) .nil .nil) (.node (o150_920 P) .nil .nil))) (.node (o84_216 P) (.node (o84_344 P) (.node (o84_600 P) .nil .nil) (.node (o150_856 P) .nil .nil)) (.node (o84_472 P) (.node (o150_728 P) .nil .nil) (.node (o150_984 P) .nil .nil)))) (.node (o20_120 P) (.node (o20_184 P) (.node (o84_312 P) (.node (o84_568 P) .nil .nil) (.node (o150_824 P) .nil .nil)) (.node (o84_440 P) (.node (o150_696 P) .nil .nil) (.node (o150_952 P) .nil .nil))) (.node (o84_248 P) (.node (o84_376 P) (.node (o150_632 P) .nil .nil) (.node (o150_888 P) .nil .nil)) (.node (o84_504 P) (.node (o150_760 P) .nil .nil) (.node (o150_1016 P) .nil .nil))))))) (.node (o150_12 P) (.node (o20_20 P) (.node (o20_36 P) (.node (o20_68 P) (.node (o20_132 P) (.node (o84_260 P) (.node (o84_516 P) (.node (o150_1028 P) .nil .nil) .nil) (.node (o150_772 P) .nil .nil)) (.node (o84_388 P) (.node (o150_644 P) .nil .nil) (.node (o150_900 P) .nil .nil))) (.node (o20_196 P) (.node (o84_324 P) (.node (o84_580 P) .nil .nil) (.node (o150_836 P) .nil .nil)) (.node (o84_452 P) (.node (o150_708 P) .nil .nil) (.node (o150_964 P) .nil .nil)))) (.node (o20_100 P) (.node (o20_164 P) (.node (o84_292 P) (.node (o84_548 P) (.node (o150_1060 P) .nil .nil) .nil) (.node (o150_804 P) .nil .nil)) (.node (o84_420 P) (.node (o150_676 P) .nil .nil) (.node (o150_932 P) .nil .nil))) (.node (o84_228 P) (.node (o84_356 P) (.node (o150_612 P) .nil .nil) (.node (o150_868 P) .nil .nil)) (.node (o84_484 P) (.node (o150_740 P) .nil .nil) (.node (o150_996 P) .nil .nil))))) (.node (o20_52 P) (.node (o20_84 P) (.node (o20_148 P) (.node (o84_276 P) (.node (o84_532 P) (.node (o150_1044 P) .nil .nil) .nil) (.node (o150_788 P) .nil .nil)) (.node (o84_404 P) (.node (o150_660 P) .nil .nil) (.node (o150_916 P) .nil .nil))) (.node (o84_212 P) (.node (o84_340 P) (.node (o84_596 P) .nil .nil) (.node (o150_852 P) .nil .nil)) (.node (o84_468 P) (.node (o150_724 P) .nil .nil) (.node (o150_980 P) .nil .nil)))) (.node (o20_116 P) (.node (o20_180 P) (.node (o84_308 P) (.node (o84_564 P) .nil .nil) (.node (o150_820 P) .nil .nil)) (.node (o84_436 P) (.node (o150_692 P) .nil .nil) (.node (o150_948 P) .nil .nil))) (.node (o84_244 P) (.node (o84_372 P) (.node (o150_628 P) .nil .nil) (.node (o150_884 P) .nil .nil)) (.node (o84_500 P) (.node (o150_756 P) .nil .nil) (.node (o150_1012 P) .nil .nil)))))) (.node (o20_28 P) (.node (o20_44 P) (.node (o20_76 P) (.node (o20_140 P) (.node (o84_268 P) (.node (o84_524 P) (.node (o150_1036 P) .nil .nil) .nil) (.node (o150_780 P) .nil .nil)) (.node (o84_396 P) (.node (o150_652 P) .nil .nil) (.node (o150_908 P) .nil .nil))) (.node (o20_204 P) (.node (o84_332 P) (.node (o84_588 P) .nil .nil) (.node (o150_844 P) .nil .nil)) (.node (o84_460 P) (.node (o150_716 P) .nil .nil) (.node (o150_972 P) .nil .nil)))) (.node (o20_108 P) (.node (o20_172 P) (.node (o84_300 P) (.node (o84_556 P) (.node (o150_1068 P) .nil .nil) .nil) (.node (o150_812 P) .nil .nil)) (.node (o84_428 P) (.node (o150_684 P) .nil .nil) (.node (o150_940 P) .nil .nil))) (.node (o84_236 P) (.node (o84_364 P) (.node (o150_620 P) .nil .nil) (.node (o150_876 P) .nil .nil)) (.node (o84_492 P) (.node (o150_748 P) .nil .nil) (.node (o150_1004 P) .nil .nil))))) (.node (o20_60 P) (.node (o20_92 P) (.node (o20_156 P) (.node (o84_284 P) (.node (o84_540 P) (.node (o150_1052 P) .nil .nil) .nil) (.node (o150_796 P) .nil .nil)) (.node (o84_412 P) (.node (o150_668 P) .nil .nil) (.node (o150_924 P) .nil .nil))) (.node (o84_220 P) (.node (o84_348 P) (.node (o84_604 P) .nil .nil) (.node (o150_860 P) .nil .nil)) (.node (o84_476 P) (.node (o150_732 P) .nil .nil) (.node (o150_988 P) .nil .nil)))) (.node (o20_124 P) (.node (o20_188 P) (.node (o84_316 P) (.node (o84_572 P) .nil .nil) (.node (o150_828 P) .nil .nil)) (.node (o84_444 P) (.node (o150_700 P) .nil .nil) (.node (o150_956 P) .nil .nil))) (.node (o84_252 P) (.node (o84_380 P) (.node (o150_636 P) .nil .nil) (.node (o150_892 P) .nil .nil)) (.node (o84_508 P) (.node (o150_764 P) .nil .nil) (.node (o150_1020 P) .nil .nil)))))))) (.node (boot_o_6 P) (.node (boot_o_10 P) (.node (o20_18 P) (.node (o20_34 P) (.node (o20_66 P) (.node (o20_130 P) (.node (o84_258 P) (.node (o84_514 P) (.node (o150_1026 P) .nil .nil) .nil) (.node (o150_770 P) .nil .nil)) (.node (o84_386 P) (.node (o150_642 P) .nil .nil) (.node (o150_898 P) .nil .nil))) (.node (o20_194 P) (.node (o84_322 P) (.node (o84_578 P) .nil .nil) (.node (o150_834 P) .nil .nil)) (.node (o84_450 P) (.node (o150_706 P) .nil .nil) (.node (o150_962 P) .nil .nil)))) (.node (o20_98 P) (.node (o20_162 P) (.node (o84_290 P) (.node (o84_546 P) (.node (o150_1058 P) .nil .nil) .nil) (.node (o150_802 P) .nil .nil)) (.node (o84_418 P) (.node (o150_674 P) .nil .nil) (.node (o150_930 P) .nil .nil))) (.node (o84_226 P) (.node (o84_354 P) (.node (o150_610 P) .nil .nil) (.node (o150_866 P) .nil .nil)) (.node (o84_482 P) (.node (o150_738 P) .nil .nil) (.node (o150_994 P) .nil .nil))))) (.node (o20_50 P) (.node (o20_82 P) (.node (o20_146 P) (.node (o84_274 P) (.node (o84_530 P) (.node (o150_1042 P) .nil .nil) .nil) (.node (o150_786 P) .nil .nil)) (.node (o84_402 P) (.node (o150_658 P) .nil .nil) (.node (o150_914 P) .nil .nil))) (.node (o20_210 P) (.node (o84_338 P) (.node (o84_594 P) .nil .nil) (.node (o150_850 P) .nil .nil)) (.node (o84_466 P) (.node (o150_722 P) .nil .nil) (.node (o150_978 P) .nil .nil)))) (.node (o20_114 P) (.node (o20_178 P) (.node (o84_306 P) (.node (o84_562 P) .nil .nil) (.node (o150_818 P) .nil .nil)) (.node (o84_434 P) (.node (o150_690 P) .nil .nil) (.node (o150_946 P) .nil .nil))) (.node (o84_242 P) (.node (o84_370 P) (.node (o150_626 P) .nil .nil) (.node (o150_882 P) .nil .nil)) (.node (o84_498 P) (.node (o150_754 P) .nil .nil) (.node (o150_1010 P) .nil .nil)))))) (.node (o20_26 P) (.node (o20_42 P) (.node (o20_74 P) (.node (o20_138 P) (.node (o84_266 P) (.node (o84_522 P) (.node (o150_1034 P) .nil .nil) .nil) (.node (o150_778 P) .nil .nil)) (.node (o84_394 P) (.node (o150_650 P) .nil .nil) (.node (o150_906 P) .nil .nil))) (.node (o20_202 P) (.node (o84_330 P) (.node (o84_586 P) .nil .nil) (.node (o150_842 P) .nil .nil)) (.node (o84_458 P) (.node (o150_714 P) .nil .nil) (.node (o150_970 P) .nil .nil)))) (.node (o20_106 P) (.node (o20_170 P) (.node (o84_298 P) (.node (o84_554 P) (.node (o150_1066 P) .nil .nil) .nil) (.node (o150_810 P) .nil .nil)) (.node (o84_426 P) (.node (o150_682 P) .nil .nil) (.node (o150_938 P) .nil .nil))) (.node (o84_234 P) (.node (o84_362 P) (.node (o150_618 P) .nil .nil) (.node (o150_874 P) .nil .nil)) (.node (o84_490 P) (.node (o150_746 P) .nil .nil) (.node (o150_1002 P) .nil .nil))))) (.node (o20_58 P) (.node (o20_90 P) (.node (o20_154 P) (.node (o84_282 P) (.node (o84_538 P) (.node (o150_1050 P) .nil .nil) .nil) (.node (o150_794 P) .nil .nil)) (.node (o84_410 P) (.node (o150_666 P) .nil .nil) (.node (o150_922 P) .nil .nil))) (.node (o84_218 P) (.node (o84_346 P) (.node (o84_602 P) .nil .nil) (.node (o150_858 P) .nil .nil)) (.node (o84_474 P) (.node (o150_730 P) .nil .nil) (.node (o150_986 P) .nil .nil)))) (.node (o20_122 P) (.node (o20_186 P) (.node (o84_314 P) (.node (o84_570 P) .nil .nil) (.node (o150_826 P) .nil .nil)) (.node (o84_442 P) (.node (o150_698 P) .nil .nil) (.node (o150_954 P) .nil .nil))) (.node (o84_250 P) (.node (o84_378 P) (.node (o150_634 P) .nil .nil) (.node (o150_890 P) .nil .nil)) (.node (o84_506 P) (.node (o150_762 P) .nil .nil) (.node (o150_1018 P) .nil .nil))))))) (.node (oa_14 P) (.node (o20_22 P) (.node (o20_38 P) (.node (o20_70 P) (.node (o20_134 P) (.node (o84_262 P) (.node (o84_518 P) (.node (o150_1030 P) .nil .nil) .nil) (.node (o150_774 P) .nil .nil)) (.node (o84_390 P) (.node (o150_646 P) .nil .nil) (.node (o150_902 P) .nil .nil))) (.node (o20_198 P) (.node (o84_326 P) (.node (o84_582 P) .nil .nil) (.node (o150_838 P) .nil .nil)) (.node (o84_454 P) (.node (o150_710 P) .nil .nil) (.node (o150_966 P) .nil .nil)))) (.node (o20_102 P) (.node (o20_166 P) (.node (o84_294 P) (.node (o84_550 P) (.node (o150_1062 P) .nil .nil) .nil) (.node (o150_806 P) .nil .nil)) (.node (o84_422 P) (.node (o150_678 P) .nil .nil) (.node (o150_934 P) .nil .nil))) (.node (o84_230 P) (.node (o84_358 P) (.node (o150_614 P) .nil .nil) (.node (o150_870 P) .nil .nil)) (.node (o84_486 P) (.node (o150_742 P) .nil .nil) (.node (o150_998 P) .nil .nil))))) (.node (o20_54 P) (.node (o20_86 P) (.node (o20_150 P) (.node (o84_278 P) (.node (o84_534 P) (.node (o150_1046 P) .nil .nil) .nil) (.node (o150_790 P) .nil .nil)) (.node (o84_406 P) (.node (o150_662 P) .nil .nil) (.node (o150_918 P) .nil .nil))) (.node (o84_214 P) (.node (o84_342 P) (.node (o84_598 P) .nil .nil) (.node (o150_854 P) .nil .nil)) (.node (o84_470 P) (.node (o150_726 P) .nil .nil) (.node (o150_982 P) .nil .nil)))) (.node (o20_118 P) (.node (o20_182 P) (.node (o84_310 P) (.node (o84_566 P) .nil .nil) (.node (o150_822 P) .nil .nil)) (.node (o84_438 P) (.node (o150_694 P) .nil .nil) (.node (o150_950 P) .nil .nil))) (.node (o84_246 P) (.node (o84_374 P) (.node (o150_630 P) .nil .nil) (.node (o150_886 P) .nil .nil)) (.node (o84_502 P) (.node (o150_758 P) .nil .nil) (.node (o150_1014 P) .nil .nil)))))) (.node (o20_30 P) (.node (o20_46 P) (.node (o20_78 P) (.node (o20_142 P) (.node (o84_270 P) (.node (o84_526 P) (.node (o150_1038 P) .nil .nil) .nil) (.node (o150_782 P) .nil .nil)) (.node (o84_398 P) (.node (o150_654 P) .nil .nil) (.node (o150_910 P) .nil .nil))) (.node (o20_206 P) (.node (o84_334 P) (.node (o84_590 P) .nil .nil) (.node (o150_846 P) .nil .nil)) (.node (o84_462 P) (.node (o150_718 P) .nil .nil) (.node (o150_974 P) .nil .nil)))) (.node (o20_110 P) (.node (o20_174 P) (.node (o84_302 P) (.node (o84_558 P) (.node (o150_1070 P) .nil .nil) .nil) (.node (o150_814 P) .nil .nil)) (.node (o84_430 P) (.node (o150_686 P) .nil .nil) (.node (o150_942 P) .nil .nil))) (.node (o84_238 P) (.node (o84_366 P) (.node (o150_622 P) .nil .nil) (.node (o150_878 P) .nil .nil)) (.node (o84_494 P) (.node (o150_750 P) .nil .nil) (.node (o150_1006 P) .nil .nil))))) (.node (o20_62 P) (.node (o20_94 P) (.node (o20_158 P) (.node (o84_286 P) (.node (o84_542 P) (.node (o150_1054 P) .nil .nil) .nil) (.node (o150_798 P) .nil .nil)) (.node (o84_414 P) (.node (o150_670 P) .nil .nil) (.node (o150_926 P) .nil .nil))) (.node (o84_222 P) (.node (o84_350 P) (.node (o85_606 P) .nil .nil) (.node (o150_862 P) .nil .nil)) (.node (o84_478 P) (.node (o150_734 P) .nil .nil) (.node (o150_990 P) .nil .nil)))) (.node (o20_126 P) (.node (o20_190 P) (.node (o84_318 P) (.node (o84_574 P) .nil .nil) (.node (o150_830 P) .nil .nil)) (.node (o84_446 P) (.node (o150_702 P) .nil .nil) (.node (o150_958 P) .nil .nil))) (.node (o84_254 P) (.node (o84_382 P) (.node (o150_638 P) .nil .nil) (.node (o150_894 P) .nil .nil)) (.node (o84_510 P) (.node (o150_766 P) .nil .nil) (.node (o150_1022 P) .nil .nil))))))))))
def S150 (w : World) (os : OsState) : SharedT := ⟨T150 w.params, 1074, (boot_heap w.params).life, Array.mk [], boot_drawn, 1809, os⟩
def o174_3 (P : Params) : Obj := ⟨(.type "dict"), .none, (.dict #[⟨PyData.keyHash P (Str.ofString "__name__"), (.str (Str.ofString "__name__") 165), (.str (Str.ofString "plinth.desk") 1984)⟩, ⟨PyData.keyHash P (Str.ofString "__doc__"), (.str (Str.ofString "__doc__") 166), .none⟩, ⟨PyData.keyHash P (Str.ofString "__package__"), (.str (Str.ofString "__package__") 167), .none⟩, ⟨PyData.keyHash P (Str.ofString "__loader__"), (.str (Str.ofString "__loader__") 168), (.builtin "__main__.__loader__#opaque")⟩, ⟨PyData.keyHash P (Str.ofString "__spec__"), (.str (Str.ofString "__spec__") 169), .none⟩, ⟨PyData.keyHash P (Str.ofString "__annotations__"), (.str (Str.ofString "__annotations__") 170), (.ref 6)⟩, ⟨PyData.keyHash P (Str.ofString "__builtins__"), (.str (Str.ofString "__builtins__") 171), (.ref 4)⟩, ⟨PyData.keyHash P (Str.ofString "__file__"), (.str (Str.ofString "__file__") 173), (.str (Str.ofString "/claim/cut.py") 172)⟩, ⟨PyData.keyHash P (Str.ofString "__cached__"), (.str (Str.ofString "__cached__") 174), .none⟩, ⟨PyData.keyHash P (Str.ofString "_wall"), (.str (Str.ofString "_wall") 193), (.ref 21)⟩, ⟨PyData.keyHash P (Str.ofString "PlinthError"), (.str (Str.ofString "PlinthError") 213), (.ref 31)⟩, ⟨PyData.keyHash P (Str.ofString "NotText"), (.str (Str.ofString "NotText") 229), (.ref 44)⟩, ⟨PyData.keyHash P (Str.ofString "NotNumeral"), (.str (Str.ofString "NotNumeral") 245), (.ref 56)⟩, ⟨PyData.keyHash P (Str.ofString "BadFuel"), (.str (Str.ofString "BadFuel") 261), (.ref 68)⟩, ⟨PyData.keyHash P (Str.ofString "BadPlan"), (.str (Str.ofString "BadPlan") 286), (.ref 87)⟩, ⟨PyData.keyHash P (Str.ofString "BadClaim"), (.str (Str.ofString "BadClaim") 302), (.ref 99)⟩, ⟨PyData.keyHash P (Str.ofString "BadTrap"), (.str (Str.ofString "BadTrap") 318), (.ref 111)⟩, ⟨PyData.keyHash P (Str.ofString "NotPlantable"), (.str (Str.ofString "NotPlantable") 334), (.ref 123)⟩, ⟨PyData.keyHash P (Str.ofString "BadName"), (.str (Str.ofString "BadName") 350), (.ref 135)⟩, ⟨PyData.keyHash P (Str.ofString "BadKind"), (.str (Str.ofString "BadKind") 366), (.ref 147)⟩, ⟨PyData.keyHash P (Str.ofString "NoEntry"), (.str (Str.ofString "NoEntry") 391), (.ref 166)⟩, ⟨PyData.keyHash P (Str.ofString "OutOfRange"), (.str (Str.ofString "OutOfRange") 407), (.ref 178)⟩, ⟨PyData.keyHash P (Str.ofString "BadJournal"), (.str (Str.ofString "BadJournal") 432), (.ref 197)⟩, ⟨PyData.keyHash P (Str.ofString "OpenTrial"), (.str (Str.ofString "OpenTrial") 448), (.ref 209)⟩, ⟨PyData.keyHash P (Str.ofString "NEWLINE"), (.str (Str.ofString "NEWLINE") 452), (.int (10) 451)⟩, ⟨PyData.keyHash P (Str.ofString "PRINTABLE"), (.str (Str.ofString "PRINTABLE") 454), (.str (Str.ofString " !\"#$&'()*+,-./0123456789:;<=>?@ABCDEFGHIJKLMNOPQRSTUVWXYZ[\\]^_`abcdefghijklmnopqrstuvwxyz{|}~") 453)⟩, ⟨PyData.keyHash P (Str.ofString "DIGITS_signs"), (.str (Str.ofString "DIGITS_signs") 456), (.str (Str.ofString "0123456789") 455)⟩, ⟨PyData.keyHash P (Str.ofString "LIMIT"), (.str (Str.ofString "LIMIT") 460), (.int (1000000000000000000000000000000000000000000000000000000000000) 459)⟩, ⟨PyData.keyHash P (Str.ofString "codes_of"), (.str (Str.ofString "codes_of") 469), (.ref 218)⟩, ⟨PyData.keyHash P (Str.ofString "_char"), (.str (Str.ofString "_char") 476), (.ref 225)⟩, ⟨PyData.keyHash P (Str.ofString "text_of"), (.str (Str.ofString "text_of") 486), (.ref 232)⟩, ⟨PyData.keyHash P (Str.ofString "readable"), (.str (Str.ofString "readable") 495), (.ref 239)⟩, ⟨PyData.keyHash P (Str.ofString "numeral"), (.str (Str.ofString "numeral") 502), (.ref 246)⟩, ⟨PyData.keyHash P (Str.ofString "number_of"), (.str (Str.ofString "number_of") 511), (.ref 253)⟩, ⟨PyData.keyHash P (Str.ofString "is_digit"), (.str (Str.ofString "is_digit") 520), (.ref 260)⟩, ⟨PyData.keyHash P (Str.ofString "read_digits"), (.str (Str.ofString "read_digits") 530), (.ref 267)⟩, ⟨PyData.keyHash P (Str.ofString "ShortReader"), (.str (Str.ofString "ShortReader") 598), (.ref 312)⟩, ⟨PyData.keyHash P (Str.ofString "translate_short"), (.str (Str.ofString "translate_short") 606), (.ref 323)⟩, ⟨PyData.keyHash P (Str.ofString "BLANK"), (.str (Str.ofString "BLANK") 610), (.int (32) 609)⟩, ⟨PyData.keyHash P (Str.ofString "QUOTE"), (.str (Str.ofString "QUOTE") 612), (.int (39) 611)⟩, ⟨PyData.keyHash P (Str.ofString "RETURN_translate"), (.str (Str.ofString "RETURN_translate") 614), (.int (41) 613)⟩, ⟨PyData.keyHash P (Str.ofString "COLON"), (.str (Str.ofString "COLON") 616), (.int (58) 615)⟩, ⟨PyData.keyHash P (Str.ofString "SEMICOLON"), (.str (Str.ofString "SEMICOLON") 618), (.int (59) 617)⟩, ⟨PyData.keyHash P (Str.ofString "ASSIGN"), (.str (Str.ofString "ASSIGN") 620), (.int (61) 619)⟩, ⟨PyData.keyHash P (Str.ofString "PUSH_translate"), (.str (Str.ofString "PUSH_translate") 622), (.int (35) 621)⟩, ⟨PyData.keyHash P (Str.ofString "TEST_translate"), (.str (Str.ofString "TEST_translate") 624), (.int (63) 623)⟩, ⟨PyData.keyHash P (Str.ofString "Translator"), (.str (Str.ofString "Translator") 751), (.ref 411)⟩, ⟨PyData.keyHash P (Str.ofString "translate"), (.str (Str.ofString "translate") 766), (.ref 423)⟩, ⟨PyData.keyHash P (Str.ofString "DIGITS_audit"), (.str (Str.ofString "DIGITS_audit") 770), (.str (Str.ofString "digits") 769)⟩, ⟨PyData.keyHash P (Str.ofString "SHORT"), (.str (Str.ofString "SHORT") 772), (.str (Str.ofString "short") 771)⟩, ⟨PyData.keyHash P (Str.ofString "PLAIN"), (.str (Str.ofString "PLAIN") 774), (.str (Str.ofString "plain") 773)⟩, ⟨PyData.keyHash P (Str.ofString "TURNED"), (.str (Str.ofString "TURNED") 776), (.str (Str.ofString "turned") 775)⟩, ⟨PyData.keyHash P (Str.ofString "KINDS"), (.str (Str.ofString "KINDS") 777), (.ref 424)⟩, ⟨PyData.keyHash P (Str.ofString "due"), (.str (Str.ofString "due") 786), (.ref 848)⟩, ⟨PyData.keyHash P (Str.ofString "due_audit"), (.str (Str.ofString "due_audit") 787), (.ref 431)⟩, ⟨PyData.keyHash P (Str.ofString "first_difference"), (.str (Str.ofString "first_difference") 797), (.ref 438)⟩, ⟨PyData.keyHash P (Str.ofString "audit"), (.str (Str.ofString "audit") 807), (.ref 445)⟩, ⟨PyData.keyHash P (Str.ofString "nodes_of"), (.str (Str.ofString "nodes_of") 815), (.ref 450)⟩, ⟨PyData.keyHash P (Str.ofString "image_of"), (.str (Str.ofString "image_of") 827), (.ref 457)⟩, ⟨PyData.keyHash P (Str.ofString "table_of"), (.str (Str.ofString "table_of") 839), (.ref 464)⟩, ⟨PyData.keyHash P (Str.ofString "FIRST_LETTER"), (.str (Str.ofString "FIRST_LETTER") 843), (.int (97) 842)⟩, ⟨PyData.keyHash P (Str.ofString "LAST_LETTER"), (.str (Str.ofString "LAST_LETTER") 845), (.int (122) 844)⟩, ⟨PyData.keyHash P (Str.ofString "FIRST_CAPITAL"), (.str (Str.ofString "FIRST_CAPITAL") 847), (.int (65) 846)⟩, ⟨PyData.keyHash P (Str.ofString "LAST_CAPITAL"), (.str (Str.ofString "LAST_CAPITAL") 849), (.int (90) 848)⟩, ⟨PyData.keyHash P (Str.ofString "LAST_LOW"), (.str (Str.ofString "LAST_LOW") 851), (.int (199) 850)⟩, ⟨PyData.keyHash P (Str.ofString "_push"), (.str (Str.ofString "_push") 859), (.ref 471)⟩, ⟨PyData.keyHash P (Str.ofString "_plus"), (.str (Str.ofString "_plus") 868), (.ref 478)⟩, ⟨PyData.keyHash P (Str.ofString "_minus"), (.str (Str.ofString "_minus") 877), (.ref 485)⟩, ⟨PyData.keyHash P (Str.ofString "_digit"), (.str (Str.ofString "_digit") 886), (.ref 492)⟩, ⟨PyData.keyHash P (Str.ofString "_less"), (.str (Str.ofString "_less") 895), (.ref 499)⟩, ⟨PyData.keyHash P (Str.ofString "_same"), (.str (Str.ofString "_same") 904), (.ref 506)⟩, ⟨PyData.keyHash P (Str.ofString "_load"), (.str (Str.ofString "_load") 912), (.ref 513)⟩, ⟨PyData.keyHash P (Str.ofString "_keep"), (.str (Str.ofString "_keep") 921), (.ref 520)⟩, ⟨PyData.keyHash P (Str.ofString "_assign"), (.str (Str.ofString "_assign") 929), (.ref 527)⟩, ⟨PyData.keyHash P (Str.ofString "_take"), (.str (Str.ofString "_take") 937), (.ref 534)⟩, ⟨PyData.keyHash P (Str.ofString "_rewind"), (.str (Str.ofString "_rewind") 945), (.ref 541)⟩, ⟨PyData.keyHash P (Str.ofString "_emit"), (.str (Str.ofString "_emit") 953), (.ref 548)⟩, ⟨PyData.keyHash P (Str.ofString "_cell"), (.str (Str.ofString "_cell") 962), (.ref 555)⟩, ⟨PyData.keyHash P (Str.ofString "_drop"), (.str (Str.ofString "_drop") 970), (.ref 562)⟩, ⟨PyData.keyHash P (Str.ofString "_double"), (.str (Str.ofString "_double") 979), (.ref 569)⟩, ⟨PyData.keyHash P (Str.ofString "_exchange"), (.str (Str.ofString "_exchange") 989), (.ref 576)⟩, ⟨PyData.keyHash P (Str.ofString "_test"), (.str (Str.ofString "_test") 997), (.ref 583)⟩, ⟨PyData.keyHash P (Str.ofString "_call"), (.str (Str.ofString "_call") 1006), (.ref 590)⟩, ⟨PyData.keyHash P (Str.ofString "_call_low"), (.str (Str.ofString "_call_low") 1015), (.ref 597)⟩, ⟨PyData.keyHash P (Str.ofString "_return"), (.str (Str.ofString "_return") 1023), (.ref 604)⟩, ⟨PyData.keyHash P (Str.ofString "DEEDS"), (.str (Str.ofString "DEEDS") 1064), (.ref 605)⟩, ⟨PyData.keyHash P (Str.ofString "State"), (.str (Str.ofString "State") 1143), (.ref 656)⟩, ⟨PyData.keyHash P (Str.ofString "run"), (.str (Str.ofString "run") 1154), (.ref 667)⟩, ⟨PyData.keyHash P (Str.ofString "_parts"), (.str (Str.ofString "_parts") 1163), (.ref 674)⟩, ⟨PyData.keyHash P (Str.ofString "_reach"), (.str (Str.ofString "_reach") 1175), (.ref 681)⟩, ⟨PyData.keyHash P (Str.ofString "_rules_of"), (.str (Str.ofString "_rules_of") 1184), (.ref 688)⟩, ⟨PyData.keyHash P (Str.ofString "_twice"), (.str (Str.ofString "_twice") 1194), (.ref 695)⟩, ⟨PyData.keyHash P (Str.ofString "_missing"), (.str (Str.ofString "_missing") 1205), (.ref 702)⟩, ⟨PyData.keyHash P (Str.ofString "check_plan"), (.str (Str.ofString "check_plan") 1216), (.ref 709)⟩, ⟨PyData.keyHash P (Str.ofString "order_of"), (.str (Str.ofString "order_of") 1222), (.ref 714)⟩, ⟨PyData.keyHash P (Str.ofString "_check_name"), (.str (Str.ofString "_check_name") 1231), (.ref 721)⟩, ⟨PyData.keyHash P (Str.ofString "needs"), (.str (Str.ofString "needs") 1240), (.ref 728)⟩, ⟨PyData.keyHash P (Str.ofString "Build"), (.str (Str.ofString "Build") 1339), (.ref 788)⟩, ⟨PyData.keyHash P (Str.ofString "build_all"), (.str (Str.ofString "build_all") 1352), (.ref 799)⟩, ⟨PyData.keyHash P (Str.ofString "start"), (.str (Str.ofString "start") 1362), (.ref 806)⟩, ⟨PyData.keyHash P (Str.ofString "state_of"), (.str (Str.ofString "state_of") 1374), (.ref 813)⟩, ⟨PyData.keyHash P (Str.ofString "next_state"), (.str (Str.ofString "next_state") 1384), (.ref 820)⟩, ⟨PyData.keyHash P (Str.ofString "story"), (.str (Str.ofString "story") 1395), (.ref 827)⟩, ⟨PyData.keyHash P (Str.ofString "right_claim"), (.str (Str.ofString "right_claim") 1407), (.ref 834)⟩, ⟨PyData.keyHash P (Str.ofString "entry"), (.str (Str.ofString "entry") 1415), (.ref 841)⟩, ⟨PyData.keyHash P (Str.ofString "due_claims"), (.str (Str.ofString "due_claims") 1427), (.ref 848)⟩, ⟨PyData.keyHash P (Str.ofString "_agree"), (.str (Str.ofString "_agree") 1437), (.ref 855)⟩, ⟨PyData.keyHash P (Str.ofString "dispute"), (.str (Str.ofString "dispute") 1452), (.ref 862)⟩, ⟨PyData.keyHash P (Str.ofString "BASE"), (.str (Str.ofString "BASE") 1456), (.int (1000000) 1455)⟩, ⟨PyData.keyHash P (Str.ofString "MOST_LURE"), (.str (Str.ofString "MOST_LURE") 1458), (.int (12) 1457)⟩, ⟨PyData.keyHash P (Str.ofString "MOST_EXTRA"), (.str (Str.ofString "MOST_EXTRA") 1460), (.int (24) 1459)⟩, ⟨PyData.keyHash P (Str.ofString "FIXED"), (.str (Str.ofString "FIXED") 1462), (.int (14) 1461)⟩, ⟨PyData.keyHash P (Str.ofString "PUSH_traps"), (.str (Str.ofString "PUSH_traps") 1464), (.int (35) 1463)⟩, ⟨PyData.keyHash P (Str.ofString "CELL"), (.str (Str.ofString "CELL") 1466), (.int (38) 1465)⟩, ⟨PyData.keyHash P (Str.ofString "CALL"), (.str (Str.ofString "CALL") 1468), (.int (40) 1467)⟩, ⟨PyData.keyHash P (Str.ofString "RETURN_traps"), (.str (Str.ofString "RETURN_traps") 1470), (.int (41) 1469)⟩, ⟨PyData.keyHash P (Str.ofString "PLUS"), (.str (Str.ofString "PLUS") 1472), (.int (43) 1471)⟩, ⟨PyData.keyHash P (Str.ofString "TAKE"), (.str (Str.ofString "TAKE") 1474), (.int (44) 1473)⟩, ⟨PyData.keyHash P (Str.ofString "GIVE"), (.str (Str.ofString "GIVE") 1476), (.int (46) 1475)⟩, ⟨PyData.keyHash P (Str.ofString "DOUBLE"), (.str (Str.ofString "DOUBLE") 1478), (.int (34) 1477)⟩, ⟨PyData.keyHash P (Str.ofString "TEST_traps"), (.str (Str.ofString "TEST_traps") 1480), (.int (63) 1479)⟩, ⟨PyData.keyHash P (Str.ofString "REWIND"), (.str (Str.ofString "REWIND") 1482), (.int (94) 1481)⟩, ⟨PyData.keyHash P (Str.ofString "DROP"), (.str (Str.ofString "DROP") 1484), (.int (95) 1483)⟩, ⟨PyData.keyHash P (Str.ofString "SAME"), (.str (Str.ofString "SAME") 1486), (.int (126) 1485)⟩, ⟨PyData.keyHash P (Str.ofString "is_trap"), (.str (Str.ofString "is_trap") 1492), (.ref 867)⟩, ⟨PyData.keyHash P (Str.ofString "is_plantable"), (.str (Str.ofString "is_plantable") 1502), (.ref 874)⟩, ⟨PyData.keyHash P (Str.ofString "beginning"), (.str (Str.ofString "beginning") 1508), (.ref 881)⟩, ⟨PyData.keyHash P (Str.ofString "comparison"), (.str (Str.ofString "comparison") 1517), (.ref 888)⟩, ⟨PyData.keyHash P (Str.ofString "writing"), (.str (Str.ofString "writing") 1525), (.ref 895)⟩, ⟨PyData.keyHash P (Str.ofString "copying"), (.str (Str.ofString "copying") 1534), (.ref 902)⟩, ⟨PyData.keyHash P (Str.ofString "trap_nodes"), (.str (Str.ofString "trap_nodes") 1549), (.ref 909)⟩, ⟨PyData.keyHash P (Str.ofString "plant"), (.str (Str.ofString "plant") 1558), (.ref 916)⟩, ⟨PyData.keyHash P (Str.ofString "LONGEST_NAME"), (.str (Str.ofString "LONGEST_NAME") 1562), (.int (12) 1561)⟩, ⟨PyData.keyHash P (Str.ofString "Entry"), (.str (Str.ofString "Entry") 1595), (.ref 933)⟩, ⟨PyData.keyHash P (Str.ofString "check_new"), (.str (Str.ofString "check_new") 1605), (.ref 944)⟩, ⟨PyData.keyHash P (Str.ofString "Shelf"), (.str (Str.ofString "Shelf") 1744), (.ref 1039)⟩, ⟨PyData.keyHash P (Str.ofString "SIGNS"), (.str (Str.ofString "SIGNS") 1767), (.ref 1044)⟩, ⟨PyData.keyHash P (Str.ofString "PAIRS"), (.str (Str.ofString "PAIRS") 1773), (.ref 1045)⟩, ⟨PyData.keyHash P (Str.ofString "is_letter"), (.str (Str.ofString "is_letter") 1780), (.ref 1052)⟩, ⟨PyData.keyHash P (Str.ofString "is_nop"), (.str (Str.ofString "is_nop") 1787), (.ref 1059)⟩, ⟨PyData.keyHash P (Str.ofString "combined"), (.str (Str.ofString "combined") 1796), (.ref 1066)⟩, ⟨PyData.keyHash P (Str.ofString "written"), (.str (Str.ofString "written") 1808), (.ref 1073)⟩, ⟨PyData.keyHash P (Str.ofString "_ways"), (.str (Str.ofString "_ways") 1814), (.ref 1078)⟩, ⟨PyData.keyHash P (Str.ofString "reached"), (.str (Str.ofString "reached") 1825), (.ref 1085)⟩, ⟨PyData.keyHash P (Str.ofString "is_closed_table"), (.str (Str.ofString "is_closed_table") 1833), (.ref 1092)⟩, ⟨PyData.keyHash P (Str.ofString "has_nop"), (.str (Str.ofString "has_nop") 1841), (.ref 1099)⟩, ⟨PyData.keyHash P (Str.ofString "passed"), (.str (Str.ofString "passed") 1850), (.ref 1106)⟩, ⟨PyData.keyHash P (Str.ofString "target_in"), (.str (Str.ofString "target_in") 1856), (.ref 1111)⟩, ⟨PyData.keyHash P (Str.ofString "threaded"), (.str (Str.ofString "threaded") 1871), (.ref 1118)⟩, ⟨PyData.keyHash P (Str.ofString "_folded"), (.str (Str.ofString "_folded") 1886), (.ref 1125)⟩, ⟨PyData.keyHash P (Str.ofString "_folded_table"), (.str (Str.ofString "_folded_table") 1892), (.ref 1130)⟩, ⟨PyData.keyHash P (Str.ofString "_order"), (.str (Str.ofString "_order") 1898), (.ref 1135)⟩, ⟨PyData.keyHash P (Str.ofString "renumbered"), (.str (Str.ofString "renumbered") 1912), (.ref 1142)⟩, ⟨PyData.keyHash P (Str.ofString "thread"), (.str (Str.ofString "thread") 1920), (.ref 1149)⟩, ⟨PyData.keyHash P (Str.ofString "fold"), (.str (Str.ofString "fold") 1928), (.ref 1156)⟩, ⟨PyData.keyHash P (Str.ofString "renumber"), (.str (Str.ofString "renumber") 1936), (.ref 1163)⟩, ⟨PyData.keyHash P (Str.ofString "trim"), (.str (Str.ofString "trim") 1943), (.ref 1170)⟩, ⟨PyData.keyHash P (Str.ofString "LETTERS"), (.str (Str.ofString "LETTERS") 1947), (.str (Str.ofString "abcdefghijklmnopqrstuvwxyz") 1946)⟩, ⟨PyData.keyHash P (Str.ofString "_is_line"), (.str (Str.ofString "_is_line") 1954), (.ref 1177)⟩, ⟨PyData.keyHash P (Str.ofString "words_of"), (.str (Str.ofString "words_of") 1965), (.ref 1184)⟩, ⟨PyData.keyHash P (Str.ofString "is_name"), (.str (Str.ofString "is_name") 1971), (.ref 1189)⟩, ⟨PyData.keyHash P (Str.ofString "integer_of"), (.str (Str.ofString "integer_of") 1983), (.ref 1197)⟩, ⟨PyData.keyHash P (Str.ofString "MOST_FUEL"), (.str (Str.ofString "MOST_FUEL") 1987), (.int (100000) 1986)⟩] 163), #[]⟩
def o174_12 (P : Params) : Obj := ⟨.none, .none, (.fields #[(.int (1) 0), (.int (0) 0), (.ref 20), (.int (5) 0), (.int (0) 0), (.ref 27), (.int (7) 0), (.int (0) 0), (.ref 40), (.int (9) 0), (.int (0) 0), (.ref 52), (.int (11) 0), (.int (0) 0), (.ref 64), (.int (13) 0), (.int (0) 0), (.ref 76), (.int (18) 0), (.int (0) 0), (.ref 95), (.int (20) 0), (.int (0) 0), (.ref 107), (.int (22) 0), (.int (0) 0), (.ref 119), (.int (24) 0), (.int (0) 0), (.ref 131), (.int (26) 0), (.int (0) 0), (.ref 143), (.int (28) 0), (.int (0) 0), (.ref 155), (.int (33) 0), (.int (0) 0), (.ref 174), (.int (35) 0), (.int (0) 0), (.ref 186), (.int (40) 0), (.int (0) 0), (.ref 205), (.int (47) 0), (.int (0) 0), (.ref 217), (.int (54) 0), (.int (0) 0), (.ref 224), (.int (62) 0), (.int (0) 0), (.ref 231), (.int (70) 0), (.int (0) 0), (.ref 238), (.int (77) 0), (.int (0) 0), (.ref 245), (.int (81) 0), (.int (0) 0), (.ref 252), (.int (94) 0), (.int (0) 0), (.ref 259), (.int (96) 0), (.int (0) 0), (.ref 266), (.int (111) 0), (.int (0) 0), (.ref 273), (.int (152) 0), (.int (0) 0), (.ref 322), (.int (165) 0), (.int (0) 0), (.ref 329), (.int (273) 0), (.int (0) 0), (.ref 422), (.int (284) 0), (.int (0) 0), (.ref 430), (.int (296) 0), (.int (0) 0), (.ref 437), (.int (303) 0), (.int (0) 0), (.ref 444), (.int (311) 0), (.int (0) 0), (.ref 449), (.int (313) 0), (.int (0) 0), (.ref 456), (.int (318) 0), (.int (0) 0), (.ref 463), (.int (329) 0), (.int (0) 0), (.ref 470), (.int (331) 0), (.int (0) 0), (.ref 477), (.int (334) 0), (.int (0) 0), (.ref 484), (.int (337) 0), (.int (0) 0), (.ref 491), (.int (340) 0), (.int (0) 0), (.ref 498), (.int (343) 0), (.int (0) 0), (.ref 505), (.int (346) 0), (.int (0) 0), (.ref 512), (.int (348) 0), (.int (0) 0), (.ref 519), (.int (351) 0), (.int (0) 0), (.ref 526), (.int (353) 0), (.int (0) 0), (.ref 533), (.int (359) 0), (.int (0) 0), (.ref 540), (.int (361) 0), (.int (0) 0), (.ref 547), (.int (363) 0), (.int (0) 0), (.ref 554), (.int (369) 0), (.int (0) 0), (.ref 561), (.int (371) 0), (.int (0) 0), (.ref 568), (.int (374) 0), (.int (0) 0), (.ref 575), (.int (378) 0), (.int (0) 0), (.ref 582), (.int (381) 0), (.int (0) 0), (.ref 589), (.int (385) 0), (.int (0) 0), (.ref 596), (.int (392) 0), (.int (0) 0), (.ref 603), (.int (396) 0), (.int (0) 0), (.ref 612), (.int (445) 0), (.int (0) 0), (.ref 666), (.int (450) 0), (.int (0) 0), (.ref 673), (.int (452) 0), (.int (0) 0), (.ref 680), (.int (464) 0), (.int (0) 0), (.ref 687), (.int (469) 0), (.int (0) 0), (.ref 694), (.int (476) 0), (.int (0) 0), (.ref 701), (.int (482) 0), (.int (0) 0), (.ref 708), (.int (493) 0), (.int (0) 0), (.ref 713), (.int (504) 0), (.int (0) 0), (.ref 720), (.int (508) 0), (.int (0) 0), (.ref 727), (.int (512) 0), (.int (0) 0), (.ref 734), (.int (580) 0), (.int (0) 0), (.ref 798), (.int (590) 0), (.int (0) 0), (.ref 805), (.int (592) 0), (.int (0) 0), (.ref 812), (.int (602) 0), (.int (0) 0), (.ref 819), (.int (607) 0), (.int (0) 0), (.ref 826), (.int (616) 0), (.int (0) 0), (.ref 833), (.int (621) 0), (.int (0) 0), (.ref 840), (.int (627) 0), (.int (0) 0), (.ref 847), (.int (638) 0), (.int (0) 0), (.ref 854), (.int (640) 0), (.int (0) 0), (.ref 861), (.int (676) 0), (.int (0) 0), (.ref 866), (.int (682) 0), (.int (0) 0), (.ref 873), (.int (689) 0), (.int (0) 0), (.ref 880), (.int (691) 0), (.int (0) 0), (.ref 887), (.int (693) 0), (.int (0) 0), (.ref 894), (.int (695) 0), (.int (0) 0), (.ref 901), (.int (698) 0), (.int (0) 0), (.ref 908), (.int (712) 0), (.int (0) 0), (.ref 915), (.int (720) 0), (.int (0) 0), (.ref 922), (.int (726) 0), (.int (0) 0), (.ref 943), (.int (735) 0), (.int (0) 0), (.ref 950), (.int (795) 0), (.int (0) 0), (.ref 1051), (.int (797) 0), (.int (0) 0), (.ref 1058), (.int (799) 0), (.int (0) 0), (.ref 1065), (.int (809) 0), (.int (0) 0), (.ref 1072), (.int (815) 0), (.int (0) 0), (.ref 1077), (.int (827) 0), (.int (0) 0), (.ref 1084), (.int (837) 0), (.int (0) 0), (.ref 1091), (.int (842) 0), (.int (0) 0), (.ref 1098), (.int (844) 0), (.int (0) 0), (.ref 1105), (.int (852) 0), (.int (0) 0), (.ref 1110), (.int (866) 0), (.int (0) 0), (.ref 1117), (.int (881) 0), (.int (0) 0), (.ref 1124), (.int (896) 0), (.int (0) 0), (.ref 1129), (.int (898) 0), (.int (0) 0), (.ref 1134), (.int (914) 0), (.int (0) 0), (.ref 1141), (.int (930) 0), (.int (0) 0), (.ref 1148), (.int (935) 0), (.int (0) 0), (.ref 1155), (.int (940) 0), (.int (0) 0), (.ref 1162), (.int (945) 0), (.int (0) 0), (.ref 1169), (.int (949) 0), (.int (0) 0), (.ref 1176), (.int (957) 0), (.int (0) 0), (.ref 1183), (.int (969) 0), (.int (0) 0), (.ref 1188), (.int (971) 0), (.int (0) 0), (.ref 1196)]), #[]⟩
def o174_1074 (P : Params) : Obj := ⟨(.type "tuple"), .none, (.seq #[] 0), #[]⟩
def o174_1075 (P : Params) : Obj := ⟨.none, .none, (.fields #[]), #[]⟩
def o174_1076 (P : Params) : Obj := ⟨.none, .none, (.func ⟨(Str.ofString "_ways"), (Str.ofString "_ways"), defArgs (top 150), .stmts (defBody (top 150)), defScope (top 150), 0, [], .none, .none, .none, .none, .none, .none, .none, 0⟩), #[]⟩
def o174_1077 (P : Params) : Obj := ⟨(.type "code"), .none, (.fields #[(.str (Str.ofString "_ways") 1809), (.str (Str.ofString "_ways") 1810), (.str (Str.ofString "/claim/cut.py") 1811), (.int (815) 0), (.int (2) 0), (.int (0) 0), (.int (0) 0), (.int (3) 0), (.ref 1074), (.bool true), (.int (181) 0), (.ref 1075), .none, .none, .none, (.ref 1076), (.int (1812) 0), (.int (815) 0), (.str (Str.ofString "/claim/cut.py") 1813)]), #[]⟩
def o174_1078 (P : Params) : Obj := ⟨(.type "function"), .none, (.func ⟨(Str.ofString "_ways"), (Str.ofString "_ways"), defArgs (top 150), .stmts (defBody (top 150)), defScope (top 150), 3, [], .none, .none, .none, (.str (Str.ofString "plinth.threads") 1745), .none, (.ref 1077), .none, 0⟩), #[]⟩
def o174_1079 (P : Params) : Obj := ⟨(.type "tuple"), .none, (.seq #[] 0), #[]⟩
def o174_1080 (P : Params) : Obj := ⟨.none, .none, (.fields #[]), #[]⟩
def o174_1081 (P : Params) : Obj := ⟨(.type "tuple"), .none, (.seq #[(.str (Str.ofString "table") 1818), (.str (Str.ofString "met") 1819), (.str (Str.ofString "queue") 1820), (.str (Str.ofString "number") 1821), (.str (Str.ofString "way") 1822)] 0), #[]⟩
def o174_1082 (P : Params) : Obj := ⟨(.type "tuple"), .none, (.seq #[] 0), #[]⟩
def o174_1083 (P : Params) : Obj := ⟨.none, .none, (.func ⟨(Str.ofString "reached"), (Str.ofString "reached"), defArgs (top 151), .stmts (defBody (top 151)), defScope (top 151), 0, [], .none, .none, .none, .none, .none, .none, .none, 0⟩), #[]⟩
def o174_1084 (P : Params) : Obj := ⟨(.type "code"), .none, (.fields #[(.str (Str.ofString "reached") 1815), (.str (Str.ofString "reached") 1816), (.str (Str.ofString "/claim/cut.py") 1817), (.int (827) 0), (.int (1) 0), (.int (0) 0), (.int (0) 0), (.int (3) 0), (.ref 1079), (.bool true), (.int (181) 0), (.ref 1080), .none, (.ref 1081), (.ref 1082), (.ref 1083), (.int (1823) 0), (.int (827) 0), (.str (Str.ofString "/claim/cut.py") 1824)]), #[]⟩
def o174_1085 (P : Params) : Obj := ⟨(.type "function"), .none, (.func ⟨(Str.ofString "reached"), (Str.ofString "reached"), defArgs (top 151), .stmts (defBody (top 151)), defScope (top 151), 3, [], .none, .none, .none, (.str (Str.ofString "plinth.threads") 1745), .none, (.ref 1084), .none, 0⟩), #[]⟩
def o174_1086 (P : Params) : Obj := ⟨(.type "tuple"), .none, (.seq #[] 0), #[]⟩
def o174_1087 (P : Params) : Obj := ⟨.none, .none, (.fields #[]), #[]⟩
def o174_1088 (P : Params) : Obj := ⟨(.type "tuple"), .none, (.seq #[(.str (Str.ofString "table") 1829), (.str (Str.ofString "number") 1830)] 0), #[]⟩
def o174_1089 (P : Params) : Obj := ⟨(.type "tuple"), .none, (.seq #[] 0), #[]⟩
def o174_1090 (P : Params) : Obj := ⟨.none, .none, (.func ⟨(Str.ofString "is_closed_table"), (Str.ofString "is_closed_table"), defArgs (top 152), .stmts (defBody (top 152)), defScope (top 152), 0, [], .none, .none, .none, .none, .none, .none, .none, 0⟩), #[]⟩
def o174_1091 (P : Params) : Obj := ⟨(.type "code"), .none, (.fields #[(.str (Str.ofString "is_closed_table") 1826), (.str (Str.ofString "is_closed_table") 1827), (.str (Str.ofString "/claim/cut.py") 1828), (.int (837) 0), (.int (1) 0), (.int (0) 0), (.int (0) 0), (.int (3) 0), (.ref 1086), (.bool true), (.int (181) 0), (.ref 1087), .none, (.ref 1088), (.ref 1089), (.ref 1090), (.int (1831) 0), (.int (837) 0), (.str (Str.ofString "/claim/cut.py") 1832)]), #[]⟩
def o174_1092 (P : Params) : Obj := ⟨(.type "function"), .none, (.func ⟨(Str.ofString "is_closed_table"), (Str.ofString "is_closed_table"), defArgs (top 152), .stmts (defBody (top 152)), defScope (top 152), 3, [], .none, .none, .none, (.str (Str.ofString "plinth.threads") 1745), .none, (.ref 1091), .none, 0⟩), #[]⟩
def o174_1093 (P : Params) : Obj := ⟨(.type "tuple"), .none, (.seq #[] 0), #[]⟩
def o174_1094 (P : Params) : Obj := ⟨.none, .none, (.fields #[]), #[]⟩
def o174_1095 (P : Params) : Obj := ⟨(.type "tuple"), .none, (.seq #[(.str (Str.ofString "table") 1837), (.str (Str.ofString "number") 1838)] 0), #[]⟩
def o174_1096 (P : Params) : Obj := ⟨(.type "tuple"), .none, (.seq #[] 0), #[]⟩
def o174_1097 (P : Params) : Obj := ⟨.none, .none, (.func ⟨(Str.ofString "has_nop"), (Str.ofString "has_nop"), defArgs (top 153), .stmts (defBody (top 153)), defScope (top 153), 0, [], .none, .none, .none, .none, .none, .none, .none, 0⟩), #[]⟩
def o174_1098 (P : Params) : Obj := ⟨(.type "code"), .none, (.fields #[(.str (Str.ofString "has_nop") 1834), (.str (Str.ofString "has_nop") 1835), (.str (Str.ofString "/claim/cut.py") 1836), (.int (842) 0), (.int (2) 0), (.int (0) 0), (.int (0) 0), (.int (3) 0), (.ref 1093), (.bool true), (.int (181) 0), (.ref 1094), .none, (.ref 1095), (.ref 1096), (.ref 1097), (.int (1839) 0), (.int (842) 0), (.str (Str.ofString "/claim/cut.py") 1840)]), #[]⟩
def o174_1099 (P : Params) : Obj := ⟨(.type "function"), .none, (.func ⟨(Str.ofString "has_nop"), (Str.ofString "has_nop"), defArgs (top 153), .stmts (defBody (top 153)), defScope (top 153), 3, [], .none, .none, .none, (.str (Str.ofString "plinth.threads") 1745), .none, (.ref 1098), .none, 0⟩), #[]⟩
def o174_1100 (P : Params) : Obj := ⟨(.type "tuple"), .none, (.seq #[] 0), #[]⟩
def o174_1101 (P : Params) : Obj := ⟨.none, .none, (.fields #[]), #[]⟩
def o174_1102 (P : Params) : Obj := ⟨(.type "tuple"), .none, (.seq #[(.str (Str.ofString "table") 1845), (.str (Str.ofString "number") 1846), (.str (Str.ofString "met") 1847)] 0), #[]⟩
def o174_1103 (P : Params) : Obj := ⟨(.type "tuple"), .none, (.seq #[] 0), #[]⟩
def o174_1104 (P : Params) : Obj := ⟨.none, .none, (.func ⟨(Str.ofString "passed"), (Str.ofString "passed"), defArgs (top 154), .stmts (defBody (top 154)), defScope (top 154), 0, [], .none, .none, .none, .none, .none, .none, .none, 0⟩), #[]⟩
def o174_1105 (P : Params) : Obj := ⟨(.type "code"), .none, (.fields #[(.str (Str.ofString "passed") 1842), (.str (Str.ofString "passed") 1843), (.str (Str.ofString "/claim/cut.py") 1844), (.int (844) 0), (.int (2) 0), (.int (0) 0), (.int (0) 0), (.int (3) 0), (.ref 1100), (.bool true), (.int (181) 0), (.ref 1101), .none, (.ref 1102), (.ref 1103), (.ref 1104), (.int (1848) 0), (.int (844) 0), (.str (Str.ofString "/claim/cut.py") 1849)]), #[]⟩
def o174_1106 (P : Params) : Obj := ⟨(.type "function"), .none, (.func ⟨(Str.ofString "passed"), (Str.ofString "passed"), defArgs (top 154), .stmts (defBody (top 154)), defScope (top 154), 3, [], .none, .none, .none, (.str (Str.ofString "plinth.threads") 1745), .none, (.ref 1105), .none, 0⟩), #[]⟩
def o174_1107 (P : Params) : Obj := ⟨(.type "tuple"), .none, (.seq #[] 0), #[]⟩
def o174_1108 (P : Params) : Obj := ⟨.none, .none, (.fields #[]), #[]⟩
def o174_1109 (P : Params) : Obj := ⟨.none, .none, (.func ⟨(Str.ofString "target_in"), (Str.ofString "target_in"), defArgs (top 155), .stmts (defBody (top 155)), defScope (top 155), 0, [], .none, .none, .none, .none, .none, .none, .none, 0⟩), #[]⟩
def o174_1110 (P : Params) : Obj := ⟨(.type "code"), .none, (.fields #[(.str (Str.ofString "target_in") 1851), (.str (Str.ofString "target_in") 1852), (.str (Str.ofString "/claim/cut.py") 1853), (.int (852) 0), (.int (2) 0), (.int (0) 0), (.int (0) 0), (.int (3) 0), (.ref 1107), (.bool true), (.int (181) 0), (.ref 1108), .none, .none, .none, (.ref 1109), (.int (1854) 0), (.int (852) 0), (.str (Str.ofString "/claim/cut.py") 1855)]), #[]⟩
def o174_1111 (P : Params) : Obj := ⟨(.type "function"), .none, (.func ⟨(Str.ofString "target_in"), (Str.ofString "target_in"), defArgs (top 155), .stmts (defBody (top 155)), defScope (top 155), 3, [], .none, .none, .none, (.str (Str.ofString "plinth.threads") 1745), .none, (.ref 1110), .none, 0⟩), #[]⟩
def o174_1112 (P : Params) : Obj := ⟨(.type "tuple"), .none, (.seq #[] 0), #[]⟩
def o174_1113 (P : Params) : Obj := ⟨.none, .none, (.fields #[]), #[]⟩
def o174_1114 (P : Params) : Obj := ⟨(.type "tuple"), .none, (.seq #[(.str (Str.ofString "table") 1862), (.str (Str.ofString "changed") 1863), (.str (Str.ofString "number") 1864), (.str (Str.ofString "op") 1865), (.str (Str.ofString "arg") 1866), (.str (Str.ofString "successor") 1867), (.str (Str.ofString "end") 1868)] 0), #[]⟩
def o174_1115 (P : Params) : Obj := ⟨(.type "tuple"), .none, (.seq #[] 0), #[]⟩
def o174_1116 (P : Params) : Obj := ⟨.none, .none, (.func ⟨(Str.ofString "threaded"), (Str.ofString "threaded"), defArgs (top 157), .stmts (defBody (top 157)), defScope (top 157), 0, [], .none, .none, .none, .none, .none, .none, .none, 0⟩), #[]⟩
def o174_1117 (P : Params) : Obj := ⟨(.type "code"), .none, (.fields #[(.str (Str.ofString "threaded") 1859), (.str (Str.ofString "threaded") 1860), (.str (Str.ofString "/claim/cut.py") 1861), (.int (866) 0), (.int (1) 0), (.int (0) 0), (.int (0) 0), (.int (3) 0), (.ref 1112), (.bool true), (.int (181) 0), (.ref 1113), .none, (.ref 1114), (.ref 1115), (.ref 1116), (.int (1869) 0), (.int (866) 0), (.str (Str.ofString "/claim/cut.py") 1870)]), #[]⟩
def o174_1118 (P : Params) : Obj := ⟨(.type "function"), .none, (.func ⟨(Str.ofString "threaded"), (Str.ofString "threaded"), defArgs (top 157), .stmts (defBody (top 157)), defScope (top 157), 3, [], .none, .none, .none, (.str (Str.ofString "plinth.trim") 1857), .none, (.ref 1117), .none, 0⟩), #[]⟩
def o174_1119 (P : Params) : Obj := ⟨(.type "tuple"), .none, (.seq #[] 0), #[]⟩
def o174_1120 (P : Params) : Obj := ⟨.none, .none, (.fields #[]), #[]⟩
def o174_1121 (P : Params) : Obj := ⟨(.type "tuple"), .none, (.seq #[(.str (Str.ofString "table") 1875), (.str (Str.ofString "number") 1876), (.str (Str.ofString "node") 1877), (.str (Str.ofString "op") 1878), (.str (Str.ofString "arg") 1879), (.str (Str.ofString "successor") 1880), (.str (Str.ofString "op2") 1881), (.str (Str.ofString "arg2") 1882), (.str (Str.ofString "successor2") 1883)] 0), #[]⟩
def o174_1122 (P : Params) : Obj := ⟨(.type "tuple"), .none, (.seq #[] 0), #[]⟩
def o174_1123 (P : Params) : Obj := ⟨.none, .none, (.func ⟨(Str.ofString "_folded"), (Str.ofString "_folded"), defArgs (top 158), .stmts (defBody (top 158)), defScope (top 158), 0, [], .none, .none, .none, .none, .none, .none, .none, 0⟩), #[]⟩
def o174_1124 (P : Params) : Obj := ⟨(.type "code"), .none, (.fields #[(.str (Str.ofString "_folded") 1872), (.str (Str.ofString "_folded") 1873), (.str (Str.ofString "/claim/cut.py") 1874), (.int (881) 0), (.int (2) 0), (.int (0) 0), (.int (0) 0), (.int (3) 0), (.ref 1119), (.bool true), (.int (181) 0), (.ref 1120), .none, (.ref 1121), (.ref 1122), (.ref 1123), (.int (1884) 0), (.int (881) 0), (.str (Str.ofString "/claim/cut.py") 1885)]), #[]⟩
def o174_1125 (P : Params) : Obj := ⟨(.type "function"), .none, (.func ⟨(Str.ofString "_folded"), (Str.ofString "_folded"), defArgs (top 158), .stmts (defBody (top 158)), defScope (top 158), 3, [], .none, .none, .none, (.str (Str.ofString "plinth.trim") 1857), .none, (.ref 1124), .none, 0⟩), #[]⟩
def o174_1126 (P : Params) : Obj := ⟨(.type "tuple"), .none, (.seq #[] 0), #[]⟩
def o174_1127 (P : Params) : Obj := ⟨.none, .none, (.fields #[]), #[]⟩
def o174_1128 (P : Params) : Obj := ⟨.none, .none, (.func ⟨(Str.ofString "_folded_table"), (Str.ofString "_folded_table"), defArgs (top 159), .stmts (defBody (top 159)), defScope (top 159), 0, [], .none, .none, .none, .none, .none, .none, .none, 0⟩), #[]⟩
def o174_1129 (P : Params) : Obj := ⟨(.type "code"), .none, (.fields #[(.str (Str.ofString "_folded_table") 1887), (.str (Str.ofString "_folded_table") 1888), (.str (Str.ofString "/claim/cut.py") 1889), (.int (896) 0), (.int (1) 0), (.int (0) 0), (.int (0) 0), (.int (3) 0), (.ref 1126), (.bool true), (.int (181) 0), (.ref 1127), .none, .none, .none, (.ref 1128), (.int (1890) 0), (.int (896) 0), (.str (Str.ofString "/claim/cut.py") 1891)]), #[]⟩
def o174_1130 (P : Params) : Obj := ⟨(.type "function"), .none, (.func ⟨(Str.ofString "_folded_table"), (Str.ofString "_folded_table"), defArgs (top 159), .stmts (defBody (top 159)), defScope (top 159), 3, [], .none, .none, .none, (.str (Str.ofString "plinth.trim") 1857), .none, (.ref 1129), .none, 0⟩), #[]⟩
def o174_1131 (P : Params) : Obj := ⟨(.type "tuple"), .none, (.seq #[] 0), #[]⟩
def o174_1132 (P : Params) : Obj := ⟨.none, .none, (.fields #[]), #[]⟩
def o174_1133 (P : Params) : Obj := ⟨.none, .none, (.func ⟨(Str.ofString "_order"), (Str.ofString "_order"), defArgs (top 160), .stmts (defBody (top 160)), defScope (top 160), 0, [], .none, .none, .none, .none, .none, .none, .none, 0⟩), #[]⟩
def o174_1134 (P : Params) : Obj := ⟨(.type "code"), .none, (.fields #[(.str (Str.ofString "_order") 1893), (.str (Str.ofString "_order") 1894), (.str (Str.ofString "/claim/cut.py") 1895), (.int (898) 0), (.int (1) 0), (.int (0) 0), (.int (0) 0), (.int (3) 0), (.ref 1131), (.bool true), (.int (181) 0), (.ref 1132), .none, .none, .none, (.ref 1133), (.int (1896) 0), (.int (898) 0), (.str (Str.ofString "/claim/cut.py") 1897)]), #[]⟩
def o174_1135 (P : Params) : Obj := ⟨(.type "function"), .none, (.func ⟨(Str.ofString "_order"), (Str.ofString "_order"), defArgs (top 160), .stmts (defBody (top 160)), defScope (top 160), 3, [], .none, .none, .none, (.str (Str.ofString "plinth.trim") 1857), .none, (.ref 1134), .none, 0⟩), #[]⟩
def o174_1136 (P : Params) : Obj := ⟨(.type "tuple"), .none, (.seq #[] 0), #[]⟩
def o174_1137 (P : Params) : Obj := ⟨.none, .none, (.fields #[]), #[]⟩
def o174_1138 (P : Params) : Obj := ⟨(.type "tuple"), .none, (.seq #[(.str (Str.ofString "table") 1902), (.str (Str.ofString "names") 1903), (.str (Str.ofString "free") 1904), (.str (Str.ofString "number") 1905), (.str (Str.ofString "renamed") 1906), (.str (Str.ofString "op") 1907), (.str (Str.ofString "arg") 1908), (.str (Str.ofString "successor") 1909)] 0), #[]⟩
def o174_1139 (P : Params) : Obj := ⟨(.type "tuple"), .none, (.seq #[] 0), #[]⟩
def o174_1140 (P : Params) : Obj := ⟨.none, .none, (.func ⟨(Str.ofString "renumbered"), (Str.ofString "renumbered"), defArgs (top 161), .stmts (defBody (top 161)), defScope (top 161), 0, [], .none, .none, .none, .none, .none, .none, .none, 0⟩), #[]⟩
def o174_1141 (P : Params) : Obj := ⟨(.type "code"), .none, (.fields #[(.str (Str.ofString "renumbered") 1899), (.str (Str.ofString "renumbered") 1900), (.str (Str.ofString "/claim/cut.py") 1901), (.int (914) 0), (.int (1) 0), (.int (0) 0), (.int (0) 0), (.int (3) 0), (.ref 1136), (.bool true), (.int (181) 0), (.ref 1137), .none, (.ref 1138), (.ref 1139), (.ref 1140), (.int (1910) 0), (.int (914) 0), (.str (Str.ofString "/claim/cut.py") 1911)]), #[]⟩
def o174_1142 (P : Params) : Obj := ⟨(.type "function"), .none, (.func ⟨(Str.ofString "renumbered"), (Str.ofString "renumbered"), defArgs (top 161), .stmts (defBody (top 161)), defScope (top 161), 3, [], .none, .none, .none, (.str (Str.ofString "plinth.trim") 1857), .none, (.ref 1141), .none, 0⟩), #[]⟩
def o174_1143 (P : Params) : Obj := ⟨(.type "tuple"), .none, (.seq #[] 0), #[]⟩
def o174_1144 (P : Params) : Obj := ⟨.none, .none, (.fields #[]), #[]⟩
def o174_1145 (P : Params) : Obj := ⟨(.type "tuple"), .none, (.seq #[(.str (Str.ofString "image") 1916), (.str (Str.ofString "table") 1917)] 0), #[]⟩
def o174_1146 (P : Params) : Obj := ⟨(.type "tuple"), .none, (.seq #[] 0), #[]⟩
def o174_1147 (P : Params) : Obj := ⟨.none, .none, (.func ⟨(Str.ofString "thread"), (Str.ofString "thread"), defArgs (top 162), .stmts (defBody (top 162)), defScope (top 162), 0, [], .none, .none, .none, .none, .none, .none, .none, 0⟩), #[]⟩
def o174_1148 (P : Params) : Obj := ⟨(.type "code"), .none, (.fields #[(.str (Str.ofString "thread") 1913), (.str (Str.ofString "thread") 1914), (.str (Str.ofString "/claim/cut.py") 1915), (.int (930) 0), (.int (1) 0), (.int (0) 0), (.int (0) 0), (.int (3) 0), (.ref 1143), (.bool true), (.int (181) 0), (.ref 1144), .none, (.ref 1145), (.ref 1146), (.ref 1147), (.int (1918) 0), (.int (930) 0), (.str (Str.ofString "/claim/cut.py") 1919)]), #[]⟩
def o174_1149 (P : Params) : Obj := ⟨(.type "function"), .none, (.func ⟨(Str.ofString "thread"), (Str.ofString "thread"), defArgs (top 162), .stmts (defBody (top 162)), defScope (top 162), 3, [], .none, .none, .none, (.str (Str.ofString "plinth.trim") 1857), .none, (.ref 1148), .none, 0⟩), #[]⟩
def o174_1150 (P : Params) : Obj := ⟨(.type "tuple"), .none, (.seq #[] 0), #[]⟩
def o174_1151 (P : Params) : Obj := ⟨.none, .none, (.fields #[]), #[]⟩
def o174_1152 (P : Params) : Obj := ⟨(.type "tuple"), .none, (.seq #[(.str (Str.ofString "image") 1924), (.str (Str.ofString "table") 1925)] 0), #[]⟩
def o174_1153 (P : Params) : Obj := ⟨(.type "tuple"), .none, (.seq #[] 0), #[]⟩
def o174_1154 (P : Params) : Obj := ⟨.none, .none, (.func ⟨(Str.ofString "fold"), (Str.ofString "fold"), defArgs (top 163), .stmts (defBody (top 163)), defScope (top 163), 0, [], .none, .none, .none, .none, .none, .none, .none, 0⟩), #[]⟩
def o174_1155 (P : Params) : Obj := ⟨(.type "code"), .none, (.fields #[(.str (Str.ofString "fold") 1921), (.str (Str.ofString "fold") 1922), (.str (Str.ofString "/claim/cut.py") 1923), (.int (935) 0), (.int (1) 0), (.int (0) 0), (.int (0) 0), (.int (3) 0), (.ref 1150), (.bool true), (.int (181) 0), (.ref 1151), .none, (.ref 1152), (.ref 1153), (.ref 1154), (.int (1926) 0), (.int (935) 0), (.str (Str.ofString "/claim/cut.py") 1927)]), #[]⟩
def o174_1156 (P : Params) : Obj := ⟨(.type "function"), .none, (.func ⟨(Str.ofString "fold"), (Str.ofString "fold"), defArgs (top 163), .stmts (defBody (top 163)), defScope (top 163), 3, [], .none, .none, .none, (.str (Str.ofString "plinth.trim") 1857), .none, (.ref 1155), .none, 0⟩), #[]⟩
def o174_1157 (P : Params) : Obj := ⟨(.type "tuple"), .none, (.seq #[] 0), #[]⟩
def o174_1158 (P : Params) : Obj := ⟨.none, .none, (.fields #[]), #[]⟩
def o174_1159 (P : Params) : Obj := ⟨(.type "tuple"), .none, (.seq #[(.str (Str.ofString "image") 1932), (.str (Str.ofString "table") 1933)] 0), #[]⟩
def o174_1160 (P : Params) : Obj := ⟨(.type "tuple"), .none, (.seq #[] 0), #[]⟩
def o174_1161 (P : Params) : Obj := ⟨.none, .none, (.func ⟨(Str.ofString "renumber"), (Str.ofString "renumber"), defArgs (top 164), .stmts (defBody (top 164)), defScope (top 164), 0, [], .none, .none, .none, .none, .none, .none, .none, 0⟩), #[]⟩
def o174_1162 (P : Params) : Obj := ⟨(.type "code"), .none, (.fields #[(.str (Str.ofString "renumber") 1929), (.str (Str.ofString "renumber") 1930), (.str (Str.ofString "/claim/cut.py") 1931), (.int (940) 0), (.int (1) 0), (.int (0) 0), (.int (0) 0), (.int (3) 0), (.ref 1157), (.bool true), (.int (181) 0), (.ref 1158), .none, (.ref 1159), (.ref 1160), (.ref 1161), (.int (1934) 0), (.int (940) 0), (.str (Str.ofString "/claim/cut.py") 1935)]), #[]⟩
def o174_1163 (P : Params) : Obj := ⟨(.type "function"), .none, (.func ⟨(Str.ofString "renumber"), (Str.ofString "renumber"), defArgs (top 164), .stmts (defBody (top 164)), defScope (top 164), 3, [], .none, .none, .none, (.str (Str.ofString "plinth.trim") 1857), .none, (.ref 1162), .none, 0⟩), #[]⟩
def o174_1164 (P : Params) : Obj := ⟨(.type "tuple"), .none, (.seq #[] 0), #[]⟩
def o174_1165 (P : Params) : Obj := ⟨.none, .none, (.fields #[]), #[]⟩
def o174_1166 (P : Params) : Obj := ⟨(.type "tuple"), .none, (.seq #[(.str (Str.ofString "image") 1940)] 0), #[]⟩
def o174_1167 (P : Params) : Obj := ⟨(.type "tuple"), .none, (.seq #[] 0), #[]⟩
def o174_1168 (P : Params) : Obj := ⟨.none, .none, (.func ⟨(Str.ofString "trim"), (Str.ofString "trim"), defArgs (top 165), .stmts (defBody (top 165)), defScope (top 165), 0, [], .none, .none, .none, .none, .none, .none, .none, 0⟩), #[]⟩
def o174_1169 (P : Params) : Obj := ⟨(.type "code"), .none, (.fields #[(.str (Str.ofString "trim") 1937), (.str (Str.ofString "trim") 1938), (.str (Str.ofString "/claim/cut.py") 1939), (.int (945) 0), (.int (1) 0), (.int (0) 0), (.int (0) 0), (.int (3) 0), (.ref 1164), (.bool true), (.int (181) 0), (.ref 1165), .none, (.ref 1166), (.ref 1167), (.ref 1168), (.int (1941) 0), (.int (945) 0), (.str (Str.ofString "/claim/cut.py") 1942)]), #[]⟩
def o174_1170 (P : Params) : Obj := ⟨(.type "function"), .none, (.func ⟨(Str.ofString "trim"), (Str.ofString "trim"), defArgs (top 165), .stmts (defBody (top 165)), defScope (top 165), 3, [], .none, .none, .none, (.str (Str.ofString "plinth.trim") 1857), .none, (.ref 1169), .none, 0⟩), #[]⟩
def o174_1171 (P : Params) : Obj := ⟨(.type "tuple"), .none, (.seq #[] 0), #[]⟩
def o174_1172 (P : Params) : Obj := ⟨.none, .none, (.fields #[]), #[]⟩
def o174_1173 (P : Params) : Obj := ⟨(.type "tuple"), .none, (.seq #[(.str (Str.ofString "line") 1951)] 0), #[]⟩
def o174_1174 (P : Params) : Obj := ⟨(.type "tuple"), .none, (.seq #[] 0), #[]⟩
def o174_1175 (P : Params) : Obj := ⟨.none, .none, (.func ⟨(Str.ofString "_is_line"), (Str.ofString "_is_line"), defArgs (top 168), .stmts (defBody (top 168)), defScope (top 168), 0, [], .none, .none, .none, .none, .none, .none, .none, 0⟩), #[]⟩
def o174_1176 (P : Params) : Obj := ⟨(.type "code"), .none, (.fields #[(.str (Str.ofString "_is_line") 1948), (.str (Str.ofString "_is_line") 1949), (.str (Str.ofString "/claim/cut.py") 1950), (.int (949) 0), (.int (1) 0), (.int (0) 0), (.int (0) 0), (.int (3) 0), (.ref 1171), (.bool true), (.int (181) 0), (.ref 1172), .none, (.ref 1173), (.ref 1174), (.ref 1175), (.int (1952) 0), (.int (949) 0), (.str (Str.ofString "/claim/cut.py") 1953)]), #[]⟩
def o174_1177 (P : Params) : Obj := ⟨(.type "function"), .none, (.func ⟨(Str.ofString "_is_line"), (Str.ofString "_is_line"), defArgs (top 168), .stmts (defBody (top 168)), defScope (top 168), 3, [], .none, .none, .none, (.str (Str.ofString "plinth.words") 1944), .none, (.ref 1176), .none, 0⟩), #[]⟩
def o174_1178 (P : Params) : Obj := ⟨(.type "tuple"), .none, (.seq #[] 0), #[]⟩
def o174_1179 (P : Params) : Obj := ⟨.none, .none, (.fields #[]), #[]⟩
def o174_1180 (P : Params) : Obj := ⟨(.type "tuple"), .none, (.seq #[(.str (Str.ofString "line") 1958), (.str (Str.ofString "name") 1959), (.str (Str.ofString "_") 1960), (.str (Str.ofString "text") 1961), (.str (Str.ofString "words") 1962)] 0), #[]⟩
def o174_1181 (P : Params) : Obj := ⟨(.type "tuple"), .none, (.seq #[] 0), #[]⟩
def o174_1182 (P : Params) : Obj := ⟨.none, .none, (.func ⟨(Str.ofString "words_of"), (Str.ofString "words_of"), defArgs (top 169), .stmts (defBody (top 169)), defScope (top 169), 0, [], .none, .none, .none, .none, .none, .none, .none, 0⟩), #[]⟩
def o174_1183 (P : Params) : Obj := ⟨(.type "code"), .none, (.fields #[(.str (Str.ofString "words_of") 1955), (.str (Str.ofString "words_of") 1956), (.str (Str.ofString "/claim/cut.py") 1957), (.int (957) 0), (.int (1) 0), (.int (0) 0), (.int (0) 0), (.int (3) 0), (.ref 1178), (.bool true), (.int (181) 0), (.ref 1179), .none, (.ref 1180), (.ref 1181), (.ref 1182), (.int (1963) 0), (.int (957) 0), (.str (Str.ofString "/claim/cut.py") 1964)]), #[]⟩
def o174_1184 (P : Params) : Obj := ⟨(.type "function"), .none, (.func ⟨(Str.ofString "words_of"), (Str.ofString "words_of"), defArgs (top 169), .stmts (defBody (top 169)), defScope (top 169), 3, [], .none, .none, .none, (.str (Str.ofString "plinth.words") 1944), .none, (.ref 1183), .none, 0⟩), #[]⟩
def o174_1185 (P : Params) : Obj := ⟨(.type "tuple"), .none, (.seq #[] 0), #[]⟩
def o174_1186 (P : Params) : Obj := ⟨.none, .none, (.fields #[]), #[]⟩
def o174_1187 (P : Params) : Obj := ⟨.none, .none, (.func ⟨(Str.ofString "is_name"), (Str.ofString "is_name"), defArgs (top 170), .stmts (defBody (top 170)), defScope (top 170), 0, [], .none, .none, .none, .none, .none, .none, .none, 0⟩), #[]⟩
def o174_1188 (P : Params) : Obj := ⟨(.type "code"), .none, (.fields #[(.str (Str.ofString "is_name") 1966), (.str (Str.ofString "is_name") 1967), (.str (Str.ofString "/claim/cut.py") 1968), (.int (969) 0), (.int (1) 0), (.int (0) 0), (.int (0) 0), (.int (3) 0), (.ref 1185), (.bool true), (.int (181) 0), (.ref 1186), .none, .none, .none, (.ref 1187), (.int (1969) 0), (.int (969) 0), (.str (Str.ofString "/claim/cut.py") 1970)]), #[]⟩
def o174_1189 (P : Params) : Obj := ⟨(.type "function"), .none, (.func ⟨(Str.ofString "is_name"), (Str.ofString "is_name"), defArgs (top 170), .stmts (defBody (top 170)), defScope (top 170), 3, [], .none, .none, .none, (.str (Str.ofString "plinth.words") 1944), .none, (.ref 1188), .none, 0⟩), #[]⟩
def o174_1190 (P : Params) : Obj := ⟨(.type "dict"), .none, (.dict #[⟨PyData.keyHash P (Str.ofString "least"), (.str (Str.ofString "least") 1972), .none⟩, ⟨PyData.keyHash P (Str.ofString "most"), (.str (Str.ofString "most") 1973), .none⟩] 2), #[]⟩
def o174_1191 (P : Params) : Obj := ⟨(.type "tuple"), .none, (.seq #[] 0), #[]⟩
def o174_1192 (P : Params) : Obj := ⟨.none, .none, (.fields #[]), #[]⟩
def o174_1193 (P : Params) : Obj := ⟨(.type "tuple"), .none, (.seq #[(.str (Str.ofString "word") 1977), (.str (Str.ofString "least") 1978), (.str (Str.ofString "most") 1979), (.str (Str.ofString "number") 1980)] 0), #[]⟩
def o174_1194 (P : Params) : Obj := ⟨(.type "tuple"), .none, (.seq #[] 0), #[]⟩
def o174_1195 (P : Params) : Obj := ⟨.none, .none, (.func ⟨(Str.ofString "integer_of"), (Str.ofString "integer_of"), defArgs (top 171), .stmts (defBody (top 171)), defScope (top 171), 0, [], .none, .none, .none, .none, .none, .none, .none, 0⟩), #[]⟩
def o174_1196 (P : Params) : Obj := ⟨(.type "code"), .none, (.fields #[(.str (Str.ofString "integer_of") 1974), (.str (Str.ofString "integer_of") 1975), (.str (Str.ofString "/claim/cut.py") 1976), (.int (971) 0), (.int (1) 0), (.int (0) 0), (.int (2) 0), (.int (3) 0), (.ref 1191), (.bool true), (.int (181) 0), (.ref 1192), .none, (.ref 1193), (.ref 1194), (.ref 1195), (.int (1981) 0), (.int (971) 0), (.str (Str.ofString "/claim/cut.py") 1982)]), #[]⟩
def o174_1197 (P : Params) : Obj := ⟨(.type "function"), .none, (.func ⟨(Str.ofString "integer_of"), (Str.ofString "integer_of"), defArgs (top 171), .stmts (defBody (top 171)), defScope (top 171), 3, [], .none, (.ref 1190), .none, (.str (Str.ofString "plinth.words") 1944), .none, (.ref 1196), .none, 0⟩), #[]⟩
def T174 (P : Params) : BT := (.node (boot_o_0 P) (.node (boot_o_1 P) (.node (o174_3 P) (.node (boot_o_7 P) (.node (o20_15 P) (.node (o20_31 P) (.node (o20_63 P) (.node (o20_127 P) (.node (o84_255 P) (.node (o84_511 P) (.node (o150_1023 P) .nil .nil) .nil) (.node (o150_767 P) .nil .nil)) (.node (o84_383 P) (.node (o150_639 P) (.node (o174_1151 P) .nil .nil) .nil) (.node (o150_895 P) .nil .nil))) (.node (o20_191 P) (.node (o84_319 P) (.node (o84_575 P) (.node (o174_1087 P) .nil .nil) .nil) (.node (o150_831 P) .nil .nil)) (.node (o84_447 P) (.node (o150_703 P) .nil .nil) (.node (o150_959 P) .nil .nil)))) (.node (o20_95 P) (.node (o20_159 P) (.node (o84_287 P) (.node (o84_543 P) (.node (o150_1055 P) .nil .nil) .nil) (.node (o150_799 P) .nil .nil)) (.node (o84_415 P) (.node (o150_671 P) (.node (o174_1183 P) .nil .nil) .nil) (.node (o150_927 P) .nil .nil))) (.node (o84_223 P) (.node (o84_351 P) (.node (o150_607 P) (.node (o174_1119 P) .nil .nil) .nil) (.node (o150_863 P) .nil .nil)) (.node (o84_479 P) (.node (o150_735 P) .nil .nil) (.node (o150_991 P) .nil .nil))))) (.node (o20_47 P) (.node (o20_79 P) (.node (o20_143 P) (.node (o84_271 P) (.node (o84_527 P) (.node (o150_1039 P) .nil .nil) .nil) (.node (o150_783 P) .nil .nil)) (.node (o84_399 P) (.node (o150_655 P) (.node (o174_1167 P) .nil .nil) .nil) (.node (o150_911 P) .nil .nil))) (.node (o20_207 P) (.node (o84_335 P) (.node (o84_591 P) (.node (o174_1103 P) .nil .nil) .nil) (.node (o150_847 P) .nil .nil)) (.node (o84_463 P) (.node (o150_719 P) .nil .nil) (.node (o150_975 P) .nil .nil)))) (.node (o20_111 P) (.node (o20_175 P) (.node (o84_303 P) (.node (o84_559 P) (.node (o150_1071 P) .nil .nil) .nil) (.node (o150_815 P) .nil .nil)) (.node (o84_431 P) (.node (o150_687 P) .nil .nil) (.node (o150_943 P) .nil .nil))) (.node (o84_239 P) (.node (o84_367 P) (.node (o150_623 P) (.node (o174_1135 P) .nil .nil) .nil) (.node (o150_879 P) .nil .nil)) (.node (o84_495 P) (.node (o150_751 P) .nil .nil) (.node (o150_1007 P) .nil .nil)))))) (.node (o20_23 P) (.node (o20_39 P) (.node (o20_71 P) (.node (o20_135 P) (.node (o84_263 P) (.node (o84_519 P) (.node (o150_1031 P) .nil .nil) .nil) (.node (o150_775 P) .nil .nil)) (.node (o84_391 P) (.node (o150_647 P) (.node (o174_1159 P) .nil .nil) .nil) (.node (o150_903 P) .nil .nil))) (.node (o20_199 P) (.node (o84_327 P) (.node (o84_583 P) (.node (o174_1095 P) .nil .nil) .nil) (.node (o150_839 P) .nil .nil)) (.node (o84_455 P) (.node (o150_711 P) .nil .nil) (.node (o150_967 P) .nil .nil)))) (.node (o20_103 P) (.node (o20_167 P) (.node (o84_295 P) (.node (o84_551 P) (.node (o150_1063 P) .nil .nil) .nil) (.node (o150_807 P) .nil .nil)) (.node (o84_423 P) (.node (o150_679 P) (.node (o174_1191 P) .nil .nil) .nil) (.node (o150_935 P) .nil .nil))) (.node (o84_231 P) (.node (o84_359 P) (.node (o150_615 P) (.node (o174_1127 P) .nil .nil) .nil) (.node (o150_871 P) .nil .nil)) (.node (o84_487 P) (.node (o150_743 P) .nil .nil) (.node (o150_999 P) .nil .nil))))) (.node (o20_55 P) (.node (o20_87 P) (.node (o20_151 P) (.node (o84_279 P) (.node (o84_535 P) (.node (o150_1047 P) .nil .nil) .nil) (.node (o150_791 P) .nil .nil)) (.node (o84_407 P) (.node (o150_663 P) (.node (o174_1175 P) .nil .nil) .nil) (.node (o150_919 P) .nil .nil))) (.node (o84_215 P) (.node (o84_343 P) (.node (o84_599 P) (.node (o174_1111 P) .nil .nil) .nil) (.node (o150_855 P) .nil .nil)) (.node (o84_471 P) (.node (o150_727 P) .nil .nil) (.node (o150_983 P) .nil .nil)))) (.node (o20_119 P) (.node (o20_183 P) (.node (o84_311 P) (.node (o84_567 P) (.node (o174_1079 P) .nil .nil) .nil) (.node (o150_823 P) .nil .nil)) (.node (o84_439 P) (.node (o150_695 P) .nil .nil) (.node (o150_951 P) .nil .nil))) (.node (o84_247 P) (.node (o84_375 P) (.node (o150_631 P) (.node (o174_1143 P) .nil .nil) .nil) (.node (o150_887 P) .nil .nil)) (.node (o84_503 P) (.node (o150_759 P) .nil .nil) (.node (o150_1015 P) .nil .nil))))))) (.node (oa_11 P) (.node (o20_19 P) (.node (o20_35 P) (.node (o20_67 P) (.node (o20_131 P) (.node (o84_259 P) (.node (o84_515 P) (.node (o150_1027 P) .nil .nil) .nil) (.node (o150_771 P) .nil .nil)) (.node (o84_387 P) (.node (o150_643 P) (.node (o174_1155 P) .nil .nil) .nil) (.node (o150_899 P) .nil .nil))) (.node (o20_195 P) (.node (o84_323 P) (.node (o84_579 P) (.node (o174_1091 P) .nil .nil) .nil) (.node (o150_835 P) .nil .nil)) (.node (o84_451 P) (.node (o150_707 P) .nil .nil) (.node (o150_963 P) .nil .nil)))) (.node (o20_99 P) (.node (o20_163 P) (.node (o84_291 P) (.node (o84_547 P) (.node (o150_1059 P) .nil .nil) .nil) (.node (o150_803 P) .nil .nil)) (.node (o84_419 P) (.node (o150_675 P) (.node (o174_1187 P) .nil .nil) .nil) (.node (o150_931 P) .nil .nil))) (.node (o84_227 P) (.node (o84_355 P) (.node (o150_611 P) (.node (o174_1123 P) .nil .nil) .nil) (.node (o150_867 P) .nil .nil)) (.node (o84_483 P) (.node (o150_739 P) .nil .nil) (.node (o150_995 P) .nil .nil))))) (.node (o20_51 P) (.node (o20_83 P) (.node (o20_147 P) (.node (o84_275 P) (.node (o84_531 P) (.node (o150_1043 P) .nil .nil) .nil) (.node (o150_787 P) .nil .nil)) (.node (o84_403 P) (.node (o150_659 P) (.node (o174_1171 P) .nil .nil) .nil) (.node (o150_915 P) .nil .nil))) (.node (o20_211 P) (.node (o84_339 P) (.node (o84_595 P) (.node (o174_1107 P) .nil .nil) .nil) (.node (o150_851 P) .nil .nil)) (.node (o84_467 P) (.node (o150_723 P) .nil .nil) (.node (o150_979 P) .nil .nil)))) (.node (o20_115 P) (.node (o20_179 P) (.node (o84_307 P) (.node (o84_563 P) (.node (o174_1075 P) .nil .nil) .nil) (.node (o150_819 P) .nil .nil)) (.node (o84_435 P) (.node (o150_691 P) .nil .nil) (.node (o150_947 P) .nil .nil))) (.node (o84_243 P) (.node (o84_371 P) (.node (o150_627 P) (.node (o174_1139 P) .nil .nil) .nil) (.node (o150_883 P) .nil .nil)) (.node (o84_499 P) (.node (o150_755 P) .nil .nil) (.node (o150_1011 P) .nil .nil)))))) (.node (o20_27 P) (.node (o20_43 P) (.node (o20_75 P) (.node (o20_139 P) (.node (o84_267 P) (.node (o84_523 P) (.node (o150_1035 P) .nil .nil) .nil) (.node (o150_779 P) .nil .nil)) (.node (o84_395 P) (.node (o150_651 P) (.node (o174_1163 P) .nil .nil) .nil) (.node (o150_907 P) .nil .nil))) (.node (o20_203 P) (.node (o84_331 P) (.node (o84_587 P) (.node (o174_1099 P) .nil .nil) .nil) (.node (o150_843 P) .nil .nil)) (.node (o84_459 P) (.node (o150_715 P) .nil .nil) (.node (o150_971 P) .nil .nil)))) (.node (o20_107 P) (.node (o20_171 P) (.node (o84_299 P) (.node (o84_555 P) (.node (o150_1067 P) .nil .nil) .nil) (.node (o150_811 P) .nil .nil)) (.node (o84_427 P) (.node (o150_683 P) (.node (o174_1195 P) .nil .nil) .nil) (.node (o150_939 P) .nil .nil))) (.node (o84_235 P) (.node (o84_363 P) (.node (o150_619 P) (.node (o174_1131 P) .nil .nil) .nil) (.node (o150_875 P) .nil .nil)) (.node (o84_491 P) (.node (o150_747 P) .nil .nil) (.node (o150_1003 P) .nil .nil))))) (.node (o20_59 P) (.node (o20_91 P) (.node (o20_155 P) (.node (o84_283 P) (.node (o84_539 P) (.node (o150_1051 P) .nil .nil) .nil) (.node (o150_795 P) .nil .nil)) (.node (o84_411 P) (.node (o150_667 P) (.node (o174_1179 P) .nil .nil) .nil) (.node (o150_923 P) .nil .nil))) (.node (o84_219 P) (.node (o84_347 P) (.node (o84_603 P) (.node (o174_1115 P) .nil .nil) .nil) (.node (o150_859 P) .nil .nil)) (.node (o84_475 P) (.node (o150_731 P) .nil .nil) (.node (o150_987 P) .nil .nil)))) (.node (o20_123 P) (.node (o20_187 P) (.node (o84_315 P) (.node (o84_571 P) (.node (o174_1083 P) .nil .nil) .nil) (.node (o150_827 P) .nil .nil)) (.node (o84_443 P) (.node (o150_699 P) .nil .nil) (.node (o150_955 P) .nil .nil))) (.node (o84_251 P) (.node (o84_379 P) (.node (o150_635 P) (.node (o174_1147 P) .nil .nil) .nil) (.node (o150_891 P) .nil .nil)) (.node (o84_507 P) (.node (o150_763 P) .nil .nil) (.node (o150_1019 P) .nil .nil)))))))) (.node (boot_o_5 P) (.node (boot_o_9 P) (.node (o20_17 P) (.node (o20_33 P) (.node (o20_65 P) (.node (o20_129 P) (.node (o84_257 P) (.node (o84_513 P) (.node (o150_1025 P) .nil .nil) .nil) (.node (o150_769 P) .nil .nil)) (.node (o84_385 P) (.node (o150_641 P) (.node (o174_1153 P) .nil .nil) .nil) (.node (o150_897 P) .nil .nil))) (.node (o20_193 P) (.node (o84_321 P) (.node (o84_577 P) (.node (o174_1089 P) .nil .nil) .nil) (.node (o150_833 P) .nil .nil)) (.node (o84_449 P) (.node (o150_705 P) .nil .nil) (.node (o150_961 P) .nil .nil)))) (.node (o20_97 P) (.node (o20_161 P) (.node (o84_289 P) (.node (o84_545 P) (.node (o150_1057 P) .nil .nil) .nil) (.node (o150_801 P) .nil .nil)) (.node (o84_417 P) (.node (o150_673 P) (.node (o174_1185 P) .nil .nil) .nil) (.node (o150_929 P) .nil .nil))) (.node (o84_225 P) (.node (o84_353 P) (.node (o150_609 P) (.node (o174_1121 P) .nil .nil) .nil) (.node (o150_865 P) .nil .nil)) (.node (o84_481 P) (.node (o150_737 P) .nil .nil) (.node (o150_993 P) .nil .nil))))) (.node (o20_49 P) (.node (o20_81 P) (.node (o20_145 P) (.node (o84_273 P) (.node (o84_529 P) (.node (o150_1041 P) .nil .nil) .nil) (.node (o150_785 P) .nil .nil)) (.node (o84_401 P) (.node (o150_657 P) (.node (o174_1169 P) .nil .nil) .nil) (.node (o150_913 P) .nil .nil))) (.node (o20_209 P) (.node (o84_337 P) (.node (o84_593 P) (.node (o174_1105 P) .nil .nil) .nil) (.node (o150_849 P) .nil .nil)) (.node (o84_465 P) (.node (o150_721 P) .nil .nil) (.node (o150_977 P) .nil .nil)))) (.node (o20_113 P) (.node (o20_177 P) (.node (o84_305 P) (.node (o84_561 P) (.node (o150_1073 P) .nil .nil) .nil) (.node (o150_817 P) .nil .nil)) (.node (o84_433 P) (.node (o150_689 P) .nil .nil) (.node (o150_945 P) .nil .nil))) (.node (o84_241 P) (.node (o84_369 P) (.node (o150_625 P) (.node (o174_1137 P) .nil .nil) .nil) (.node (o150_881 P) .nil .nil)) (.node (o84_497 P) (.node (o150_753 P) .nil .nil) (.node (o150_1009 P) .nil .nil)))))) (.node (o20_25 P) (.node (o20_41 P) (.node (o20_73 P) (.node (o20_137 P) (.node (o84_265 P) (.node (o84_521 P) (.node (o150_1033 P) .nil .nil) .nil) (.node (o150_777 P) .nil .nil)) (.node (o84_393 P) (.node (o150_649 P) (.node (o174_1161 P) .nil .nil) .nil) (.node (o150_905 P) .nil .nil))) (.node (o20_201 P) (.node (o84_329 P) (.node (o84_585 P) (.node (o174_1097 P) .nil .nil) .nil) (.node (o150_841 P) .nil .nil)) (.node (o84_457 P) (.node (o150_713 P) .nil .nil) (.node (o150_969 P) .nil .nil)))) (.node (o20_105 P) (.node (o20_169 P) (.node (o84_297 P) (.node (o84_553 P) (.node (o150_1065 P) .nil .nil) .nil) (.node (o150_809 P) .nil .nil)) (.node (o84_425 P) (.node (o150_681 P) (.node (o174_1193 P) .nil .nil) .nil) (.node (o150_937 P) .nil .nil))) (.node (o84_233 P) (.node (o84_361 P) (.node (o150_617 P) (.node (o174_1129 P) .nil .nil) .nil) (.node (o150_873 P) .nil .nil)) (.node (o84_489 P) (.node (o150_745 P) .nil .nil) (.node (o150_1001 P) .nil .nil))))) (.node (o20_57 P) (.node (o20_89 P) (.node (o20_153 P) (.node (o84_281 P) (.node (o84_537 P) (.node (o150_1049 P) .nil .nil) .nil) (.node (o150_793 P) .nil .nil)) (.node (o84_409 P) (.node (o150_665 P) (.node (o174_1177 P) .nil .nil) .nil) (.node (o150_921 P) .nil .nil))) (.node (o84_217 P) (.node (o84_345 P) (.node (o84_601 P) (.node (o174_1113 P) .nil .nil) .nil) (.node (o150_857 P) .nil .nil)) (.node (o84_473 P) (.node (o150_729 P) .nil .nil) (.node (o150_985 P) .nil .nil)))) (.node (o20_121 P) (.node (o20_185 P) (.node (o84_313 P) (.node (o84_569 P) (.node (o174_1081 P) .nil .nil) .nil) (.node (o150_825 P) .nil .nil)) (.node (o84_441 P) (.node (o150_697 P) .nil .nil) (.node (o150_953 P) .nil .nil))) (.node (o84_249 P) (.node (o84_377 P) (.node (o150_633 P) (.node (o174_1145 P) .nil .nil) .nil) (.node (o150_889 P) .nil .nil)) (.node (o84_505 P) (.node (o150_761 P) .nil .nil) (.node (o150_1017 P) .nil .nil))))))) (.node (oa_13 P) (.node (o20_21 P) (.node (o20_37 P) (.node (o20_69 P) (.node (o20_133 P) (.node (o84_261 P) (.node (o84_517 P) (.node (o150_1029 P) .nil .nil) .nil) (.node (o150_773 P) .nil .nil)) (.node (o84_389 P) (.node (o150_645 P) (.node (o174_1157 P) .nil .nil) .nil) (.node (o150_901 P) .nil .nil))) (.node (o20_197 P) (.node (o84_325 P) (.node (o84_581 P) (.node (o174_1093 P) .nil .nil) .nil) (.node (o150_837 P) .nil .nil)) (.node (o84_453 P) (.node (o150_709 P) .nil .nil) (.node (o150_965 P) .nil .nil)))) (.node (o20_101 P) (.node (o20_165 P) (.node (o84_293 P) (.node (o84_549 P) (.node (o150_1061 P) .nil .nil) .nil) (.node (o150_805 P) .nil .nil)) (.node (o84_421 P) (.node (o150_677 P) (.node (o174_1189 P) .nil .nil) .nil) (.node (o150_933 P) .nil .nil))) (.node (o84_229 P) (.node (o84_357 P) (.node (o150_613 P) (.node (o174_1125 P) .nil .nil) .nil) (.node (o150_869 P) .nil .nil)) (.node (o84_485 P) (.node (o150_741 P) .nil .nil) (.node (o150_997 P) .nil .nil))))) (.node (o20_53 P) (.node (o20_85 P) (.node (o20_149 P) (.node (o84_277 P) (.node (o84_533 P) (.node (o150_1045 P) .nil .nil) .nil) (.node (o150_789 P) .nil .nil)) (.node (o84_405 P) (.node (o150_661 P) (.node (o174_1173 P) .nil .nil) .nil) (.node (o150_917 P) .nil .nil))) (.node (o84_213 P) (.node (o84_341 P) (.node (o84_597 P) (.node (o174_1109 P) .nil .nil) .nil) (.node (o150_853 P) .nil .nil)) (.node (o84_469 P) (.node (o150_725 P) .nil .nil) (.node (o150_981 P) .nil .nil)))) (.node (o20_117 P) (.node (o20_181 P) (.node (o84_309 P) (.node (o84_565 P) (.node (o174_1077 P) .nil .nil) .nil) (.node (o150_821 P) .nil .nil)) (.node (o84_437 P) (.node (o150_693 P) .nil .nil) (.node (o150_949 P) .nil .nil))) (.node (o84_245 P) (.node (o84_373 P) (.node (o150_629 P) (.node (o174_1141 P) .nil .nil) .nil) (.node (o150_885 P) .nil .nil)) (.node (o84_501 P) (.node (o150_757 P) .nil .nil) (.node (o150_1013 P) .nil .nil)))))) (.node (o20_29 P) (.node (o20_45 P) (.node (o20_77 P) (.node (o20_141 P) (.node (o84_269 P) (.node (o84_525 P) (.node (o150_1037 P) .nil .nil) .nil) (.node (o150_781 P) .nil .nil)) (.node (o84_397 P) (.node (o150_653 P) (.node (o174_1165 P) .nil .nil) .nil) (.node (o150_909 P) .nil .nil))) (.node (o20_205 P) (.node (o84_333 P) (.node (o84_589 P) (.node (o174_1101 P) .nil .nil) .nil) (.node (o150_845 P) .nil .nil)) (.node (o84_461 P) (.node (o150_717 P) .nil .nil) (.node (o150_973 P) .nil .nil)))) (.node (o20_109 P) (.node (o20_173 P) (.node (o84_301 P) (.node (o84_557 P) (.node (o150_1069 P) .nil .nil) .nil) (.node (o150_813 P) .nil .nil)) (.node (o84_429 P) (.node (o150_685 P) (.node (o174_1197 P) .nil .nil) .nil) (.node (o150_941 P) .nil .nil))) (.node (o84_237 P) (.node (o84_365 P) (.node (o150_621 P) (.node (o174_1133 P) .nil .nil) .nil) (.node (o150_877 P) .nil .nil)) (.node (o84_493 P) (.node (o150_749 P) .nil .nil) (.node (o150_1005 P) .nil .nil))))) (.node (o20_61 P) (.node (o20_93 P) (.node (o20_157 P) (.node (o84_285 P) (.node (o84_541 P) (.node (o150_1053 P) .nil .nil) .nil) (.node (o150_797 P) .nil .nil)) (.node (o84_413 P) (.node (o150_669 P) (.node (o174_1181 P) .nil .nil) .nil) (.node (o150_925 P) .nil .nil))) (.node (o84_221 P) (.node (o84_349 P) (.node (o85_605 P) (.node (o174_1117 P) .nil .nil) .nil) (.node (o150_861 P) .nil .nil)) (.node (o84_477 P) (.node (o150_733 P) .nil .nil) (.node (o150_989 P) .nil .nil)))) (.node (o20_125 P) (.node (o20_189 P) (.node (o84_317 P) (.node (o84_573 P) (.node (o174_1085 P) .nil .nil) .nil) (.node (o150_829 P) .nil .nil)) (.node (o84_445 P) (.node (o150_701 P) .nil .nil) (.node (o150_957 P) .nil .nil))) (.node (o84_253 P) (.node (o84_381 P) (.node (o150_637 P) (.node (o174_1149 P) .nil .nil) .nil) (.node (o150_893 P) .nil .nil)) (.node (o84_509 P) (.node (o150_765 P) .nil .nil) (.node (o150_1021 P) .nil .nil))))))))) (.node (boot_o_2 P) (.node (boot_o_4 P) (.node (boot_o_8 P) (.node (o20_16 P) (.node (o20_32 P) (.node (o20_64 P) (.node (o20_128 P) (.node (o84_256 P) (.node (o84_512 P) (.node (o150_1024 P) .nil .nil) .nil) (.node (o150_768 P) .nil .nil)) (.node (o84_384 P) (.node (o150_640 P) (.node (o174_1152 P) .nil .nil) .nil) (.node (o150_896 P) .nil .nil))) (.node (o20_192 P) (.node (o84_320 P) (.node (o84_576 P) (.node (o174_1088 P) .nil .nil) .nil) (.node (o150_832 P) .nil .nil)) (.node (o84_448 P) (.node (o150_704 P) .nil .nil) (.node (o150_960 P) .nil .nil)))) (.node (o20_96 P) (.node (o20_160 P) (.node (o84_288 P) (.node (o84_544 P) (.node (o150_1056 P) .nil .nil) .nil) (.node (o150_800 P) .nil .nil)) (.node (o84_416 P) (.node (o150_672 P) (.node (o174_1184 P) .nil .nil) .nil) (.node (o150_928 P) .nil .nil))) (.node (o84_224 P) (.node (o84_352 P) (.node (o150_608 P) (.node (o174_1120 P) .nil .nil) .nil) (.node (o150_864 P) .nil .nil)) (.node (o84_480 P) (.node (o150_736 P) .nil .nil) (.node (o150_992 P) .nil .nil))))) (.node (o20_48 P) (.node (o20_80 P) (.node (o20_144 P) (.node (o84_272 P) (.node (o84_528 P) (.node (o150_1040 P) .nil .nil) .nil) (.node (o150_784 P) .nil .nil)) (.node (o84_400 P) (.node (o150_656 P) (.node (o174_1168 P) .nil .nil) .nil) (.node (o150_912 P) .nil .nil))) (.node (o20_208 P) (.node (o84_336 P) (.node (o84_592 P) (.node (o174_1104 P) .nil .nil) .nil) (.node (o150_848 P) .nil .nil)) (.node (o84_464 P) (.node (o150_720 P) .nil .nil) (.node (o150_976 P) .nil .nil)))) (.node (o20_112 P) (.node (o20_176 P) (.node (o84_304 P) (.node (o84_560 P) (.node (o150_1072 P) .nil .nil) .nil) (.node (o150_816 P) .nil .nil)) (.node (o84_432 P) (.node (o150_688 P) .nil .nil) (.node (o150_944 P) .nil .nil))) (.node (o84_240 P) (.node (o84_368 P) (.node (o150_624 P) (.node (o174_1136 P) .nil .nil) .nil) (.node (o150_880 P) .nil .nil)) (.node (o84_496 P) (.node (o150_752 P) .nil .nil) (.node (o150_1008 P) .nil .nil)))))) (.node (o20_24 P) (.node (o20_40 P) (.node (o20_72 P) (.node (o20_136 P) (.node (o84_264 P) (.node (o84_520 P) (.node (o150_1032 P) .nil .nil) .nil) (.node (o150_776 P) .nil .nil)) (.node (o84_392 P) (.node (o150_648 P) (.node (o174_1160 P) .nil .nil) .nil) (.node (o150_904 P) .nil .nil))) (.node (o20_200 P) (.node (o84_328 P) (.node (o84_584 P) (.node (o174_1096 P) .nil .nil) .nil) (.node (o150_840 P) .nil .nil)) (.node (o84_456 P) (.node (o150_712 P) .nil .nil) (.node (o150_968 P) .nil .nil)))) (.node (o20_104 P) (.node (o20_168 P) (.node (o84_296 P) (.node (o84_552 P) (.node (o150_1064 P) .nil .nil) .nil) (.node (o150_808 P) .nil .nil)) (.node (o84_424 P) (.node (o150_680 P) (.node (o174_1192 P) .nil .nil) .nil) (.node (o150_936 P) .nil .nil))) (.node (o84_232 P) (.node (o84_360 P) (.node (o150_616 P) (.node (o174_1128 P) .nil .nil) .nil) (.node (o150_872 P) .nil .nil)) (.node (o84_488 P) (.node (o150_744 P) .nil .nil) (.node (o150_1000 P) .nil .nil))))) (.node (o20_56 P) (.node (o20_88 P) (.node (o20_152 P) (.node (o84_280 P) (.node (o84_536 P) (.node (o150_1048 P) .nil .nil) .nil) (.node (o150_792 P) .nil .nil)) (.node (o84_408 P) (.node (o150_664 P) (.node (o174_1176 P) .nil .nil) .nil) (.node (o150_920 P) .nil .nil))) (.node (o84_216 P) (.node (o84_344 P) (.node (o84_600 P) (.node (o174_1112 P) .nil .nil) .nil) (.node (o150_856 P) .nil .nil)) (.node (o84_472 P) (.node (o150_728 P) .nil .nil) (.node (o150_984 P) .nil .nil)))) (.node (o20_120 P) (.node (o20_184 P) (.node (o84_312 P) (.node (o84_568 P) (.node (o174_1080 P) .nil .nil) .nil) (.node (o150_824 P) .nil .nil)) (.node (o84_440 P) (.node (o150_696 P) .nil .nil) (.node (o150_952 P) .nil .nil))) (.node (o84_248 P) (.node (o84_376 P) (.node (o150_632 P) (.node (o174_1144 P) .nil .nil) .nil) (.node (o150_888 P) .nil .nil)) (.node (o84_504 P) (.node (o150_760 P) .nil .nil) (.node (o150_1016 P) .nil .nil))))))) (.node (o174_12 P) (.node (o20_20 P) (.node (o20_36 P) (.node (o20_68 P) (.node (o20_132 P) (.node (o84_260 P) (.node (o84_516 P) (.node (o150_1028 P) .nil .nil) .nil) (.node (o150_772 P) .nil .nil)) (.node (o84_388 P) (.node (o150_644 P) (.node (o174_1156 P) .nil .nil) .nil) (.node (o150_900 P) .nil .nil))) (.node (o20_196 P) (.node (o84_324 P) (.node (o84_580 P) (.node (o174_1092 P) .nil .nil) .nil) (.node (o150_836 P) .nil .nil)) (.node (o84_452 P) (.node (o150_708 P) .nil .nil) (.node (o150_964 P) .nil .nil)))) (.node (o20_100 P) (.node (o20_164 P) (.node (o84_292 P) (.node (o84_548 P) (.node (o150_1060 P) .nil .nil) .nil) (.node (o150_804 P) .nil .nil)) (.node (o84_420 P) (.node (o150_676 P) (.node (o174_1188 P) .nil .nil) .nil) (.node (o150_932 P) .nil .nil))) (.node (o84_228 P) (.node (o84_356 P) (.node (o150_612 P) (.node (o174_1124 P) .nil .nil) .nil) (.node (o150_868 P) .nil .nil)) (.node (o84_484 P) (.node (o150_740 P) .nil .nil) (.node (o150_996 P) .nil .nil))))) (.node (o20_52 P) (.node (o20_84 P) (.node (o20_148 P) (.node (o84_276 P) (.node (o84_532 P) (.node (o150_1044 P) .nil .nil) .nil) (.node (o150_788 P) .nil .nil)) (.node (o84_404 P) (.node (o150_660 P) (.node (o174_1172 P) .nil .nil) .nil) (.node (o150_916 P) .nil .nil))) (.node (o84_212 P) (.node (o84_340 P) (.node (o84_596 P) (.node (o174_1108 P) .nil .nil) .nil) (.node (o150_852 P) .nil .nil)) (.node (o84_468 P) (.node (o150_724 P) .nil .nil) (.node (o150_980 P) .nil .nil)))) (.node (o20_116 P) (.node (o20_180 P) (.node (o84_308 P) (.node (o84_564 P) (.node (o174_1076 P) .nil .nil) .nil) (.node (o150_820 P) .nil .nil)) (.node (o84_436 P) (.node (o150_692 P) .nil .nil) (.node (o150_948 P) .nil .nil))) (.node (o84_244 P) (.node (o84_372 P) (.node (o150_628 P) (.node (o174_1140 P) .nil .nil) .nil) (.node (o150_884 P) .nil .nil)) (.node (o84_500 P) (.node (o150_756 P) .nil .nil) (.node (o150_1012 P) .nil .nil)))))) (.node (o20_28 P) (.node (o20_44 P) (.node (o20_76 P) (.node (o20_140 P) (.node (o84_268 P) (.node (o84_524 P) (.node (o150_1036 P) .nil .nil) .nil) (.node (o150_780 P) .nil .nil)) (.node (o84_396 P) (.node (o150_652 P) (.node (o174_1164 P) .nil .nil) .nil) (.node (o150_908 P) .nil .nil))) (.node (o20_204 P) (.node (o84_332 P) (.node (o84_588 P) (.node (o174_1100 P) .nil .nil) .nil) (.node (o150_844 P) .nil .nil)) (.node (o84_460 P) (.node (o150_716 P) .nil .nil) (.node (o150_972 P) .nil .nil)))) (.node (o20_108 P) (.node (o20_172 P) (.node (o84_300 P) (.node (o84_556 P) (.node (o150_1068 P) .nil .nil) .nil) (.node (o150_812 P) .nil .nil)) (.node (o84_428 P) (.node (o150_684 P) (.node (o174_1196 P) .nil .nil) .nil) (.node (o150_940 P) .nil .nil))) (.node (o84_236 P) (.node (o84_364 P) (.node (o150_620 P) (.node (o174_1132 P) .nil .nil) .nil) (.node (o150_876 P) .nil .nil)) (.node (o84_492 P) (.node (o150_748 P) .nil .nil) (.node (o150_1004 P) .nil .nil))))) (.node (o20_60 P) (.node (o20_92 P) (.node (o20_156 P) (.node (o84_284 P) (.node (o84_540 P) (.node (o150_1052 P) .nil .nil) .nil) (.node (o150_796 P) .nil .nil)) (.node (o84_412 P) (.node (o150_668 P) (.node (o174_1180 P) .nil .nil) .nil) (.node (o150_924 P) .nil .nil))) (.node (o84_220 P) (.node (o84_348 P) (.node (o84_604 P) (.node (o174_1116 P) .nil .nil) .nil) (.node (o150_860 P) .nil .nil)) (.node (o84_476 P) (.node (o150_732 P) .nil .nil) (.node (o150_988 P) .nil .nil)))) (.node (o20_124 P) (.node (o20_188 P) (.node (o84_316 P) (.node (o84_572 P) (.node (o174_1084 P) .nil .nil) .nil) (.node (o150_828 P) .nil .nil)) (.node (o84_444 P) (.node (o150_700 P) .nil .nil) (.node (o150_956 P) .nil .nil))) (.node (o84_252 P) (.node (o84_380 P) (.node (o150_636 P) (.node (o174_1148 P) .nil .nil) .nil) (.node (o150_892 P) .nil .nil)) (.node (o84_508 P) (.node (o150_764 P) .nil .nil) (.node (o150_1020 P) .nil .nil)))))))) (.node (boot_o_6 P) (.node (boot_o_10 P) (.node (o20_18 P) (.node (o20_34 P) (.node (o20_66 P) (.node (o20_130 P) (.node (o84_258 P) (.node (o84_514 P) (.node (o150_1026 P) .nil .nil) .nil) (.node (o150_770 P) .nil .nil)) (.node (o84_386 P) (.node (o150_642 P) (.node (o174_1154 P) .nil .nil) .nil) (.node (o150_898 P) .nil .nil))) (.node (o20_194 P) (.node (o84_322 P) (.node (o84_578 P) (.node (o174_1090 P) .nil .nil) .nil) (.node (o150_834 P) .nil .nil)) (.node (o84_450 P) (.node (o150_706 P) .nil .nil) (.node (o150_962 P) .nil .nil)))) (.node (o20_98 P) (.node (o20_162 P) (.node (o84_290 P) (.node (o84_546 P) (.node (o150_1058 P) .nil .nil) .nil) (.node (o150_802 P) .nil .nil)) (.node (o84_418 P) (.node (o150_674 P) (.node (o174_1186 P) .nil .nil) .nil) (.node (o150_930 P) .nil .nil))) (.node (o84_226 P) (.node (o84_354 P) (.node (o150_610 P) (.node (o174_1122 P) .nil .nil) .nil) (.node (o150_866 P) .nil .nil)) (.node (o84_482 P) (.node (o150_738 P) .nil .nil) (.node (o150_994 P) .nil .nil))))) (.node (o20_50 P) (.node (o20_82 P) (.node (o20_146 P) (.node (o84_274 P) (.node (o84_530 P) (.node (o150_1042 P) .nil .nil) .nil) (.node (o150_786 P) .nil .nil)) (.node (o84_402 P) (.node (o150_658 P) (.node (o174_1170 P) .nil .nil) .nil) (.node (o150_914 P) .nil .nil))) (.node (o20_210 P) (.node (o84_338 P) (.node (o84_594 P) (.node (o174_1106 P) .nil .nil) .nil) (.node (o150_850 P) .nil .nil)) (.node (o84_466 P) (.node (o150_722 P) .nil .nil) (.node (o150_978 P) .nil .nil)))) (.node (o20_114 P) (.node (o20_178 P) (.node (o84_306 P) (.node (o84_562 P) (.node (o174_1074 P) .nil .nil) .nil) (.node (o150_818 P) .nil .nil)) (.node (o84_434 P) (.node (o150_690 P) .nil .nil) (.node (o150_946 P) .nil .nil))) (.node (o84_242 P) (.node (o84_370 P) (.node (o150_626 P) (.node (o174_1138 P) .nil .nil) .nil) (.node (o150_882 P) .nil .nil)) (.node (o84_498 P) (.node (o150_754 P) .nil .nil) (.node (o150_1010 P) .nil .nil)))))) (.node (o20_26 P) (.node (o20_42 P) (.node (o20_74 P) (.node (o20_138 P) (.node (o84_266 P) (.node (o84_522 P) (.node (o150_1034 P) .nil .nil) .nil) (.node (o150_778 P) .nil .nil)) (.node (o84_394 P) (.node (o150_650 P) (.node (o174_1162 P) .nil .nil) .nil) (.node (o150_906 P) .nil .nil))) (.node (o20_202 P) (.node (o84_330 P) (.node (o84_586 P) (.node (o174_1098 P) .nil .nil) .nil) (.node (o150_842 P) .nil .nil)) (.node (o84_458 P) (.node (o150_714 P) .nil .nil) (.node (o150_970 P) .nil .nil)))) (.node (o20_106 P) (.node (o20_170 P) (.node (o84_298 P) (.node (o84_554 P) (.node (o150_1066 P) .nil .nil) .nil) (.node (o150_810 P) .nil .nil)) (.node (o84_426 P) (.node (o150_682 P) (.node (o174_1194 P) .nil .nil) .nil) (.node (o150_938 P) .nil .nil))) (.node (o84_234 P) (.node (o84_362 P) (.node (o150_618 P) (.node (o174_1130 P) .nil .nil) .nil) (.node (o150_874 P) .nil .nil)) (.node (o84_490 P) (.node (o150_746 P) .nil .nil) (.node (o150_1002 P) .nil .nil))))) (.node (o20_58 P) (.node (o20_90 P) (.node (o20_154 P) (.node (o84_282 P) (.node (o84_538 P) (.node (o150_1050 P) .nil .nil) .nil) (.node (o150_794 P) .nil .nil)) (.node (o84_410 P) (.node (o150_666 P) (.node (o174_1178 P) .nil .nil) .nil) (.node (o150_922 P) .nil .nil))) (.node (o84_218 P) (.node (o84_346 P) (.node (o84_602 P) (.node (o174_1114 P) .nil .nil) .nil) (.node (o150_858 P) .nil .nil)) (.node (o84_474 P) (.node (o150_730 P) .nil .nil) (.node (o150_986 P) .nil .nil)))) (.node (o20_122 P) (.node (o20_186 P) (.node (o84_314 P) (.node (o84_570 P) (.node (o174_1082 P) .nil .nil) .nil) (.node (o150_826 P) .nil .nil)) (.node (o84_442 P) (.node (o150_698 P) .nil .nil) (.node (o150_954 P) .nil .nil))) (.node (o84_250 P) (.node (o84_378 P) (.node (o150_634 P) (.node (o174_1146 P) .nil .nil) .nil) (.node (o150_890 P) .nil .nil)) (.node (o84_506 P) (.node (o150_762 P) .nil .nil) (.node (o150_1018 P) .nil .nil))))))) (.node (oa_14 P) (.node (o20_22 P) (.node (o20_38 P) (.node (o20_70 P) (.node (o20_134 P) (.node (o84_262 P) (.node (o84_518 P) (.node (o150_1030 P) .nil .nil) .nil) (.node (o150_774 P) .nil .nil)) (.node (o84_390 P) (.node (o150_646 P) (.node (o174_1158 P) .nil .nil) .nil) (.node (o150_902 P) .nil .nil))) (.node (o20_198 P) (.node (o84_326 P) (.node (o84_582 P) (.node (o174_1094 P) .nil .nil) .nil) (.node (o150_838 P) .nil .nil)) (.node (o84_454 P) (.node (o150_710 P) .nil .nil) (.node (o150_966 P) .nil .nil)))) (.node (o20_102 P) (.node (o20_166 P) (.node (o84_294 P) (.node (o84_550 P) (.node (o150_1062 P) .nil .nil) .nil) (.node (o150_806 P) .nil .nil)) (.node (o84_422 P) (.node (o150_678 P) (.node (o174_1190 P) .nil .nil) .nil) (.node (o150_934 P) .nil .nil))) (.node (o84_230 P) (.node (o84_358 P) (.node (o150_614 P) (.node (o174_1126 P) .nil .nil) .nil) (.node (o150_870 P) .nil .nil)) (.node (o84_486 P) (.node (o150_742 P) .nil .nil) (.node (o150_998 P) .nil .nil))))) (.node (o20_54 P) (.node (o20_86 P) (.node (o20_150 P) (.node (o84_278 P) (.node (o84_534 P) (.node (o150_1046 P) .nil .nil) .nil) (.node (o150_790 P) .nil .nil)) (.node (o84_406 P) (.node (o150_662 P) (.node (o174_1174 P) .nil .nil) .nil) (.node (o150_918 P) .nil .nil))) (.node (o84_214 P) (.node (o84_342 P) (.node (o84_598 P) (.node (o174_1110 P) .nil .nil) .nil) (.node (o150_854 P) .nil .nil)) (.node (o84_470 P) (.node (o150_726 P) .nil .nil) (.node (o150_982 P) .nil .nil)))) (.node (o20_118 P) (.node (o20_182 P) (.node (o84_310 P) (.node (o84_566 P) (.node (o174_1078 P) .nil .nil) .nil) (.node (o150_822 P) .nil .nil)) (.node (o84_438 P) (.node (o150_694 P) .nil .nil) (.node (o150_950 P) .nil .nil))) (.node (o84_246 P) (.node (o84_374 P) (.node (o150_630 P) (.node (o174_1142 P) .nil .nil) .nil) (.node (o150_886 P) .nil .nil)) (.node (o84_502 P) (.node (o150_758 P) .nil .nil) (.node (o150_1014 P) .nil .nil)))))) (.node (o20_30 P) (.node (o20_46 P) (.node (o20_78 P) (.node (o20_142 P) (.node (o84_270 P) (.node (o84_526 P) (.node (o150_1038 P) .nil .nil) .nil) (.node (o150_782 P) .nil .nil)) (.node (o84_398 P) (.node (o150_654 P) (.node (o174_1166 P) .nil .nil) .nil) (.node (o150_910 P) .nil .nil))) (.node (o20_206 P) (.node (o84_334 P) (.node (o84_590 P) (.node (o174_1102 P) .nil .nil) .nil) (.node (o150_846 P) .nil .nil)) (.node (o84_462 P) (.node (o150_718 P) .nil .nil) (.node (o150_974 P) .nil .nil)))) (.node (o20_110 P) (.node (o20_174 P) (.node (o84_302 P) (.node (o84_558 P) (.node (o150_1070 P) .nil .nil) .nil) (.node (o150_814 P) .nil .nil)) (.node (o84_430 P) (.node (o150_686 P) .nil .nil) (.node (o150_942 P) .nil .nil))) (.node (o84_238 P) (.node (o84_366 P) (.node (o150_622 P) (.node (o174_1134 P) .nil .nil) .nil) (.node (o150_878 P) .nil .nil)) (.node (o84_494 P) (.node (o150_750 P) .nil .nil) (.node (o150_1006 P) .nil .nil))))) (.node (o20_62 P) (.node (o20_94 P) (.node (o20_158 P) (.node (o84_286 P) (.node (o84_542 P) (.node (o150_1054 P) .nil .nil) .nil) (.node (o150_798 P) .nil .nil)) (.node (o84_414 P) (.node (o150_670 P) (.node (o174_1182 P) .nil .nil) .nil) (.node (o150_926 P) .nil .nil))) (.node (o84_222 P) (.node (o84_350 P) (.node (o85_606 P) (.node (o174_1118 P) .nil .nil) .nil) (.node (o150_862 P) .nil .nil)) (.node (o84_478 P) (.node (o150_734 P) .nil .nil) (.node (o150_990 P) .nil .nil)))) (.node (o20_126 P) (.node (o20_190 P) (.node (o84_318 P) (.node (o84_574 P) (.node (o174_1086 P) .nil .nil) .nil) (.node (o150_830 P) .nil .nil)) (.node (o84_446 P) (.node (o150_702 P) .nil .nil) (.node (o150_958 P) .nil .nil))) (.node (o84_254 P) (.node (o84_382 P) (.node (o150_638 P) (.node (o174_1150 P) .nil .nil) .nil) (.node (o150_894 P) .nil .nil)) (.node (o84_510 P) (.node (o150_766 P) .nil .nil) (.node (o150_1022 P) .nil .nil))))))))))
def S174 (w : World) (os : OsState) : SharedT := ⟨T174 w.params, 1198, (boot_heap w.params).life, Array.mk [], boot_drawn, 1988, os⟩
def o175_3 (P : Params) : Obj := ⟨(.type "dict"), .none, (.dict #[⟨PyData.keyHash P (Str.ofString "__name__"), (.str (Str.ofString "__name__") 165), (.str (Str.ofString "plinth.desk") 1984)⟩, ⟨PyData.keyHash P (Str.ofString "__doc__"), (.str (Str.ofString "__doc__") 166), .none⟩, ⟨PyData.keyHash P (Str.ofString "__package__"), (.str (Str.ofString "__package__") 167), .none⟩, ⟨PyData.keyHash P (Str.ofString "__loader__"), (.str (Str.ofString "__loader__") 168), (.builtin "__main__.__loader__#opaque")⟩, ⟨PyData.keyHash P (Str.ofString "__spec__"), (.str (Str.ofString "__spec__") 169), .none⟩, ⟨PyData.keyHash P (Str.ofString "__annotations__"), (.str (Str.ofString "__annotations__") 170), (.ref 6)⟩, ⟨PyData.keyHash P (Str.ofString "__builtins__"), (.str (Str.ofString "__builtins__") 171), (.ref 4)⟩, ⟨PyData.keyHash P (Str.ofString "__file__"), (.str (Str.ofString "__file__") 173), (.str (Str.ofString "/claim/cut.py") 172)⟩, ⟨PyData.keyHash P (Str.ofString "__cached__"), (.str (Str.ofString "__cached__") 174), .none⟩, ⟨PyData.keyHash P (Str.ofString "_wall"), (.str (Str.ofString "_wall") 193), (.ref 21)⟩, ⟨PyData.keyHash P (Str.ofString "PlinthError"), (.str (Str.ofString "PlinthError") 213), (.ref 31)⟩, ⟨PyData.keyHash P (Str.ofString "NotText"), (.str (Str.ofString "NotText") 229), (.ref 44)⟩, ⟨PyData.keyHash P (Str.ofString "NotNumeral"), (.str (Str.ofString "NotNumeral") 245), (.ref 56)⟩, ⟨PyData.keyHash P (Str.ofString "BadFuel"), (.str (Str.ofString "BadFuel") 261), (.ref 68)⟩, ⟨PyData.keyHash P (Str.ofString "BadPlan"), (.str (Str.ofString "BadPlan") 286), (.ref 87)⟩, ⟨PyData.keyHash P (Str.ofString "BadClaim"), (.str (Str.ofString "BadClaim") 302), (.ref 99)⟩, ⟨PyData.keyHash P (Str.ofString "BadTrap"), (.str (Str.ofString "BadTrap") 318), (.ref 111)⟩, ⟨PyData.keyHash P (Str.ofString "NotPlantable"), (.str (Str.ofString "NotPlantable") 334), (.ref 123)⟩, ⟨PyData.keyHash P (Str.ofString "BadName"), (.str (Str.ofString "BadName") 350), (.ref 135)⟩, ⟨PyData.keyHash P (Str.ofString "BadKind"), (.str (Str.ofString "BadKind") 366), (.ref 147)⟩, ⟨PyData.keyHash P (Str.ofString "NoEntry"), (.str (Str.ofString "NoEntry") 391), (.ref 166)⟩, ⟨PyData.keyHash P (Str.ofString "OutOfRange"), (.str (Str.ofString "OutOfRange") 407), (.ref 178)⟩, ⟨PyData.keyHash P (Str.ofString "BadJournal"), (.str (Str.ofString "BadJournal") 432), (.ref 197)⟩, ⟨PyData.keyHash P (Str.ofString "OpenTrial"), (.str (Str.ofString "OpenTrial") 448), (.ref 209)⟩, ⟨PyData.keyHash P (Str.ofString "NEWLINE"), (.str (Str.ofString "NEWLINE") 452), (.int (10) 451)⟩, ⟨PyData.keyHash P (Str.ofString "PRINTABLE"), (.str (Str.ofString "PRINTABLE") 454), (.str (Str.ofString " !\"#$&'()*+,-./0123456789:;<=>?@ABCDEFGHIJKLMNOPQRSTUVWXYZ[\\]^_`abcdefghijklmnopqrstuvwxyz{|}~") 453)⟩, ⟨PyData.keyHash P (Str.ofString "DIGITS_signs"), (.str (Str.ofString "DIGITS_signs") 456), (.str (Str.ofString "0123456789") 455)⟩, ⟨PyData.keyHash P (Str.ofString "LIMIT"), (.str (Str.ofString "LIMIT") 460), (.int (1000000000000000000000000000000000000000000000000000000000000) 459)⟩, ⟨PyData.keyHash P (Str.ofString "codes_of"), (.str (Str.ofString "codes_of") 469), (.ref 218)⟩, ⟨PyData.keyHash P (Str.ofString "_char"), (.str (Str.ofString "_char") 476), (.ref 225)⟩, ⟨PyData.keyHash P (Str.ofString "text_of"), (.str (Str.ofString "text_of") 486), (.ref 232)⟩, ⟨PyData.keyHash P (Str.ofString "readable"), (.str (Str.ofString "readable") 495), (.ref 239)⟩, ⟨PyData.keyHash P (Str.ofString "numeral"), (.str (Str.ofString "numeral") 502), (.ref 246)⟩, ⟨PyData.keyHash P (Str.ofString "number_of"), (.str (Str.ofString "number_of") 511), (.ref 253)⟩, ⟨PyData.keyHash P (Str.ofString "is_digit"), (.str (Str.ofString "is_digit") 520), (.ref 260)⟩, ⟨PyData.keyHash P (Str.ofString "read_digits"), (.str (Str.ofString "read_digits") 530), (.ref 267)⟩, ⟨PyData.keyHash P (Str.ofString "ShortReader"), (.str (Str.ofString "ShortReader") 598), (.ref 312)⟩, ⟨PyData.keyHash P (Str.ofString "translate_short"), (.str (Str.ofString "translate_short") 606), (.ref 323)⟩, ⟨PyData.keyHash P (Str.ofString "BLANK"), (.str (Str.ofString "BLANK") 610), (.int (32) 609)⟩, ⟨PyData.keyHash P (Str.ofString "QUOTE"), (.str (Str.ofString "QUOTE") 612), (.int (39) 611)⟩, ⟨PyData.keyHash P (Str.ofString "RETURN_translate"), (.str (Str.ofString "RETURN_translate") 614), (.int (41) 613)⟩, ⟨PyData.keyHash P (Str.ofString "COLON"), (.str (Str.ofString "COLON") 616), (.int (58) 615)⟩, ⟨PyData.keyHash P (Str.ofString "SEMICOLON"), (.str (Str.ofString "SEMICOLON") 618), (.int (59) 617)⟩, ⟨PyData.keyHash P (Str.ofString "ASSIGN"), (.str (Str.ofString "ASSIGN") 620), (.int (61) 619)⟩, ⟨PyData.keyHash P (Str.ofString "PUSH_translate"), (.str (Str.ofString "PUSH_translate") 622), (.int (35) 621)⟩, ⟨PyData.keyHash P (Str.ofString "TEST_translate"), (.str (Str.ofString "TEST_translate") 624), (.int (63) 623)⟩, ⟨PyData.keyHash P (Str.ofString "Translator"), (.str (Str.ofString "Translator") 751), (.ref 411)⟩, ⟨PyData.keyHash P (Str.ofString "translate"), (.str (Str.ofString "translate") 766), (.ref 423)⟩, ⟨PyData.keyHash P (Str.ofString "DIGITS_audit"), (.str (Str.ofString "DIGITS_audit") 770), (.str (Str.ofString "digits") 769)⟩, ⟨PyData.keyHash P (Str.ofString "SHORT"), (.str (Str.ofString "SHORT") 772), (.str (Str.ofString "short") 771)⟩, ⟨PyData.keyHash P (Str.ofString "PLAIN"), (.str (Str.ofString "PLAIN") 774), (.str (Str.ofString "plain") 773)⟩, ⟨PyData.keyHash P (Str.ofString "TURNED"), (.str (Str.ofString "TURNED") 776), (.str (Str.ofString "turned") 775)⟩, ⟨PyData.keyHash P (Str.ofString "KINDS"), (.str (Str.ofString "KINDS") 777), (.ref 424)⟩, ⟨PyData.keyHash P (Str.ofString "due"), (.str (Str.ofString "due") 786), (.ref 848)⟩, ⟨PyData.keyHash P (Str.ofString "due_audit"), (.str (Str.ofString "due_audit") 787), (.ref 431)⟩, ⟨PyData.keyHash P (Str.ofString "first_difference"), (.str (Str.ofString "first_difference") 797), (.ref 438)⟩, ⟨PyData.keyHash P (Str.ofString "audit"), (.str (Str.ofString "audit") 807), (.ref 445)⟩, ⟨PyData.keyHash P (Str.ofString "nodes_of"), (.str (Str.ofString "nodes_of") 815), (.ref 450)⟩, ⟨PyData.keyHash P (Str.ofString "image_of"), (.str (Str.ofString "image_of") 827), (.ref 457)⟩, ⟨PyData.keyHash P (Str.ofString "table_of"), (.str (Str.ofString "table_of") 839), (.ref 464)⟩, ⟨PyData.keyHash P (Str.ofString "FIRST_LETTER"), (.str (Str.ofString "FIRST_LETTER") 843), (.int (97) 842)⟩, ⟨PyData.keyHash P (Str.ofString "LAST_LETTER"), (.str (Str.ofString "LAST_LETTER") 845), (.int (122) 844)⟩, ⟨PyData.keyHash P (Str.ofString "FIRST_CAPITAL"), (.str (Str.ofString "FIRST_CAPITAL") 847), (.int (65) 846)⟩, ⟨PyData.keyHash P (Str.ofString "LAST_CAPITAL"), (.str (Str.ofString "LAST_CAPITAL") 849), (.int (90) 848)⟩, ⟨PyData.keyHash P (Str.ofString "LAST_LOW"), (.str (Str.ofString "LAST_LOW") 851), (.int (199) 850)⟩, ⟨PyData.keyHash P (Str.ofString "_push"), (.str (Str.ofString "_push") 859), (.ref 471)⟩, ⟨PyData.keyHash P (Str.ofString "_plus"), (.str (Str.ofString "_plus") 868), (.ref 478)⟩, ⟨PyData.keyHash P (Str.ofString "_minus"), (.str (Str.ofString "_minus") 877), (.ref 485)⟩, ⟨PyData.keyHash P (Str.ofString "_digit"), (.str (Str.ofString "_digit") 886), (.ref 492)⟩, ⟨PyData.keyHash P (Str.ofString "_less"), (.str (Str.ofString "_less") 895), (.ref 499)⟩, ⟨PyData.keyHash P (Str.ofString "_same"), (.str (Str.ofString "_same") 904), (.ref 506)⟩, ⟨PyData.keyHash P (Str.ofString "_load"), (.str (Str.ofString "_load") 912), (.ref 513)⟩, ⟨PyData.keyHash P (Str.ofString "_keep"), (.str (Str.ofString "_keep") 921), (.ref 520)⟩, ⟨PyData.keyHash P (Str.ofString "_assign"), (.str (Str.ofString "_assign") 929), (.ref 527)⟩, ⟨PyData.keyHash P (Str.ofString "_take"), (.str (Str.ofString "_take") 937), (.ref 534)⟩, ⟨PyData.keyHash P (Str.ofString "_rewind"), (.str (Str.ofString "_rewind") 945), (.ref 541)⟩, ⟨PyData.keyHash P (Str.ofString "_emit"), (.str (Str.ofString "_emit") 953), (.ref 548)⟩, ⟨PyData.keyHash P (Str.ofString "_cell"), (.str (Str.ofString "_cell") 962), (.ref 555)⟩, ⟨PyData.keyHash P (Str.ofString "_drop"), (.str (Str.ofString "_drop") 970), (.ref 562)⟩, ⟨PyData.keyHash P (Str.ofString "_double"), (.str (Str.ofString "_double") 979), (.ref 569)⟩, ⟨PyData.keyHash P (Str.ofString "_exchange"), (.str (Str.ofString "_exchange") 989), (.ref 576)⟩, ⟨PyData.keyHash P (Str.ofString "_test"), (.str (Str.ofString "_test") 997), (.ref 583)⟩, ⟨PyData.keyHash P (Str.ofString "_call"), (.str (Str.ofString "_call") 1006), (.ref 590)⟩, ⟨PyData.keyHash P (Str.ofString "_call_low"), (.str (Str.ofString "_call_low") 1015), (.ref 597)⟩, ⟨PyData.keyHash P (Str.ofString "_return"), (.str (Str.ofString "_return") 1023), (.ref 604)⟩, ⟨PyData.keyHash P (Str.ofString "DEEDS"), (.str (Str.ofString "DEEDS") 1064), (.ref 605)⟩, ⟨PyData.keyHash P (Str.ofString "State"), (.str (Str.ofString "State") 1143), (.ref 656)⟩, ⟨PyData.keyHash P (Str.ofString "run"), (.str (Str.ofString "run") 1154), (.ref 667)⟩, ⟨PyData.keyHash P (Str.ofString "_parts"), (.str (Str.ofString "_parts") 1163), (.ref 674)⟩, ⟨PyData.keyHash P (Str.ofString "_reach"), (.str (Str.ofString "_reach") 1175), (.ref 681)⟩, ⟨PyData.keyHash P (Str.ofString "_rules_of"), (.str (Str.ofString "_rules_of") 1184), (.ref 688)⟩, ⟨PyData.keyHash P (Str.ofString "_twice"), (.str (Str.ofString "_twice") 1194), (.ref 695)⟩, ⟨PyData.keyHash P (Str.ofString "_missing"), (.str (Str.ofString "_missing") 1205), (.ref 702)⟩, ⟨PyData.keyHash P (Str.ofString "check_plan"), (.str (Str.ofString "check_plan") 1216), (.ref 709)⟩, ⟨PyData.keyHash P (Str.ofString "order_of"), (.str (Str.ofString "order_of") 1222), (.ref 714)⟩, ⟨PyData.keyHash P (Str.ofString "_check_name"), (.str (Str.ofString "_check_name") 1231), (.ref 721)⟩, ⟨PyData.keyHash P (Str.ofString "needs"), (.str (Str.ofString "needs") 1240), (.ref 728)⟩, ⟨PyData.keyHash P (Str.ofString "Build"), (.str (Str.ofString "Build") 1339), (.ref 788)⟩, ⟨PyData.keyHash P (Str.ofString "build_all"), (.str (Str.ofString "build_all") 1352), (.ref 799)⟩, ⟨PyData.keyHash P (Str.ofString "start"), (.str (Str.ofString "start") 1362), (.ref 806)⟩, ⟨PyData.keyHash P (Str.ofString "state_of"), (.str (Str.ofString "state_of") 1374), (.ref 813)⟩, ⟨PyData.keyHash P (Str.ofString "next_state"), (.str (Str.ofString "next_state") 1384), (.ref 820)⟩, ⟨PyData.keyHash P (Str.ofString "story"), (.str (Str.ofString "story") 1395), (.ref 827)⟩, ⟨PyData.keyHash P (Str.ofString "right_claim"), (.str (Str.ofString "right_claim") 1407), (.ref 834)⟩, ⟨PyData.keyHash P (Str.ofString "entry"), (.str (Str.ofString "entry") 1415), (.ref 841)⟩, ⟨PyData.keyHash P (Str.ofString "due_claims"), (.str (Str.ofString "due_claims") 1427), (.ref 848)⟩, ⟨PyData.keyHash P (Str.ofString "_agree"), (.str (Str.ofString "_agree") 1437), (.ref 855)⟩, ⟨PyData.keyHash P (Str.ofString "dispute"), (.str (Str.ofString "dispute") 1452), (.ref 862)⟩, ⟨PyData.keyHash P (Str.ofString "BASE"), (.str (Str.ofString "BASE") 1456), (.int (1000000) 1455)⟩, ⟨PyData.keyHash P (Str.ofString "MOST_LURE"), (.str (Str.ofString "MOST_LURE") 1458), (.int (12) 1457)⟩, ⟨PyData.keyHash P (Str.ofString "MOST_EXTRA"), (.str (Str.ofString "MOST_EXTRA") 1460), (.int (24) 1459)⟩, ⟨PyData.keyHash P (Str.ofString "FIXED"), (.str (Str.ofString "FIXED") 1462), (.int (14) 1461)⟩, ⟨PyData.keyHash P (Str.ofString "PUSH_traps"), (.str (Str.ofString "PUSH_traps") 1464), (.int (35) 1463)⟩, ⟨PyData.keyHash P (Str.ofString "CELL"), (.str (Str.ofString "CELL") 1466), (.int (38) 1465)⟩, ⟨PyData.keyHash P (Str.ofString "CALL"), (.str (Str.ofString "CALL") 1468), (.int (40) 1467)⟩, ⟨PyData.keyHash P (Str.ofString "RETURN_traps"), (.str (Str.ofString "RETURN_traps") 1470), (.int (41) 1469)⟩, ⟨PyData.keyHash P (Str.ofString "PLUS"), (.str (Str.ofString "PLUS") 1472), (.int (43) 1471)⟩, ⟨PyData.keyHash P (Str.ofString "TAKE"), (.str (Str.ofString "TAKE") 1474), (.int (44) 1473)⟩, ⟨PyData.keyHash P (Str.ofString "GIVE"), (.str (Str.ofString "GIVE") 1476), (.int (46) 1475)⟩, ⟨PyData.keyHash P (Str.ofString "DOUBLE"), (.str (Str.ofString "DOUBLE") 1478), (.int (34) 1477)⟩, ⟨PyData.keyHash P (Str.ofString "TEST_traps"), (.str (Str.ofString "TEST_traps") 1480), (.int (63) 1479)⟩, ⟨PyData.keyHash P (Str.ofString "REWIND"), (.str (Str.ofString "REWIND") 1482), (.int (94) 1481)⟩, ⟨PyData.keyHash P (Str.ofString "DROP"), (.str (Str.ofString "DROP") 1484), (.int (95) 1483)⟩, ⟨PyData.keyHash P (Str.ofString "SAME"), (.str (Str.ofString "SAME") 1486), (.int (126) 1485)⟩, ⟨PyData.keyHash P (Str.ofString "is_trap"), (.str (Str.ofString "is_trap") 1492), (.ref 867)⟩, ⟨PyData.keyHash P (Str.ofString "is_plantable"), (.str (Str.ofString "is_plantable") 1502), (.ref 874)⟩, ⟨PyData.keyHash P (Str.ofString "beginning"), (.str (Str.ofString "beginning") 1508), (.ref 881)⟩, ⟨PyData.keyHash P (Str.ofString "comparison"), (.str (Str.ofString "comparison") 1517), (.ref 888)⟩, ⟨PyData.keyHash P (Str.ofString "writing"), (.str (Str.ofString "writing") 1525), (.ref 895)⟩, ⟨PyData.keyHash P (Str.ofString "copying"), (.str (Str.ofString "copying") 1534), (.ref 902)⟩, ⟨PyData.keyHash P (Str.ofString "trap_nodes"), (.str (Str.ofString "trap_nodes") 1549), (.ref 909)⟩, ⟨PyData.keyHash P (Str.ofString "plant"), (.str (Str.ofString "plant") 1558), (.ref 916)⟩, ⟨PyData.keyHash P (Str.ofString "LONGEST_NAME"), (.str (Str.ofString "LONGEST_NAME") 1562), (.int (12) 1561)⟩, ⟨PyData.keyHash P (Str.ofString "Entry"), (.str (Str.ofString "Entry") 1595), (.ref 933)⟩, ⟨PyData.keyHash P (Str.ofString "check_new"), (.str (Str.ofString "check_new") 1605), (.ref 944)⟩, ⟨PyData.keyHash P (Str.ofString "Shelf"), (.str (Str.ofString "Shelf") 1744), (.ref 1039)⟩, ⟨PyData.keyHash P (Str.ofString "SIGNS"), (.str (Str.ofString "SIGNS") 1767), (.ref 1044)⟩, ⟨PyData.keyHash P (Str.ofString "PAIRS"), (.str (Str.ofString "PAIRS") 1773), (.ref 1045)⟩, ⟨PyData.keyHash P (Str.ofString "is_letter"), (.str (Str.ofString "is_letter") 1780), (.ref 1052)⟩, ⟨PyData.keyHash P (Str.ofString "is_nop"), (.str (Str.ofString "is_nop") 1787), (.ref 1059)⟩, ⟨PyData.keyHash P (Str.ofString "combined"), (.str (Str.ofString "combined") 1796), (.ref 1066)⟩, ⟨PyData.keyHash P (Str.ofString "written"), (.str (Str.ofString "written") 1808), (.ref 1073)⟩, ⟨PyData.keyHash P (Str.ofString "_ways"), (.str (Str.ofString "_ways") 1814), (.ref 1078)⟩, ⟨PyData.keyHash P (Str.ofString "reached"), (.str (Str.ofString "reached") 1825), (.ref 1085)⟩, ⟨PyData.keyHash P (Str.ofString "is_closed_table"), (.str (Str.ofString "is_closed_table") 1833), (.ref 1092)⟩, ⟨PyData.keyHash P (Str.ofString "has_nop"), (.str (Str.ofString "has_nop") 1841), (.ref 1099)⟩, ⟨PyData.keyHash P (Str.ofString "passed"), (.str (Str.ofString "passed") 1850), (.ref 1106)⟩, ⟨PyData.keyHash P (Str.ofString "target_in"), (.str (Str.ofString "target_in") 1856), (.ref 1111)⟩, ⟨PyData.keyHash P (Str.ofString "threaded"), (.str (Str.ofString "threaded") 1871), (.ref 1118)⟩, ⟨PyData.keyHash P (Str.ofString "_folded"), (.str (Str.ofString "_folded") 1886), (.ref 1125)⟩, ⟨PyData.keyHash P (Str.ofString "_folded_table"), (.str (Str.ofString "_folded_table") 1892), (.ref 1130)⟩, ⟨PyData.keyHash P (Str.ofString "_order"), (.str (Str.ofString "_order") 1898), (.ref 1135)⟩, ⟨PyData.keyHash P (Str.ofString "renumbered"), (.str (Str.ofString "renumbered") 1912), (.ref 1142)⟩, ⟨PyData.keyHash P (Str.ofString "thread"), (.str (Str.ofString "thread") 1920), (.ref 1149)⟩, ⟨PyData.keyHash P (Str.ofString "fold"), (.str (Str.ofString "fold") 1928), (.ref 1156)⟩, ⟨PyData.keyHash P (Str.ofString "renumber"), (.str (Str.ofString "renumber") 1936), (.ref 1163)⟩, ⟨PyData.keyHash P (Str.ofString "trim"), (.str (Str.ofString "trim") 1943), (.ref 1170)⟩, ⟨PyData.keyHash P (Str.ofString "LETTERS"), (.str (Str.ofString "LETTERS") 1947), (.str (Str.ofString "abcdefghijklmnopqrstuvwxyz") 1946)⟩, ⟨PyData.keyHash P (Str.ofString "_is_line"), (.str (Str.ofString "_is_line") 1954), (.ref 1177)⟩, ⟨PyData.keyHash P (Str.ofString "words_of"), (.str (Str.ofString "words_of") 1965), (.ref 1184)⟩, ⟨PyData.keyHash P (Str.ofString "is_name"), (.str (Str.ofString "is_name") 1971), (.ref 1189)⟩, ⟨PyData.keyHash P (Str.ofString "integer_of"), (.str (Str.ofString "integer_of") 1983), (.ref 1197)⟩, ⟨PyData.keyHash P (Str.ofString "MOST_FUEL"), (.str (Str.ofString "MOST_FUEL") 1987), (.int (100000) 1986)⟩, ⟨PyData.keyHash P (Str.ofString "FORMS"), (.str (Str.ofString "FORMS") 2057), (.ref 1198)⟩] 164), #[]⟩
def o175_1198 (P : Params) : Obj := ⟨(.type "dict"), .none, (.dict #[⟨PyData.keyHash P (Str.ofString "numbers"), (.str (Str.ofString "numbers") 1988), (.str (Str.ofString "nz*") 1989)⟩, ⟨PyData.keyHash P (Str.ofString "text"), (.str (Str.ofString "text") 1991), (.str (Str.ofString "nk") 1992)⟩, ⟨PyData.keyHash P (Str.ofString "show"), (.str (Str.ofString "show") 1994), (.str (Str.ofString "i") 1995)⟩, ⟨PyData.keyHash P (Str.ofString "digits"), (.str (Str.ofString "digits") 1997), (.str (Str.ofString "ni") 1998)⟩, ⟨PyData.keyHash P (Str.ofString "short"), (.str (Str.ofString "short") 2000), (.str (Str.ofString "ni") 2001)⟩, ⟨PyData.keyHash P (Str.ofString "plain"), (.str (Str.ofString "plain") 2003), (.str (Str.ofString "ni") 2004)⟩, ⟨PyData.keyHash P (Str.ofString "turned"), (.str (Str.ofString "turned") 2006), (.str (Str.ofString "ni") 2007)⟩, ⟨PyData.keyHash P (Str.ofString "trim"), (.str (Str.ofString "trim") 2009), (.str (Str.ofString "ni") 2010)⟩, ⟨PyData.keyHash P (Str.ofString "run"), (.str (Str.ofString "run") 2012), (.str (Str.ofString "niix") 2013)⟩, ⟨PyData.keyHash P (Str.ofString "rule"), (.str (Str.ofString "rule") 2015), (.str (Str.ofString "nnn*") 2016)⟩, ⟨PyData.keyHash P (Str.ofString "build"), (.str (Str.ofString "build") 2018), (.str (Str.ofString "x") 2019)⟩, ⟨PyData.keyHash P (Str.ofString "needs"), (.str (Str.ofString "needs") 2021), (.str (Str.ofString "n") 2022)⟩, ⟨PyData.keyHash P (Str.ofString "put"), (.str (Str.ofString "put") 2024), (.str (Str.ofString "nkii") 2025)⟩, ⟨PyData.keyHash P (Str.ofString "make"), (.str (Str.ofString "make") 2027), (.str (Str.ofString "nkiex") 2028)⟩, ⟨PyData.keyHash P (Str.ofString "swap"), (.str (Str.ofString "swap") 2030), (.str (Str.ofString "ee") 2031)⟩, ⟨PyData.keyHash P (Str.ofString "copy"), (.str (Str.ofString "copy") 2033), (.str (Str.ofString "ee") 2034)⟩, ⟨PyData.keyHash P (Str.ofString "damage"), (.str (Str.ofString "damage") 2036), (.str (Str.ofString "ezz") 2037)⟩, ⟨PyData.keyHash P (Str.ofString "trap"), (.str (Str.ofString "trap") 2039), (.str (Str.ofString "eii") 2040)⟩, ⟨PyData.keyHash P (Str.ofString "take"), (.str (Str.ofString "take") 2041), (.str (Str.ofString "ne") 2042)⟩, ⟨PyData.keyHash P (Str.ofString "audit"), (.str (Str.ofString "audit") 2043), (.str (Str.ofString "") 2044)⟩, ⟨PyData.keyHash P (Str.ofString "claim"), (.str (Str.ofString "claim") 2045), (.str (Str.ofString "niix") 2046)⟩, ⟨PyData.keyHash P (Str.ofString "spoil"), (.str (Str.ofString "spoil") 2047), (.str (Str.ofString "czz") 2048)⟩, ⟨PyData.keyHash P (Str.ofString "dispute"), (.str (Str.ofString "dispute") 2049), (.str (Str.ofString "cc") 2050)⟩] 23), #[]⟩
def o175_1199 (P : Params) : Obj := ⟨(.type "dict"), .none, (.dict #[⟨PyData.keyHash P (Str.ofString "trap"), (.str (Str.ofString "trap") 2039), (.str (Str.ofString "eii") 2040)⟩, ⟨PyData.keyHash P (Str.ofString "take"), (.str (Str.ofString "take") 2041), (.str (Str.ofString "ne") 2042)⟩, ⟨PyData.keyHash P (Str.ofString "audit"), (.str (Str.ofString "audit") 2043), (.str (Str.ofString "") 2044)⟩, ⟨PyData.keyHash P (Str.ofString "claim"), (.str (Str.ofString "claim") 2045), (.str (Str.ofString "niix") 2046)⟩, ⟨PyData.keyHash P (Str.ofString "spoil"), (.str (Str.ofString "spoil") 2047), (.str (Str.ofString "czz") 2048)⟩, ⟨PyData.keyHash P (Str.ofString "dispute"), (.str (Str.ofString "dispute") 2049), (.str (Str.ofString "cc") 2050)⟩] 6), #[]⟩
def T175 (P : Params) : BT := (.node (boot_o_0 P) (.node (boot_o_1 P) (.node (o175_3 P) (.node (boot_o_7 P) (.node (o20_15 P) (.node (o20_31 P) (.node (o20_63 P) (.node (o20_127 P) (.node (o84_255 P) (.node (o84_511 P) (.node (o150_1023 P) .nil .nil) .nil) (.node (o150_767 P) .nil .nil)) (.node (o84_383 P) (.node (o150_639 P) (.node (o174_1151 P) .nil .nil) .nil) (.node (o150_895 P) .nil .nil))) (.node (o20_191 P) (.node (o84_319 P) (.node (o84_575 P) (.node (o174_1087 P) .nil .nil) .nil) (.node (o150_831 P) .nil .nil)) (.node (o84_447 P) (.node (o150_703 P) .nil .nil) (.node (o150_959 P) .nil .nil)))) (.node (o20_95 P) (.node (o20_159 P) (.node (o84_287 P) (.node (o84_543 P) (.node (o150_1055 P) .nil .nil) .nil) (.node (o150_799 P) .nil .nil)) (.node (o84_415 P) (.node (o150_671 P) (.node (o174_1183 P) .nil .nil) .nil) (.node (o150_927 P) .nil .nil))) (.node (o84_223 P) (.node (o84_351 P) (.node (o150_607 P) (.node (o174_1119 P) .nil .nil) .nil) (.node (o150_863 P) .nil .nil)) (.node (o84_479 P) (.node (o150_735 P) .nil .nil) (.node (o150_991 P) .nil .nil))))) (.node (o20_47 P) (.node (o20_79 P) (.node (o20_143 P) (.node (o84_271 P) (.node (o84_527 P) (.node (o150_1039 P) .nil .nil) .nil) (.node (o150_783 P) .nil .nil)) (.node (o84_399 P) (.node (o150_655 P) (.node (o174_1167 P) .nil .nil) .nil) (.node (o150_911 P) .nil .nil))) (.node (o20_207 P) (.node (o84_335 P) (.node (o84_591 P) (.node (o174_1103 P) .nil .nil) .nil) (.node (o150_847 P) .nil .nil)) (.node (o84_463 P) (.node (o150_719 P) .nil .nil) (.node (o150_975 P) .nil .nil)))) (.node (o20_111 P) (.node (o20_175 P) (.node (o84_303 P) (.node (o84_559 P) (.node (o150_1071 P) .nil .nil) .nil) (.node (o150_815 P) .nil .nil)) (.node (o84_431 P) (.node (o150_687 P) (.node (o175_1199 P) .nil .nil) .nil) (.node (o150_943 P) .nil .nil))) (.node (o84_239 P) (.node (o84_367 P) (.node (o150_623 P) (.node (o174_1135 P) .nil .nil) .nil) (.node (o150_879 P) .nil .nil)) (.node (o84_495 P) (.node (o150_751 P) .nil .nil) (.node (o150_1007 P) .nil .nil)))))) (.node (o20_23 P) (.node (o20_39 P) (.node (o20_71 P) (.node (o20_135 P) (.node (o84_263 P) (.node (o84_519 P) (.node (o150_1031 P) .nil .nil) .nil) (.node (o150_775 P) .nil .nil)) (.node (o84_391 P) (.node (o150_647 P) (.node (o174_1159 P) .nil .nil) .nil) (.node (o150_903 P) .nil .nil))) (.node (o20_199 P) (.node (o84_327 P) (.node (o84_583 P) (.node (o174_1095 P) .nil .nil) .nil) (.node (o150_839 P) .nil .nil)) (.node (o84_455 P) (.node (o150_711 P) .nil .nil) (.node (o150_967 P) .nil .nil)))) (.node (o20_103 P) (.node (o20_167 P) (.node (o84_295 P) (.node (o84_551 P) (.node (o150_1063 P) .nil .nil) .nil) (.node (o150_807 P) .nil .nil)) (.node (o84_423 P) (.node (o150_679 P) (.node (o174_1191 P) .nil .nil) .nil) (.node (o150_935 P) .nil .nil))) (.node (o84_231 P) (.node (o84_359 P) (.node (o150_615 P) (.node (o174_1127 P) .nil .nil) .nil) (.node (o150_871 P) .nil .nil)) (.node (o84_487 P) (.node (o150_743 P) .nil .nil) (.node (o150_999 P) .nil .nil))))) (.node (o20_55 P) (.node (o20_87 P) (.node (o20_151 P) (.node (o84_279 P) (.node (o84_535 P) (.node (o150_1047 P) .nil .nil) .nil) (.node (o150_791 P) .nil .nil)) (.node (o84_407 P) (.node (o150_663 P) (.node (o174_1175 P) .nil .nil) .nil) (.node (o150_919 P) .nil .nil))) (.node (o84_215 P) (.node (o84_343 P) (.node (o84_599 P) (.node (o174_1111 P) .nil .nil) .nil) (.node (o150_855 P) .nil .nil)) (.node (o84_471 P) (.node (o150_727 P) .nil .nil) (.node (o150_983 P) .nil .nil)))) (.node (o20_119 P) (.node (o20_183 P) (.node (o84_311 P) (.node (o84_567 P) (.node (o174_1079 P) .nil .nil) .nil) (.node (o150_823 P) .nil .nil)) (.node (o84_439 P) (.node (o150_695 P) .nil .nil) (.node (o150_951 P) .nil .nil))) (.node (o84_247 P) (.node (o84_375 P) (.node (o150_631 P) (.node (o174_1143 P) .nil .nil) .nil) (.node (o150_887 P) .nil .nil)) (.node (o84_503 P) (.node (o150_759 P) .nil .nil) (.node (o150_1015 P) .nil .nil))))))) (.node (oa_11 P) (.node (o20_19 P) (.node (o20_35 P) (.node (o20_67 P) (.node (o20_131 P) (.node (o84_259 P) (.node (o84_515 P) (.node (o150_1027 P) .nil .nil) .nil) (.node (o150_771 P) .nil .nil)) (.node (o84_387 P) (.node (o150_643 P) (.node (o174_1155 P) .nil .nil) .nil) (.node (o150_899 P) .nil .nil))) (.node (o20_195 P) (.node (o84_323 P) (.node (o84_579 P) (.node (o174_1091 P) .nil .nil) .nil) (.node (o150_835 P) .nil .nil)) (.node (o84_451 P) (.node (o150_707 P) .nil .nil) (.node (o150_963 P) .nil .nil)))) (.node (o20_99 P) (.node (o20_163 P) (.node (o84_291 P) (.node (o84_547 P) (.node (o150_1059 P) .nil .nil) .nil) (.node (o150_803 P) .nil .nil)) (.node (o84_419 P) (.node (o150_675 P) (.node (o174_1187 P) .nil .nil) .nil) (.node (o150_931 P) .nil .nil))) (.node (o84_227 P) (.node (o84_355 P) (.node (o150_611 P) (.node (o174_1123 P) .nil .nil) .nil) (.node (o150_867 P) .nil .nil)) (.node (o84_483 P) (.node (o150_739 P) .nil .nil) (.node (o150_995 P) .nil .nil))))) (.node (o20_51 P) (.node (o20_83 P) (.node (o20_147 P) (.node (o84_275 P) (.node (o84_531 P) (.node (o150_1043 P) .nil .nil) .nil) (.node (o150_787 P) .nil .nil)) (.node (o84_403 P) (.node (o150_659 P) (.node (o174_1171 P) .nil .nil) .nil) (.node (o150_915 P) .nil .nil))) (.node (o20_211 P) (.node (o84_339 P) (.node (o84_595 P) (.node (o174_1107 P) .nil .nil) .nil) (.node (o150_851 P) .nil .nil)) (.node (o84_467 P) (.node (o150_723 P) .nil .nil) (.node (o150_979 P) .nil .nil)))) (.node (o20_115 P) (.node (o20_179 P) (.node (o84_307 P) (.node (o84_563 P) (.node (o174_1075 P) .nil .nil) .nil) (.node (o150_819 P) .nil .nil)) (.node (o84_435 P) (.node (o150_691 P) .nil .nil) (.node (o150_947 P) .nil .nil))) (.node (o84_243 P) (.node (o84_371 P) (.node (o150_627 P) (.node (o174_1139 P) .nil .nil) .nil) (.node (o150_883 P) .nil .nil)) (.node (o84_499 P) (.node (o150_755 P) .nil .nil) (.node (o150_1011 P) .nil .nil)))))) (.node (o20_27 P) (.node (o20_43 P) (.node (o20_75 P) (.node (o20_139 P) (.node (o84_267 P) (.node (o84_523 P) (.node (o150_1035 P) .nil .nil) .nil) (.node (o150_779 P) .nil .nil)) (.node (o84_395 P) (.node (o150_651 P) (.node (o174_1163 P) .nil .nil) .nil) (.node (o150_907 P) .nil .nil))) (.node (o20_203 P) (.node (o84_331 P) (.node (o84_587 P) (.node (o174_1099 P) .nil .nil) .nil) (.node (o150_843 P) .nil .nil)) (.node (o84_459 P) (.node (o150_715 P) .nil .nil) (.node (o150_971 P) .nil .nil)))) (.node (o20_107 P) (.node (o20_171 P) (.node (o84_299 P) (.node (o84_555 P) (.node (o150_1067 P) .nil .nil) .nil) (.node (o150_811 P) .nil .nil)) (.node (o84_427 P) (.node (o150_683 P) (.node (o174_1195 P) .nil .nil) .nil) (.node (o150_939 P) .nil .nil))) (.node (o84_235 P) (.node (o84_363 P) (.node (o150_619 P) (.node (o174_1131 P) .nil .nil) .nil) (.node (o150_875 P) .nil .nil)) (.node (o84_491 P) (.node (o150_747 P) .nil .nil) (.node (o150_1003 P) .nil .nil))))) (.node (o20_59 P) (.node (o20_91 P) (.node (o20_155 P) (.node (o84_283 P) (.node (o84_539 P) (.node (o150_1051 P) .nil .nil) .nil) (.node (o150_795 P) .nil .nil)) (.node (o84_411 P) (.node (o150_667 P) (.node (o174_1179 P) .nil .nil) .nil) (.node (o150_923 P) .nil .nil))) (.node (o84_219 P) (.node (o84_347 P) (.node (o84_603 P) (.node (o174_1115 P) .nil .nil) .nil) (.node (o150_859 P) .nil .nil)) (.node (o84_475 P) (.node (o150_731 P) .nil .nil) (.node (o150_987 P) .nil .nil)))) (.node (o20_123 P) (.node (o20_187 P) (.node (o84_315 P) (.node (o84_571 P) (.node (o174_1083 P) .nil .nil) .nil) (.node (o150_827 P) .nil .nil)) (.node (o84_443 P) (.node (o150_699 P) .nil .nil) (.node (o150_955 P) .nil .nil))) (.node (o84_251 P) (.node (o84_379 P) (.node (o150_635 P) (.node (o174_1147 P) .nil .nil) .nil) (.node (o150_891 P) .nil .nil)) (.node (o84_507 P) (.node (o150_763 P) .nil .nil) (.node (o150_1019 P) .nil .nil)))))))) (.node (boot_o_5 P) (.node (boot_o_9 P) (.node (o20_17 P) (.node (o20_33 P) (.node (o20_65 P) (.node (o20_129 P) (.node (o84_257 P) (.node (o84_513 P) (.node (o150_1025 P) .nil .nil) .nil) (.node (o150_769 P) .nil .nil)) (.node (o84_385 P) (.node (o150_641 P) (.node (o174_1153 P) .nil .nil) .nil) (.node (o150_897 P) .nil .nil))) (.node (o20_193 P) (.node (o84_321 P) (.node (o84_577 P) (.node (o174_1089 P) .nil .nil) .nil) (.node (o150_833 P) .nil .nil)) (.node (o84_449 P) (.node (o150_705 P) .nil .nil) (.node (o150_961 P) .nil .nil)))) (.node (o20_97 P) (.node (o20_161 P) (.node (o84_289 P) (.node (o84_545 P) (.node (o150_1057 P) .nil .nil) .nil) (.node (o150_801 P) .nil .nil)) (.node (o84_417 P) (.node (o150_673 P) (.node (o174_1185 P) .nil .nil) .nil) (.node (o150_929 P) .nil .nil))) (.node (o84_225 P) (.node (o84_353 P) (.node (o150_609 P) (.node (o174_1121 P) .nil .nil) .nil) (.node (o150_865 P) .nil .nil)) (.node (o84_481 P) (.node (o150_737 P) .nil .nil) (.node (o150_993 P) .nil .nil))))) (.node (o20_49 P) (.node (o20_81 P) (.node (o20_145 P) (.node (o84_273 P) (.node (o84_529 P) (.node (o150_1041 P) .nil .nil) .nil) (.node (o150_785 P) .nil .nil)) (.node (o84_401 P) (.node (o150_657 P) (.node (o174_1169 P) .nil .nil) .nil) (.node (o150_913 P) .nil .nil))) (.node (o20_209 P) (.node (o84_337 P) (.node (o84_593 P) (.node (o174_1105 P) .nil .nil) .nil) (.node (o150_849 P) .nil .nil)) (.node (o84_465 P) (.node (o150_721 P) .nil .nil) (.node (o150_977 P) .nil .nil)))) (.node (o20_113 P) (.node (o20_177 P) (.node (o84_305 P) (.node (o84_561 P) (.node (o150_1073 P) .nil .nil) .nil) (.node (o150_817 P) .nil .nil)) (.node (o84_433 P) (.node (o150_689 P) .nil .nil) (.node (o150_945 P) .nil .nil))) (.node (o84_241 P) (.node (o84_369 P) (.node (o150_625 P) (.node (o174_1137 P) .nil .nil) .nil) (.node (o150_881 P) .nil .nil)) (.node (o84_497 P) (.node (o150_753 P) .nil .nil) (.node (o150_1009 P) .nil .nil)))))) (.node (o20_25 P) (.node (o20_41 P) (.node (o20_73 P) (.node (o20_137 P) (.node (o84_265 P) (.node (o84_521 P) (.node (o150_1033 P) .nil .nil) .nil) (.node (o150_777 P) .nil .nil)) (.node (o84_393 P) (.node (o150_649 P) (.node (o174_1161 P) .nil .nil) .nil) (.node (o150_905 P) .nil .nil))) (.node (o20_201 P) (.node (o84_329 P) (.node (o84_585 P) (.node (o174_1097 P) .nil .nil) .nil) (.node (o150_841 P) .nil .nil)) (.node (o84_457 P) (.node (o150_713 P) .nil .nil) (.node (o150_969 P) .nil .nil)))) (.node (o20_105 P) (.node (o20_169 P) (.node (o84_297 P) (.node (o84_553 P) (.node (o150_1065 P) .nil .nil) .nil) (.node (o150_809 P) .nil .nil)) (.node (o84_425 P) (.node (o150_681 P) (.node (o174_1193 P) .nil .nil) .nil) (.node (o150_937 P) .nil .nil))) (.node (o84_233 P) (.node (o84_361 P) (.node (o150_617 P) (.node (o174_1129 P) .nil .nil) .nil) (.node (o150_873 P) .nil .nil)) (.node (o84_489 P) (.node (o150_745 P) .nil .nil) (.node (o150_1001 P) .nil .nil))))) (.node (o20_57 P) (.node (o20_89 P) (.node (o20_153 P) (.node (o84_281 P) (.node (o84_537 P) (.node (o150_1049 P) .nil .nil) .nil) (.node (o150_793 P) .nil .nil)) (.node (o84_409 P) (.node (o150_665 P) (.node (o174_1177 P) .nil .nil) .nil) (.node (o150_921 P) .nil .nil))) (.node (o84_217 P) (.node (o84_345 P) (.node (o84_601 P) (.node (o174_1113 P) .nil .nil) .nil) (.node (o150_857 P) .nil .nil)) (.node (o84_473 P) (.node (o150_729 P) .nil .nil) (.node (o150_985 P) .nil .nil)))) (.node (o20_121 P) (.node (o20_185 P) (.node (o84_313 P) (.node (o84_569 P) (.node (o174_1081 P) .nil .nil) .nil) (.node (o150_825 P) .nil .nil)) (.node (o84_441 P) (.node (o150_697 P) .nil .nil) (.node (o150_953 P) .nil .nil))) (.node (o84_249 P) (.node (o84_377 P) (.node (o150_633 P) (.node (o174_1145 P) .nil .nil) .nil) (.node (o150_889 P) .nil .nil)) (.node (o84_505 P) (.node (o150_761 P) .nil .nil) (.node (o150_1017 P) .nil .nil))))))) (.node (oa_13 P) (.node (o20_21 P) (.node (o20_37 P) (.node (o20_69 P) (.node (o20_133 P) (.node (o84_261 P) (.node (o84_517 P) (.node (o150_1029 P) .nil .nil) .nil) (.node (o150_773 P) .nil .nil)) (.node (o84_389 P) (.node (o150_645 P) (.node (o174_1157 P) .nil .nil) .nil) (.node (o150_901 P) .nil .nil))) (.node (o20_197 P) (.node (o84_325 P) (.node (o84_581 P) (.node (o174_1093 P) .nil .nil) .nil) (.node (o150_837 P) .nil .nil)) (.node (o84_453 P) (.node (o150_709 P) .nil .nil) (.node (o150_965 P) .nil .nil)))) (.node (o20_101 P) (.node (o20_165 P) (.node (o84_293 P) (.node (o84_549 P) (.node (o150_1061 P) .nil .nil) .nil) (.node (o150_805 P) .nil .nil)) (.node (o84_421 P) (.node (o150_677 P) (.node (o174_1189 P) .nil .nil) .nil) (.node (o150_933 P) .nil .nil))) (.node (o84_229 P) (.node (o84_357 P) (.node (o150_613 P) (.node (o174_1125 P) .nil .nil) .nil) (.node (o150_869 P) .nil .nil)) (.node (o84_485 P) (.node (o150_741 P) .nil .nil) (.node (o150_997 P) .nil .nil))))) (.node (o20_53 P) (.node (o20_85 P) (.node (o20_149 P) (.node (o84_277 P) (.node (o84_533 P) (.node (o150_1045 P) .nil .nil) .nil) (.node (o150_789 P) .nil .nil)) (.node (o84_405 P) (.node (o150_661 P) (.node (o174_1173 P) .nil .nil) .nil) (.node (o150_917 P) .nil .nil))) (.node (o84_213 P) (.node (o84_341 P) (.node (o84_597 P) (.node (o174_1109 P) .nil .nil) .nil) (.node (o150_853 P) .nil .nil)) (.node (o84_469 P) (.node (o150_725 P) .nil .nil) (.node (o150_981 P) .nil .nil)))) (.node (o20_117 P) (.node (o20_181 P) (.node (o84_309 P) (.node (o84_565 P) (.node (o174_1077 P) .nil .nil) .nil) (.node (o150_821 P) .nil .nil)) (.node (o84_437 P) (.node (o150_693 P) .nil .nil) (.node (o150_949 P) .nil .nil))) (.node (o84_245 P) (.node (o84_373 P) (.node (o150_629 P) (.node (o174_1141 P) .nil .nil) .nil) (.node (o150_885 P) .nil .nil)) (.node (o84_501 P) (.node (o150_757 P) .nil .nil) (.node (o150_1013 P) .nil .nil)))))) (.node (o20_29 P) (.node (o20_45 P) (.node (o20_77 P) (.node (o20_141 P) (.node (o84_269 P) (.node (o84_525 P) (.node (o150_1037 P) .nil .nil) .nil) (.node (o150_781 P) .nil .nil)) (.node (o84_397 P) (.node (o150_653 P) (.node (o174_1165 P) .nil .nil) .nil) (.node (o150_909 P) .nil .nil))) (.node (o20_205 P) (.node (o84_333 P) (.node (o84_589 P) (.node (o174_1101 P) .nil .nil) .nil) (.node (o150_845 P) .nil .nil)) (.node (o84_461 P) (.node (o150_717 P) .nil .nil) (.node (o150_973 P) .nil .nil)))) (.node (o20_109 P) (.node (o20_173 P) (.node (o84_301 P) (.node (o84_557 P) (.node (o150_1069 P) .nil .nil) .nil) (.node (o150_813 P) .nil .nil)) (.node (o84_429 P) (.node (o150_685 P) (.node (o174_1197 P) .nil .nil) .nil) (.node (o150_941 P) .nil .nil))) (.node (o84_237 P) (.node (o84_365 P) (.node (o150_621 P) (.node (o174_1133 P) .nil .nil) .nil) (.node (o150_877 P) .nil .nil)) (.node (o84_493 P) (.node (o150_749 P) .nil .nil) (.node (o150_1005 P) .nil .nil))))) (.node (o20_61 P) (.node (o20_93 P) (.node (o20_157 P) (.node (o84_285 P) (.node (o84_541 P) (.node (o150_1053 P) .nil .nil) .nil) (.node (o150_797 P) .nil .nil)) (.node (o84_413 P) (.node (o150_669 P) (.node (o174_1181 P) .nil .nil) .nil) (.node (o150_925 P) .nil .nil))) (.node (o84_221 P) (.node (o84_349 P) (.node (o85_605 P) (.node (o174_1117 P) .nil .nil) .nil) (.node (o150_861 P) .nil .nil)) (.node (o84_477 P) (.node (o150_733 P) .nil .nil) (.node (o150_989 P) .nil .nil)))) (.node (o20_125 P) (.node (o20_189 P) (.node (o84_317 P) (.node (o84_573 P) (.node (o174_1085 P) .nil .nil) .nil) (.node (o150_829 P) .nil .nil)) (.node (o84_445 P) (.node (o150_701 P) .nil .nil) (.node (o150_957 P) .nil .nil))) (.node (o84_253 P) (.node (o84_381 P) (.node (o150_637 P) (.node (o174_1149 P) .nil .nil) .nil) (.node (o150_893 P) .nil .nil)) (.node (o84_509 P) (.node (o150_765 P) .nil .nil) (.node (o150_1021 P) .nil .nil))))))))) (.node (boot_o_2 P) (.node (boot_o_4 P) (.node (boot_o_8 P) (.node (o20_16 P) (.node (o20_32 P) (.node (o20_64 P) (.node (o20_128 P) (.node (o84_256 P) (.node (o84_512 P) (.node (o150_1024 P) .nil .nil) .nil) (.node (o150_768 P) .nil .nil)) (.node (o84_384 P) (.node (o150_640 P) (.node (o174_1152 P) .nil .nil) .nil) (.node (o150_896 P) .nil .nil))) (.node (o20_192 P) (.node (o84_320 P) (.node (o84_576 P) (.node (o174_1088 P) .nil .nil) .nil) (.node (o150_832 P) .nil .nil)) (.node (o84_448 P) (.node (o150_704 P) .nil .nil) (.node (o150_960 P) .nil .nil)))) (.node (o20_96 P) (.node (o20_160 P) (.node (o84_288 P) (.node (o84_544 P) (.node (o150_1056 P) .nil .nil) .nil) (.node (o150_800 P) .nil .nil)) (.node (o84_416 P) (.node (o150_672 P) (.node (o174_1184 P) .nil .nil) .nil) (.node (o150_928 P) .nil .nil))) (.node (o84_224 P) (.node (o84_352 P) (.node (o150_608 P) (.node (o174_1120 P) .nil .nil) .nil) (.node (o150_864 P) .nil .nil)) (.node (o84_480 P) (.node (o150_736 P) .nil .nil) (.node (o150_992 P) .nil .nil))))) (.node (o20_48 P) (.node (o20_80 P) (.node (o20_144 P) (.node (o84_272 P) (.node (o84_528 P) (.node (o150_1040 P) .nil .nil) .nil) (.node (o150_784 P) .nil .nil)) (.node (o84_400 P) (.node (o150_656 P) (.node (o174_1168 P) .nil .nil) .nil) (.node (o150_912 P) .nil .nil))) (.node (o20_208 P) (.node (o84_336 P) (.node (o84_592 P) (.node (o174_1104 P) .nil .nil) .nil) (.node (o150_848 P) .nil .nil)) (.node (o84_464 P) (.node (o150_720 P) .nil .nil) (.node (o150_976 P) .nil .nil)))) (.node (o20_112 P) (.node (o20_176 P) (.node (o84_304 P) (.node (o84_560 P) (.node (o150_1072 P) .nil .nil) .nil) (.node (o150_816 P) .nil .nil)) (.node (o84_432 P) (.node (o150_688 P) .nil .nil) (.node (o150_944 P) .nil .nil))) (.node (o84_240 P) (.node (o84_368 P) (.node (o150_624 P) (.node (o174_1136 P) .nil .nil) .nil) (.node (o150_880 P) .nil .nil)) (.node (o84_496 P) (.node (o150_752 P) .nil .nil) (.node (o150_1008 P) .nil .nil)))))) (.node (o20_24 P) (.node (o20_40 P) (.node (o20_72 P) (.node (o20_136 P) (.node (o84_264 P) (.node (o84_520 P) (.node (o150_1032 P) .nil .nil) .nil) (.node (o150_776 P) .nil .nil)) (.node (o84_392 P) (.node (o150_648 P) (.node (o174_1160 P) .nil .nil) .nil) (.node (o150_904 P) .nil .nil))) (.node (o20_200 P) (.node (o84_328 P) (.node (o84_584 P) (.node (o174_1096 P) .nil .nil) .nil) (.node (o150_840 P) .nil .nil)) (.node (o84_456 P) (.node (o150_712 P) .nil .nil) (.node (o150_968 P) .nil .nil)))) (.node (o20_104 P) (.node (o20_168 P) (.node (o84_296 P) (.node (o84_552 P) (.node (o150_1064 P) .nil .nil) .nil) (.node (o150_808 P) .nil .nil)) (.node (o84_424 P) (.node (o150_680 P) (.node (o174_1192 P) .nil .nil) .nil) (.node (o150_936 P) .nil .nil))) (.node (o84_232 P) (.node (o84_360 P) (.node (o150_616 P) (.node (o174_1128 P) .nil .nil) .nil) (.node (o150_872 P) .nil .nil)) (.node (o84_488 P) (.node (o150_744 P) .nil .nil) (.node (o150_1000 P) .nil .nil))))) (.node (o20_56 P) (.node (o20_88 P) (.node (o20_152 P) (.node (o84_280 P) (.node (o84_536 P) (.node (o150_1048 P) .nil .nil) .nil) (.node (o150_792 P) .nil .nil)) (.node (o84_408 P) (.node (o150_664 P) (.node (o174_1176 P) .nil .nil) .nil) (.node (o150_920 P) .nil .nil))) (.node (o84_216 P) (.node (o84_344 P) (.node (o84_600 P) (.node (o174_1112 P) .nil .nil) .nil) (.node (o150_856 P) .nil .nil)) (.node (o84_472 P) (.node (o150_728 P) .nil .nil) (.node (o150_984 P) .nil .nil)))) (.node (o20_120 P) (.node (o20_184 P) (.node (o84_312 P) (.node (o84_568 P) (.node (o174_1080 P) .nil .nil) .nil) (.node (o150_824 P) .nil .nil)) (.node (o84_440 P) (.node (o150_696 P) .nil .nil) (.node (o150_952 P) .nil .nil))) (.node (o84_248 P) (.node (o84_376 P) (.node (o150_632 P) (.node (o174_1144 P) .nil .nil) .nil) (.node (o150_888 P) .nil .nil)) (.node (o84_504 P) (.node (o150_760 P) .nil .nil) (.node (o150_1016 P) .nil .nil))))))) (.node (o174_12 P) (.node (o20_20 P) (.node (o20_36 P) (.node (o20_68 P) (.node (o20_132 P) (.node (o84_260 P) (.node (o84_516 P) (.node (o150_1028 P) .nil .nil) .nil) (.node (o150_772 P) .nil .nil)) (.node (o84_388 P) (.node (o150_644 P) (.node (o174_1156 P) .nil .nil) .nil) (.node (o150_900 P) .nil .nil))) (.node (o20_196 P) (.node (o84_324 P) (.node (o84_580 P) (.node (o174_1092 P) .nil .nil) .nil) (.node (o150_836 P) .nil .nil)) (.node (o84_452 P) (.node (o150_708 P) .nil .nil) (.node (o150_964 P) .nil .nil)))) (.node (o20_100 P) (.node (o20_164 P) (.node (o84_292 P) (.node (o84_548 P) (.node (o150_1060 P) .nil .nil) .nil) (.node (o150_804 P) .nil .nil)) (.node (o84_420 P) (.node (o150_676 P) (.node (o174_1188 P) .nil .nil) .nil) (.node (o150_932 P) .nil .nil))) (.node (o84_228 P) (.node (o84_356 P) (.node (o150_612 P) (.node (o174_1124 P) .nil .nil) .nil) (.node (o150_868 P) .nil .nil)) (.node (o84_484 P) (.node (o150_740 P) .nil .nil) (.node (o150_996 P) .nil .nil))))) (.node (o20_52 P) (.node (o20_84 P) (.node (o20_148 P) (.node (o84_276 P) (.node (o84_532 P) (.node (o150_1044 P) .nil .nil) .nil) (.node (o150_788 P) .nil .nil)) (.node (o84_404 P) (.node (o150_660 P) (.node (o174_1172 P) .nil .nil) .nil) (.node (o150_916 P) .nil .nil))) (.node (o84_212 P) (.node (o84_340 P) (.node (o84_596 P) (.node (o174_1108 P) .nil .nil) .nil) (.node (o150_852 P) .nil .nil)) (.node (o84_468 P) (.node (o150_724 P) .nil .nil) (.node (o150_980 P) .nil .nil)))) (.node (o20_116 P) (.node (o20_180 P) (.node (o84_308 P) (.node (o84_564 P) (.node (o174_1076 P) .nil .nil) .nil) (.node (o150_820 P) .nil .nil)) (.node (o84_436 P) (.node (o150_692 P) .nil .nil) (.node (o150_948 P) .nil .nil))) (.node (o84_244 P) (.node (o84_372 P) (.node (o150_628 P) (.node (o174_1140 P) .nil .nil) .nil) (.node (o150_884 P) .nil .nil)) (.node (o84_500 P) (.node (o150_756 P) .nil .nil) (.node (o150_1012 P) .nil .nil)))))) (.node (o20_28 P) (.node (o20_44 P) (.node (o20_76 P) (.node (o20_140 P) (.node (o84_268 P) (.node (o84_524 P) (.node (o150_1036 P) .nil .nil) .nil) (.node (o150_780 P) .nil .nil)) (.node (o84_396 P) (.node (o150_652 P) (.node (o174_1164 P) .nil .nil) .nil) (.node (o150_908 P) .nil .nil))) (.node (o20_204 P) (.node (o84_332 P) (.node (o84_588 P) (.node (o174_1100 P) .nil .nil) .nil) (.node (o150_844 P) .nil .nil)) (.node (o84_460 P) (.node (o150_716 P) .nil .nil) (.node (o150_972 P) .nil .nil)))) (.node (o20_108 P) (.node (o20_172 P) (.node (o84_300 P) (.node (o84_556 P) (.node (o150_1068 P) .nil .nil) .nil) (.node (o150_812 P) .nil .nil)) (.node (o84_428 P) (.node (o150_684 P) (.node (o174_1196 P) .nil .nil) .nil) (.node (o150_940 P) .nil .nil))) (.node (o84_236 P) (.node (o84_364 P) (.node (o150_620 P) (.node (o174_1132 P) .nil .nil) .nil) (.node (o150_876 P) .nil .nil)) (.node (o84_492 P) (.node (o150_748 P) .nil .nil) (.node (o150_1004 P) .nil .nil))))) (.node (o20_60 P) (.node (o20_92 P) (.node (o20_156 P) (.node (o84_284 P) (.node (o84_540 P) (.node (o150_1052 P) .nil .nil) .nil) (.node (o150_796 P) .nil .nil)) (.node (o84_412 P) (.node (o150_668 P) (.node (o174_1180 P) .nil .nil) .nil) (.node (o150_924 P) .nil .nil))) (.node (o84_220 P) (.node (o84_348 P) (.node (o84_604 P) (.node (o174_1116 P) .nil .nil) .nil) (.node (o150_860 P) .nil .nil)) (.node (o84_476 P) (.node (o150_732 P) .nil .nil) (.node (o150_988 P) .nil .nil)))) (.node (o20_124 P) (.node (o20_188 P) (.node (o84_316 P) (.node (o84_572 P) (.node (o174_1084 P) .nil .nil) .nil) (.node (o150_828 P) .nil .nil)) (.node (o84_444 P) (.node (o150_700 P) .nil .nil) (.node (o150_956 P) .nil .nil))) (.node (o84_252 P) (.node (o84_380 P) (.node (o150_636 P) (.node (o174_1148 P) .nil .nil) .nil) (.node (o150_892 P) .nil .nil)) (.node (o84_508 P) (.node (o150_764 P) .nil .nil) (.node (o150_1020 P) .nil .nil)))))))) (.node (boot_o_6 P) (.node (boot_o_10 P) (.node (o20_18 P) (.node (o20_34 P) (.node (o20_66 P) (.node (o20_130 P) (.node (o84_258 P) (.node (o84_514 P) (.node (o150_1026 P) .nil .nil) .nil) (.node (o150_770 P) .nil .nil)) (.node (o84_386 P) (.node (o150_642 P) (.node (o174_1154 P) .nil .nil) .nil) (.node (o150_898 P) .nil .nil))) (.node (o20_194 P) (.node (o84_322 P) (.node (o84_578 P) (.node (o174_1090 P) .nil .nil) .nil) (.node (o150_834 P) .nil .nil)) (.node (o84_450 P) (.node (o150_706 P) .nil .nil) (.node (o150_962 P) .nil .nil)))) (.node (o20_98 P) (.node (o20_162 P) (.node (o84_290 P) (.node (o84_546 P) (.node (o150_1058 P) .nil .nil) .nil) (.node (o150_802 P) .nil .nil)) (.node (o84_418 P) (.node (o150_674 P) (.node (o174_1186 P) .nil .nil) .nil) (.node (o150_930 P) .nil .nil))) (.node (o84_226 P) (.node (o84_354 P) (.node (o150_610 P) (.node (o174_1122 P) .nil .nil) .nil) (.node (o150_866 P) .nil .nil)) (.node (o84_482 P) (.node (o150_738 P) .nil .nil) (.node (o150_994 P) .nil .nil))))) (.node (o20_50 P) (.node (o20_82 P) (.node (o20_146 P) (.node (o84_274 P) (.node (o84_530 P) (.node (o150_1042 P) .nil .nil) .nil) (.node (o150_786 P) .nil .nil)) (.node (o84_402 P) (.node (o150_658 P) (.node (o174_1170 P) .nil .nil) .nil) (.node (o150_914 P) .nil .nil))) (.node (o20_210 P) (.node (o84_338 P) (.node (o84_594 P) (.node (o174_1106 P) .nil .nil) .nil) (.node (o150_850 P) .nil .nil)) (.node (o84_466 P) (.node (o150_722 P) .nil .nil) (.node (o150_978 P) .nil .nil)))) (.node (o20_114 P) (.node (o20_178 P) (.node (o84_306 P) (.node (o84_562 P) (.node (o174_1074 P) .nil .nil) .nil) (.node (o150_818 P) .nil .nil)) (.node (o84_434 P) (.node (o150_690 P) .nil .nil) (.node (o150_946 P) .nil .nil))) (.node (o84_242 P) (.node (o84_370 P) (.node (o150_626 P) (.node (o174_1138 P) .nil .nil) .nil) (.node (o150_882 P) .nil .nil)) (.node (o84_498 P) (.node (o150_754 P) .nil .nil) (.node (o150_1010 P) .nil .nil)))))) (.node (o20_26 P) (.node (o20_42 P) (.node (o20_74 P) (.node (o20_138 P) (.node (o84_266 P) (.node (o84_522 P) (.node (o150_1034 P) .nil .nil) .nil) (.node (o150_778 P) .nil .nil)) (.node (o84_394 P) (.node (o150_650 P) (.node (o174_1162 P) .nil .nil) .nil) (.node (o150_906 P) .nil .nil))) (.node (o20_202 P) (.node (o84_330 P) (.node (o84_586 P) (.node (o174_1098 P) .nil .nil) .nil) (.node (o150_842 P) .nil .nil)) (.node (o84_458 P) (.node (o150_714 P) .nil .nil) (.node (o150_970 P) .nil .nil)))) (.node (o20_106 P) (.node (o20_170 P) (.node (o84_298 P) (.node (o84_554 P) (.node (o150_1066 P) .nil .nil) .nil) (.node (o150_810 P) .nil .nil)) (.node (o84_426 P) (.node (o150_682 P) (.node (o174_1194 P) .nil .nil) .nil) (.node (o150_938 P) .nil .nil))) (.node (o84_234 P) (.node (o84_362 P) (.node (o150_618 P) (.node (o174_1130 P) .nil .nil) .nil) (.node (o150_874 P) .nil .nil)) (.node (o84_490 P) (.node (o150_746 P) .nil .nil) (.node (o150_1002 P) .nil .nil))))) (.node (o20_58 P) (.node (o20_90 P) (.node (o20_154 P) (.node (o84_282 P) (.node (o84_538 P) (.node (o150_1050 P) .nil .nil) .nil) (.node (o150_794 P) .nil .nil)) (.node (o84_410 P) (.node (o150_666 P) (.node (o174_1178 P) .nil .nil) .nil) (.node (o150_922 P) .nil .nil))) (.node (o84_218 P) (.node (o84_346 P) (.node (o84_602 P) (.node (o174_1114 P) .nil .nil) .nil) (.node (o150_858 P) .nil .nil)) (.node (o84_474 P) (.node (o150_730 P) .nil .nil) (.node (o150_986 P) .nil .nil)))) (.node (o20_122 P) (.node (o20_186 P) (.node (o84_314 P) (.node (o84_570 P) (.node (o174_1082 P) .nil .nil) .nil) (.node (o150_826 P) .nil .nil)) (.node (o84_442 P) (.node (o150_698 P) .nil .nil) (.node (o150_954 P) .nil .nil))) (.node (o84_250 P) (.node (o84_378 P) (.node (o150_634 P) (.node (o174_1146 P) .nil .nil) .nil) (.node (o150_890 P) .nil .nil)) (.node (o84_506 P) (.node (o150_762 P) .nil .nil) (.node (o150_1018 P) .nil .nil))))))) (.node (oa_14 P) (.node (o20_22 P) (.node (o20_38 P) (.node (o20_70 P) (.node (o20_134 P) (.node (o84_262 P) (.node (o84_518 P) (.node (o150_1030 P) .nil .nil) .nil) (.node (o150_774 P) .nil .nil)) (.node (o84_390 P) (.node (o150_646 P) (.node (o174_1158 P) .nil .nil) .nil) (.node (o150_902 P) .nil .nil))) (.node (o20_198 P) (.node (o84_326 P) (.node (o84_582 P) (.node (o174_1094 P) .nil .nil) .nil) (.node (o150_838 P) .nil .nil)) (.node (o84_454 P) (.node (o150_710 P) .nil .nil) (.node (o150_966 P) .nil .nil)))) (.node (o20_102 P) (.node (o20_166 P) (.node (o84_294 P) (.node (o84_550 P) (.node (o150_1062 P) .nil .nil) .nil) (.node (o150_806 P) .nil .nil)) (.node (o84_422 P) (.node (o150_678 P) (.node (o174_1190 P) .nil .nil) .nil) (.node (o150_934 P) .nil .nil))) (.node (o84_230 P) (.node (o84_358 P) (.node (o150_614 P) (.node (o174_1126 P) .nil .nil) .nil) (.node (o150_870 P) .nil .nil)) (.node (o84_486 P) (.node (o150_742 P) .nil .nil) (.node (o150_998 P) .nil .nil))))) (.node (o20_54 P) (.node (o20_86 P) (.node (o20_150 P) (.node (o84_278 P) (.node (o84_534 P) (.node (o150_1046 P) .nil .nil) .nil) (.node (o150_790 P) .nil .nil)) (.node (o84_406 P) (.node (o150_662 P) (.node (o174_1174 P) .nil .nil) .nil) (.node (o150_918 P) .nil .nil))) (.node (o84_214 P) (.node (o84_342 P) (.node (o84_598 P) (.node (o174_1110 P) .nil .nil) .nil) (.node (o150_854 P) .nil .nil)) (.node (o84_470 P) (.node (o150_726 P) .nil .nil) (.node (o150_982 P) .nil .nil)))) (.node (o20_118 P) (.node (o20_182 P) (.node (o84_310 P) (.node (o84_566 P) (.node (o174_1078 P) .nil .nil) .nil) (.node (o150_822 P) .nil .nil)) (.node (o84_438 P) (.node (o150_694 P) .nil .nil) (.node (o150_950 P) .nil .nil))) (.node (o84_246 P) (.node (o84_374 P) (.node (o150_630 P) (.node (o174_1142 P) .nil .nil) .nil) (.node (o150_886 P) .nil .nil)) (.node (o84_502 P) (.node (o150_758 P) .nil .nil) (.node (o150_1014 P) .nil .nil)))))) (.node (o20_30 P) (.node (o20_46 P) (.node (o20_78 P) (.node (o20_142 P) (.node (o84_270 P) (.node (o84_526 P) (.node (o150_1038 P) .nil .nil) .nil) (.node (o150_782 P) .nil .nil)) (.node (o84_398 P) (.node (o150_654 P) (.node (o174_1166 P) .nil .nil) .nil) (.node (o150_910 P) .nil .nil))) (.node (o20_206 P) (.node (o84_334 P) (.node (o84_590 P) (.node (o174_1102 P) .nil .nil) .nil) (.node (o150_846 P) .nil .nil)) (.node (o84_462 P) (.node (o150_718 P) .nil .nil) (.node (o150_974 P) .nil .nil)))) (.node (o20_110 P) (.node (o20_174 P) (.node (o84_302 P) (.node (o84_558 P) (.node (o150_1070 P) .nil .nil) .nil) (.node (o150_814 P) .nil .nil)) (.node (o84_430 P) (.node (o150_686 P) (.node (o175_1198 P) .nil .nil) .nil) (.node (o150_942 P) .nil .nil))) (.node (o84_238 P) (.node (o84_366 P) (.node (o150_622 P) (.node (o174_1134 P) .nil .nil) .nil) (.node (o150_878 P) .nil .nil)) (.node (o84_494 P) (.node (o150_750 P) .nil .nil) (.node (o150_1006 P) .nil .nil))))) (.node (o20_62 P) (.node (o20_94 P) (.node (o20_158 P) (.node (o84_286 P) (.node (o84_542 P) (.node (o150_1054 P) .nil .nil) .nil) (.node (o150_798 P) .nil .nil)) (.node (o84_414 P) (.node (o150_670 P) (.node (o174_1182 P) .nil .nil) .nil) (.node (o150_926 P) .nil .nil))) (.node (o84_222 P) (.node (o84_350 P) (.node (o85_606 P) (.node (o174_1118 P) .nil .nil) .nil) (.node (o150_862 P) .nil .nil)) (.node (o84_478 P) (.node (o150_734 P) .nil .nil) (.node (o150_990 P) .nil .nil)))) (.node (o20_126 P) (.node (o20_190 P) (.node (o84_318 P) (.node (o84_574 P) (.node (o174_1086 P) .nil .nil) .nil) (.node (o150_830 P) .nil .nil)) (.node (o84_446 P) (.node (o150_702 P) .nil .nil) (.node (o150_958 P) .nil .nil))) (.node (o84_254 P) (.node (o84_382 P) (.node (o150_638 P) (.node (o174_1150 P) .nil .nil) .nil) (.node (o150_894 P) .nil .nil)) (.node (o84_510 P) (.node (o150_766 P) .nil .nil) (.node (o150_1022 P) .nil .nil))))))))))
def S175 (w : World) (os : OsState) : SharedT := ⟨T175 w.params, 1200, (boot_heap w.params).life, Array.mk [], boot_drawn, 2058, os⟩
def o201_3 (P : Params) : Obj := ⟨(.type "dict"), .none, (.dict #[⟨PyData.keyHash P (Str.ofString "__name__"), (.str (Str.ofString "__name__") 165), (.str (Str.ofString "law_plinth_k93_whole_journals_that_are_cut_o") 2399)⟩, ⟨PyData.keyHash P (Str.ofString "__doc__"), (.str (Str.ofString "__doc__") 166), .none⟩, ⟨PyData.keyHash P (Str.ofString "__package__"), (.str (Str.ofString "__package__") 167), .none⟩, ⟨PyData.keyHash P (Str.ofString "__loader__"), (.str (Str.ofString "__loader__") 168), (.builtin "__main__.__loader__#opaque")⟩, ⟨PyData.keyHash P (Str.ofString "__spec__"), (.str (Str.ofString "__spec__") 169), .none⟩, ⟨PyData.keyHash P (Str.ofString "__annotations__"), (.str (Str.ofString "__annotations__") 170), (.ref 6)⟩, ⟨PyData.keyHash P (Str.ofString "__builtins__"), (.str (Str.ofString "__builtins__") 171), (.ref 4)⟩, ⟨PyData.keyHash P (Str.ofString "__file__"), (.str (Str.ofString "__file__") 173), (.str (Str.ofString "/claim/cut.py") 172)⟩, ⟨PyData.keyHash P (Str.ofString "__cached__"), (.str (Str.ofString "__cached__") 174), .none⟩, ⟨PyData.keyHash P (Str.ofString "_wall"), (.str (Str.ofString "_wall") 193), (.ref 21)⟩, ⟨PyData.keyHash P (Str.ofString "PlinthError"), (.str (Str.ofString "PlinthError") 213), (.ref 31)⟩, ⟨PyData.keyHash P (Str.ofString "NotText"), (.str (Str.ofString "NotText") 229), (.ref 44)⟩, ⟨PyData.keyHash P (Str.ofString "NotNumeral"), (.str (Str.ofString "NotNumeral") 245), (.ref 56)⟩, ⟨PyData.keyHash P (Str.ofString "BadFuel"), (.str (Str.ofString "BadFuel") 261), (.ref 68)⟩, ⟨PyData.keyHash P (Str.ofString "BadPlan"), (.str (Str.ofString "BadPlan") 286), (.ref 87)⟩, ⟨PyData.keyHash P (Str.ofString "BadClaim"), (.str (Str.ofString "BadClaim") 302), (.ref 99)⟩, ⟨PyData.keyHash P (Str.ofString "BadTrap"), (.str (Str.ofString "BadTrap") 318), (.ref 111)⟩, ⟨PyData.keyHash P (Str.ofString "NotPlantable"), (.str (Str.ofString "NotPlantable") 334), (.ref 123)⟩, ⟨PyData.keyHash P (Str.ofString "BadName"), (.str (Str.ofString "BadName") 350), (.ref 135)⟩, ⟨PyData.keyHash P (Str.ofString "BadKind"), (.str (Str.ofString "BadKind") 366), (.ref 147)⟩, ⟨PyData.keyHash P (Str.ofString "NoEntry"), (.str (Str.ofString "NoEntry") 391), (.ref 166)⟩, ⟨PyData.keyHash P (Str.ofString "OutOfRange"), (.str (Str.ofString "OutOfRange") 407), (.ref 178)⟩, ⟨PyData.keyHash P (Str.ofString "BadJournal"), (.str (Str.ofString "BadJournal") 432), (.ref 197)⟩, ⟨PyData.keyHash P (Str.ofString "OpenTrial"), (.str (Str.ofString "OpenTrial") 448), (.ref 209)⟩, ⟨PyData.keyHash P (Str.ofString "NEWLINE"), (.str (Str.ofString "NEWLINE") 452), (.int (10) 451)⟩, ⟨PyData.keyHash P (Str.ofString "PRINTABLE"), (.str (Str.ofString "PRINTABLE") 454), (.str (Str.ofString " !\"#$&'()*+,-./0123456789:;<=>?@ABCDEFGHIJKLMNOPQRSTUVWXYZ[\\]^_`abcdefghijklmnopqrstuvwxyz{|}~") 453)⟩, ⟨PyData.keyHash P (Str.ofString "DIGITS_signs"), (.str (Str.ofString "DIGITS_signs") 456), (.str (Str.ofString "0123456789") 455)⟩, ⟨PyData.keyHash P (Str.ofString "LIMIT"), (.str (Str.ofString "LIMIT") 460), (.int (1000000000000000000000000000000000000000000000000000000000000) 459)⟩, ⟨PyData.keyHash P (Str.ofString "codes_of"), (.str (Str.ofString "codes_of") 469), (.ref 218)⟩, ⟨PyData.keyHash P (Str.ofString "_char"), (.str (Str.ofString "_char") 476), (.ref 225)⟩, ⟨PyData.keyHash P (Str.ofString "text_of"), (.str (Str.ofString "text_of") 486), (.ref 232)⟩, ⟨PyData.keyHash P (Str.ofString "readable"), (.str (Str.ofString "readable") 495), (.ref 239)⟩, ⟨PyData.keyHash P (Str.ofString "numeral"), (.str (Str.ofString "numeral") 502), (.ref 246)⟩, ⟨PyData.keyHash P (Str.ofString "number_of"), (.str (Str.ofString "number_of") 511), (.ref 253)⟩, ⟨PyData.keyHash P (Str.ofString "is_digit"), (.str (Str.ofString "is_digit") 520), (.ref 260)⟩, ⟨PyData.keyHash P (Str.ofString "read_digits"), (.str (Str.ofString "read_digits") 530), (.ref 267)⟩, ⟨PyData.keyHash P (Str.ofString "ShortReader"), (.str (Str.ofString "ShortReader") 598), (.ref 312)⟩, ⟨PyData.keyHash P (Str.ofString "translate_short"), (.str (Str.ofString "translate_short") 606), (.ref 323)⟩, ⟨PyData.keyHash P (Str.ofString "BLANK"), (.str (Str.ofString "BLANK") 610), (.int (32) 609)⟩, ⟨PyData.keyHash P (Str.ofString "QUOTE"), (.str (Str.ofString "QUOTE") 612), (.int (39) 611)⟩, ⟨PyData.keyHash P (Str.ofString "RETURN_translate"), (.str (Str.ofString "RETURN_translate") 614), (.int (41) 613)⟩, ⟨PyData.keyHash P (Str.ofString "COLON"), (.str (Str.ofString "COLON") 616), (.int (58) 615)⟩, ⟨PyData.keyHash P (Str.ofString "SEMICOLON"), (.str (Str.ofString "SEMICOLON") 618), (.int (59) 617)⟩, ⟨PyData.keyHash P (Str.ofString "ASSIGN"), (.str (Str.ofString "ASSIGN") 620), (.int (61) 619)⟩, ⟨PyData.keyHash P (Str.ofString "PUSH_translate"), (.str (Str.ofString "PUSH_translate") 622), (.int (35) 621)⟩, ⟨PyData.keyHash P (Str.ofString "TEST_translate"), (.str (Str.ofString "TEST_translate") 624), (.int (63) 623)⟩, ⟨PyData.keyHash P (Str.ofString "Translator"), (.str (Str.ofString "Translator") 751), (.ref 411)⟩, ⟨PyData.keyHash P (Str.ofString "translate"), (.str (Str.ofString "translate") 766), (.ref 423)⟩, ⟨PyData.keyHash P (Str.ofString "DIGITS_audit"), (.str (Str.ofString "DIGITS_audit") 770), (.str (Str.ofString "digits") 769)⟩, ⟨PyData.keyHash P (Str.ofString "SHORT"), (.str (Str.ofString "SHORT") 772), (.str (Str.ofString "short") 771)⟩, ⟨PyData.keyHash P (Str.ofString "PLAIN"), (.str (Str.ofString "PLAIN") 774), (.str (Str.ofString "plain") 773)⟩, ⟨PyData.keyHash P (Str.ofString "TURNED"), (.str (Str.ofString "TURNED") 776), (.str (Str.ofString "turned") 775)⟩, ⟨PyData.keyHash P (Str.ofString "KINDS"), (.str (Str.ofString "KINDS") 777), (.ref 424)⟩, ⟨PyData.keyHash P (Str.ofString "due"), (.str (Str.ofString "due") 786), (.ref 848)⟩, ⟨PyData.keyHash P (Str.ofString "due_audit"), (.str (Str.ofString "due_audit") 787), (.ref 431)⟩, ⟨PyData.keyHash P (Str.ofString "first_difference"), (.str (Str.ofString "first_difference") 797), (.ref 438)⟩, ⟨PyData.keyHash P (Str.ofString "audit"), (.str (Str.ofString "audit") 807), (.ref 445)⟩, ⟨PyData.keyHash P (Str.ofString "nodes_of"), (.str (Str.ofString "nodes_of") 815), (.ref 450)⟩, ⟨PyData.keyHash P (Str.ofString "image_of"), (.str (Str.ofString "image_of") 827), (.ref 457)⟩, ⟨PyData.keyHash P (Str.ofString "table_of"), (.str (Str.ofString "table_of") 839), (.ref 464)⟩, ⟨PyData.keyHash P (Str.ofString "FIRST_LETTER"), (.str (Str.ofString "FIRST_LETTER") 843), (.int (97) 842)⟩, ⟨PyData.keyHash P (Str.ofString "LAST_LETTER"), (.str (Str.ofString "LAST_LETTER") 845), (.int (122) 844)⟩, ⟨PyData.keyHash P (Str.ofString "FIRST_CAPITAL"), (.str (Str.ofString "FIRST_CAPITAL") 847), (.int (65) 846)⟩, ⟨PyData.keyHash P (Str.ofString "LAST_CAPITAL"), (.str (Str.ofString "LAST_CAPITAL") 849), (.int (90) 848)⟩, ⟨PyData.keyHash P (Str.ofString "LAST_LOW"), (.str (Str.ofString "LAST_LOW") 851), (.int (199) 850)⟩, ⟨PyData.keyHash P (Str.ofString "_push"), (.str (Str.ofString "_push") 859), (.ref 471)⟩, ⟨PyData.keyHash P (Str.ofString "_plus"), (.str (Str.ofString "_plus") 868), (.ref 478)⟩, ⟨PyData.keyHash P (Str.ofString "_minus"), (.str (Str.ofString "_minus") 877), (.ref 485)⟩, ⟨PyData.keyHash P (Str.ofString "_digit"), (.str (Str.ofString "_digit") 886), (.ref 492)⟩, ⟨PyData.keyHash P (Str.ofString "_less"), (.str (Str.ofString "_less") 895), (.ref 499)⟩, ⟨PyData.keyHash P (Str.ofString "_same"), (.str (Str.ofString "_same") 904), (.ref 506)⟩, ⟨PyData.keyHash P (Str.ofString "_load"), (.str (Str.ofString "_load") 912), (.ref 513)⟩, ⟨PyData.keyHash P (Str.ofString "_keep"), (.str (Str.ofString "_keep") 921), (.ref 520)⟩, ⟨PyData.keyHash P (Str.ofString "_assign"), (.str (Str.ofString "_assign") 929), (.ref 527)⟩, ⟨PyData.keyHash P (Str.ofString "_take"), (.str (Str.ofString "_take") 937), (.ref 534)⟩, ⟨PyData.keyHash P (Str.ofString "_rewind"), (.str (Str.ofString "_rewind") 945), (.ref 541)⟩, ⟨PyData.keyHash P (Str.ofString "_emit"), (.str (Str.ofString "_emit") 953), (.ref 548)⟩, ⟨PyData.keyHash P (Str.ofString "_cell"), (.str (Str.ofString "_cell") 962), (.ref 555)⟩, ⟨PyData.keyHash P (Str.ofString "_drop"), (.str (Str.ofString "_drop") 970), (.ref 562)⟩, ⟨PyData.keyHash P (Str.ofString "_double"), (.str (Str.ofString "_double") 979), (.ref 569)⟩, ⟨PyData.keyHash P (Str.ofString "_exchange"), (.str (Str.ofString "_exchange") 989), (.ref 576)⟩, ⟨PyData.keyHash P (Str.ofString "_test"), (.str (Str.ofString "_test") 997), (.ref 583)⟩, ⟨PyData.keyHash P (Str.ofString "_call"), (.str (Str.ofString "_call") 1006), (.ref 590)⟩, ⟨PyData.keyHash P (Str.ofString "_call_low"), (.str (Str.ofString "_call_low") 1015), (.ref 597)⟩, ⟨PyData.keyHash P (Str.ofString "_return"), (.str (Str.ofString "_return") 1023), (.ref 604)⟩, ⟨PyData.keyHash P (Str.ofString "DEEDS"), (.str (Str.ofString "DEEDS") 1064), (.ref 605)⟩, ⟨PyData.keyHash P (Str.ofString "State"), (.str (Str.ofString "State") 1143), (.ref 656)⟩, ⟨PyData.keyHash P (Str.ofString "run"), (.str (Str.ofString "run") 1154), (.ref 667)⟩, ⟨PyData.keyHash P (Str.ofString "_parts"), (.str (Str.ofString "_parts") 1163), (.ref 674)⟩, ⟨PyData.keyHash P (Str.ofString "_reach"), (.str (Str.ofString "_reach") 1175), (.ref 681)⟩, ⟨PyData.keyHash P (Str.ofString "_rules_of"), (.str (Str.ofString "_rules_of") 1184), (.ref 688)⟩, ⟨PyData.keyHash P (Str.ofString "_twice"), (.str (Str.ofString "_twice") 1194), (.ref 695)⟩, ⟨PyData.keyHash P (Str.ofString "_missing"), (.str (Str.ofString "_missing") 1205), (.ref 702)⟩, ⟨PyData.keyHash P (Str.ofString "check_plan"), (.str (Str.ofString "check_plan") 1216), (.ref 709)⟩, ⟨PyData.keyHash P (Str.ofString "order_of"), (.str (Str.ofString "order_of") 1222), (.ref 714)⟩, ⟨PyData.keyHash P (Str.ofString "_check_name"), (.str (Str.ofString "_check_name") 1231), (.ref 721)⟩, ⟨PyData.keyHash P (Str.ofString "needs"), (.str (Str.ofString "needs") 1240), (.ref 728)⟩, ⟨PyData.keyHash P (Str.ofString "Build"), (.str (Str.ofString "Build") 1339), (.ref 788)⟩, ⟨PyData.keyHash P (Str.ofString "build_all"), (.str (Str.ofString "build_all") 1352), (.ref 799)⟩, ⟨PyData.keyHash P (Str.ofString "start"), (.str (Str.ofString "start") 1362), (.ref 806)⟩, ⟨PyData.keyHash P (Str.ofString "state_of"), (.str (Str.ofString "state_of") 1374), (.ref 813)⟩, ⟨PyData.keyHash P (Str.ofString "next_state"), (.str (Str.ofString "next_state") 1384), (.ref 820)⟩, ⟨PyData.keyHash P (Str.ofString "story"), (.str (Str.ofString "story") 1395), (.ref 827)⟩, ⟨PyData.keyHash P (Str.ofString "right_claim"), (.str (Str.ofString "right_claim") 1407), (.ref 834)⟩, ⟨PyData.keyHash P (Str.ofString "entry"), (.str (Str.ofString "entry") 1415), (.ref 841)⟩, ⟨PyData.keyHash P (Str.ofString "due_claims"), (.str (Str.ofString "due_claims") 1427), (.ref 848)⟩, ⟨PyData.keyHash P (Str.ofString "_agree"), (.str (Str.ofString "_agree") 1437), (.ref 855)⟩, ⟨PyData.keyHash P (Str.ofString "dispute"), (.str (Str.ofString "dispute") 1452), (.ref 862)⟩, ⟨PyData.keyHash P (Str.ofString "BASE"), (.str (Str.ofString "BASE") 1456), (.int (1000000) 1455)⟩, ⟨PyData.keyHash P (Str.ofString "MOST_LURE"), (.str (Str.ofString "MOST_LURE") 1458), (.int (12) 1457)⟩, ⟨PyData.keyHash P (Str.ofString "MOST_EXTRA"), (.str (Str.ofString "MOST_EXTRA") 1460), (.int (24) 1459)⟩, ⟨PyData.keyHash P (Str.ofString "FIXED"), (.str (Str.ofString "FIXED") 1462), (.int (14) 1461)⟩, ⟨PyData.keyHash P (Str.ofString "PUSH_traps"), (.str (Str.ofString "PUSH_traps") 1464), (.int (35) 1463)⟩, ⟨PyData.keyHash P (Str.ofString "CELL"), (.str (Str.ofString "CELL") 1466), (.int (38) 1465)⟩, ⟨PyData.keyHash P (Str.ofString "CALL"), (.str (Str.ofString "CALL") 1468), (.int (40) 1467)⟩, ⟨PyData.keyHash P (Str.ofString "RETURN_traps"), (.str (Str.ofString "RETURN_traps") 1470), (.int (41) 1469)⟩, ⟨PyData.keyHash P (Str.ofString "PLUS"), (.str (Str.ofString "PLUS") 1472), (.int (43) 1471)⟩, ⟨PyData.keyHash P (Str.ofString "TAKE"), (.str (Str.ofString "TAKE") 1474), (.int (44) 1473)⟩, ⟨PyData.keyHash P (Str.ofString "GIVE"), (.str (Str.ofString "GIVE") 1476), (.int (46) 1475)⟩, ⟨PyData.keyHash P (Str.ofString "DOUBLE"), (.str (Str.ofString "DOUBLE") 1478), (.int (34) 1477)⟩, ⟨PyData.keyHash P (Str.ofString "TEST_traps"), (.str (Str.ofString "TEST_traps") 1480), (.int (63) 1479)⟩, ⟨PyData.keyHash P (Str.ofString "REWIND"), (.str (Str.ofString "REWIND") 1482), (.int (94) 1481)⟩, ⟨PyData.keyHash P (Str.ofString "DROP"), (.str (Str.ofString "DROP") 1484), (.int (95) 1483)⟩, ⟨PyData.keyHash P (Str.ofString "SAME"), (.str (Str.ofString "SAME") 1486), (.int (126) 1485)⟩, ⟨PyData.keyHash P (Str.ofString "is_trap"), (.str (Str.ofString "is_trap") 1492), (.ref 867)⟩, ⟨PyData.keyHash P (Str.ofString "is_plantable"), (.str (Str.ofString "is_plantable") 1502), (.ref 874)⟩, ⟨PyData.keyHash P (Str.ofString "beginning"), (.str (Str.ofString "beginning") 1508), (.ref 881)⟩, ⟨PyData.keyHash P (Str.ofString "comparison"), (.str (Str.ofString "comparison") 1517), (.ref 888)⟩, ⟨PyData.keyHash P (Str.ofString "writing"), (.str (Str.ofString "writing") 1525), (.ref 895)⟩, ⟨PyData.keyHash P (Str.ofString "copying"), (.str (Str.ofString "copying") 1534), (.ref 902)⟩, ⟨PyData.keyHash P (Str.ofString "trap_nodes"), (.str (Str.ofString "trap_nodes") 1549), (.ref 909)⟩, ⟨PyData.keyHash P (Str.ofString "plant"), (.str (Str.ofString "plant") 1558), (.ref 916)⟩, ⟨PyData.keyHash P (Str.ofString "LONGEST_NAME"), (.str (Str.ofString "LONGEST_NAME") 1562), (.int (12) 1561)⟩, ⟨PyData.keyHash P (Str.ofString "Entry"), (.str (Str.ofString "Entry") 1595), (.ref 933)⟩, ⟨PyData.keyHash P (Str.ofString "check_new"), (.str (Str.ofString "check_new") 1605), (.ref 944)⟩, ⟨PyData.keyHash P (Str.ofString "Shelf"), (.str (Str.ofString "Shelf") 1744), (.ref 1039)⟩, ⟨PyData.keyHash P (Str.ofString "SIGNS"), (.str (Str.ofString "SIGNS") 1767), (.ref 1044)⟩, ⟨PyData.keyHash P (Str.ofString "PAIRS"), (.str (Str.ofString "PAIRS") 1773), (.ref 1045)⟩, ⟨PyData.keyHash P (Str.ofString "is_letter"), (.str (Str.ofString "is_letter") 1780), (.ref 1052)⟩, ⟨PyData.keyHash P (Str.ofString "is_nop"), (.str (Str.ofString "is_nop") 1787), (.ref 1059)⟩, ⟨PyData.keyHash P (Str.ofString "combined"), (.str (Str.ofString "combined") 1796), (.ref 1066)⟩, ⟨PyData.keyHash P (Str.ofString "written"), (.str (Str.ofString "written") 1808), (.ref 1073)⟩, ⟨PyData.keyHash P (Str.ofString "_ways"), (.str (Str.ofString "_ways") 1814), (.ref 1078)⟩, ⟨PyData.keyHash P (Str.ofString "reached"), (.str (Str.ofString "reached") 1825), (.ref 1085)⟩, ⟨PyData.keyHash P (Str.ofString "is_closed_table"), (.str (Str.ofString "is_closed_table") 1833), (.ref 1092)⟩, ⟨PyData.keyHash P (Str.ofString "has_nop"), (.str (Str.ofString "has_nop") 1841), (.ref 1099)⟩, ⟨PyData.keyHash P (Str.ofString "passed"), (.str (Str.ofString "passed") 1850), (.ref 1106)⟩, ⟨PyData.keyHash P (Str.ofString "target_in"), (.str (Str.ofString "target_in") 1856), (.ref 1111)⟩, ⟨PyData.keyHash P (Str.ofString "threaded"), (.str (Str.ofString "threaded") 1871), (.ref 1118)⟩, ⟨PyData.keyHash P (Str.ofString "_folded"), (.str (Str.ofString "_folded") 1886), (.ref 1125)⟩, ⟨PyData.keyHash P (Str.ofString "_folded_table"), (.str (Str.ofString "_folded_table") 1892), (.ref 1130)⟩, ⟨PyData.keyHash P (Str.ofString "_order"), (.str (Str.ofString "_order") 1898), (.ref 1135)⟩, ⟨PyData.keyHash P (Str.ofString "renumbered"), (.str (Str.ofString "renumbered") 1912), (.ref 1142)⟩, ⟨PyData.keyHash P (Str.ofString "thread"), (.str (Str.ofString "thread") 1920), (.ref 1149)⟩, ⟨PyData.keyHash P (Str.ofString "fold"), (.str (Str.ofString "fold") 1928), (.ref 1156)⟩, ⟨PyData.keyHash P (Str.ofString "renumber"), (.str (Str.ofString "renumber") 1936), (.ref 1163)⟩, ⟨PyData.keyHash P (Str.ofString "trim"), (.str (Str.ofString "trim") 1943), (.ref 1170)⟩, ⟨PyData.keyHash P (Str.ofString "LETTERS"), (.str (Str.ofString "LETTERS") 1947), (.str (Str.ofString "abcdefghijklmnopqrstuvwxyz") 1946)⟩, ⟨PyData.keyHash P (Str.ofString "_is_line"), (.str (Str.ofString "_is_line") 1954), (.ref 1177)⟩, ⟨PyData.keyHash P (Str.ofString "words_of"), (.str (Str.ofString "words_of") 1965), (.ref 1184)⟩, ⟨PyData.keyHash P (Str.ofString "is_name"), (.str (Str.ofString "is_name") 1971), (.ref 1189)⟩, ⟨PyData.keyHash P (Str.ofString "integer_of"), (.str (Str.ofString "integer_of") 1983), (.ref 1197)⟩, ⟨PyData.keyHash P (Str.ofString "MOST_FUEL"), (.str (Str.ofString "MOST_FUEL") 1987), (.int (100000) 1986)⟩, ⟨PyData.keyHash P (Str.ofString "FORMS"), (.str (Str.ofString "FORMS") 2057), (.ref 1198)⟩, ⟨PyData.keyHash P (Str.ofString "_marks"), (.str (Str.ofString "_marks") 2067), (.ref 1206)⟩, ⟨PyData.keyHash P (Str.ofString "_fits"), (.str (Str.ofString "_fits") 2075), (.ref 1213)⟩, ⟨PyData.keyHash P (Str.ofString "_defined"), (.str (Str.ofString "_defined") 2083), (.ref 1220)⟩, ⟨PyData.keyHash P (Str.ofString "Desk"), (.str (Str.ofString "Desk") 2221), (.ref 1313)⟩, ⟨PyData.keyHash P (Str.ofString "LINE"), (.str (Str.ofString "LINE") 2225), (.str (Str.ofString "> ") 2224)⟩, ⟨PyData.keyHash P (Str.ofString "ANSWER"), (.str (Str.ofString "ANSWER") 2227), (.str (Str.ofString "< ") 2226)⟩, ⟨PyData.keyHash P (Str.ofString "BAD"), (.str (Str.ofString "BAD") 2229), (.str (Str.ofString "bad") 2228)⟩, ⟨PyData.keyHash P (Str.ofString "is_line"), (.str (Str.ofString "is_line") 2236), (.ref 1324)⟩, ⟨PyData.keyHash P (Str.ofString "Pages"), (.str (Str.ofString "Pages") 2285), (.ref 1355)⟩, ⟨PyData.keyHash P (Str.ofString "repeated"), (.str (Str.ofString "repeated") 2294), (.ref 1366)⟩, ⟨PyData.keyHash P (Str.ofString "Journal"), (.str (Str.ofString "Journal") 2378), (.ref 1432)⟩, ⟨PyData.keyHash P (Str.ofString "rows_of"), (.str (Str.ofString "rows_of") 2386), (.ref 1443)⟩, ⟨PyData.keyHash P (Str.ofString "resume"), (.str (Str.ofString "resume") 2398), (.ref 1450)⟩, ⟨PyData.keyHash P (Str.ofString "_law_number"), (.str (Str.ofString "_law_number") 2407), (.ref 1457)⟩, ⟨PyData.keyHash P (Str.ofString "_law_draws"), (.str (Str.ofString "_law_draws") 2420), (.ref 1464)⟩, ⟨PyData.keyHash P (Str.ofString "_law_next"), (.str (Str.ofString "_law_next") 2427), (.ref 1471)⟩, ⟨PyData.keyHash P (Str.ofString "_law_char"), (.str (Str.ofString "_law_char") 2435), (.ref 1478)⟩, ⟨PyData.keyHash P (Str.ofString "_law_line"), (.str (Str.ofString "_law_line") 2441), (.ref 1483)⟩, ⟨PyData.keyHash P (Str.ofString "_law_digits"), (.str (Str.ofString "_law_digits") 2451), (.ref 1490)⟩, ⟨PyData.keyHash P (Str.ofString "_law_answer"), (.str (Str.ofString "_law_answer") 2457), (.ref 1495)⟩, ⟨PyData.keyHash P (Str.ofString "_law_recorded"), (.str (Str.ofString "_law_recorded") 2467), (.ref 1502)⟩, ⟨PyData.keyHash P (Str.ofString "_law_given"), (.str (Str.ofString "_law_given") 2478), (.ref 1509)⟩, ⟨PyData.keyHash P (Str.ofString "_law_items"), (.str (Str.ofString "_law_items") 2490), (.ref 1516)⟩, ⟨PyData.keyHash P (Str.ofString "law"), (.str (Str.ofString "law") 2510), (.ref 1523)⟩] 188), #[]⟩
def o201_12 (P : Params) : Obj := ⟨.none, .none, (.fields #[(.int (1) 0), (.int (0) 0), (.ref 20), (.int (5) 0), (.int (0) 0), (.ref 27), (.int (7) 0), (.int (0) 0), (.ref 40), (.int (9) 0), (.int (0) 0), (.ref 52), (.int (11) 0), (.int (0) 0), (.ref 64), (.int (13) 0), (.int (0) 0), (.ref 76), (.int (18) 0), (.int (0) 0), (.ref 95), (.int (20) 0), (.int (0) 0), (.ref 107), (.int (22) 0), (.int (0) 0), (.ref 119), (.int (24) 0), (.int (0) 0), (.ref 131), (.int (26) 0), (.int (0) 0), (.ref 143), (.int (28) 0), (.int (0) 0), (.ref 155), (.int (33) 0), (.int (0) 0), (.ref 174), (.int (35) 0), (.int (0) 0), (.ref 186), (.int (40) 0), (.int (0) 0), (.ref 205), (.int (47) 0), (.int (0) 0), (.ref 217), (.int (54) 0), (.int (0) 0), (.ref 224), (.int (62) 0), (.int (0) 0), (.ref 231), (.int (70) 0), (.int (0) 0), (.ref 238), (.int (77) 0), (.int (0) 0), (.ref 245), (.int (81) 0), (.int (0) 0), (.ref 252), (.int (94) 0), (.int (0) 0), (.ref 259), (.int (96) 0), (.int (0) 0), (.ref 266), (.int (111) 0), (.int (0) 0), (.ref 273), (.int (152) 0), (.int (0) 0), (.ref 322), (.int (165) 0), (.int (0) 0), (.ref 329), (.int (273) 0), (.int (0) 0), (.ref 422), (.int (284) 0), (.int (0) 0), (.ref 430), (.int (296) 0), (.int (0) 0), (.ref 437), (.int (303) 0), (.int (0) 0), (.ref 444), (.int (311) 0), (.int (0) 0), (.ref 449), (.int (313) 0), (.int (0) 0), (.ref 456), (.int (318) 0), (.int (0) 0), (.ref 463), (.int (329) 0), (.int (0) 0), (.ref 470), (.int (331) 0), (.int (0) 0), (.ref 477), (.int (334) 0), (.int (0) 0), (.ref 484), (.int (337) 0), (.int (0) 0), (.ref 491), (.int (340) 0), (.int (0) 0), (.ref 498), (.int (343) 0), (.int (0) 0), (.ref 505), (.int (346) 0), (.int (0) 0), (.ref 512), (.int (348) 0), (.int (0) 0), (.ref 519), (.int (351) 0), (.int (0) 0), (.ref 526), (.int (353) 0), (.int (0) 0), (.ref 533), (.int (359) 0), (.int (0) 0), (.ref 540), (.int (361) 0), (.int (0) 0), (.ref 547), (.int (363) 0), (.int (0) 0), (.ref 554), (.int (369) 0), (.int (0) 0), (.ref 561), (.int (371) 0), (.int (0) 0), (.ref 568), (.int (374) 0), (.int (0) 0), (.ref 575), (.int (378) 0), (.int (0) 0), (.ref 582), (.int (381) 0), (.int (0) 0), (.ref 589), (.int (385) 0), (.int (0) 0), (.ref 596), (.int (392) 0), (.int (0) 0), (.ref 603), (.int (396) 0), (.int (0) 0), (.ref 612), (.int (445) 0), (.int (0) 0), (.ref 666), (.int (450) 0), (.int (0) 0), (.ref 673), (.int (452) 0), (.int (0) 0), (.ref 680), (.int (464) 0), (.int (0) 0), (.ref 687), (.int (469) 0), (.int (0) 0), (.ref 694), (.int (476) 0), (.int (0) 0), (.ref 701), (.int (482) 0), (.int (0) 0), (.ref 708), (.int (493) 0), (.int (0) 0), (.ref 713), (.int (504) 0), (.int (0) 0), (.ref 720), (.int (508) 0), (.int (0) 0), (.ref 727), (.int (512) 0), (.int (0) 0), (.ref 734), (.int (580) 0), (.int (0) 0), (.ref 798), (.int (590) 0), (.int (0) 0), (.ref 805), (.int (592) 0), (.int (0) 0), (.ref 812), (.int (602) 0), (.int (0) 0), (.ref 819), (.int (607) 0), (.int (0) 0), (.ref 826), (.int (616) 0), (.int (0) 0), (.ref 833), (.int (621) 0), (.int (0) 0), (.ref 840), (.int (627) 0), (.int (0) 0), (.ref 847), (.int (638) 0), (.int (0) 0), (.ref 854), (.int (640) 0), (.int (0) 0), (.ref 861), (.int (676) 0), (.int (0) 0), (.ref 866), (.int (682) 0), (.int (0) 0), (.ref 873), (.int (689) 0), (.int (0) 0), (.ref 880), (.int (691) 0), (.int (0) 0), (.ref 887), (.int (693) 0), (.int (0) 0), (.ref 894), (.int (695) 0), (.int (0) 0), (.ref 901), (.int (698) 0), (.int (0) 0), (.ref 908), (.int (712) 0), (.int (0) 0), (.ref 915), (.int (720) 0), (.int (0) 0), (.ref 922), (.int (726) 0), (.int (0) 0), (.ref 943), (.int (735) 0), (.int (0) 0), (.ref 950), (.int (795) 0), (.int (0) 0), (.ref 1051), (.int (797) 0), (.int (0) 0), (.ref 1058), (.int (799) 0), (.int (0) 0), (.ref 1065), (.int (809) 0), (.int (0) 0), (.ref 1072), (.int (815) 0), (.int (0) 0), (.ref 1077), (.int (827) 0), (.int (0) 0), (.ref 1084), (.int (837) 0), (.int (0) 0), (.ref 1091), (.int (842) 0), (.int (0) 0), (.ref 1098), (.int (844) 0), (.int (0) 0), (.ref 1105), (.int (852) 0), (.int (0) 0), (.ref 1110), (.int (866) 0), (.int (0) 0), (.ref 1117), (.int (881) 0), (.int (0) 0), (.ref 1124), (.int (896) 0), (.int (0) 0), (.ref 1129), (.int (898) 0), (.int (0) 0), (.ref 1134), (.int (914) 0), (.int (0) 0), (.ref 1141), (.int (930) 0), (.int (0) 0), (.ref 1148), (.int (935) 0), (.int (0) 0), (.ref 1155), (.int (940) 0), (.int (0) 0), (.ref 1162), (.int (945) 0), (.int (0) 0), (.ref 1169), (.int (949) 0), (.int (0) 0), (.ref 1176), (.int (957) 0), (.int (0) 0), (.ref 1183), (.int (969) 0), (.int (0) 0), (.ref 1188), (.int (971) 0), (.int (0) 0), (.ref 1196), (.int (984) 0), (.int (0) 0), (.ref 1205), (.int (994) 0), (.int (0) 0), (.ref 1212), (.int (1000) 0), (.int (0) 0), (.ref 1219), (.int (1008) 0), (.int (0) 0), (.ref 1226), (.int (1166) 0), (.int (0) 0), (.ref 1323), (.int (1174) 0), (.int (0) 0), (.ref 1330), (.int (1194) 0), (.int (0) 0), (.ref 1365), (.int (1199) 0), (.int (0) 0), (.ref 1372), (.int (1234) 0), (.int (0) 0), (.ref 1442), (.int (1237) 0), (.int (0) 0), (.ref 1449), (.int (1251) 0), (.int (0) 0), (.ref 1456), (.int (1255) 0), (.int (0) 0), (.ref 1463), (.int (1270) 0), (.int (0) 0), (.ref 1470), (.int (1274) 0), (.int (0) 0), (.ref 1477), (.int (1278) 0), (.int (0) 0), (.ref 1482), (.int (1294) 0), (.int (0) 0), (.ref 1489), (.int (1308) 0), (.int (0) 0), (.ref 1494), (.int (1328) 0), (.int (0) 0), (.ref 1501), (.int (1334) 0), (.int (0) 0), (.ref 1508), (.int (1341) 0), (.int (0) 0), (.ref 1515), (.int (1353) 0), (.int (0) 0), (.ref 1522)]), #[]⟩
def o201_1200 (P : Params) : Obj := ⟨(.type "tuple"), .none, (.seq #[] 0), #[]⟩
def o201_1201 (P : Params) : Obj := ⟨.none, .none, (.fields #[]), #[]⟩
def o201_1202 (P : Params) : Obj := ⟨(.type "tuple"), .none, (.seq #[(.str (Str.ofString "command") 2061), (.str (Str.ofString "count") 2062), (.str (Str.ofString "form") 2063), (.str (Str.ofString "fixed") 2064)] 0), #[]⟩
def o201_1203 (P : Params) : Obj := ⟨(.type "tuple"), .none, (.seq #[] 0), #[]⟩
def o201_1204 (P : Params) : Obj := ⟨.none, .none, (.func ⟨(Str.ofString "_marks"), (Str.ofString "_marks"), defArgs (top 175), .stmts (defBody (top 175)), defScope (top 175), 0, [], .none, .none, .none, .none, .none, .none, .none, 0⟩), #[]⟩
def o201_1205 (P : Params) : Obj := ⟨(.type "code"), .none, (.fields #[(.str (Str.ofString "_marks") 2058), (.str (Str.ofString "_marks") 2059), (.str (Str.ofString "/claim/cut.py") 2060), (.int (984) 0), (.int (2) 0), (.int (0) 0), (.int (0) 0), (.int (3) 0), (.ref 1200), (.bool true), (.int (181) 0), (.ref 1201), .none, (.ref 1202), (.ref 1203), (.ref 1204), (.int (2065) 0), (.int (984) 0), (.str (Str.ofString "/claim/cut.py") 2066)]), #[]⟩
def o201_1206 (P : Params) : Obj := ⟨(.type "function"), .none, (.func ⟨(Str.ofString "_marks"), (Str.ofString "_marks"), defArgs (top 175), .stmts (defBody (top 175)), defScope (top 175), 3, [], .none, .none, .none, (.str (Str.ofString "plinth.desk") 1984), .none, (.ref 1205), .none, 0⟩), #[]⟩
def o201_1207 (P : Params) : Obj := ⟨(.type "tuple"), .none, (.seq #[] 0), #[]⟩
def o201_1208 (P : Params) : Obj := ⟨.none, .none, (.fields #[]), #[]⟩
def o201_1209 (P : Params) : Obj := ⟨(.type "tuple"), .none, (.seq #[(.str (Str.ofString "mark") 2071), (.str (Str.ofString "word") 2072)] 0), #[]⟩
def o201_1210 (P : Params) : Obj := ⟨(.type "tuple"), .none, (.seq #[] 0), #[]⟩
def o201_1211 (P : Params) : Obj := ⟨.none, .none, (.func ⟨(Str.ofString "_fits"), (Str.ofString "_fits"), defArgs (top 176), .stmts (defBody (top 176)), defScope (top 176), 0, [], .none, .none, .none, .none, .none, .none, .none, 0⟩), #[]⟩
def o201_1212 (P : Params) : Obj := ⟨(.type "code"), .none, (.fields #[(.str (Str.ofString "_fits") 2068), (.str (Str.ofString "_fits") 2069), (.str (Str.ofString "/claim/cut.py") 2070), (.int (994) 0), (.int (2) 0), (.int (0) 0), (.int (0) 0), (.int (3) 0), (.ref 1207), (.bool true), (.int (181) 0), (.ref 1208), .none, (.ref 1209), (.ref 1210), (.ref 1211), (.int (2073) 0), (.int (994) 0), (.str (Str.ofString "/claim/cut.py") 2074)]), #[]⟩
def o201_1213 (P : Params) : Obj := ⟨(.type "function"), .none, (.func ⟨(Str.ofString "_fits"), (Str.ofString "_fits"), defArgs (top 176), .stmts (defBody (top 176)), defScope (top 176), 3, [], .none, .none, .none, (.str (Str.ofString "plinth.desk") 1984), .none, (.ref 1212), .none, 0⟩), #[]⟩
def o201_1214 (P : Params) : Obj := ⟨(.type "tuple"), .none, (.seq #[] 0), #[]⟩
def o201_1215 (P : Params) : Obj := ⟨.none, .none, (.fields #[]), #[]⟩
def o201_1216 (P : Params) : Obj := ⟨(.type "tuple"), .none, (.seq #[(.str (Str.ofString "kind") 2079), (.str (Str.ofString "codes") 2080)] 0), #[]⟩
def o201_1217 (P : Params) : Obj := ⟨(.type "tuple"), .none, (.seq #[] 0), #[]⟩
def o201_1218 (P : Params) : Obj := ⟨.none, .none, (.func ⟨(Str.ofString "_defined"), (Str.ofString "_defined"), defArgs (top 177), .stmts (defBody (top 177)), defScope (top 177), 0, [], .none, .none, .none, .none, .none, .none, .none, 0⟩), #[]⟩
def o201_1219 (P : Params) : Obj := ⟨(.type "code"), .none, (.fields #[(.str (Str.ofString "_defined") 2076), (.str (Str.ofString "_defined") 2077), (.str (Str.ofString "/claim/cut.py") 2078), (.int (1000) 0), (.int (2) 0), (.int (0) 0), (.int (0) 0), (.int (3) 0), (.ref 1214), (.bool true), (.int (181) 0), (.ref 1215), .none, (.ref 1216), (.ref 1217), (.ref 1218), (.int (2081) 0), (.int (1000) 0), (.str (Str.ofString "/claim/cut.py") 2082)]), #[]⟩
def o201_1220 (P : Params) : Obj := ⟨(.type "function"), .none, (.func ⟨(Str.ofString "_defined"), (Str.ofString "_defined"), defArgs (top 177), .stmts (defBody (top 177)), defScope (top 177), 3, [], .none, .none, .none, (.str (Str.ofString "plinth.desk") 1984), .none, (.ref 1219), .none, 0⟩), #[]⟩
def o201_1221 (P : Params) : Obj := ⟨(.type "tuple"), .none, (.seq #[] 0), #[]⟩
def o201_1222 (P : Params) : Obj := ⟨(.type "builtin_function_or_method"), .none, (.fields #[(.builtin "type.__prepare__"), (.type "type")]), #[]⟩
def o201_1223 (P : Params) : Obj := ⟨(.type "dict"), .none, (.dict #[⟨PyData.keyHash P (Str.ofString "__module__"), (.str (Str.ofString "__module__") 2091), (.str (Str.ofString "plinth.desk") 1984)⟩, ⟨PyData.keyHash P (Str.ofString "__qualname__"), (.str (Str.ofString "__qualname__") 2093), (.str (Str.ofString "Desk") 2092)⟩, ⟨PyData.keyHash P (Str.ofString "__firstlineno__"), (.str (Str.ofString "__firstlineno__") 2095), (.int (1008) 2094)⟩, ⟨PyData.keyHash P (Str.ofString "__init__"), (.str (Str.ofString "__init__") 2102), (.ref 1234)⟩, ⟨PyData.keyHash P (Str.ofString "names"), (.str (Str.ofString "names") 2109), (.ref 1241)⟩, ⟨PyData.keyHash P (Str.ofString "content"), (.str (Str.ofString "content") 2117), (.ref 1248)⟩, ⟨PyData.keyHash P (Str.ofString "answers"), (.str (Str.ofString "answers") 2123), (.ref 1253)⟩, ⟨PyData.keyHash P (Str.ofString "answer"), (.str (Str.ofString "answer") 2135), (.ref 1260)⟩, ⟨PyData.keyHash P (Str.ofString "_knows"), (.str (Str.ofString "_knows") 2144), (.ref 1267)⟩, ⟨PyData.keyHash P (Str.ofString "_done"), (.str (Str.ofString "_done") 2153), (.ref 1274)⟩, ⟨PyData.keyHash P (Str.ofString "_kept"), (.str (Str.ofString "_kept") 2162), (.ref 1281)⟩, ⟨PyData.keyHash P (Str.ofString "_of_items"), (.str (Str.ofString "_of_items") 2168), (.ref 1286)⟩, ⟨PyData.keyHash P (Str.ofString "_shown"), (.str (Str.ofString "_shown") 2174), (.ref 1291)⟩, ⟨PyData.keyHash P (Str.ofString "_of_rules"), (.str (Str.ofString "_of_rules") 2187), (.ref 1298)⟩, ⟨PyData.keyHash P (Str.ofString "_of_shelf"), (.str (Str.ofString "_of_shelf") 2193), (.ref 1303)⟩, ⟨PyData.keyHash P (Str.ofString "_of_claims"), (.str (Str.ofString "_of_claims") 2209), (.ref 1310)⟩, ⟨PyData.keyHash P (Str.ofString "__static_attributes__"), (.str (Str.ofString "__static_attributes__") 2214), (.ref 1311)⟩] 17), #[]⟩
def o201_1224 (P : Params) : Obj := ⟨(.type "tuple"), .none, (.seq #[] 0), #[]⟩
def o201_1225 (P : Params) : Obj := ⟨.none, .none, (.fields #[(.int (1010) 0), (.int (4) 0), (.ref 1233), (.int (1016) 0), (.int (4) 0), (.ref 1240), (.int (1019) 0), (.int (4) 0), (.ref 1247), (.int (1024) 0), (.int (4) 0), (.ref 1252), (.int (1027) 0), (.int (4) 0), (.ref 1259), (.int (1045) 0), (.int (4) 0), (.ref 1266), (.int (1054) 0), (.int (4) 0), (.ref 1273), (.int (1063) 0), (.int (4) 0), (.ref 1280), (.int (1067) 0), (.int (4) 0), (.ref 1285), (.int (1087) 0), (.int (4) 0), (.ref 1290), (.int (1095) 0), (.int (4) 0), (.ref 1297), (.int (1110) 0), (.int (4) 0), (.ref 1302), (.int (1135) 0), (.int (4) 0), (.ref 1309)]), #[]⟩
def o201_1226 (P : Params) : Obj := ⟨(.type "code"), .none, (.fields #[(.str (Str.ofString "Desk") 2086), (.str (Str.ofString "Desk") 2087), (.str (Str.ofString "/claim/cut.py") 2088), (.int (1008) 0), (.int (0) 0), (.int (0) 0), (.int (0) 0), (.int (0) 0), (.ref 1224), (.bool false), (.int (181) 0), (.ref 1225), .none, .none, .none, .none, (.int (2089) 0), (.int (1008) 0), (.str (Str.ofString "/claim/cut.py") 2090)]), #[]⟩
def o201_1227 (P : Params) : Obj := ⟨(.type "frame"), .none, .plain, #[(.some (.ref 1226)), (.some (.ref 3)), (.some (.ref 1223)), .none, (.some (.str (Str.ofString "plinth.desk") 1984)), .none, (.some (.ref 0))]⟩
def o201_1228 (P : Params) : Obj := ⟨(.type "tuple"), .none, (.seq #[] 0), #[]⟩
def o201_1229 (P : Params) : Obj := ⟨.none, .none, (.fields #[]), #[]⟩
def o201_1230 (P : Params) : Obj := ⟨(.type "tuple"), .none, (.seq #[(.str (Str.ofString "self") 2099)] 0), #[]⟩
def o201_1231 (P : Params) : Obj := ⟨(.type "tuple"), .none, (.seq #[] 0), #[]⟩
def o201_1232 (P : Params) : Obj := ⟨.none, .none, (.func ⟨(Str.ofString "__init__"), (Str.ofString "Desk.__init__"), defArgs (inClass (top 178) 0), .stmts (defBody (inClass (top 178) 0)), defScope (inClass (top 178) 0), 0, [], .none, .none, .none, .none, .none, .none, .none, 0⟩), #[]⟩
def o201_1233 (P : Params) : Obj := ⟨(.type "code"), .none, (.fields #[(.str (Str.ofString "__init__") 2096), (.str (Str.ofString "Desk.__init__") 2097), (.str (Str.ofString "/claim/cut.py") 2098), (.int (1010) 0), (.int (1) 0), (.int (0) 0), (.int (0) 0), (.int (3) 0), (.ref 1228), (.bool true), (.int (181) 0), (.ref 1229), .none, (.ref 1230), (.ref 1231), (.ref 1232), (.int (2100) 0), (.int (1010) 0), (.str (Str.ofString "/claim/cut.py") 2101)]), #[]⟩
def o201_1234 (P : Params) : Obj := ⟨(.type "function"), .none, (.func ⟨(Str.ofString "__init__"), (Str.ofString "Desk.__init__"), defArgs (inClass (top 178) 0), .stmts (defBody (inClass (top 178) 0)), defScope (inClass (top 178) 0), 3, [], .none, .none, .none, (.str (Str.ofString "plinth.desk") 1984), .none, (.ref 1233), .none, 0⟩), #[]⟩
def o201_1235 (P : Params) : Obj := ⟨(.type "tuple"), .none, (.seq #[] 0), #[]⟩
def o201_1236 (P : Params) : Obj := ⟨.none, .none, (.fields #[]), #[]⟩
def o201_1237 (P : Params) : Obj := ⟨(.type "tuple"), .none, (.seq #[(.str (Str.ofString "self") 2106)] 0), #[]⟩
def o201_1238 (P : Params) : Obj := ⟨(.type "tuple"), .none, (.seq #[] 0), #[]⟩
def o201_1239 (P : Params) : Obj := ⟨.none, .none, (.func ⟨(Str.ofString "names"), (Str.ofString "Desk.names"), defArgs (inClass (top 178) 1), .stmts (defBody (inClass (top 178) 1)), defScope (inClass (top 178) 1), 0, [], .none, .none, .none, .none, .none, .none, .none, 0⟩), #[]⟩
def o201_1240 (P : Params) : Obj := ⟨(.type "code"), .none, (.fields #[(.str (Str.ofString "names") 2103), (.str (Str.ofString "Desk.names") 2104), (.str (Str.ofString "/claim/cut.py") 2105), (.int (1016) 0), (.int (1) 0), (.int (0) 0), (.int (0) 0), (.int (3) 0), (.ref 1235), (.bool true), (.int (181) 0), (.ref 1236), .none, (.ref 1237), (.ref 1238), (.ref 1239), (.int (2107) 0), (.int (1016) 0), (.str (Str.ofString "/claim/cut.py") 2108)]), #[]⟩
def o201_1241 (P : Params) : Obj := ⟨(.type "function"), .none, (.func ⟨(Str.ofString "names"), (Str.ofString "Desk.names"), defArgs (inClass (top 178) 1), .stmts (defBody (inClass (top 178) 1)), defScope (inClass (top 178) 1), 3, [], .none, .none, .none, (.str (Str.ofString "plinth.desk") 1984), .none, (.ref 1240), .none, 0⟩), #[]⟩
def o201_1242 (P : Params) : Obj := ⟨(.type "tuple"), .none, (.seq #[] 0), #[]⟩
def o201_1243 (P : Params) : Obj := ⟨.none, .none, (.fields #[]), #[]⟩
def o201_1244 (P : Params) : Obj := ⟨(.type "tuple"), .none, (.seq #[(.str (Str.ofString "self") 2113), (.str (Str.ofString "name") 2114)] 0), #[]⟩
def o201_1245 (P : Params) : Obj := ⟨(.type "tuple"), .none, (.seq #[] 0), #[]⟩
def o201_1246 (P : Params) : Obj := ⟨.none, .none, (.func ⟨(Str.ofString "content"), (Str.ofString "Desk.content"), defArgs (inClass (top 178) 2), .stmts (defBody (inClass (top 178) 2)), defScope (inClass (top 178) 2), 0, [], .none, .none, .none, .none, .none, .none, .none, 0⟩), #[]⟩
def o201_1247 (P : Params) : Obj := ⟨(.type "code"), .none, (.fields #[(.str (Str.ofString "content") 2110), (.str (Str.ofString "Desk.content") 2111), (.str (Str.ofString "/claim/cut.py") 2112), (.int (1019) 0), (.int (2) 0), (.int (0) 0), (.int (0) 0), (.int (3) 0), (.ref 1242), (.bool true), (.int (181) 0), (.ref 1243), .none, (.ref 1244), (.ref 1245), (.ref 1246), (.int (2115) 0), (.int (1019) 0), (.str (Str.ofString "/claim/cut.py") 2116)]), #[]⟩
def o201_1248 (P : Params) : Obj := ⟨(.type "function"), .none, (.func ⟨(Str.ofString "content"), (Str.ofString "Desk.content"), defArgs (inClass (top 178) 2), .stmts (defBody (inClass (top 178) 2)), defScope (inClass (top 178) 2), 3, [], .none, .none, .none, (.str (Str.ofString "plinth.desk") 1984), .none, (.ref 1247), .none, 0⟩), #[]⟩
def o201_1249 (P : Params) : Obj := ⟨(.type "tuple"), .none, (.seq #[] 0), #[]⟩
def o201_1250 (P : Params) : Obj := ⟨.none, .none, (.fields #[]), #[]⟩
def o201_1251 (P : Params) : Obj := ⟨.none, .none, (.func ⟨(Str.ofString "answers"), (Str.ofString "Desk.answers"), defArgs (inClass (top 178) 3), .stmts (defBody (inClass (top 178) 3)), defScope (inClass (top 178) 3), 0, [], .none, .none, .none, .none, .none, .none, .none, 0⟩), #[]⟩
def o201_1252 (P : Params) : Obj := ⟨(.type "code"), .none, (.fields #[(.str (Str.ofString "answers") 2118), (.str (Str.ofString "Desk.answers") 2119), (.str (Str.ofString "/claim/cut.py") 2120), (.int (1024) 0), (.int (2) 0), (.int (0) 0), (.int (0) 0), (.int (3) 0), (.ref 1249), (.bool true), (.int (181) 0), (.ref 1250), .none, .none, .none, (.ref 1251), (.int (2121) 0), (.int (1024) 0), (.str (Str.ofString "/claim/cut.py") 2122)]), #[]⟩
def o201_1253 (P : Params) : Obj := ⟨(.type "function"), .none, (.func ⟨(Str.ofString "answers"), (Str.ofString "Desk.answers"), defArgs (inClass (top 178) 3), .stmts (defBody (inClass (top 178) 3)), defScope (inClass (top 178) 3), 3, [], .none, .none, .none, (.str (Str.ofString "plinth.desk") 1984), .none, (.ref 1252), .none, 0⟩), #[]⟩
def o201_1254 (P : Params) : Obj := ⟨(.type "tuple"), .none, (.seq #[] 0), #[]⟩
def o201_1255 (P : Params) : Obj := ⟨.none, .none, (.fields #[]), #[]⟩
def o201_1256 (P : Params) : Obj := ⟨(.type "tuple"), .none, (.seq #[(.str (Str.ofString "self") 2127), (.str (Str.ofString "line") 2128), (.str (Str.ofString "words") 2129), (.str (Str.ofString "marks") 2130), (.str (Str.ofString "mark") 2131), (.str (Str.ofString "word") 2132)] 0), #[]⟩
def o201_1257 (P : Params) : Obj := ⟨(.type "tuple"), .none, (.seq #[] 0), #[]⟩
def o201_1258 (P : Params) : Obj := ⟨.none, .none, (.func ⟨(Str.ofString "answer"), (Str.ofString "Desk.answer"), defArgs (inClass (top 178) 4), .stmts (defBody (inClass (top 178) 4)), defScope (inClass (top 178) 4), 0, [], .none, .none, .none, .none, .none, .none, .none, 0⟩), #[]⟩
def o201_1259 (P : Params) : Obj := ⟨(.type "code"), .none, (.fields #[(.str (Str.ofString "answer") 2124), (.str (Str.ofString "Desk.answer") 2125), (.str (Str.ofString "/claim/cut.py") 2126), (.int (1027) 0), (.int (2) 0), (.int (0) 0), (.int (0) 0), (.int (3) 0), (.ref 1254), (.bool true), (.int (181) 0), (.ref 1255), .none, (.ref 1256), (.ref 1257), (.ref 1258), (.int (2133) 0), (.int (1027) 0), (.str (Str.ofString "/claim/cut.py") 2134)]), #[]⟩
def o201_1260 (P : Params) : Obj := ⟨(.type "function"), .none, (.func ⟨(Str.ofString "answer"), (Str.ofString "Desk.answer"), defArgs (inClass (top 178) 4), .stmts (defBody (inClass (top 178) 4)), defScope (inClass (top 178) 4), 3, [], .none, .none, .none, (.str (Str.ofString "plinth.desk") 1984), .none, (.ref 1259), .none, 0⟩), #[]⟩
def o201_1261 (P : Params) : Obj := ⟨(.type "tuple"), .none, (.seq #[] 0), #[]⟩
def o201_1262 (P : Params) : Obj := ⟨.none, .none, (.fields #[]), #[]⟩
def o201_1263 (P : Params) : Obj := ⟨(.type "tuple"), .none, (.seq #[(.str (Str.ofString "self") 2139), (.str (Str.ofString "mark") 2140), (.str (Str.ofString "word") 2141)] 0), #[]⟩
def o201_1264 (P : Params) : Obj := ⟨(.type "tuple"), .none, (.seq #[] 0), #[]⟩
def o201_1265 (P : Params) : Obj := ⟨.none, .none, (.func ⟨(Str.ofString "_knows"), (Str.ofString "Desk._knows"), defArgs (inClass (top 178) 5), .stmts (defBody (inClass (top 178) 5)), defScope (inClass (top 178) 5), 0, [], .none, .none, .none, .none, .none, .none, .none, 0⟩), #[]⟩
def o201_1266 (P : Params) : Obj := ⟨(.type "code"), .none, (.fields #[(.str (Str.ofString "_knows") 2136), (.str (Str.ofString "Desk._knows") 2137), (.str (Str.ofString "/claim/cut.py") 2138), (.int (1045) 0), (.int (3) 0), (.int (0) 0), (.int (0) 0), (.int (3) 0), (.ref 1261), (.bool true), (.int (181) 0), (.ref 1262), .none, (.ref 1263), (.ref 1264), (.ref 1265), (.int (2142) 0), (.int (1045) 0), (.str (Str.ofString "/claim/cut.py") 2143)]), #[]⟩
def o201_1267 (P : Params) : Obj := ⟨(.type "function"), .none, (.func ⟨(Str.ofString "_knows"), (Str.ofString "Desk._knows"), defArgs (inClass (top 178) 5), .stmts (defBody (inClass (top 178) 5)), defScope (inClass (top 178) 5), 3, [], .none, .none, .none, (.str (Str.ofString "plinth.desk") 1984), .none, (.ref 1266), .none, 0⟩), #[]⟩
def o201_1268 (P : Params) : Obj := ⟨(.type "tuple"), .none, (.seq #[] 0), #[]⟩
def o201_1269 (P : Params) : Obj := ⟨.none, .none, (.fields #[]), #[]⟩
def o201_1270 (P : Params) : Obj := ⟨(.type "tuple"), .none, (.seq #[(.str (Str.ofString "self") 2148), (.str (Str.ofString "command") 2149), (.str (Str.ofString "words") 2150)] 0), #[]⟩
def o201_1271 (P : Params) : Obj := ⟨(.type "tuple"), .none, (.seq #[] 0), #[]⟩
def o201_1272 (P : Params) : Obj := ⟨.none, .none, (.func ⟨(Str.ofString "_done"), (Str.ofString "Desk._done"), defArgs (inClass (top 178) 6), .stmts (defBody (inClass (top 178) 6)), defScope (inClass (top 178) 6), 0, [], .none, .none, .none, .none, .none, .none, .none, 0⟩), #[]⟩
def o201_1273 (P : Params) : Obj := ⟨(.type "code"), .none, (.fields #[(.str (Str.ofString "_done") 2145), (.str (Str.ofString "Desk._done") 2146), (.str (Str.ofString "/claim/cut.py") 2147), (.int (1054) 0), (.int (3) 0), (.int (0) 0), (.int (0) 0), (.int (3) 0), (.ref 1268), (.bool true), (.int (181) 0), (.ref 1269), .none, (.ref 1270), (.ref 1271), (.ref 1272), (.int (2151) 0), (.int (1054) 0), (.str (Str.ofString "/claim/cut.py") 2152)]), #[]⟩
def o201_1274 (P : Params) : Obj := ⟨(.type "function"), .none, (.func ⟨(Str.ofString "_done"), (Str.ofString "Desk._done"), defArgs (inClass (top 178) 6), .stmts (defBody (inClass (top 178) 6)), defScope (inClass (top 178) 6), 3, [], .none, .none, .none, (.str (Str.ofString "plinth.desk") 1984), .none, (.ref 1273), .none, 0⟩), #[]⟩
def o201_1275 (P : Params) : Obj := ⟨(.type "tuple"), .none, (.seq #[] 0), #[]⟩
def o201_1276 (P : Params) : Obj := ⟨.none, .none, (.fields #[]), #[]⟩
def o201_1277 (P : Params) : Obj := ⟨(.type "tuple"), .none, (.seq #[(.str (Str.ofString "self") 2157), (.str (Str.ofString "name") 2158), (.str (Str.ofString "content") 2159)] 0), #[]⟩
def o201_1278 (P : Params) : Obj := ⟨(.type "tuple"), .none, (.seq #[] 0), #[]⟩
def o201_1279 (P : Params) : Obj := ⟨.none, .none, (.func ⟨(Str.ofString "_kept"), (Str.ofString "Desk._kept"), defArgs (inClass (top 178) 7), .stmts (defBody (inClass (top 178) 7)), defScope (inClass (top 178) 7), 0, [], .none, .none, .none, .none, .none, .none, .none, 0⟩), #[]⟩
def o201_1280 (P : Params) : Obj := ⟨(.type "code"), .none, (.fields #[(.str (Str.ofString "_kept") 2154), (.str (Str.ofString "Desk._kept") 2155), (.str (Str.ofString "/claim/cut.py") 2156), (.int (1063) 0), (.int (3) 0), (.int (0) 0), (.int (0) 0), (.int (3) 0), (.ref 1275), (.bool true), (.int (181) 0), (.ref 1276), .none, (.ref 1277), (.ref 1278), (.ref 1279), (.int (2160) 0), (.int (1063) 0), (.str (Str.ofString "/claim/cut.py") 2161)]), #[]⟩
def o201_1281 (P : Params) : Obj := ⟨(.type "function"), .none, (.func ⟨(Str.ofString "_kept"), (Str.ofString "Desk._kept"), defArgs (inClass (top 178) 7), .stmts (defBody (inClass (top 178) 7)), defScope (inClass (top 178) 7), 3, [], .none, .none, .none, (.str (Str.ofString "plinth.desk") 1984), .none, (.ref 1280), .none, 0⟩), #[]⟩
def o201_1282 (P : Params) : Obj := ⟨(.type "tuple"), .none, (.seq #[] 0), #[]⟩
def o201_1283 (P : Params) : Obj := ⟨.none, .none, (.fields #[]), #[]⟩
def o201_1284 (P : Params) : Obj := ⟨.none, .none, (.func ⟨(Str.ofString "_of_items"), (Str.ofString "Desk._of_items"), defArgs (inClass (top 178) 8), .stmts (defBody (inClass (top 178) 8)), defScope (inClass (top 178) 8), 0, [], .none, .none, .none, .none, .none, .none, .none, 0⟩), #[]⟩
def o201_1285 (P : Params) : Obj := ⟨(.type "code"), .none, (.fields #[(.str (Str.ofString "_of_items") 2163), (.str (Str.ofString "Desk._of_items") 2164), (.str (Str.ofString "/claim/cut.py") 2165), (.int (1067) 0), (.int (3) 0), (.int (0) 0), (.int (0) 0), (.int (3) 0), (.ref 1282), (.bool true), (.int (181) 0), (.ref 1283), .none, .none, .none, (.ref 1284), (.int (2166) 0), (.int (1067) 0), (.str (Str.ofString "/claim/cut.py") 2167)]), #[]⟩
def o201_1286 (P : Params) : Obj := ⟨(.type "function"), .none, (.func ⟨(Str.ofString "_of_items"), (Str.ofString "Desk._of_items"), defArgs (inClass (top 178) 8), .stmts (defBody (inClass (top 178) 8)), defScope (inClass (top 178) 8), 3, [], .none, .none, .none, (.str (Str.ofString "plinth.desk") 1984), .none, (.ref 1285), .none, 0⟩), #[]⟩
def o201_1287 (P : Params) : Obj := ⟨(.type "tuple"), .none, (.seq #[] 0), #[]⟩
def o201_1288 (P : Params) : Obj := ⟨.none, .none, (.fields #[]), #[]⟩
def o201_1289 (P : Params) : Obj := ⟨.none, .none, (.func ⟨(Str.ofString "_shown"), (Str.ofString "Desk._shown"), defArgs (inClass (top 178) 9), .stmts (defBody (inClass (top 178) 9)), defScope (inClass (top 178) 9), 0, [], .none, .none, .none, .none, .none, .none, .none, 0⟩), #[]⟩
def o201_1290 (P : Params) : Obj := ⟨(.type "code"), .none, (.fields #[(.str (Str.ofString "_shown") 2169), (.str (Str.ofString "Desk._shown") 2170), (.str (Str.ofString "/claim/cut.py") 2171), (.int (1087) 0), (.int (2) 0), (.int (0) 0), (.int (0) 0), (.int (3) 0), (.ref 1287), (.bool true), (.int (181) 0), (.ref 1288), .none, .none, .none, (.ref 1289), (.int (2172) 0), (.int (1087) 0), (.str (Str.ofString "/claim/cut.py") 2173)]), #[]⟩
def o201_1291 (P : Params) : Obj := ⟨(.type "function"), .none, (.func ⟨(Str.ofString "_shown"), (Str.ofString "Desk._shown"), defArgs (inClass (top 178) 9), .stmts (defBody (inClass (top 178) 9)), defScope (inClass (top 178) 9), 3, [], .none, .none, .none, (.str (Str.ofString "plinth.desk") 1984), .none, (.ref 1290), .none, 0⟩), #[]⟩
def o201_1292 (P : Params) : Obj := ⟨(.type "tuple"), .none, (.seq #[] 0), #[]⟩
def o201_1293 (P : Params) : Obj := ⟨.none, .none, (.fields #[]), #[]⟩
def o201_1294 (P : Params) : Obj := ⟨(.type "tuple"), .none, (.seq #[(.str (Str.ofString "self") 2178), (.str (Str.ofString "command") 2179), (.str (Str.ofString "words") 2180), (.str (Str.ofString "names") 2181), (.str (Str.ofString "contents") 2182), (.str (Str.ofString "failed") 2183), (.str (Str.ofString "name") 2184)] 0), #[]⟩
def o201_1295 (P : Params) : Obj := ⟨(.type "tuple"), .none, (.seq #[] 0), #[]⟩
def o201_1296 (P : Params) : Obj := ⟨.none, .none, (.func ⟨(Str.ofString "_of_rules"), (Str.ofString "Desk._of_rules"), defArgs (inClass (top 178) 10), .stmts (defBody (inClass (top 178) 10)), defScope (inClass (top 178) 10), 0, [], .none, .none, .none, .none, .none, .none, .none, 0⟩), #[]⟩
def o201_1297 (P : Params) : Obj := ⟨(.type "code"), .none, (.fields #[(.str (Str.ofString "_of_rules") 2175), (.str (Str.ofString "Desk._of_rules") 2176), (.str (Str.ofString "/claim/cut.py") 2177), (.int (1095) 0), (.int (3) 0), (.int (0) 0), (.int (0) 0), (.int (3) 0), (.ref 1292), (.bool true), (.int (181) 0), (.ref 1293), .none, (.ref 1294), (.ref 1295), (.ref 1296), (.int (2185) 0), (.int (1095) 0), (.str (Str.ofString "/claim/cut.py") 2186)]), #[]⟩
def o201_1298 (P : Params) : Obj := ⟨(.type "function"), .none, (.func ⟨(Str.ofString "_of_rules"), (Str.ofString "Desk._of_rules"), defArgs (inClass (top 178) 10), .stmts (defBody (inClass (top 178) 10)), defScope (inClass (top 178) 10), 3, [], .none, .none, .none, (.str (Str.ofString "plinth.desk") 1984), .none, (.ref 1297), .none, 0⟩), #[]⟩
def o201_1299 (P : Params) : Obj := ⟨(.type "tuple"), .none, (.seq #[] 0), #[]⟩
def o201_1300 (P : Params) : Obj := ⟨.none, .none, (.fields #[]), #[]⟩
def o201_1301 (P : Params) : Obj := ⟨.none, .none, (.func ⟨(Str.ofString "_of_shelf"), (Str.ofString "Desk._of_shelf"), defArgs (inClass (top 178) 11), .stmts (defBody (inClass (top 178) 11)), defScope (inClass (top 178) 11), 0, [], .none, .none, .none, .none, .none, .none, .none, 0⟩), #[]⟩
def o201_1302 (P : Params) : Obj := ⟨(.type "code"), .none, (.fields #[(.str (Str.ofString "_of_shelf") 2188), (.str (Str.ofString "Desk._of_shelf") 2189), (.str (Str.ofString "/claim/cut.py") 2190), (.int (1110) 0), (.int (3) 0), (.int (0) 0), (.int (0) 0), (.int (3) 0), (.ref 1299), (.bool true), (.int (181) 0), (.ref 1300), .none, .none, .none, (.ref 1301), (.int (2191) 0), (.int (1110) 0), (.str (Str.ofString "/claim/cut.py") 2192)]), #[]⟩
def o201_1303 (P : Params) : Obj := ⟨(.type "function"), .none, (.func ⟨(Str.ofString "_of_shelf"), (Str.ofString "Desk._of_shelf"), defArgs (inClass (top 178) 11), .stmts (defBody (inClass (top 178) 11)), defScope (inClass (top 178) 11), 3, [], .none, .none, .none, (.str (Str.ofString "plinth.desk") 1984), .none, (.ref 1302), .none, 0⟩), #[]⟩
def o201_1304 (P : Params) : Obj := ⟨(.type "tuple"), .none, (.seq #[] 0), #[]⟩
def o201_1305 (P : Params) : Obj := ⟨.none, .none, (.fields #[]), #[]⟩
def o201_1306 (P : Params) : Obj := ⟨(.type "tuple"), .none, (.seq #[(.str (Str.ofString "self") 2197), (.str (Str.ofString "command") 2198), (.str (Str.ofString "words") 2199), (.str (Str.ofString "image") 2200), (.str (Str.ofString "numbers") 2201), (.str (Str.ofString "claim") 2202), (.str (Str.ofString "index") 2203), (.str (Str.ofString "changed") 2204), (.str (Str.ofString "verdict") 2205), (.str (Str.ofString "blamed") 2206)] 0), #[]⟩
def o201_1307 (P : Params) : Obj := ⟨(.type "tuple"), .none, (.seq #[] 0), #[]⟩
def o201_1308 (P : Params) : Obj := ⟨.none, .none, (.func ⟨(Str.ofString "_of_claims"), (Str.ofString "Desk._of_claims"), defArgs (inClass (top 178) 12), .stmts (defBody (inClass (top 178) 12)), defScope (inClass (top 178) 12), 0, [], .none, .none, .none, .none, .none, .none, .none, 0⟩), #[]⟩
def o201_1309 (P : Params) : Obj := ⟨(.type "code"), .none, (.fields #[(.str (Str.ofString "_of_claims") 2194), (.str (Str.ofString "Desk._of_claims") 2195), (.str (Str.ofString "/claim/cut.py") 2196), (.int (1135) 0), (.int (3) 0), (.int (0) 0), (.int (0) 0), (.int (3) 0), (.ref 1304), (.bool true), (.int (181) 0), (.ref 1305), .none, (.ref 1306), (.ref 1307), (.ref 1308), (.int (2207) 0), (.int (1135) 0), (.str (Str.ofString "/claim/cut.py") 2208)]), #[]⟩
def o201_1310 (P : Params) : Obj := ⟨(.type "function"), .none, (.func ⟨(Str.ofString "_of_claims"), (Str.ofString "Desk._of_claims"), defArgs (inClass (top 178) 12), .stmts (defBody (inClass (top 178) 12)), defScope (inClass (top 178) 12), 3, [], .none, .none, .none, (.str (Str.ofString "plinth.desk") 1984), .none, (.ref 1309), .none, 0⟩), #[]⟩
def o201_1311 (P : Params) : Obj := ⟨(.type "tuple"), .none, (.seq #[(.str (Str.ofString "_claims") 2210), (.str (Str.ofString "_items") 2211), (.str (Str.ofString "_rules") 2212), (.str (Str.ofString "_shelf") 2213)] 0), #[]⟩
def o201_1312 (P : Params) : Obj := ⟨(.type "dict"), .none, (.dict #[⟨PyData.keyHash P (Str.ofString "__module__"), (.str (Str.ofString "__module__") 2091), (.str (Str.ofString "plinth.desk") 1984)⟩, ⟨PyData.keyHash P (Str.ofString "__firstlineno__"), (.str (Str.ofString "__firstlineno__") 2095), (.int (1008) 2094)⟩, ⟨PyData.keyHash P (Str.ofString "__init__"), (.str (Str.ofString "__init__") 2102), (.ref 1234)⟩, ⟨PyData.keyHash P (Str.ofString "names"), (.str (Str.ofString "names") 2109), (.ref 1241)⟩, ⟨PyData.keyHash P (Str.ofString "content"), (.str (Str.ofString "content") 2117), (.ref 1248)⟩, ⟨PyData.keyHash P (Str.ofString "answers"), (.str (Str.ofString "answers") 2123), (.ref 1253)⟩, ⟨PyData.keyHash P (Str.ofString "answer"), (.str (Str.ofString "answer") 2135), (.ref 1260)⟩, ⟨PyData.keyHash P (Str.ofString "_knows"), (.str (Str.ofString "_knows") 2144), (.ref 1267)⟩, ⟨PyData.keyHash P (Str.ofString "_done"), (.str (Str.ofString "_done") 2153), (.ref 1274)⟩, ⟨PyData.keyHash P (Str.ofString "_kept"), (.str (Str.ofString "_kept") 2162), (.ref 1281)⟩, ⟨PyData.keyHash P (Str.ofString "_of_items"), (.str (Str.ofString "_of_items") 2168), (.ref 1286)⟩, ⟨PyData.keyHash P (Str.ofString "_shown"), (.str (Str.ofString "_shown") 2174), (.ref 1291)⟩, ⟨PyData.keyHash P (Str.ofString "_of_rules"), (.str (Str.ofString "_of_rules") 2187), (.ref 1298)⟩, ⟨PyData.keyHash P (Str.ofString "_of_shelf"), (.str (Str.ofString "_of_shelf") 2193), (.ref 1303)⟩, ⟨PyData.keyHash P (Str.ofString "_of_claims"), (.str (Str.ofString "_of_claims") 2209), (.ref 1310)⟩, ⟨PyData.keyHash P (Str.ofString "__static_attributes__"), (.str (Str.ofString "__static_attributes__") 2214), (.ref 1311)⟩, ⟨PyData.keyHash P (Str.ofString "__dict__"), (.str (Str.ofString "__dict__") 2216), (.ref 1314)⟩, ⟨PyData.keyHash P (Str.ofString "__weakref__"), (.str (Str.ofString "__weakref__") 2218), (.ref 1315)⟩, ⟨PyData.keyHash P (Str.ofString "__doc__"), (.str (Str.ofString "__doc__") 2219), .none⟩] 4), #[]⟩
def o201_1313 (P : Params) : Obj := ⟨(.type "type"), .none, (.cls ⟨(Str.ofString "Desk"), [(.type "object")], [(.ref 1313), (.type "object")], 1312, (Str.ofString "Desk"), true, [], [], false, .none, false⟩), #[.none, .none, (.some (.str (Str.ofString "Desk") 2084)), (.some (.str (Str.ofString "Desk") 2092)), (.some (.builtin "object.__new__")), (.some (.bool true))]⟩
def o201_1314 (P : Params) : Obj := ⟨(.type "getset_descriptor"), .none, (.fields #[(.str (Str.ofString "__dict__") 2215), (.ref 1313), (.builtin "function.__dict__"), (.builtin "function.__dict__#set")]), #[]⟩
def o201_1315 (P : Params) : Obj := ⟨(.type "getset_descriptor"), .none, (.fields #[(.str (Str.ofString "__weakref__") 2217), (.ref 1313), (.builtin "ExceptionGroup.__weakref__"), .none]), #[]⟩
def o201_1316 (P : Params) : Obj := ⟨(.type "super"), .none, (.fields #[(.ref 1313), (.ref 1313), (.ref 1313)]), #[]⟩
def o201_1317 (P : Params) : Obj := ⟨(.type "builtin_function_or_method"), .none, (.fields #[(.builtin "object.__init_subclass__"), (.ref 1313)]), #[]⟩
def o201_1318 (P : Params) : Obj := ⟨(.type "tuple"), .none, (.seq #[] 0), #[]⟩
def o201_1319 (P : Params) : Obj := ⟨.none, .none, (.fields #[]), #[]⟩
def o201_1320 (P : Params) : Obj := ⟨(.type "tuple"), .none, (.seq #[(.str (Str.ofString "line") 2233)] 0), #[]⟩
def o201_1321 (P : Params) : Obj := ⟨(.type "tuple"), .none, (.seq #[] 0), #[]⟩
def o201_1322 (P : Params) : Obj := ⟨.none, .none, (.func ⟨(Str.ofString "is_line"), (Str.ofString "is_line"), defArgs (top 183), .stmts (defBody (top 183)), defScope (top 183), 0, [], .none, .none, .none, .none, .none, .none, .none, 0⟩), #[]⟩
def o201_1323 (P : Params) : Obj := ⟨(.type "code"), .none, (.fields #[(.str (Str.ofString "is_line") 2230), (.str (Str.ofString "is_line") 2231), (.str (Str.ofString "/claim/cut.py") 2232), (.int (1166) 0), (.int (1) 0), (.int (0) 0), (.int (0) 0), (.int (3) 0), (.ref 1318), (.bool true), (.int (181) 0), (.ref 1319), .none, (.ref 1320), (.ref 1321), (.ref 1322), (.int (2234) 0), (.int (1166) 0), (.str (Str.ofString "/claim/cut.py") 2235)]), #[]⟩
def o201_1324 (P : Params) : Obj := ⟨(.type "function"), .none, (.func ⟨(Str.ofString "is_line"), (Str.ofString "is_line"), defArgs (top 183), .stmts (defBody (top 183)), defScope (top 183), 3, [], .none, .none, .none, (.str (Str.ofString "plinth.journal") 2222), .none, (.ref 1323), .none, 0⟩), #[]⟩
def o201_1325 (P : Params) : Obj := ⟨(.type "tuple"), .none, (.seq #[] 0), #[]⟩
def o201_1326 (P : Params) : Obj := ⟨(.type "builtin_function_or_method"), .none, (.fields #[(.builtin "type.__prepare__"), (.type "type")]), #[]⟩
def o201_1327 (P : Params) : Obj := ⟨(.type "dict"), .none, (.dict #[⟨PyData.keyHash P (Str.ofString "__module__"), (.str (Str.ofString "__module__") 2244), (.str (Str.ofString "plinth.journal") 2222)⟩, ⟨PyData.keyHash P (Str.ofString "__qualname__"), (.str (Str.ofString "__qualname__") 2246), (.str (Str.ofString "Pages") 2245)⟩, ⟨PyData.keyHash P (Str.ofString "__firstlineno__"), (.str (Str.ofString "__firstlineno__") 2248), (.int (1174) 2247)⟩, ⟨PyData.keyHash P (Str.ofString "__init__"), (.str (Str.ofString "__init__") 2255), (.ref 1338)⟩, ⟨PyData.keyHash P (Str.ofString "answer"), (.str (Str.ofString "answer") 2264), (.ref 1345)⟩, ⟨PyData.keyHash P (Str.ofString "record"), (.str (Str.ofString "record") 2274), (.ref 1352)⟩, ⟨PyData.keyHash P (Str.ofString "__static_attributes__"), (.str (Str.ofString "__static_attributes__") 2278), (.ref 1353)⟩] 7), #[]⟩
def o201_1328 (P : Params) : Obj := ⟨(.type "tuple"), .none, (.seq #[] 0), #[]⟩
def o201_1329 (P : Params) : Obj := ⟨.none, .none, (.fields #[(.int (1176) 0), (.int (4) 0), (.ref 1337), (.int (1181) 0), (.int (4) 0), (.ref 1344), (.int (1189) 0), (.int (4) 0), (.ref 1351)]), #[]⟩
def o201_1330 (P : Params) : Obj := ⟨(.type "code"), .none, (.fields #[(.str (Str.ofString "Pages") 2239), (.str (Str.ofString "Pages") 2240), (.str (Str.ofString "/claim/cut.py") 2241), (.int (1174) 0), (.int (0) 0), (.int (0) 0), (.int (0) 0), (.int (0) 0), (.ref 1328), (.bool false), (.int (181) 0), (.ref 1329), .none, .none, .none, .none, (.int (2242) 0), (.int (1174) 0), (.str (Str.ofString "/claim/cut.py") 2243)]), #[]⟩
def o201_1331 (P : Params) : Obj := ⟨(.type "frame"), .none, .plain, #[(.some (.ref 1330)), (.some (.ref 3)), (.some (.ref 1327)), .none, (.some (.str (Str.ofString "plinth.journal") 2222)), .none, (.some (.ref 0))]⟩
def o201_1332 (P : Params) : Obj := ⟨(.type "tuple"), .none, (.seq #[] 0), #[]⟩
def o201_1333 (P : Params) : Obj := ⟨.none, .none, (.fields #[]), #[]⟩
def o201_1334 (P : Params) : Obj := ⟨(.type "tuple"), .none, (.seq #[(.str (Str.ofString "self") 2252)] 0), #[]⟩
def o201_1335 (P : Params) : Obj := ⟨(.type "tuple"), .none, (.seq #[] 0), #[]⟩
def o201_1336 (P : Params) : Obj := ⟨.none, .none, (.func ⟨(Str.ofString "__init__"), (Str.ofString "Pages.__init__"), defArgs (inClass (top 184) 0), .stmts (defBody (inClass (top 184) 0)), defScope (inClass (top 184) 0), 0, [], .none, .none, .none, .none, .none, .none, .none, 0⟩), #[]⟩
def o201_1337 (P : Params) : Obj := ⟨(.type "code"), .none, (.fields #[(.str (Str.ofString "__init__") 2249), (.str (Str.ofString "Pages.__init__") 2250), (.str (Str.ofString "/claim/cut.py") 2251), (.int (1176) 0), (.int (1) 0), (.int (0) 0), (.int (0) 0), (.int (3) 0), (.ref 1332), (.bool true), (.int (181) 0), (.ref 1333), .none, (.ref 1334), (.ref 1335), (.ref 1336), (.int (2253) 0), (.int (1176) 0), (.str (Str.ofString "/claim/cut.py") 2254)]), #[]⟩
def o201_1338 (P : Params) : Obj := ⟨(.type "function"), .none, (.func ⟨(Str.ofString "__init__"), (Str.ofString "Pages.__init__"), defArgs (inClass (top 184) 0), .stmts (defBody (inClass (top 184) 0)), defScope (inClass (top 184) 0), 3, [], .none, .none, .none, (.str (Str.ofString "plinth.journal") 2222), .none, (.ref 1337), .none, 0⟩), #[]⟩
def o201_1339 (P : Params) : Obj := ⟨(.type "tuple"), .none, (.seq #[] 0), #[]⟩
def o201_1340 (P : Params) : Obj := ⟨.none, .none, (.fields #[]), #[]⟩
def o201_1341 (P : Params) : Obj := ⟨(.type "tuple"), .none, (.seq #[(.str (Str.ofString "self") 2259), (.str (Str.ofString "line") 2260), (.str (Str.ofString "told") 2261)] 0), #[]⟩
def o201_1342 (P : Params) : Obj := ⟨(.type "tuple"), .none, (.seq #[] 0), #[]⟩
def o201_1343 (P : Params) : Obj := ⟨.none, .none, (.func ⟨(Str.ofString "answer"), (Str.ofString "Pages.answer"), defArgs (inClass (top 184) 1), .stmts (defBody (inClass (top 184) 1)), defScope (inClass (top 184) 1), 0, [], .none, .none, .none, .none, .none, .none, .none, 0⟩), #[]⟩
def o201_1344 (P : Params) : Obj := ⟨(.type "code"), .none, (.fields #[(.str (Str.ofString "answer") 2256), (.str (Str.ofString "Pages.answer") 2257), (.str (Str.ofString "/claim/cut.py") 2258), (.int (1181) 0), (.int (2) 0), (.int (0) 0), (.int (0) 0), (.int (3) 0), (.ref 1339), (.bool true), (.int (181) 0), (.ref 1340), .none, (.ref 1341), (.ref 1342), (.ref 1343), (.int (2262) 0), (.int (1181) 0), (.str (Str.ofString "/claim/cut.py") 2263)]), #[]⟩
def o201_1345 (P : Params) : Obj := ⟨(.type "function"), .none, (.func ⟨(Str.ofString "answer"), (Str.ofString "Pages.answer"), defArgs (inClass (top 184) 1), .stmts (defBody (inClass (top 184) 1)), defScope (inClass (top 184) 1), 3, [], .none, .none, .none, (.str (Str.ofString "plinth.journal") 2222), .none, (.ref 1344), .none, 0⟩), #[]⟩
def o201_1346 (P : Params) : Obj := ⟨(.type "tuple"), .none, (.seq #[] 0), #[]⟩
def o201_1347 (P : Params) : Obj := ⟨.none, .none, (.fields #[]), #[]⟩
def o201_1348 (P : Params) : Obj := ⟨(.type "tuple"), .none, (.seq #[(.str (Str.ofString "self") 2268), (.str (Str.ofString "rows") 2269), (.str (Str.ofString "line") 2270), (.str (Str.ofString "told") 2271)] 0), #[]⟩
def o201_1349 (P : Params) : Obj := ⟨(.type "tuple"), .none, (.seq #[] 0), #[]⟩
def o201_1350 (P : Params) : Obj := ⟨.none, .none, (.func ⟨(Str.ofString "record"), (Str.ofString "Pages.record"), defArgs (inClass (top 184) 2), .stmts (defBody (inClass (top 184) 2)), defScope (inClass (top 184) 2), 0, [], .none, .none, .none, .none, .none, .none, .none, 0⟩), #[]⟩
def o201_1351 (P : Params) : Obj := ⟨(.type "code"), .none, (.fields #[(.str (Str.ofString "record") 2265), (.str (Str.ofString "Pages.record") 2266), (.str (Str.ofString "/claim/cut.py") 2267), (.int (1189) 0), (.int (1) 0), (.int (0) 0), (.int (0) 0), (.int (3) 0), (.ref 1346), (.bool true), (.int (181) 0), (.ref 1347), .none, (.ref 1348), (.ref 1349), (.ref 1350), (.int (2272) 0), (.int (1189) 0), (.str (Str.ofString "/claim/cut.py") 2273)]), #[]⟩
def o201_1352 (P : Params) : Obj := ⟨(.type "function"), .none, (.func ⟨(Str.ofString "record"), (Str.ofString "Pages.record"), defArgs (inClass (top 184) 2), .stmts (defBody (inClass (top 184) 2)), defScope (inClass (top 184) 2), 3, [], .none, .none, .none, (.str (Str.ofString "plinth.journal") 2222), .none, (.ref 1351), .none, 0⟩), #[]⟩
def o201_1353 (P : Params) : Obj := ⟨(.type "tuple"), .none, (.seq #[(.str (Str.ofString "desk") 2275), (.str (Str.ofString "given") 2276), (.str (Str.ofString "told") 2277)] 0), #[]⟩
def o201_1354 (P : Params) : Obj := ⟨(.type "dict"), .none, (.dict #[⟨PyData.keyHash P (Str.ofString "__module__"), (.str (Str.ofString "__module__") 2244), (.str (Str.ofString "plinth.journal") 2222)⟩, ⟨PyData.keyHash P (Str.ofString "__firstlineno__"), (.str (Str.ofString "__firstlineno__") 2248), (.int (1174) 2247)⟩, ⟨PyData.keyHash P (Str.ofString "__init__"), (.str (Str.ofString "__init__") 2255), (.ref 1338)⟩, ⟨PyData.keyHash P (Str.ofString "answer"), (.str (Str.ofString "answer") 2264), (.ref 1345)⟩, ⟨PyData.keyHash P (Str.ofString "record"), (.str (Str.ofString "record") 2274), (.ref 1352)⟩, ⟨PyData.keyHash P (Str.ofString "__static_attributes__"), (.str (Str.ofString "__static_attributes__") 2278), (.ref 1353)⟩, ⟨PyData.keyHash P (Str.ofString "__dict__"), (.str (Str.ofString "__dict__") 2280), (.ref 1356)⟩, ⟨PyData.keyHash P (Str.ofString "__weakref__"), (.str (Str.ofString "__weakref__") 2282), (.ref 1357)⟩, ⟨PyData.keyHash P (Str.ofString "__doc__"), (.str (Str.ofString "__doc__") 2283), .none⟩] 4), #[]⟩
def o201_1355 (P : Params) : Obj := ⟨(.type "type"), .none, (.cls ⟨(Str.ofString "Pages"), [(.type "object")], [(.ref 1355), (.type "object")], 1354, (Str.ofString "Pages"), true, [], [], false, .none, false⟩), #[.none, .none, (.some (.str (Str.ofString "Pages") 2237)), (.some (.str (Str.ofString "Pages") 2245)), (.some (.builtin "object.__new__")), (.some (.bool true))]⟩
def o201_1356 (P : Params) : Obj := ⟨(.type "getset_descriptor"), .none, (.fields #[(.str (Str.ofString "__dict__") 2279), (.ref 1355), (.builtin "function.__dict__"), (.builtin "function.__dict__#set")]), #[]⟩
def o201_1357 (P : Params) : Obj := ⟨(.type "getset_descriptor"), .none, (.fields #[(.str (Str.ofString "__weakref__") 2281), (.ref 1355), (.builtin "ExceptionGroup.__weakref__"), .none]), #[]⟩
def o201_1358 (P : Params) : Obj := ⟨(.type "super"), .none, (.fields #[(.ref 1355), (.ref 1355), (.ref 1355)]), #[]⟩
def o201_1359 (P : Params) : Obj := ⟨(.type "builtin_function_or_method"), .none, (.fields #[(.builtin "object.__init_subclass__"), (.ref 1355)]), #[]⟩
def o201_1360 (P : Params) : Obj := ⟨(.type "tuple"), .none, (.seq #[] 0), #[]⟩
def o201_1361 (P : Params) : Obj := ⟨.none, .none, (.fields #[]), #[]⟩
def o201_1362 (P : Params) : Obj := ⟨(.type "tuple"), .none, (.seq #[(.str (Str.ofString "lines") 2289), (.str (Str.ofString "pages") 2290), (.str (Str.ofString "line") 2291)] 0), #[]⟩
def o201_1363 (P : Params) : Obj := ⟨(.type "tuple"), .none, (.seq #[] 0), #[]⟩
def o201_1364 (P : Params) : Obj := ⟨.none, .none, (.func ⟨(Str.ofString "repeated"), (Str.ofString "repeated"), defArgs (top 185), .stmts (defBody (top 185)), defScope (top 185), 0, [], .none, .none, .none, .none, .none, .none, .none, 0⟩), #[]⟩
def o201_1365 (P : Params) : Obj := ⟨(.type "code"), .none, (.fields #[(.str (Str.ofString "repeated") 2286), (.str (Str.ofString "repeated") 2287), (.str (Str.ofString "/claim/cut.py") 2288), (.int (1194) 0), (.int (1) 0), (.int (0) 0), (.int (0) 0), (.int (3) 0), (.ref 1360), (.bool true), (.int (181) 0), (.ref 1361), .none, (.ref 1362), (.ref 1363), (.ref 1364), (.int (2292) 0), (.int (1194) 0), (.str (Str.ofString "/claim/cut.py") 2293)]), #[]⟩
def o201_1366 (P : Params) : Obj := ⟨(.type "function"), .none, (.func ⟨(Str.ofString "repeated"), (Str.ofString "repeated"), defArgs (top 185), .stmts (defBody (top 185)), defScope (top 185), 3, [], .none, .none, .none, (.str (Str.ofString "plinth.journal") 2222), .none, (.ref 1365), .none, 0⟩), #[]⟩
def o201_1367 (P : Params) : Obj := ⟨(.type "tuple"), .none, (.seq #[] 0), #[]⟩
def o201_1368 (P : Params) : Obj := ⟨(.type "builtin_function_or_method"), .none, (.fields #[(.builtin "type.__prepare__"), (.type "type")]), #[]⟩
def o201_1369 (P : Params) : Obj := ⟨(.type "dict"), .none, (.dict #[⟨PyData.keyHash P (Str.ofString "__module__"), (.str (Str.ofString "__module__") 2302), (.str (Str.ofString "plinth.journal") 2222)⟩, ⟨PyData.keyHash P (Str.ofString "__qualname__"), (.str (Str.ofString "__qualname__") 2304), (.str (Str.ofString "Journal") 2303)⟩, ⟨PyData.keyHash P (Str.ofString "__firstlineno__"), (.str (Str.ofString "__firstlineno__") 2306), (.int (1199) 2305)⟩, ⟨PyData.keyHash P (Str.ofString "__init__"), (.str (Str.ofString "__init__") 2313), (.ref 1380)⟩, ⟨PyData.keyHash P (Str.ofString "__enter__"), (.str (Str.ofString "__enter__") 2320), (.ref 1387)⟩, ⟨PyData.keyHash P (Str.ofString "__exit__"), (.str (Str.ofString "__exit__") 2330), (.ref 1394)⟩, ⟨PyData.keyHash P (Str.ofString "keep"), (.str (Str.ofString "keep") 2337), (.ref 1401)⟩, ⟨PyData.keyHash P (Str.ofString "answer"), (.str (Str.ofString "answer") 2345), (.ref 1408)⟩, ⟨PyData.keyHash P (Str.ofString "record"), (.str (Str.ofString "record") 2352), (.ref 1415)⟩, ⟨PyData.keyHash P (Str.ofString "lines"), (.str (Str.ofString "lines") 2359), (.ref 1422)⟩, ⟨PyData.keyHash P (Str.ofString "content"), (.str (Str.ofString "content") 2367), (.ref 1429)⟩, ⟨PyData.keyHash P (Str.ofString "__static_attributes__"), (.str (Str.ofString "__static_attributes__") 2371), (.ref 1430)⟩] 12), #[]⟩
def o201_1370 (P : Params) : Obj := ⟨(.type "tuple"), .none, (.seq #[] 0), #[]⟩
def o201_1371 (P : Params) : Obj := ⟨.none, .none, (.fields #[(.int (1201) 0), (.int (4) 0), (.ref 1379), (.int (1206) 0), (.int (4) 0), (.ref 1386), (.int (1214) 0), (.int (4) 0), (.ref 1393), (.int (1220) 0), (.int (4) 0), (.ref 1400), (.int (1223) 0), (.int (4) 0), (.ref 1407), (.int (1226) 0), (.int (4) 0), (.ref 1414), (.int (1229) 0), (.int (4) 0), (.ref 1421), (.int (1232) 0), (.int (4) 0), (.ref 1428)]), #[]⟩
def o201_1372 (P : Params) : Obj := ⟨(.type "code"), .none, (.fields #[(.str (Str.ofString "Journal") 2297), (.str (Str.ofString "Journal") 2298), (.str (Str.ofString "/claim/cut.py") 2299), (.int (1199) 0), (.int (0) 0), (.int (0) 0), (.int (0) 0), (.int (0) 0), (.ref 1370), (.bool false), (.int (181) 0), (.ref 1371), .none, .none, .none, .none, (.int (2300) 0), (.int (1199) 0), (.str (Str.ofString "/claim/cut.py") 2301)]), #[]⟩
def o201_1373 (P : Params) : Obj := ⟨(.type "frame"), .none, .plain, #[(.some (.ref 1372)), (.some (.ref 3)), (.some (.ref 1369)), .none, (.some (.str (Str.ofString "plinth.journal") 2222)), .none, (.some (.ref 0))]⟩
def o201_1374 (P : Params) : Obj := ⟨(.type "tuple"), .none, (.seq #[] 0), #[]⟩
def o201_1375 (P : Params) : Obj := ⟨.none, .none, (.fields #[]), #[]⟩
def o201_1376 (P : Params) : Obj := ⟨(.type "tuple"), .none, (.seq #[(.str (Str.ofString "self") 2310)] 0), #[]⟩
def o201_1377 (P : Params) : Obj := ⟨(.type "tuple"), .none, (.seq #[] 0), #[]⟩
def o201_1378 (P : Params) : Obj := ⟨.none, .none, (.func ⟨(Str.ofString "__init__"), (Str.ofString "Journal.__init__"), defArgs (inClass (top 186) 0), .stmts (defBody (inClass (top 186) 0)), defScope (inClass (top 186) 0), 0, [], .none, .none, .none, .none, .none, .none, .none, 0⟩), #[]⟩
def o201_1379 (P : Params) : Obj := ⟨(.type "code"), .none, (.fields #[(.str (Str.ofString "__init__") 2307), (.str (Str.ofString "Journal.__init__") 2308), (.str (Str.ofString "/claim/cut.py") 2309), (.int (1201) 0), (.int (1) 0), (.int (0) 0), (.int (0) 0), (.int (3) 0), (.ref 1374), (.bool true), (.int (181) 0), (.ref 1375), .none, (.ref 1376), (.ref 1377), (.ref 1378), (.int (2311) 0), (.int (1201) 0), (.str (Str.ofString "/claim/cut.py") 2312)]), #[]⟩
def o201_1380 (P : Params) : Obj := ⟨(.type "function"), .none, (.func ⟨(Str.ofString "__init__"), (Str.ofString "Journal.__init__"), defArgs (inClass (top 186) 0), .stmts (defBody (inClass (top 186) 0)), defScope (inClass (top 186) 0), 3, [], .none, .none, .none, (.str (Str.ofString "plinth.journal") 2222), .none, (.ref 1379), .none, 0⟩), #[]⟩
def o201_1381 (P : Params) : Obj := ⟨(.type "tuple"), .none, (.seq #[] 0), #[]⟩
def o201_1382 (P : Params) : Obj := ⟨.none, .none, (.fields #[]), #[]⟩
def o201_1383 (P : Params) : Obj := ⟨(.type "tuple"), .none, (.seq #[(.str (Str.ofString "self") 2317)] 0), #[]⟩
def o201_1384 (P : Params) : Obj := ⟨(.type "tuple"), .none, (.seq #[] 0), #[]⟩
def o201_1385 (P : Params) : Obj := ⟨.none, .none, (.func ⟨(Str.ofString "__enter__"), (Str.ofString "Journal.__enter__"), defArgs (inClass (top 186) 1), .stmts (defBody (inClass (top 186) 1)), defScope (inClass (top 186) 1), 0, [], .none, .none, .none, .none, .none, .none, .none, 0⟩), #[]⟩
def o201_1386 (P : Params) : Obj := ⟨(.type "code"), .none, (.fields #[(.str (Str.ofString "__enter__") 2314), (.str (Str.ofString "Journal.__enter__") 2315), (.str (Str.ofString "/claim/cut.py") 2316), (.int (1206) 0), (.int (1) 0), (.int (0) 0), (.int (0) 0), (.int (3) 0), (.ref 1381), (.bool true), (.int (181) 0), (.ref 1382), .none, (.ref 1383), (.ref 1384), (.ref 1385), (.int (2318) 0), (.int (1206) 0), (.str (Str.ofString "/claim/cut.py") 2319)]), #[]⟩
def o201_1387 (P : Params) : Obj := ⟨(.type "function"), .none, (.func ⟨(Str.ofString "__enter__"), (Str.ofString "Journal.__enter__"), defArgs (inClass (top 186) 1), .stmts (defBody (inClass (top 186) 1)), defScope (inClass (top 186) 1), 3, [], .none, .none, .none, (.str (Str.ofString "plinth.journal") 2222), .none, (.ref 1386), .none, 0⟩), #[]⟩
def o201_1388 (P : Params) : Obj := ⟨(.type "tuple"), .none, (.seq #[] 0), #[]⟩
def o201_1389 (P : Params) : Obj := ⟨.none, .none, (.fields #[]), #[]⟩
def o201_1390 (P : Params) : Obj := ⟨(.type "tuple"), .none, (.seq #[(.str (Str.ofString "self") 2324), (.str (Str.ofString "kind") 2325), (.str (Str.ofString "value") 2326), (.str (Str.ofString "trace") 2327)] 0), #[]⟩
def o201_1391 (P : Params) : Obj := ⟨(.type "tuple"), .none, (.seq #[] 0), #[]⟩
def o201_1392 (P : Params) : Obj := ⟨.none, .none, (.func ⟨(Str.ofString "__exit__"), (Str.ofString "Journal.__exit__"), defArgs (inClass (top 186) 2), .stmts (defBody (inClass (top 186) 2)), defScope (inClass (top 186) 2), 0, [], .none, .none, .none, .none, .none, .none, .none, 0⟩), #[]⟩
def o201_1393 (P : Params) : Obj := ⟨(.type "code"), .none, (.fields #[(.str (Str.ofString "__exit__") 2321), (.str (Str.ofString "Journal.__exit__") 2322), (.str (Str.ofString "/claim/cut.py") 2323), (.int (1214) 0), (.int (4) 0), (.int (0) 0), (.int (0) 0), (.int (3) 0), (.ref 1388), (.bool true), (.int (181) 0), (.ref 1389), .none, (.ref 1390), (.ref 1391), (.ref 1392), (.int (2328) 0), (.int (1214) 0), (.str (Str.ofString "/claim/cut.py") 2329)]), #[]⟩
def o201_1394 (P : Params) : Obj := ⟨(.type "function"), .none, (.func ⟨(Str.ofString "__exit__"), (Str.ofString "Journal.__exit__"), defArgs (inClass (top 186) 2), .stmts (defBody (inClass (top 186) 2)), defScope (inClass (top 186) 2), 3, [], .none, .none, .none, (.str (Str.ofString "plinth.journal") 2222), .none, (.ref 1393), .none, 0⟩), #[]⟩
def o201_1395 (P : Params) : Obj := ⟨(.type "tuple"), .none, (.seq #[] 0), #[]⟩
def o201_1396 (P : Params) : Obj := ⟨.none, .none, (.fields #[]), #[]⟩
def o201_1397 (P : Params) : Obj := ⟨(.type "tuple"), .none, (.seq #[(.str (Str.ofString "self") 2334)] 0), #[]⟩
def o201_1398 (P : Params) : Obj := ⟨(.type "tuple"), .none, (.seq #[] 0), #[]⟩
def o201_1399 (P : Params) : Obj := ⟨.none, .none, (.func ⟨(Str.ofString "keep"), (Str.ofString "Journal.keep"), defArgs (inClass (top 186) 3), .stmts (defBody (inClass (top 186) 3)), defScope (inClass (top 186) 3), 0, [], .none, .none, .none, .none, .none, .none, .none, 0⟩), #[]⟩
def o201_1400 (P : Params) : Obj := ⟨(.type "code"), .none, (.fields #[(.str (Str.ofString "keep") 2331), (.str (Str.ofString "Journal.keep") 2332), (.str (Str.ofString "/claim/cut.py") 2333), (.int (1220) 0), (.int (1) 0), (.int (0) 0), (.int (0) 0), (.int (3) 0), (.ref 1395), (.bool true), (.int (181) 0), (.ref 1396), .none, (.ref 1397), (.ref 1398), (.ref 1399), (.int (2335) 0), (.int (1220) 0), (.str (Str.ofString "/claim/cut.py") 2336)]), #[]⟩
def o201_1401 (P : Params) : Obj := ⟨(.type "function"), .none, (.func ⟨(Str.ofString "keep"), (Str.ofString "Journal.keep"), defArgs (inClass (top 186) 3), .stmts (defBody (inClass (top 186) 3)), defScope (inClass (top 186) 3), 3, [], .none, .none, .none, (.str (Str.ofString "plinth.journal") 2222), .none, (.ref 1400), .none, 0⟩), #[]⟩
def o201_1402 (P : Params) : Obj := ⟨(.type "tuple"), .none, (.seq #[] 0), #[]⟩
def o201_1403 (P : Params) : Obj := ⟨.none, .none, (.fields #[]), #[]⟩
def o201_1404 (P : Params) : Obj := ⟨(.type "tuple"), .none, (.seq #[(.str (Str.ofString "self") 2341), (.str (Str.ofString "line") 2342)] 0), #[]⟩
def o201_1405 (P : Params) : Obj := ⟨(.type "tuple"), .none, (.seq #[] 0), #[]⟩
def o201_1406 (P : Params) : Obj := ⟨.none, .none, (.func ⟨(Str.ofString "answer"), (Str.ofString "Journal.answer"), defArgs (inClass (top 186) 4), .stmts (defBody (inClass (top 186) 4)), defScope (inClass (top 186) 4), 0, [], .none, .none, .none, .none, .none, .none, .none, 0⟩), #[]⟩
def o201_1407 (P : Params) : Obj := ⟨(.type "code"), .none, (.fields #[(.str (Str.ofString "answer") 2338), (.str (Str.ofString "Journal.answer") 2339), (.str (Str.ofString "/claim/cut.py") 2340), (.int (1223) 0), (.int (2) 0), (.int (0) 0), (.int (0) 0), (.int (3) 0), (.ref 1402), (.bool true), (.int (181) 0), (.ref 1403), .none, (.ref 1404), (.ref 1405), (.ref 1406), (.int (2343) 0), (.int (1223) 0), (.str (Str.ofString "/claim/cut.py") 2344)]), #[]⟩
def o201_1408 (P : Params) : Obj := ⟨(.type "function"), .none, (.func ⟨(Str.ofString "answer"), (Str.ofString "Journal.answer"), defArgs (inClass (top 186) 4), .stmts (defBody (inClass (top 186) 4)), defScope (inClass (top 186) 4), 3, [], .none, .none, .none, (.str (Str.ofString "plinth.journal") 2222), .none, (.ref 1407), .none, 0⟩), #[]⟩
def o201_1409 (P : Params) : Obj := ⟨(.type "tuple"), .none, (.seq #[] 0), #[]⟩
def o201_1410 (P : Params) : Obj := ⟨.none, .none, (.fields #[]), #[]⟩
def o201_1411 (P : Params) : Obj := ⟨(.type "tuple"), .none, (.seq #[(.str (Str.ofString "self") 2349)] 0), #[]⟩
def o201_1412 (P : Params) : Obj := ⟨(.type "tuple"), .none, (.seq #[] 0), #[]⟩
def o201_1413 (P : Params) : Obj := ⟨.none, .none, (.func ⟨(Str.ofString "record"), (Str.ofString "Journal.record"), defArgs (inClass (top 186) 5), .stmts (defBody (inClass (top 186) 5)), defScope (inClass (top 186) 5), 0, [], .none, .none, .none, .none, .none, .none, .none, 0⟩), #[]⟩
def o201_1414 (P : Params) : Obj := ⟨(.type "code"), .none, (.fields #[(.str (Str.ofString "record") 2346), (.str (Str.ofString "Journal.record") 2347), (.str (Str.ofString "/claim/cut.py") 2348), (.int (1226) 0), (.int (1) 0), (.int (0) 0), (.int (0) 0), (.int (3) 0), (.ref 1409), (.bool true), (.int (181) 0), (.ref 1410), .none, (.ref 1411), (.ref 1412), (.ref 1413), (.int (2350) 0), (.int (1226) 0), (.str (Str.ofString "/claim/cut.py") 2351)]), #[]⟩
def o201_1415 (P : Params) : Obj := ⟨(.type "function"), .none, (.func ⟨(Str.ofString "record"), (Str.ofString "Journal.record"), defArgs (inClass (top 186) 5), .stmts (defBody (inClass (top 186) 5)), defScope (inClass (top 186) 5), 3, [], .none, .none, .none, (.str (Str.ofString "plinth.journal") 2222), .none, (.ref 1414), .none, 0⟩), #[]⟩
def o201_1416 (P : Params) : Obj := ⟨(.type "tuple"), .none, (.seq #[] 0), #[]⟩
def o201_1417 (P : Params) : Obj := ⟨.none, .none, (.fields #[]), #[]⟩
def o201_1418 (P : Params) : Obj := ⟨(.type "tuple"), .none, (.seq #[(.str (Str.ofString "self") 2356)] 0), #[]⟩
def o201_1419 (P : Params) : Obj := ⟨(.type "tuple"), .none, (.seq #[] 0), #[]⟩
def o201_1420 (P : Params) : Obj := ⟨.none, .none, (.func ⟨(Str.ofString "lines"), (Str.ofString "Journal.lines"), defArgs (inClass (top 186) 6), .stmts (defBody (inClass (top 186) 6)), defScope (inClass (top 186) 6), 0, [], .none, .none, .none, .none, .none, .none, .none, 0⟩), #[]⟩
def o201_1421 (P : Params) : Obj := ⟨(.type "code"), .none, (.fields #[(.str (Str.ofString "lines") 2353), (.str (Str.ofString "Journal.lines") 2354), (.str (Str.ofString "/claim/cut.py") 2355), (.int (1229) 0), (.int (1) 0), (.int (0) 0), (.int (0) 0), (.int (3) 0), (.ref 1416), (.bool true), (.int (181) 0), (.ref 1417), .none, (.ref 1418), (.ref 1419), (.ref 1420), (.int (2357) 0), (.int (1229) 0), (.str (Str.ofString "/claim/cut.py") 2358)]), #[]⟩
def o201_1422 (P : Params) : Obj := ⟨(.type "function"), .none, (.func ⟨(Str.ofString "lines"), (Str.ofString "Journal.lines"), defArgs (inClass (top 186) 6), .stmts (defBody (inClass (top 186) 6)), defScope (inClass (top 186) 6), 3, [], .none, .none, .none, (.str (Str.ofString "plinth.journal") 2222), .none, (.ref 1421), .none, 0⟩), #[]⟩
def o201_1423 (P : Params) : Obj := ⟨(.type "tuple"), .none, (.seq #[] 0), #[]⟩
def o201_1424 (P : Params) : Obj := ⟨.none, .none, (.fields #[]), #[]⟩
def o201_1425 (P : Params) : Obj := ⟨(.type "tuple"), .none, (.seq #[(.str (Str.ofString "self") 2363), (.str (Str.ofString "name") 2364)] 0), #[]⟩
def o201_1426 (P : Params) : Obj := ⟨(.type "tuple"), .none, (.seq #[] 0), #[]⟩
def o201_1427 (P : Params) : Obj := ⟨.none, .none, (.func ⟨(Str.ofString "content"), (Str.ofString "Journal.content"), defArgs (inClass (top 186) 7), .stmts (defBody (inClass (top 186) 7)), defScope (inClass (top 186) 7), 0, [], .none, .none, .none, .none, .none, .none, .none, 0⟩), #[]⟩
def o201_1428 (P : Params) : Obj := ⟨(.type "code"), .none, (.fields #[(.str (Str.ofString "content") 2360), (.str (Str.ofString "Journal.content") 2361), (.str (Str.ofString "/claim/cut.py") 2362), (.int (1232) 0), (.int (2) 0), (.int (0) 0), (.int (0) 0), (.int (3) 0), (.ref 1423), (.bool true), (.int (181) 0), (.ref 1424), .none, (.ref 1425), (.ref 1426), (.ref 1427), (.int (2365) 0), (.int (1232) 0), (.str (Str.ofString "/claim/cut.py") 2366)]), #[]⟩
def o201_1429 (P : Params) : Obj := ⟨(.type "function"), .none, (.func ⟨(Str.ofString "content"), (Str.ofString "Journal.content"), defArgs (inClass (top 186) 7), .stmts (defBody (inClass (top 186) 7)), defScope (inClass (top 186) 7), 3, [], .none, .none, .none, (.str (Str.ofString "plinth.journal") 2222), .none, (.ref 1428), .none, 0⟩), #[]⟩
def o201_1430 (P : Params) : Obj := ⟨(.type "tuple"), .none, (.seq #[(.str (Str.ofString "earlier") 2368), (.str (Str.ofString "kept") 2369), (.str (Str.ofString "pages") 2370)] 0), #[]⟩
def o201_1431 (P : Params) : Obj := ⟨(.type "dict"), .none, (.dict #[⟨PyData.keyHash P (Str.ofString "__module__"), (.str (Str.ofString "__module__") 2302), (.str (Str.ofString "plinth.journal") 2222)⟩, ⟨PyData.keyHash P (Str.ofString "__firstlineno__"), (.str (Str.ofString "__firstlineno__") 2306), (.int (1199) 2305)⟩, ⟨PyData.keyHash P (Str.ofString "__init__"), (.str (Str.ofString "__init__") 2313), (.ref 1380)⟩, ⟨PyData.keyHash P (Str.ofString "__enter__"), (.str (Str.ofString "__enter__") 2320), (.ref 1387)⟩, ⟨PyData.keyHash P (Str.ofString "__exit__"), (.str (Str.ofString "__exit__") 2330), (.ref 1394)⟩, ⟨PyData.keyHash P (Str.ofString "keep"), (.str (Str.ofString "keep") 2337), (.ref 1401)⟩, ⟨PyData.keyHash P (Str.ofString "answer"), (.str (Str.ofString "answer") 2345), (.ref 1408)⟩, ⟨PyData.keyHash P (Str.ofString "record"), (.str (Str.ofString "record") 2352), (.ref 1415)⟩, ⟨PyData.keyHash P (Str.ofString "lines"), (.str (Str.ofString "lines") 2359), (.ref 1422)⟩, ⟨PyData.keyHash P (Str.ofString "content"), (.str (Str.ofString "content") 2367), (.ref 1429)⟩, ⟨PyData.keyHash P (Str.ofString "__static_attributes__"), (.str (Str.ofString "__static_attributes__") 2371), (.ref 1430)⟩, ⟨PyData.keyHash P (Str.ofString "__dict__"), (.str (Str.ofString "__dict__") 2373), (.ref 1433)⟩, ⟨PyData.keyHash P (Str.ofString "__weakref__"), (.str (Str.ofString "__weakref__") 2375), (.ref 1434)⟩, ⟨PyData.keyHash P (Str.ofString "__doc__"), (.str (Str.ofString "__doc__") 2376), .none⟩] 4), #[]⟩
def o201_1432 (P : Params) : Obj := ⟨(.type "type"), .none, (.cls ⟨(Str.ofString "Journal"), [(.type "object")], [(.ref 1432), (.type "object")], 1431, (Str.ofString "Journal"), true, [], [], false, .none, false⟩), #[.none, .none, (.some (.str (Str.ofString "Journal") 2295)), (.some (.str (Str.ofString "Journal") 2303)), (.some (.builtin "object.__new__")), (.some (.bool true))]⟩
def o201_1433 (P : Params) : Obj := ⟨(.type "getset_descriptor"), .none, (.fields #[(.str (Str.ofString "__dict__") 2372), (.ref 1432), (.builtin "function.__dict__"), (.builtin "function.__dict__#set")]), #[]⟩
def o201_1434 (P : Params) : Obj := ⟨(.type "getset_descriptor"), .none, (.fields #[(.str (Str.ofString "__weakref__") 2374), (.ref 1432), (.builtin "ExceptionGroup.__weakref__"), .none]), #[]⟩
def o201_1435 (P : Params) : Obj := ⟨(.type "super"), .none, (.fields #[(.ref 1432), (.ref 1432), (.ref 1432)]), #[]⟩
def o201_1436 (P : Params) : Obj := ⟨(.type "builtin_function_or_method"), .none, (.fields #[(.builtin "object.__init_subclass__"), (.ref 1432)]), #[]⟩
def o201_1437 (P : Params) : Obj := ⟨(.type "tuple"), .none, (.seq #[] 0), #[]⟩
def o201_1438 (P : Params) : Obj := ⟨.none, .none, (.fields #[]), #[]⟩
def o201_1439 (P : Params) : Obj := ⟨(.type "tuple"), .none, (.seq #[(.str (Str.ofString "text") 2382), (.str (Str.ofString "rows") 2383)] 0), #[]⟩
def o201_1440 (P : Params) : Obj := ⟨(.type "tuple"), .none, (.seq #[] 0), #[]⟩
def o201_1441 (P : Params) : Obj := ⟨.none, .none, (.func ⟨(Str.ofString "rows_of"), (Str.ofString "rows_of"), defArgs (top 187), .stmts (defBody (top 187)), defScope (top 187), 0, [], .none, .none, .none, .none, .none, .none, .none, 0⟩), #[]⟩
def o201_1442 (P : Params) : Obj := ⟨(.type "code"), .none, (.fields #[(.str (Str.ofString "rows_of") 2379), (.str (Str.ofString "rows_of") 2380), (.str (Str.ofString "/claim/cut.py") 2381), (.int (1234) 0), (.int (1) 0), (.int (0) 0), (.int (0) 0), (.int (3) 0), (.ref 1437), (.bool true), (.int (181) 0), (.ref 1438), .none, (.ref 1439), (.ref 1440), (.ref 1441), (.int (2384) 0), (.int (1234) 0), (.str (Str.ofString "/claim/cut.py") 2385)]), #[]⟩
def o201_1443 (P : Params) : Obj := ⟨(.type "function"), .none, (.func ⟨(Str.ofString "rows_of"), (Str.ofString "rows_of"), defArgs (top 187), .stmts (defBody (top 187)), defScope (top 187), 3, [], .none, .none, .none, (.str (Str.ofString "plinth.journal") 2222), .none, (.ref 1442), .none, 0⟩), #[]⟩
def o201_1444 (P : Params) : Obj := ⟨(.type "tuple"), .none, (.seq #[] 0), #[]⟩
def o201_1445 (P : Params) : Obj := ⟨.none, .none, (.fields #[]), #[]⟩
def o201_1446 (P : Params) : Obj := ⟨(.type "tuple"), .none, (.seq #[(.str (Str.ofString "text") 2390), (.str (Str.ofString "journal") 2391), (.str (Str.ofString "rows") 2392), (.str (Str.ofString "told") 2393), (.str (Str.ofString "at") 2394), (.str (Str.ofString "row") 2395)] 0), #[]⟩
def o201_1447 (P : Params) : Obj := ⟨(.type "tuple"), .none, (.seq #[] 0), #[]⟩
def o201_1448 (P : Params) : Obj := ⟨.none, .none, (.func ⟨(Str.ofString "resume"), (Str.ofString "resume"), defArgs (top 188), .stmts (defBody (top 188)), defScope (top 188), 0, [], .none, .none, .none, .none, .none, .none, .none, 0⟩), #[]⟩
def o201_1449 (P : Params) : Obj := ⟨(.type "code"), .none, (.fields #[(.str (Str.ofString "resume") 2387), (.str (Str.ofString "resume") 2388), (.str (Str.ofString "/claim/cut.py") 2389), (.int (1237) 0), (.int (1) 0), (.int (0) 0), (.int (0) 0), (.int (3) 0), (.ref 1444), (.bool true), (.int (181) 0), (.ref 1445), .none, (.ref 1446), (.ref 1447), (.ref 1448), (.int (2396) 0), (.int (1237) 0), (.str (Str.ofString "/claim/cut.py") 2397)]), #[]⟩
def o201_1450 (P : Params) : Obj := ⟨(.type "function"), .none, (.func ⟨(Str.ofString "resume"), (Str.ofString "resume"), defArgs (top 188), .stmts (defBody (top 188)), defScope (top 188), 3, [], .none, .none, .none, (.str (Str.ofString "plinth.journal") 2222), .none, (.ref 1449), .none, 0⟩), #[]⟩
def o201_1451 (P : Params) : Obj := ⟨(.type "tuple"), .none, (.seq #[] 0), #[]⟩
def o201_1452 (P : Params) : Obj := ⟨.none, .none, (.fields #[]), #[]⟩
def o201_1453 (P : Params) : Obj := ⟨(.type "tuple"), .none, (.seq #[(.str (Str.ofString "_law_cell") 2404)] 0), #[]⟩
def o201_1454 (P : Params) : Obj := ⟨(.type "tuple"), .none, (.seq #[] 0), #[]⟩
def o201_1455 (P : Params) : Obj := ⟨.none, .none, (.func ⟨(Str.ofString "_law_number"), (Str.ofString "_law_number"), defArgs (top 190), .stmts (defBody (top 190)), defScope (top 190), 0, [], .none, .none, .none, .none, .none, .none, .none, 0⟩), #[]⟩
def o201_1456 (P : Params) : Obj := ⟨(.type "code"), .none, (.fields #[(.str (Str.ofString "_law_number") 2401), (.str (Str.ofString "_law_number") 2402), (.str (Str.ofString "/claim/cut.py") 2403), (.int (1251) 0), (.int (1) 0), (.int (0) 0), (.int (0) 0), (.int (3) 0), (.ref 1451), (.bool true), (.int (181) 0), (.ref 1452), .none, (.ref 1453), (.ref 1454), (.ref 1455), (.int (2405) 0), (.int (1251) 0), (.str (Str.ofString "/claim/cut.py") 2406)]), #[]⟩
def o201_1457 (P : Params) : Obj := ⟨(.type "function"), .none, (.func ⟨(Str.ofString "_law_number"), (Str.ofString "_law_number"), defArgs (top 190), .stmts (defBody (top 190)), defScope (top 190), 3, [], .none, .none, .none, (.str (Str.ofString "law_plinth_k93_whole_journals_that_are_cut_o") 2399), .none, (.ref 1456), .none, 0⟩), #[]⟩
def o201_1458 (P : Params) : Obj := ⟨(.type "tuple"), .none, (.seq #[] 0), #[]⟩
def o201_1459 (P : Params) : Obj := ⟨.none, .none, (.fields #[]), #[]⟩
def o201_1460 (P : Params) : Obj := ⟨(.type "tuple"), .none, (.seq #[(.str (Str.ofString "_law_script") 2411), (.str (Str.ofString "_law_draws_here") 2412), (.str (Str.ofString "_law_cell") 2413), (.str (Str.ofString "_law_rest") 2414), (.str (Str.ofString "_law_k") 2415), (.str (Str.ofString "_law_once") 2416), (.str (Str.ofString "_law_twice") 2417)] 0), #[]⟩
def o201_1461 (P : Params) : Obj := ⟨(.type "tuple"), .none, (.seq #[] 0), #[]⟩
def o201_1462 (P : Params) : Obj := ⟨.none, .none, (.func ⟨(Str.ofString "_law_draws"), (Str.ofString "_law_draws"), defArgs (top 191), .stmts (defBody (top 191)), defScope (top 191), 0, [], .none, .none, .none, .none, .none, .none, .none, 0⟩), #[]⟩
def o201_1463 (P : Params) : Obj := ⟨(.type "code"), .none, (.fields #[(.str (Str.ofString "_law_draws") 2408), (.str (Str.ofString "_law_draws") 2409), (.str (Str.ofString "/claim/cut.py") 2410), (.int (1255) 0), (.int (1) 0), (.int (0) 0), (.int (0) 0), (.int (3) 0), (.ref 1458), (.bool true), (.int (181) 0), (.ref 1459), .none, (.ref 1460), (.ref 1461), (.ref 1462), (.int (2418) 0), (.int (1255) 0), (.str (Str.ofString "/claim/cut.py") 2419)]), #[]⟩
def o201_1464 (P : Params) : Obj := ⟨(.type "function"), .none, (.func ⟨(Str.ofString "_law_draws"), (Str.ofString "_law_draws"), defArgs (top 191), .stmts (defBody (top 191)), defScope (top 191), 3, [], .none, .none, .none, (.str (Str.ofString "law_plinth_k93_whole_journals_that_are_cut_o") 2399), .none, (.ref 1463), .none, 0⟩), #[]⟩
def o201_1465 (P : Params) : Obj := ⟨(.type "tuple"), .none, (.seq #[] 0), #[]⟩
def o201_1466 (P : Params) : Obj := ⟨.none, .none, (.fields #[]), #[]⟩
def o201_1467 (P : Params) : Obj := ⟨(.type "tuple"), .none, (.seq #[(.str (Str.ofString "_law_draws_here") 2424)] 0), #[]⟩
def o201_1468 (P : Params) : Obj := ⟨(.type "tuple"), .none, (.seq #[] 0), #[]⟩
def o201_1469 (P : Params) : Obj := ⟨.none, .none, (.func ⟨(Str.ofString "_law_next"), (Str.ofString "_law_next"), defArgs (top 192), .stmts (defBody (top 192)), defScope (top 192), 0, [], .none, .none, .none, .none, .none, .none, .none, 0⟩), #[]⟩
def o201_1470 (P : Params) : Obj := ⟨(.type "code"), .none, (.fields #[(.str (Str.ofString "_law_next") 2421), (.str (Str.ofString "_law_next") 2422), (.str (Str.ofString "/claim/cut.py") 2423), (.int (1270) 0), (.int (1) 0), (.int (0) 0), (.int (0) 0), (.int (3) 0), (.ref 1465), (.bool true), (.int (181) 0), (.ref 1466), .none, (.ref 1467), (.ref 1468), (.ref 1469), (.int (2425) 0), (.int (1270) 0), (.str (Str.ofString "/claim/cut.py") 2426)]), #[]⟩
def o201_1471 (P : Params) : Obj := ⟨(.type "function"), .none, (.func ⟨(Str.ofString "_law_next"), (Str.ofString "_law_next"), defArgs (top 192), .stmts (defBody (top 192)), defScope (top 192), 3, [], .none, .none, .none, (.str (Str.ofString "law_plinth_k93_whole_journals_that_are_cut_o") 2399), .none, (.ref 1470), .none, 0⟩), #[]⟩
def o201_1472 (P : Params) : Obj := ⟨(.type "tuple"), .none, (.seq #[] 0), #[]⟩
def o201_1473 (P : Params) : Obj := ⟨.none, .none, (.fields #[]), #[]⟩
def o201_1474 (P : Params) : Obj := ⟨(.type "tuple"), .none, (.seq #[(.str (Str.ofString "_law_draw") 2431), (.str (Str.ofString "_law_chars") 2432)] 0), #[]⟩
def o201_1475 (P : Params) : Obj := ⟨(.type "tuple"), .none, (.seq #[] 0), #[]⟩
def o201_1476 (P : Params) : Obj := ⟨.none, .none, (.func ⟨(Str.ofString "_law_char"), (Str.ofString "_law_char"), defArgs (top 193), .stmts (defBody (top 193)), defScope (top 193), 0, [], .none, .none, .none, .none, .none, .none, .none, 0⟩), #[]⟩
def o201_1477 (P : Params) : Obj := ⟨(.type "code"), .none, (.fields #[(.str (Str.ofString "_law_char") 2428), (.str (Str.ofString "_law_char") 2429), (.str (Str.ofString "/claim/cut.py") 2430), (.int (1274) 0), (.int (1) 0), (.int (0) 0), (.int (0) 0), (.int (3) 0), (.ref 1472), (.bool true), (.int (181) 0), (.ref 1473), .none, (.ref 1474), (.ref 1475), (.ref 1476), (.int (2433) 0), (.int (1274) 0), (.str (Str.ofString "/claim/cut.py") 2434)]), #[]⟩
def o201_1478 (P : Params) : Obj := ⟨(.type "function"), .none, (.func ⟨(Str.ofString "_law_char"), (Str.ofString "_law_char"), defArgs (top 193), .stmts (defBody (top 193)), defScope (top 193), 3, [], .none, .none, .none, (.str (Str.ofString "law_plinth_k93_whole_journals_that_are_cut_o") 2399), .none, (.ref 1477), .none, 0⟩), #[]⟩
def o201_1479 (P : Params) : Obj := ⟨(.type "tuple"), .none, (.seq #[] 0), #[]⟩
def o201_1480 (P : Params) : Obj := ⟨.none, .none, (.fields #[]), #[]⟩
def o201_1481 (P : Params) : Obj := ⟨.none, .none, (.func ⟨(Str.ofString "_law_line"), (Str.ofString "_law_line"), defArgs (top 194), .stmts (defBody (top 194)), defScope (top 194), 0, [], .none, .none, .none, .none, .none, .none, .none, 0⟩), #[]⟩
def o201_1482 (P : Params) : Obj := ⟨(.type "code"), .none, (.fields #[(.str (Str.ofString "_law_line") 2436), (.str (Str.ofString "_law_line") 2437), (.str (Str.ofString "/claim/cut.py") 2438), (.int (1278) 0), (.int (1) 0), (.int (0) 0), (.int (0) 0), (.int (3) 0), (.ref 1479), (.bool true), (.int (181) 0), (.ref 1480), .none, .none, .none, (.ref 1481), (.int (2439) 0), (.int (1278) 0), (.str (Str.ofString "/claim/cut.py") 2440)]), #[]⟩
def o201_1483 (P : Params) : Obj := ⟨(.type "function"), .none, (.func ⟨(Str.ofString "_law_line"), (Str.ofString "_law_line"), defArgs (top 194), .stmts (defBody (top 194)), defScope (top 194), 3, [], .none, .none, .none, (.str (Str.ofString "law_plinth_k93_whole_journals_that_are_cut_o") 2399), .none, (.ref 1482), .none, 0⟩), #[]⟩
def o201_1484 (P : Params) : Obj := ⟨(.type "tuple"), .none, (.seq #[] 0), #[]⟩
def o201_1485 (P : Params) : Obj := ⟨.none, .none, (.fields #[]), #[]⟩
def o201_1486 (P : Params) : Obj := ⟨(.type "tuple"), .none, (.seq #[(.str (Str.ofString "_law_codes") 2445), (.str (Str.ofString "_law_numbers") 2446), (.str (Str.ofString "_law_inside") 2447), (.str (Str.ofString "_law_code") 2448)] 0), #[]⟩
def o201_1487 (P : Params) : Obj := ⟨(.type "tuple"), .none, (.seq #[] 0), #[]⟩
def o201_1488 (P : Params) : Obj := ⟨.none, .none, (.func ⟨(Str.ofString "_law_digits"), (Str.ofString "_law_digits"), defArgs (top 195), .stmts (defBody (top 195)), defScope (top 195), 0, [], .none, .none, .none, .none, .none, .none, .none, 0⟩), #[]⟩
def o201_1489 (P : Params) : Obj := ⟨(.type "code"), .none, (.fields #[(.str (Str.ofString "_law_digits") 2442), (.str (Str.ofString "_law_digits") 2443), (.str (Str.ofString "/claim/cut.py") 2444), (.int (1294) 0), (.int (1) 0), (.int (0) 0), (.int (0) 0), (.int (3) 0), (.ref 1484), (.bool true), (.int (181) 0), (.ref 1485), .none, (.ref 1486), (.ref 1487), (.ref 1488), (.int (2449) 0), (.int (1294) 0), (.str (Str.ofString "/claim/cut.py") 2450)]), #[]⟩
def o201_1490 (P : Params) : Obj := ⟨(.type "function"), .none, (.func ⟨(Str.ofString "_law_digits"), (Str.ofString "_law_digits"), defArgs (top 195), .stmts (defBody (top 195)), defScope (top 195), 3, [], .none, .none, .none, (.str (Str.ofString "law_plinth_k93_whole_journals_that_are_cut_o") 2399), .none, (.ref 1489), .none, 0⟩), #[]⟩
def o201_1491 (P : Params) : Obj := ⟨(.type "tuple"), .none, (.seq #[] 0), #[]⟩
def o201_1492 (P : Params) : Obj := ⟨.none, .none, (.fields #[]), #[]⟩
def o201_1493 (P : Params) : Obj := ⟨.none, .none, (.func ⟨(Str.ofString "_law_answer"), (Str.ofString "_law_answer"), defArgs (top 196), .stmts (defBody (top 196)), defScope (top 196), 0, [], .none, .none, .none, .none, .none, .none, .none, 0⟩), #[]⟩
def o201_1494 (P : Params) : Obj := ⟨(.type "code"), .none, (.fields #[(.str (Str.ofString "_law_answer") 2452), (.str (Str.ofString "_law_answer") 2453), (.str (Str.ofString "/claim/cut.py") 2454), (.int (1308) 0), (.int (2) 0), (.int (0) 0), (.int (0) 0), (.int (3) 0), (.ref 1491), (.bool true), (.int (181) 0), (.ref 1492), .none, .none, .none, (.ref 1493), (.int (2455) 0), (.int (1308) 0), (.str (Str.ofString "/claim/cut.py") 2456)]), #[]⟩
def o201_1495 (P : Params) : Obj := ⟨(.type "function"), .none, (.func ⟨(Str.ofString "_law_answer"), (Str.ofString "_law_answer"), defArgs (top 196), .stmts (defBody (top 196)), defScope (top 196), 3, [], .none, .none, .none, (.str (Str.ofString "law_plinth_k93_whole_journals_that_are_cut_o") 2399), .none, (.ref 1494), .none, 0⟩), #[]⟩
def o201_1496 (P : Params) : Obj := ⟨(.type "tuple"), .none, (.seq #[] 0), #[]⟩
def o201_1497 (P : Params) : Obj := ⟨.none, .none, (.fields #[]), #[]⟩
def o201_1498 (P : Params) : Obj := ⟨(.type "tuple"), .none, (.seq #[(.str (Str.ofString "_law_lines") 2461), (.str (Str.ofString "_law_items_here") 2462), (.str (Str.ofString "_law_entries") 2463), (.str (Str.ofString "_law_line_here") 2464)] 0), #[]⟩
def o201_1499 (P : Params) : Obj := ⟨(.type "tuple"), .none, (.seq #[] 0), #[]⟩
def o201_1500 (P : Params) : Obj := ⟨.none, .none, (.func ⟨(Str.ofString "_law_recorded"), (Str.ofString "_law_recorded"), defArgs (top 197), .stmts (defBody (top 197)), defScope (top 197), 0, [], .none, .none, .none, .none, .none, .none, .none, 0⟩), #[]⟩
def o201_1501 (P : Params) : Obj := ⟨(.type "code"), .none, (.fields #[(.str (Str.ofString "_law_recorded") 2458), (.str (Str.ofString "_law_recorded") 2459), (.str (Str.ofString "/claim/cut.py") 2460), (.int (1328) 0), (.int (1) 0), (.int (0) 0), (.int (0) 0), (.int (3) 0), (.ref 1496), (.bool true), (.int (181) 0), (.ref 1497), .none, (.ref 1498), (.ref 1499), (.ref 1500), (.int (2465) 0), (.int (1328) 0), (.str (Str.ofString "/claim/cut.py") 2466)]), #[]⟩
def o201_1502 (P : Params) : Obj := ⟨(.type "function"), .none, (.func ⟨(Str.ofString "_law_recorded"), (Str.ofString "_law_recorded"), defArgs (top 197), .stmts (defBody (top 197)), defScope (top 197), 3, [], .none, .none, .none, (.str (Str.ofString "law_plinth_k93_whole_journals_that_are_cut_o") 2399), .none, (.ref 1501), .none, 0⟩), #[]⟩
def o201_1503 (P : Params) : Obj := ⟨(.type "tuple"), .none, (.seq #[] 0), #[]⟩
def o201_1504 (P : Params) : Obj := ⟨.none, .none, (.fields #[]), #[]⟩
def o201_1505 (P : Params) : Obj := ⟨(.type "tuple"), .none, (.seq #[(.str (Str.ofString "_law_journal") 2471), (.str (Str.ofString "_law_lines") 2472), (.str (Str.ofString "_law_items_here") 2473), (.str (Str.ofString "_law_line_here") 2474), (.str (Str.ofString "_law_due") 2475)] 0), #[]⟩
def o201_1506 (P : Params) : Obj := ⟨(.type "tuple"), .none, (.seq #[] 0), #[]⟩
def o201_1507 (P : Params) : Obj := ⟨.none, .none, (.func ⟨(Str.ofString "_law_given"), (Str.ofString "_law_given"), defArgs (top 198), .stmts (defBody (top 198)), defScope (top 198), 0, [], .none, .none, .none, .none, .none, .none, .none, 0⟩), #[]⟩
def o201_1508 (P : Params) : Obj := ⟨(.type "code"), .none, (.fields #[(.str (Str.ofString "_law_given") 2468), (.str (Str.ofString "_law_given") 2469), (.str (Str.ofString "/claim/cut.py") 2470), (.int (1334) 0), (.int (2) 0), (.int (0) 0), (.int (0) 0), (.int (3) 0), (.ref 1503), (.bool true), (.int (181) 0), (.ref 1504), .none, (.ref 1505), (.ref 1506), (.ref 1507), (.int (2476) 0), (.int (1334) 0), (.str (Str.ofString "/claim/cut.py") 2477)]), #[]⟩
def o201_1509 (P : Params) : Obj := ⟨(.type "function"), .none, (.func ⟨(Str.ofString "_law_given"), (Str.ofString "_law_given"), defArgs (top 198), .stmts (defBody (top 198)), defScope (top 198), 3, [], .none, .none, .none, (.str (Str.ofString "law_plinth_k93_whole_journals_that_are_cut_o") 2399), .none, (.ref 1508), .none, 0⟩), #[]⟩
def o201_1510 (P : Params) : Obj := ⟨(.type "tuple"), .none, (.seq #[] 0), #[]⟩
def o201_1511 (P : Params) : Obj := ⟨.none, .none, (.fields #[]), #[]⟩
def o201_1512 (P : Params) : Obj := ⟨(.type "tuple"), .none, (.seq #[(.str (Str.ofString "_law_journal") 2482), (.str (Str.ofString "_law_lines") 2483), (.str (Str.ofString "_law_items_here") 2484), (.str (Str.ofString "_law_line_here") 2485), (.str (Str.ofString "_law_name") 2486), (.str (Str.ofString "_law_told") 2487)] 0), #[]⟩
def o201_1513 (P : Params) : Obj := ⟨(.type "tuple"), .none, (.seq #[] 0), #[]⟩
def o201_1514 (P : Params) : Obj := ⟨.none, .none, (.func ⟨(Str.ofString "_law_items"), (Str.ofString "_law_items"), defArgs (top 199), .stmts (defBody (top 199)), defScope (top 199), 0, [], .none, .none, .none, .none, .none, .none, .none, 0⟩), #[]⟩
def o201_1515 (P : Params) : Obj := ⟨(.type "code"), .none, (.fields #[(.str (Str.ofString "_law_items") 2479), (.str (Str.ofString "_law_items") 2480), (.str (Str.ofString "/claim/cut.py") 2481), (.int (1341) 0), (.int (2) 0), (.int (0) 0), (.int (0) 0), (.int (3) 0), (.ref 1510), (.bool true), (.int (181) 0), (.ref 1511), .none, (.ref 1512), (.ref 1513), (.ref 1514), (.int (2488) 0), (.int (1341) 0), (.str (Str.ofString "/claim/cut.py") 2489)]), #[]⟩
def o201_1516 (P : Params) : Obj := ⟨(.type "function"), .none, (.func ⟨(Str.ofString "_law_items"), (Str.ofString "_law_items"), defArgs (top 199), .stmts (defBody (top 199)), defScope (top 199), 3, [], .none, .none, .none, (.str (Str.ofString "law_plinth_k93_whole_journals_that_are_cut_o") 2399), .none, (.ref 1515), .none, 0⟩), #[]⟩
def o201_1517 (P : Params) : Obj := ⟨(.type "tuple"), .none, (.seq #[] 0), #[]⟩
def o201_1518 (P : Params) : Obj := ⟨.none, .none, (.fields #[]), #[]⟩
def o201_1519 (P : Params) : Obj := ⟨(.type "tuple"), .none, (.seq #[(.str (Str.ofString "_law_script") 2494), (.str (Str.ofString "_law_draws_here") 2495), (.str (Str.ofString "_law_choice") 2496), (.str (Str.ofString "_law_lines") 2497), (.str (Str.ofString "_law_k") 2498), (.str (Str.ofString "_law_journal") 2499), (.str (Str.ofString "_law_line_here") 2500), (.str (Str.ofString "_law_entries") 2501), (.str (Str.ofString "_law_record") 2502), (.str (Str.ofString "_law_told") 2503), (.str (Str.ofString "_law_cut") 2504), (.str (Str.ofString "_law_whole") 2505), (.str (Str.ofString "_law_second") 2506), (.str (Str.ofString "_law_items_here") 2507)] 0), #[]⟩
def o201_1520 (P : Params) : Obj := ⟨(.type "tuple"), .none, (.seq #[] 0), #[]⟩
def o201_1521 (P : Params) : Obj := ⟨.none, .none, (.func ⟨(Str.ofString "law"), (Str.ofString "law"), defArgs (top 200), .stmts (defBody (top 200)), defScope (top 200), 0, [], .none, .none, .none, .none, .none, .none, .none, 0⟩), #[]⟩
def o201_1522 (P : Params) : Obj := ⟨(.type "code"), .none, (.fields #[(.str (Str.ofString "law") 2491), (.str (Str.ofString "law") 2492), (.str (Str.ofString "/claim/cut.py") 2493), (.int (1353) 0), (.int (1) 0), (.int (0) 0), (.int (0) 0), (.int (3) 0), (.ref 1517), (.bool true), (.int (181) 0), (.ref 1518), .none, (.ref 1519), (.ref 1520), (.ref 1521), (.int (2508) 0), (.int (1353) 0), (.str (Str.ofString "/claim/cut.py") 2509)]), #[]⟩
def o201_1523 (P : Params) : Obj := ⟨(.type "function"), .none, (.func ⟨(Str.ofString "law"), (Str.ofString "law"), defArgs (top 200), .stmts (defBody (top 200)), defScope (top 200), 3, [], .none, .none, .none, (.str (Str.ofString "law_plinth_k93_whole_journals_that_are_cut_o") 2399), .none, (.ref 1522), .none, 0⟩), #[]⟩
def T201 (P : Params) : BT := (.node (boot_o_0 P) (.node (boot_o_1 P) (.node (o201_3 P) (.node (boot_o_7 P) (.node (o20_15 P) (.node (o20_31 P) (.node (o20_63 P) (.node (o20_127 P) (.node (o84_255 P) (.node (o84_511 P) (.node (o150_1023 P) .nil .nil) .nil) (.node (o150_767 P) (.node (o201_1279 P) .nil .nil) .nil)) (.node (o84_383 P) (.node (o150_639 P) (.node (o174_1151 P) .nil .nil) .nil) (.node (o150_895 P) (.node (o201_1407 P) .nil .nil) .nil))) (.node (o20_191 P) (.node (o84_319 P) (.node (o84_575 P) (.node (o174_1087 P) .nil .nil) .nil) (.node (o150_831 P) (.node (o201_1343 P) .nil .nil) .nil)) (.node (o84_447 P) (.node (o150_703 P) (.node (o201_1215 P) .nil .nil) .nil) (.node (o150_959 P) (.node (o201_1471 P) .nil .nil) .nil)))) (.node (o20_95 P) (.node (o20_159 P) (.node (o84_287 P) (.node (o84_543 P) (.node (o150_1055 P) .nil .nil) .nil) (.node (o150_799 P) (.node (o201_1311 P) .nil .nil) .nil)) (.node (o84_415 P) (.node (o150_671 P) (.node (o174_1183 P) .nil .nil) .nil) (.node (o150_927 P) (.node (o201_1439 P) .nil .nil) .nil))) (.node (o84_223 P) (.node (o84_351 P) (.node (o150_607 P) (.node (o174_1119 P) .nil .nil) .nil) (.node (o150_863 P) (.node (o201_1375 P) .nil .nil) .nil)) (.node (o84_479 P) (.node (o150_735 P) (.node (o201_1247 P) .nil .nil) .nil) (.node (o150_991 P) (.node (o201_1503 P) .nil .nil) .nil))))) (.node (o20_47 P) (.node (o20_79 P) (.node (o20_143 P) (.node (o84_271 P) (.node (o84_527 P) (.node (o150_1039 P) .nil .nil) .nil) (.node (o150_783 P) (.node (o201_1295 P) .nil .nil) .nil)) (.node (o84_399 P) (.node (o150_655 P) (.node (o174_1167 P) .nil .nil) .nil) (.node (o150_911 P) (.node (o201_1423 P) .nil .nil) .nil))) (.node (o20_207 P) (.node (o84_335 P) (.node (o84_591 P) (.node (o174_1103 P) .nil .nil) .nil) (.node (o150_847 P) (.node (o201_1359 P) .nil .nil) .nil)) (.node (o84_463 P) (.node (o150_719 P) (.node (o201_1231 P) .nil .nil) .nil) (.node (o150_975 P) (.node (o201_1487 P) .nil .nil) .nil)))) (.node (o20_111 P) (.node (o20_175 P) (.node (o84_303 P) (.node (o84_559 P) (.node (o150_1071 P) .nil .nil) .nil) (.node (o150_815 P) (.node (o201_1327 P) .nil .nil) .nil)) (.node (o84_431 P) (.node (o150_687 P) (.node (o175_1199 P) .nil .nil) .nil) (.node (o150_943 P) (.node (o201_1455 P) .nil .nil) .nil))) (.node (o84_239 P) (.node (o84_367 P) (.node (o150_623 P) (.node (o174_1135 P) .nil .nil) .nil) (.node (o150_879 P) (.node (o201_1391 P) .nil .nil) .nil)) (.node (o84_495 P) (.node (o150_751 P) (.node (o201_1263 P) .nil .nil) .nil) (.node (o150_1007 P) (.node (o201_1519 P) .nil .nil) .nil)))))) (.node (o20_23 P) (.node (o20_39 P) (.node (o20_71 P) (.node (o20_135 P) (.node (o84_263 P) (.node (o84_519 P) (.node (o150_1031 P) .nil .nil) .nil) (.node (o150_775 P) (.node (o201_1287 P) .nil .nil) .nil)) (.node (o84_391 P) (.node (o150_647 P) (.node (o174_1159 P) .nil .nil) .nil) (.node (o150_903 P) (.node (o201_1415 P) .nil .nil) .nil))) (.node (o20_199 P) (.node (o84_327 P) (.node (o84_583 P) (.node (o174_1095 P) .nil .nil) .nil) (.node (o150_839 P) (.node (o201_1351 P) .nil .nil) .nil)) (.node (o84_455 P) (.node (o150_711 P) (.node (o201_1223 P) .nil .nil) .nil) (.node (o150_967 P) (.node (o201_1479 P) .nil .nil) .nil)))) (.node (o20_103 P) (.node (o20_167 P) (.node (o84_295 P) (.node (o84_551 P) (.node (o150_1063 P) .nil .nil) .nil) (.node (o150_807 P) (.node (o201_1319 P) .nil .nil) .nil)) (.node (o84_423 P) (.node (o150_679 P) (.node (o174_1191 P) .nil .nil) .nil) (.node (o150_935 P) (.node (o201_1447 P) .nil .nil) .nil))) (.node (o84_231 P) (.node (o84_359 P) (.node (o150_615 P) (.node (o174_1127 P) .nil .nil) .nil) (.node (o150_871 P) (.node (o201_1383 P) .nil .nil) .nil)) (.node (o84_487 P) (.node (o150_743 P) (.node (o201_1255 P) .nil .nil) .nil) (.node (o150_999 P) (.node (o201_1511 P) .nil .nil) .nil))))) (.node (o20_55 P) (.node (o20_87 P) (.node (o20_151 P) (.node (o84_279 P) (.node (o84_535 P) (.node (o150_1047 P) .nil .nil) .nil) (.node (o150_791 P) (.node (o201_1303 P) .nil .nil) .nil)) (.node (o84_407 P) (.node (o150_663 P) (.node (o174_1175 P) .nil .nil) .nil) (.node (o150_919 P) (.node (o201_1431 P) .nil .nil) .nil))) (.node (o84_215 P) (.node (o84_343 P) (.node (o84_599 P) (.node (o174_1111 P) .nil .nil) .nil) (.node (o150_855 P) (.node (o201_1367 P) .nil .nil) .nil)) (.node (o84_471 P) (.node (o150_727 P) (.node (o201_1239 P) .nil .nil) .nil) (.node (o150_983 P) (.node (o201_1495 P) .nil .nil) .nil)))) (.node (o20_119 P) (.node (o20_183 P) (.node (o84_311 P) (.node (o84_567 P) (.node (o174_1079 P) .nil .nil) .nil) (.node (o150_823 P) (.node (o201_1335 P) .nil .nil) .nil)) (.node (o84_439 P) (.node (o150_695 P) (.node (o201_1207 P) .nil .nil) .nil) (.node (o150_951 P) (.node (o201_1463 P) .nil .nil) .nil))) (.node (o84_247 P) (.node (o84_375 P) (.node (o150_631 P) (.node (o174_1143 P) .nil .nil) .nil) (.node (o150_887 P) (.node (o201_1399 P) .nil .nil) .nil)) (.node (o84_503 P) (.node (o150_759 P) (.node (o201_1271 P) .nil .nil) .nil) (.node (o150_1015 P) .nil .nil))))))) (.node (oa_11 P) (.node (o20_19 P) (.node (o20_35 P) (.node (o20_67 P) (.node (o20_131 P) (.node (o84_259 P) (.node (o84_515 P) (.node (o150_1027 P) .nil .nil) .nil) (.node (o150_771 P) (.node (o201_1283 P) .nil .nil) .nil)) (.node (o84_387 P) (.node (o150_643 P) (.node (o174_1155 P) .nil .nil) .nil) (.node (o150_899 P) (.node (o201_1411 P) .nil .nil) .nil))) (.node (o20_195 P) (.node (o84_323 P) (.node (o84_579 P) (.node (o174_1091 P) .nil .nil) .nil) (.node (o150_835 P) (.node (o201_1347 P) .nil .nil) .nil)) (.node (o84_451 P) (.node (o150_707 P) (.node (o201_1219 P) .nil .nil) .nil) (.node (o150_963 P) (.node (o201_1475 P) .nil .nil) .nil)))) (.node (o20_99 P) (.node (o20_163 P) (.node (o84_291 P) (.node (o84_547 P) (.node (o150_1059 P) .nil .nil) .nil) (.node (o150_803 P) (.node (o201_1315 P) .nil .nil) .nil)) (.node (o84_419 P) (.node (o150_675 P) (.node (o174_1187 P) .nil .nil) .nil) (.node (o150_931 P) (.node (o201_1443 P) .nil .nil) .nil))) (.node (o84_227 P) (.node (o84_355 P) (.node (o150_611 P) (.node (o174_1123 P) .nil .nil) .nil) (.node (o150_867 P) (.node (o201_1379 P) .nil .nil) .nil)) (.node (o84_483 P) (.node (o150_739 P) (.node (o201_1251 P) .nil .nil) .nil) (.node (o150_995 P) (.node (o201_1507 P) .nil .nil) .nil))))) (.node (o20_51 P) (.node (o20_83 P) (.node (o20_147 P) (.node (o84_275 P) (.node (o84_531 P) (.node (o150_1043 P) .nil .nil) .nil) (.node (o150_787 P) (.node (o201_1299 P) .nil .nil) .nil)) (.node (o84_403 P) (.node (o150_659 P) (.node (o174_1171 P) .nil .nil) .nil) (.node (o150_915 P) (.node (o201_1427 P) .nil .nil) .nil))) (.node (o20_211 P) (.node (o84_339 P) (.node (o84_595 P) (.node (o174_1107 P) .nil .nil) .nil) (.node (o150_851 P) (.node (o201_1363 P) .nil .nil) .nil)) (.node (o84_467 P) (.node (o150_723 P) (.node (o201_1235 P) .nil .nil) .nil) (.node (o150_979 P) (.node (o201_1491 P) .nil .nil) .nil)))) (.node (o20_115 P) (.node (o20_179 P) (.node (o84_307 P) (.node (o84_563 P) (.node (o174_1075 P) .nil .nil) .nil) (.node (o150_819 P) (.node (o201_1331 P) .nil .nil) .nil)) (.node (o84_435 P) (.node (o150_691 P) (.node (o201_1203 P) .nil .nil) .nil) (.node (o150_947 P) (.node (o201_1459 P) .nil .nil) .nil))) (.node (o84_243 P) (.node (o84_371 P) (.node (o150_627 P) (.node (o174_1139 P) .nil .nil) .nil) (.node (o150_883 P) (.node (o201_1395 P) .nil .nil) .nil)) (.node (o84_499 P) (.node (o150_755 P) (.node (o201_1267 P) .nil .nil) .nil) (.node (o150_1011 P) (.node (o201_1523 P) .nil .nil) .nil)))))) (.node (o20_27 P) (.node (o20_43 P) (.node (o20_75 P) (.node (o20_139 P) (.node (o84_267 P) (.node (o84_523 P) (.node (o150_1035 P) .nil .nil) .nil) (.node (o150_779 P) (.node (o201_1291 P) .nil .nil) .nil)) (.node (o84_395 P) (.node (o150_651 P) (.node (o174_1163 P) .nil .nil) .nil) (.node (o150_907 P) (.node (o201_1419 P) .nil .nil) .nil))) (.node (o20_203 P) (.node (o84_331 P) (.node (o84_587 P) (.node (o174_1099 P) .nil .nil) .nil) (.node (o150_843 P) (.node (o201_1355 P) .nil .nil) .nil)) (.node (o84_459 P) (.node (o150_715 P) (.node (o201_1227 P) .nil .nil) .nil) (.node (o150_971 P) (.node (o201_1483 P) .nil .nil) .nil)))) (.node (o20_107 P) (.node (o20_171 P) (.node (o84_299 P) (.node (o84_555 P) (.node (o150_1067 P) .nil .nil) .nil) (.node (o150_811 P) (.node (o201_1323 P) .nil .nil) .nil)) (.node (o84_427 P) (.node (o150_683 P) (.node (o174_1195 P) .nil .nil) .nil) (.node (o150_939 P) (.node (o201_1451 P) .nil .nil) .nil))) (.node (o84_235 P) (.node (o84_363 P) (.node (o150_619 P) (.node (o174_1131 P) .nil .nil) .nil) (.node (o150_875 P) (.node (o201_1387 P) .nil .nil) .nil)) (.node (o84_491 P) (.node (o150_747 P) (.node (o201_1259 P) .nil .nil) .nil) (.node (o150_1003 P) (.node (o201_1515 P) .nil .nil) .nil))))) (.node (o20_59 P) (.node (o20_91 P) (.node (o20_155 P) (.node (o84_283 P) (.node (o84_539 P) (.node (o150_1051 P) .nil .nil) .nil) (.node (o150_795 P) (.node (o201_1307 P) .nil .nil) .nil)) (.node (o84_411 P) (.node (o150_667 P) (.node (o174_1179 P) .nil .nil) .nil) (.node (o150_923 P) (.node (o201_1435 P) .nil .nil) .nil))) (.node (o84_219 P) (.node (o84_347 P) (.node (o84_603 P) (.node (o174_1115 P) .nil .nil) .nil) (.node (o150_859 P) (.node (o201_1371 P) .nil .nil) .nil)) (.node (o84_475 P) (.node (o150_731 P) (.node (o201_1243 P) .nil .nil) .nil) (.node (o150_987 P) (.node (o201_1499 P) .nil .nil) .nil)))) (.node (o20_123 P) (.node (o20_187 P) (.node (o84_315 P) (.node (o84_571 P) (.node (o174_1083 P) .nil .nil) .nil) (.node (o150_827 P) (.node (o201_1339 P) .nil .nil) .nil)) (.node (o84_443 P) (.node (o150_699 P) (.node (o201_1211 P) .nil .nil) .nil) (.node (o150_955 P) (.node (o201_1467 P) .nil .nil) .nil))) (.node (o84_251 P) (.node (o84_379 P) (.node (o150_635 P) (.node (o174_1147 P) .nil .nil) .nil) (.node (o150_891 P) (.node (o201_1403 P) .nil .nil) .nil)) (.node (o84_507 P) (.node (o150_763 P) (.node (o201_1275 P) .nil .nil) .nil) (.node (o150_1019 P) .nil .nil)))))))) (.node (boot_o_5 P) (.node (boot_o_9 P) (.node (o20_17 P) (.node (o20_33 P) (.node (o20_65 P) (.node (o20_129 P) (.node (o84_257 P) (.node (o84_513 P) (.node (o150_1025 P) .nil .nil) .nil) (.node (o150_769 P) (.node (o201_1281 P) .nil .nil) .nil)) (.node (o84_385 P) (.node (o150_641 P) (.node (o174_1153 P) .nil .nil) .nil) (.node (o150_897 P) (.node (o201_1409 P) .nil .nil) .nil))) (.node (o20_193 P) (.node (o84_321 P) (.node (o84_577 P) (.node (o174_1089 P) .nil .nil) .nil) (.node (o150_833 P) (.node (o201_1345 P) .nil .nil) .nil)) (.node (o84_449 P) (.node (o150_705 P) (.node (o201_1217 P) .nil .nil) .nil) (.node (o150_961 P) (.node (o201_1473 P) .nil .nil) .nil)))) (.node (o20_97 P) (.node (o20_161 P) (.node (o84_289 P) (.node (o84_545 P) (.node (o150_1057 P) .nil .nil) .nil) (.node (o150_801 P) (.node (o201_1313 P) .nil .nil) .nil)) (.node (o84_417 P) (.node (o150_673 P) (.node (o174_1185 P) .nil .nil) .nil) (.node (o150_929 P) (.node (o201_1441 P) .nil .nil) .nil))) (.node (o84_225 P) (.node (o84_353 P) (.node (o150_609 P) (.node (o174_1121 P) .nil .nil) .nil) (.node (o150_865 P) (.node (o201_1377 P) .nil .nil) .nil)) (.node (o84_481 P) (.node (o150_737 P) (.node (o201_1249 P) .nil .nil) .nil) (.node (o150_993 P) (.node (o201_1505 P) .nil .nil) .nil))))) (.node (o20_49 P) (.node (o20_81 P) (.node (o20_145 P) (.node (o84_273 P) (.node (o84_529 P) (.node (o150_1041 P) .nil .nil) .nil) (.node (o150_785 P) (.node (o201_1297 P) .nil .nil) .nil)) (.node (o84_401 P) (.node (o150_657 P) (.node (o174_1169 P) .nil .nil) .nil) (.node (o150_913 P) (.node (o201_1425 P) .nil .nil) .nil))) (.node (o20_209 P) (.node (o84_337 P) (.node (o84_593 P) (.node (o174_1105 P) .nil .nil) .nil) (.node (o150_849 P) (.node (o201_1361 P) .nil .nil) .nil)) (.node (o84_465 P) (.node (o150_721 P) (.node (o201_1233 P) .nil .nil) .nil) (.node (o150_977 P) (.node (o201_1489 P) .nil .nil) .nil)))) (.node (o20_113 P) (.node (o20_177 P) (.node (o84_305 P) (.node (o84_561 P) (.node (o150_1073 P) .nil .nil) .nil) (.node (o150_817 P) (.node (o201_1329 P) .nil .nil) .nil)) (.node (o84_433 P) (.node (o150_689 P) (.node (o201_1201 P) .nil .nil) .nil) (.node (o150_945 P) (.node (o201_1457 P) .nil .nil) .nil))) (.node (o84_241 P) (.node (o84_369 P) (.node (o150_625 P) (.node (o174_1137 P) .nil .nil) .nil) (.node (o150_881 P) (.node (o201_1393 P) .nil .nil) .nil)) (.node (o84_497 P) (.node (o150_753 P) (.node (o201_1265 P) .nil .nil) .nil) (.node (o150_1009 P) (.node (o201_1521 P) .nil .nil) .nil)))))) (.node (o20_25 P) (.node (o20_41 P) (.node (o20_73 P) (.node (o20_137 P) (.node (o84_265 P) (.node (o84_521 P) (.node (o150_1033 P) .nil .nil) .nil) (.node (o150_777 P) (.node (o201_1289 P) .nil .nil) .nil)) (.node (o84_393 P) (.node (o150_649 P) (.node (o174_1161 P) .nil .nil) .nil) (.node (o150_905 P) (.node (o201_1417 P) .nil .nil) .nil))) (.node (o20_201 P) (.node (o84_329 P) (.node (o84_585 P) (.node (o174_1097 P) .nil .nil) .nil) (.node (o150_841 P) (.node (o201_1353 P) .nil .nil) .nil)) (.node (o84_457 P) (.node (o150_713 P) (.node (o201_1225 P) .nil .nil) .nil) (.node (o150_969 P) (.node (o201_1481 P) .nil .nil) .nil)))) (.node (o20_105 P) (.node (o20_169 P) (.node (o84_297 P) (.node (o84_553 P) (.node (o150_1065 P) .nil .nil) .nil) (.node (o150_809 P) (.node (o201_1321 P) .nil .nil) .nil)) (.node (o84_425 P) (.node (o150_681 P) (.node (o174_1193 P) .nil .nil) .nil) (.node (o150_937 P) (.node (o201_1449 P) .nil .nil) .nil))) (.node (o84_233 P) (.node (o84_361 P) (.node (o150_617 P) (.node (o174_1129 P) .nil .nil) .nil) (.node (o150_873 P) (.node (o201_1385 P) .nil .nil) .nil)) (.node (o84_489 P) (.node (o150_745 P) (.node (o201_1257 P) .nil .nil) .nil) (.node (o150_1001 P) (.node (o201_1513 P) .nil .nil) .nil))))) (.node (o20_57 P) (.node (o20_89 P) (.node (o20_153 P) (.node (o84_281 P) (.node (o84_537 P) (.node (o150_1049 P) .nil .nil) .nil) (.node (o150_793 P) (.node (o201_1305 P) .nil .nil) .nil)) (.node (o84_409 P) (.node (o150_665 P) (.node (o174_1177 P) .nil .nil) .nil) (.node (o150_921 P) (.node (o201_1433 P) .nil .nil) .nil))) (.node (o84_217 P) (.node (o84_345 P) (.node (o84_601 P) (.node (o174_1113 P) .nil .nil) .nil) (.node (o150_857 P) (.node (o201_1369 P) .nil .nil) .nil)) (.node (o84_473 P) (.node (o150_729 P) (.node (o201_1241 P) .nil .nil) .nil) (.node (o150_985 P) (.node (o201_1497 P) .nil .nil) .nil)))) (.node (o20_121 P) (.node (o20_185 P) (.node (o84_313 P) (.node (o84_569 P) (.node (o174_1081 P) .nil .nil) .nil) (.node (o150_825 P) (.node (o201_1337 P) .nil .nil) .nil)) (.node (o84_441 P) (.node (o150_697 P) (.node (o201_1209 P) .nil .nil) .nil) (.node (o150_953 P) (.node (o201_1465 P) .nil .nil) .nil))) (.node (o84_249 P) (.node (o84_377 P) (.node (o150_633 P) (.node (o174_1145 P) .nil .nil) .nil) (.node (o150_889 P) (.node (o201_1401 P) .nil .nil) .nil)) (.node (o84_505 P) (.node (o150_761 P) (.node (o201_1273 P) .nil .nil) .nil) (.node (o150_1017 P) .nil .nil))))))) (.node (oa_13 P) (.node (o20_21 P) (.node (o20_37 P) (.node (o20_69 P) (.node (o20_133 P) (.node (o84_261 P) (.node (o84_517 P) (.node (o150_1029 P) .nil .nil) .nil) (.node (o150_773 P) (.node (o201_1285 P) .nil .nil) .nil)) (.node (o84_389 P) (.node (o150_645 P) (.node (o174_1157 P) .nil .nil) .nil) (.node (o150_901 P) (.node (o201_1413 P) .nil .nil) .nil))) (.node (o20_197 P) (.node (o84_325 P) (.node (o84_581 P) (.node (o174_1093 P) .nil .nil) .nil) (.node (o150_837 P) (.node (o201_1349 P) .nil .nil) .nil)) (.node (o84_453 P) (.node (o150_709 P) (.node (o201_1221 P) .nil .nil) .nil) (.node (o150_965 P) (.node (o201_1477 P) .nil .nil) .nil)))) (.node (o20_101 P) (.node (o20_165 P) (.node (o84_293 P) (.node (o84_549 P) (.node (o150_1061 P) .nil .nil) .nil) (.node (o150_805 P) (.node (o201_1317 P) .nil .nil) .nil)) (.node (o84_421 P) (.node (o150_677 P) (.node (o174_1189 P) .nil .nil) .nil) (.node (o150_933 P) (.node (o201_1445 P) .nil .nil) .nil))) (.node (o84_229 P) (.node (o84_357 P) (.node (o150_613 P) (.node (o174_1125 P) .nil .nil) .nil) (.node (o150_869 P) (.node (o201_1381 P) .nil .nil) .nil)) (.node (o84_485 P) (.node (o150_741 P) (.node (o201_1253 P) .nil .nil) .nil) (.node (o150_997 P) (.node (o201_1509 P) .nil .nil) .nil))))) (.node (o20_53 P) (.node (o20_85 P) (.node (o20_149 P) (.node (o84_277 P) (.node (o84_533 P) (.node (o150_1045 P) .nil .nil) .nil) (.node (o150_789 P) (.node (o201_1301 P) .nil .nil) .nil)) (.node (o84_405 P) (.node (o150_661 P) (.node (o174_1173 P) .nil .nil) .nil) (.node (o150_917 P) (.node (o201_1429 P) .nil .nil) .nil))) (.node (o84_213 P) (.node (o84_341 P) (.node (o84_597 P) (.node (o174_1109 P) .nil .nil) .nil) (.node (o150_853 P) (.node (o201_1365 P) .nil .nil) .nil)) (.node (o84_469 P) (.node (o150_725 P) (.node (o201_1237 P) .nil .nil) .nil) (.node (o150_981 P) (.node (o201_1493 P) .nil .nil) .nil)))) (.node (o20_117 P) (.node (o20_181 P) (.node (o84_309 P) (.node (o84_565 P) (.node (o174_1077 P) .nil .nil) .nil) (.node (o150_821 P) (.node (o201_1333 P) .nil .nil) .nil)) (.node (o84_437 P) (.node (o150_693 P) (.node (o201_1205 P) .nil .nil) .nil) (.node (o150_949 P) (.node (o201_1461 P) .nil .nil) .nil))) (.node (o84_245 P) (.node (o84_373 P) (.node (o150_629 P) (.node (o174_1141 P) .nil .nil) .nil) (.node (o150_885 P) (.node (o201_1397 P) .nil .nil) .nil)) (.node (o84_501 P) (.node (o150_757 P) (.node (o201_1269 P) .nil .nil) .nil) (.node (o150_1013 P) .nil .nil)))))) (.node (o20_29 P) (.node (o20_45 P) (.node (o20_77 P) (.node (o20_141 P) (.node (o84_269 P) (.node (o84_525 P) (.node (o150_1037 P) .nil .nil) .nil) (.node (o150_781 P) (.node (o201_1293 P) .nil .nil) .nil)) (.node (o84_397 P) (.node (o150_653 P) (.node (o174_1165 P) .nil .nil) .nil) (.node (o150_909 P) (.node (o201_1421 P) .nil .nil) .nil))) (.node (o20_205 P) (.node (o84_333 P) (.node (o84_589 P) (.node (o174_1101 P) .nil .nil) .nil) (.node (o150_845 P) (.node (o201_1357 P) .nil .nil) .nil)) (.node (o84_461 P) (.node (o150_717 P) (.node (o201_1229 P) .nil .nil) .nil) (.node (o150_973 P) (.node (o201_1485 P) .nil .nil) .nil)))) (.node (o20_109 P) (.node (o20_173 P) (.node (o84_301 P) (.node (o84_557 P) (.node (o150_1069 P) .nil .nil) .nil) (.node (o150_813 P) (.node (o201_1325 P) .nil .nil) .nil)) (.node (o84_429 P) (.node (o150_685 P) (.node (o174_1197 P) .nil .nil) .nil) (.node (o150_941 P) (.node (o201_1453 P) .nil .nil) .nil))) (.node (o84_237 P) (.node (o84_365 P) (.node (o150_621 P) (.node (o174_1133 P) .nil .nil) .nil) (.node (o150_877 P) (.node (o201_1389 P) .nil .nil) .nil)) (.node (o84_493 P) (.node (o150_749 P) (.node (o201_1261 P) .nil .nil) .nil) (.node (o150_1005 P) (.node (o201_1517 P) .nil .nil) .nil))))) (.node (o20_61 P) (.node (o20_93 P) (.node (o20_157 P) (.node (o84_285 P) (.node (o84_541 P) (.node (o150_1053 P) .nil .nil) .nil) (.node (o150_797 P) (.node (o201_1309 P) .nil .nil) .nil)) (.node (o84_413 P) (.node (o150_669 P) (.node (o174_1181 P) .nil .nil) .nil) (.node (o150_925 P) (.node (o201_1437 P) .nil .nil) .nil))) (.node (o84_221 P) (.node (o84_349 P) (.node (o85_605 P) (.node (o174_1117 P) .nil .nil) .nil) (.node (o150_861 P) (.node (o201_1373 P) .nil .nil) .nil)) (.node (o84_477 P) (.node (o150_733 P) (.node (o201_1245 P) .nil .nil) .nil) (.node (o150_989 P) (.node (o201_1501 P) .nil .nil) .nil)))) (.node (o20_125 P) (.node (o20_189 P) (.node (o84_317 P) (.node (o84_573 P) (.node (o174_1085 P) .nil .nil) .nil) (.node (o150_829 P) (.node (o201_1341 P) .nil .nil) .nil)) (.node (o84_445 P) (.node (o150_701 P) (.node (o201_1213 P) .nil .nil) .nil) (.node (o150_957 P) (.node (o201_1469 P) .nil .nil) .nil))) (.node (o84_253 P) (.node (o84_381 P) (.node (o150_637 P) (.node (o174_1149 P) .nil .nil) .nil) (.node (o150_893 P) (.node (o201_1405 P) .nil .nil) .nil)) (.node (o84_509 P) (.node (o150_765 P) (.node (o201_1277 P) .nil .nil) .nil) (.node (o150_1021 P) .nil .nil))))))))) (.node (boot_o_2 P) (.node (boot_o_4 P) (.node (boot_o_8 P) (.node (o20_16 P) (.node (o20_32 P) (.node (o20_64 P) (.node (o20_128 P) (.node (o84_256 P) (.node (o84_512 P) (.node (o150_1024 P) .nil .nil) .nil) (.node (o150_768 P) (.node (o201_1280 P) .nil .nil) .nil)) (.node (o84_384 P) (.node (o150_640 P) (.node (o174_1152 P) .nil .nil) .nil) (.node (o150_896 P) (.node (o201_1408 P) .nil .nil) .nil))) (.node (o20_192 P) (.node (o84_320 P) (.node (o84_576 P) (.node (o174_1088 P) .nil .nil) .nil) (.node (o150_832 P) (.node (o201_1344 P) .nil .nil) .nil)) (.node (o84_448 P) (.node (o150_704 P) (.node (o201_1216 P) .nil .nil) .nil) (.node (o150_960 P) (.node (o201_1472 P) .nil .nil) .nil)))) (.node (o20_96 P) (.node (o20_160 P) (.node (o84_288 P) (.node (o84_544 P) (.node (o150_1056 P) .nil .nil) .nil) (.node (o150_800 P) (.node (o201_1312 P) .nil .nil) .nil)) (.node (o84_416 P) (.node (o150_672 P) (.node (o174_1184 P) .nil .nil) .nil) (.node (o150_928 P) (.node (o201_1440 P) .nil .nil) .nil))) (.node (o84_224 P) (.node (o84_352 P) (.node (o150_608 P) (.node (o174_1120 P) .nil .nil) .nil) (.node (o150_864 P) (.node (o201_1376 P) .nil .nil) .nil)) (.node (o84_480 P) (.node (o150_736 P) (.node (o201_1248 P) .nil .nil) .nil) (.node (o150_992 P) (.node (o201_1504 P) .nil .nil) .nil))))) (.node (o20_48 P) (.node (o20_80 P) (.node (o20_144 P) (.node (o84_272 P) (.node (o84_528 P) (.node (o150_1040 P) .nil .nil) .nil) (.node (o150_784 P) (.node (o201_1296 P) .nil .nil) .nil)) (.node (o84_400 P) (.node (o150_656 P) (.node (o174_1168 P) .nil .nil) .nil) (.node (o150_912 P) (.node (o201_1424 P) .nil .nil) .nil))) (.node (o20_208 P) (.node (o84_336 P) (.node (o84_592 P) (.node (o174_1104 P) .nil .nil) .nil) (.node (o150_848 P) (.node (o201_1360 P) .nil .nil) .nil)) (.node (o84_464 P) (.node (o150_720 P) (.node (o201_1232 P) .nil .nil) .nil) (.node (o150_976 P) (.node (o201_1488 P) .nil .nil) .nil)))) (.node (o20_112 P) (.node (o20_176 P) (.node (o84_304 P) (.node (o84_560 P) (.node (o150_1072 P) .nil .nil) .nil) (.node (o150_816 P) (.node (o201_1328 P) .nil .nil) .nil)) (.node (o84_432 P) (.node (o150_688 P) (.node (o201_1200 P) .nil .nil) .nil) (.node (o150_944 P) (.node (o201_1456 P) .nil .nil) .nil))) (.node (o84_240 P) (.node (o84_368 P) (.node (o150_624 P) (.node (o174_1136 P) .nil .nil) .nil) (.node (o150_880 P) (.node (o201_1392 P) .nil .nil) .nil)) (.node (o84_496 P) (.node (o150_752 P) (.node (o201_1264 P) .nil .nil) .nil) (.node (o150_1008 P) (.node (o201_1520 P) .nil .nil) .nil)))))) (.node (o20_24 P) (.node (o20_40 P) (.node (o20_72 P) (.node (o20_136 P) (.node (o84_264 P) (.node (o84_520 P) (.node (o150_1032 P) .nil .nil) .nil) (.node (o150_776 P) (.node (o201_1288 P) .nil .nil) .nil)) (.node (o84_392 P) (.node (o150_648 P) (.node (o174_1160 P) .nil .nil) .nil) (.node (o150_904 P) (.node (o201_1416 P) .nil .nil) .nil))) (.node (o20_200 P) (.node (o84_328 P) (.node (o84_584 P) (.node (o174_1096 P) .nil .nil) .nil) (.node (o150_840 P) (.node (o201_1352 P) .nil .nil) .nil)) (.node (o84_456 P) (.node (o150_712 P) (.node (o201_1224 P) .nil .nil) .nil) (.node (o150_968 P) (.node (o201_1480 P) .nil .nil) .nil)))) (.node (o20_104 P) (.node (o20_168 P) (.node (o84_296 P) (.node (o84_552 P) (.node (o150_1064 P) .nil .nil) .nil) (.node (o150_808 P) (.node (o201_1320 P) .nil .nil) .nil)) (.node (o84_424 P) (.node (o150_680 P) (.node (o174_1192 P) .nil .nil) .nil) (.node (o150_936 P) (.node (o201_1448 P) .nil .nil) .nil))) (.node (o84_232 P) (.node (o84_360 P) (.node (o150_616 P) (.node (o174_1128 P) .nil .nil) .nil) (.node (o150_872 P) (.node (o201_1384 P) .nil .nil) .nil)) (.node (o84_488 P) (.node (o150_744 P) (.node (o201_1256 P) .nil .nil) .nil) (.node (o150_1000 P) (.node (o201_1512 P) .nil .nil) .nil))))) (.node (o20_56 P) (.node (o20_88 P) (.node (o20_152 P) (.node (o84_280 P) (.node (o84_536 P) (.node (o150_1048 P) .nil .nil) .nil) (.node (o150_792 P) (.node (o201_1304 P) .nil .nil) .nil)) (.node (o84_408 P) (.node (o150_664 P) (.node (o174_1176 P) .nil .nil) .nil) (.node (o150_920 P) (.node (o201_1432 P) .nil .nil) .nil))) (.node (o84_216 P) (.node (o84_344 P) (.node (o84_600 P) (.node (o174_1112 P) .nil .nil) .nil) (.node (o150_856 P) (.node (o201_1368 P) .nil .nil) .nil)) (.node (o84_472 P) (.node (o150_728 P) (.node (o201_1240 P) .nil .nil) .nil) (.node (o150_984 P) (.node (o201_1496 P) .nil .nil) .nil)))) (.node (o20_120 P) (.node (o20_184 P) (.node (o84_312 P) (.node (o84_568 P) (.node (o174_1080 P) .nil .nil) .nil) (.node (o150_824 P) (.node (o201_1336 P) .nil .nil) .nil)) (.node (o84_440 P) (.node (o150_696 P) (.node (o201_1208 P) .nil .nil) .nil) (.node (o150_952 P) (.node (o201_1464 P) .nil .nil) .nil))) (.node (o84_248 P) (.node (o84_376 P) (.node (o150_632 P) (.node (o174_1144 P) .nil .nil) .nil) (.node (o150_888 P) (.node (o201_1400 P) .nil .nil) .nil)) (.node (o84_504 P) (.node (o150_760 P) (.node (o201_1272 P) .nil .nil) .nil) (.node (o150_1016 P) .nil .nil))))))) (.node (o201_12 P) (.node (o20_20 P) (.node (o20_36 P) (.node (o20_68 P) (.node (o20_132 P) (.node (o84_260 P) (.node (o84_516 P) (.node (o150_1028 P) .nil .nil) .nil) (.node (o150_772 P) (.node (o201_1284 P) .nil .nil) .nil)) (.node (o84_388 P) (.node (o150_644 P) (.node (o174_1156 P) .nil .nil) .nil) (.node (o150_900 P) (.node (o201_1412 P) .nil .nil) .nil))) (.node (o20_196 P) (.node (o84_324 P) (.node (o84_580 P) (.node (o174_1092 P) .nil .nil) .nil) (.node (o150_836 P) (.node (o201_1348 P) .nil .nil) .nil)) (.node (o84_452 P) (.node (o150_708 P) (.node (o201_1220 P) .nil .nil) .nil) (.node (o150_964 P) (.node (o201_1476 P) .nil .nil) .nil)))) (.node (o20_100 P) (.node (o20_164 P) (.node (o84_292 P) (.node (o84_548 P) (.node (o150_1060 P) .nil .nil) .nil) (.node (o150_804 P) (.node (o201_1316 P) .nil .nil) .nil)) (.node (o84_420 P) (.node (o150_676 P) (.node (o174_1188 P) .nil .nil) .nil) (.node (o150_932 P) (.node (o201_1444 P) .nil .nil) .nil))) (.node (o84_228 P) (.node (o84_356 P) (.node (o150_612 P) (.node (o174_1124 P) .nil .nil) .nil) (.node (o150_868 P) (.node (o201_1380 P) .nil .nil) .nil)) (.node (o84_484 P) (.node (o150_740 P) (.node (o201_1252 P) .nil .nil) .nil) (.node (o150_996 P) (.node (o201_1508 P) .nil .nil) .nil))))) (.node (o20_52 P) (.node (o20_84 P) (.node (o20_148 P) (.node (o84_276 P) (.node (o84_532 P) (.node (o150_1044 P) .nil .nil) .nil) (.node (o150_788 P) (.node (o201_1300 P) .nil .nil) .nil)) (.node (o84_404 P) (.node (o150_660 P) (.node (o174_1172 P) .nil .nil) .nil) (.node (o150_916 P) (.node (o201_1428 P) .nil .nil) .nil))) (.node (o84_212 P) (.node (o84_340 P) (.node (o84_596 P) (.node (o174_1108 P) .nil .nil) .nil) (.node (o150_852 P) (.node (o201_1364 P) .nil .nil) .nil)) (.node (o84_468 P) (.node (o150_724 P) (.node (o201_1236 P) .nil .nil) .nil) (.node (o150_980 P) (.node (o201_1492 P) .nil .nil) .nil)))) (.node (o20_116 P) (.node (o20_180 P) (.node (o84_308 P) (.node (o84_564 P) (.node (o174_1076 P) .nil .nil) .nil) (.node (o150_820 P) (.node (o201_1332 P) .nil .nil) .nil)) (.node (o84_436 P) (.node (o150_692 P) (.node (o201_1204 P) .nil .nil) .nil) (.node (o150_948 P) (.node (o201_1460 P) .nil .nil) .nil))) (.node (o84_244 P) (.node (o84_372 P) (.node (o150_628 P) (.node (o174_1140 P) .nil .nil) .nil) (.node (o150_884 P) (.node (o201_1396 P) .nil .nil) .nil)) (.node (o84_500 P) (.node (o150_756 P) (.node (o201_1268 P) .nil .nil) .nil) (.node (o150_1012 P) .nil .nil)))))) (.node (o20_28 P) (.node (o20_44 P) (.node (o20_76 P) (.node (o20_140 P) (.node (o84_268 P) (.node (o84_524 P) (.node (o150_1036 P) .nil .nil) .nil) (.node (o150_780 P) (.node (o201_1292 P) .nil .nil) .nil)) (.node (o84_396 P) (.node (o150_652 P) (.node (o174_1164 P) .nil .nil) .nil) (.node (o150_908 P) (.node (o201_1420 P) .nil .nil) .nil))) (.node (o20_204 P) (.node (o84_332 P) (.node (o84_588 P) (.node (o174_1100 P) .nil .nil) .nil) (.node (o150_844 P) (.node (o201_1356 P) .nil .nil) .nil)) (.node (o84_460 P) (.node (o150_716 P) (.node (o201_1228 P) .nil .nil) .nil) (.node (o150_972 P) (.node (o201_1484 P) .nil .nil) .nil)))) (.node (o20_108 P) (.node (o20_172 P) (.node (o84_300 P) (.node (o84_556 P) (.node (o150_1068 P) .nil .nil) .nil) (.node (o150_812 P) (.node (o201_1324 P) .nil .nil) .nil)) (.node (o84_428 P) (.node (o150_684 P) (.node (o174_1196 P) .nil .nil) .nil) (.node (o150_940 P) (.node (o201_1452 P) .nil .nil) .nil))) (.node (o84_236 P) (.node (o84_364 P) (.node (o150_620 P) (.node (o174_1132 P) .nil .nil) .nil) (.node (o150_876 P) (.node (o201_1388 P) .nil .nil) .nil)) (.node (o84_492 P) (.node (o150_748 P) (.node (o201_1260 P) .nil .nil) .nil) (.node (o150_1004 P) (.node (o201_1516 P) .nil .nil) .nil))))) (.node (o20_60 P) (.node (o20_92 P) (.node (o20_156 P) (.node (o84_284 P) (.node (o84_540 P) (.node (o150_1052 P) .nil .nil) .nil) (.node (o150_796 P) (.node (o201_1308 P) .nil .nil) .nil)) (.node (o84_412 P) (.node (o150_668 P) (.node (o174_1180 P) .nil .nil) .nil) (.node (o150_924 P) (.node (o201_1436 P) .nil .nil) .nil))) (.node (o84_220 P) (.node (o84_348 P) (.node (o84_604 P) (.node (o174_1116 P) .nil .nil) .nil) (.node (o150_860 P) (.node (o201_1372 P) .nil .nil) .nil)) (.node (o84_476 P) (.node (o150_732 P) (.node (o201_1244 P) .nil .nil) .nil) (.node (o150_988 P) (.node (o201_1500 P) .nil .nil) .nil)))) (.node (o20_124 P) (.node (o20_188 P) (.node (o84_316 P) (.node (o84_572 P) (.node (o174_1084 P) .nil .nil) .nil) (.node (o150_828 P) (.node (o201_1340 P) .nil .nil) .nil)) (.node (o84_444 P) (.node (o150_700 P) (.node (o201_1212 P) .nil .nil) .nil) (.node (o150_956 P) (.node (o201_1468 P) .nil .nil) .nil))) (.node (o84_252 P) (.node (o84_380 P) (.node (o150_636 P) (.node (o174_1148 P) .nil .nil) .nil) (.node (o150_892 P) (.node (o201_1404 P) .nil .nil) .nil)) (.node (o84_508 P) (.node (o150_764 P) (.node (o201_1276 P) .nil .nil) .nil) (.node (o150_1020 P) .nil .nil)))))))) (.node (boot_o_6 P) (.node (boot_o_10 P) (.node (o20_18 P) (.node (o20_34 P) (.node (o20_66 P) (.node (o20_130 P) (.node (o84_258 P) (.node (o84_514 P) (.node (o150_1026 P) .nil .nil) .nil) (.node (o150_770 P) (.node (o201_1282 P) .nil .nil) .nil)) (.node (o84_386 P) (.node (o150_642 P) (.node (o174_1154 P) .nil .nil) .nil) (.node (o150_898 P) (.node (o201_1410 P) .nil .nil) .nil))) (.node (o20_194 P) (.node (o84_322 P) (.node (o84_578 P) (.node (o174_1090 P) .nil .nil) .nil) (.node (o150_834 P) (.node (o201_1346 P) .nil .nil) .nil)) (.node (o84_450 P) (.node (o150_706 P) (.node (o201_1218 P) .nil .nil) .nil) (.node (o150_962 P) (.node (o201_1474 P) .nil .nil) .nil)))) (.node (o20_98 P) (.node (o20_162 P) (.node (o84_290 P) (.node (o84_546 P) (.node (o150_1058 P) .nil .nil) .nil) (.node (o150_802 P) (.node (o201_1314 P) .nil .nil) .nil)) (.node (o84_418 P) (.node (o150_674 P) (.node (o174_1186 P) .nil .nil) .nil) (.node (o150_930 P) (.node (o201_1442 P) .nil .nil) .nil))) (.node (o84_226 P) (.node (o84_354 P) (.node (o150_610 P) (.node (o174_1122 P) .nil .nil) .nil) (.node (o150_866 P) (.node (o201_1378 P) .nil .nil) .nil)) (.node (o84_482 P) (.node (o150_738 P) (.node (o201_1250 P) .nil .nil) .nil) (.node (o150_994 P) (.node (o201_1506 P) .nil .nil) .nil))))) (.node (o20_50 P) (.node (o20_82 P) (.node (o20_146 P) (.node (o84_274 P) (.node (o84_530 P) (.node (o150_1042 P) .nil .nil) .nil) (.node (o150_786 P) (.node (o201_1298 P) .nil .nil) .nil)) (.node (o84_402 P) (.node (o150_658 P) (.node (o174_1170 P) .nil .nil) .nil) (.node (o150_914 P) (.node (o201_1426 P) .nil .nil) .nil))) (.node (o20_210 P) (.node (o84_338 P) (.node (o84_594 P) (.node (o174_1106 P) .nil .nil) .nil) (.node (o150_850 P) (.node (o201_1362 P) .nil .nil) .nil)) (.node (o84_466 P) (.node (o150_722 P) (.node (o201_1234 P) .nil .nil) .nil) (.node (o150_978 P) (.node (o201_1490 P) .nil .nil) .nil)))) (.node (o20_114 P) (.node (o20_178 P) (.node (o84_306 P) (.node (o84_562 P) (.node (o174_1074 P) .nil .nil) .nil) (.node (o150_818 P) (.node (o201_1330 P) .nil .nil) .nil)) (.node (o84_434 P) (.node (o150_690 P) (.node (o201_1202 P) .nil .nil) .nil) (.node (o150_946 P) (.node (o201_1458 P) .nil .nil) .nil))) (.node (o84_242 P) (.node (o84_370 P) (.node (o150_626 P) (.node (o174_1138 P) .nil .nil) .nil) (.node (o150_882 P) (.node (o201_1394 P) .nil .nil) .nil)) (.node (o84_498 P) (.node (o150_754 P) (.node (o201_1266 P) .nil .nil) .nil) (.node (o150_1010 P) (.node (o201_1522 P) .nil .nil) .nil)))))) (.node (o20_26 P) (.node (o20_42 P) (.node (o20_74 P) (.node (o20_138 P) (.node (o84_266 P) (.node (o84_522 P) (.node (o150_1034 P) .nil .nil) .nil) (.node (o150_778 P) (.node (o201_1290 P) .nil .nil) .nil)) (.node (o84_394 P) (.node (o150_650 P) (.node (o174_1162 P) .nil .nil) .nil) (.node (o150_906 P) (.node (o201_1418 P) .nil .nil) .nil))) (.node (o20_202 P) (.node (o84_330 P) (.node (o84_586 P) (.node (o174_1098 P) .nil .nil) .nil) (.node (o150_842 P) (.node (o201_1354 P) .nil .nil) .nil)) (.node (o84_458 P) (.node (o150_714 P) (.node (o201_1226 P) .nil .nil) .nil) (.node (o150_970 P) (.node (o201_1482 P) .nil .nil) .nil)))) (.node (o20_106 P) (.node (o20_170 P) (.node (o84_298 P) (.node (o84_554 P) (.node (o150_1066 P) .nil .nil) .nil) (.node (o150_810 P) (.node (o201_1322 P) .nil .nil) .nil)) (.node (o84_426 P) (.node (o150_682 P) (.node (o174_1194 P) .nil .nil) .nil) (.node (o150_938 P) (.node (o201_1450 P) .nil .nil) .nil))) (.node (o84_234 P) (.node (o84_362 P) (.node (o150_618 P) (.node (o174_1130 P) .nil .nil) .nil) (.node (o150_874 P) (.node (o201_1386 P) .nil .nil) .nil)) (.node (o84_490 P) (.node (o150_746 P) (.node (o201_1258 P) .nil .nil) .nil) (.node (o150_1002 P) (.node (o201_1514 P) .nil .nil) .nil))))) (.node (o20_58 P) (.node (o20_90 P) (.node (o20_154 P) (.node (o84_282 P) (.node (o84_538 P) (.node (o150_1050 P) .nil .nil) .nil) (.node (o150_794 P) (.node (o201_1306 P) .nil .nil) .nil)) (.node (o84_410 P) (.node (o150_666 P) (.node (o174_1178 P) .nil .nil) .nil) (.node (o150_922 P) (.node (o201_1434 P) .nil .nil) .nil))) (.node (o84_218 P) (.node (o84_346 P) (.node (o84_602 P) (.node (o174_1114 P) .nil .nil) .nil) (.node (o150_858 P) (.node (o201_1370 P) .nil .nil) .nil)) (.node (o84_474 P) (.node (o150_730 P) (.node (o201_1242 P) .nil .nil) .nil) (.node (o150_986 P) (.node (o201_1498 P) .nil .nil) .nil)))) (.node (o20_122 P) (.node (o20_186 P) (.node (o84_314 P) (.node (o84_570 P) (.node (o174_1082 P) .nil .nil) .nil) (.node (o150_826 P) (.node (o201_1338 P) .nil .nil) .nil)) (.node (o84_442 P) (.node (o150_698 P) (.node (o201_1210 P) .nil .nil) .nil) (.node (o150_954 P) (.node (o201_1466 P) .nil .nil) .nil))) (.node (o84_250 P) (.node (o84_378 P) (.node (o150_634 P) (.node (o174_1146 P) .nil .nil) .nil) (.node (o150_890 P) (.node (o201_1402 P) .nil .nil) .nil)) (.node (o84_506 P) (.node (o150_762 P) (.node (o201_1274 P) .nil .nil) .nil) (.node (o150_1018 P) .nil .nil))))))) (.node (oa_14 P) (.node (o20_22 P) (.node (o20_38 P) (.node (o20_70 P) (.node (o20_134 P) (.node (o84_262 P) (.node (o84_518 P) (.node (o150_1030 P) .nil .nil) .nil) (.node (o150_774 P) (.node (o201_1286 P) .nil .nil) .nil)) (.node (o84_390 P) (.node (o150_646 P) (.node (o174_1158 P) .nil .nil) .nil) (.node (o150_902 P) (.node (o201_1414 P) .nil .nil) .nil))) (.node (o20_198 P) (.node (o84_326 P) (.node (o84_582 P) (.node (o174_1094 P) .nil .nil) .nil) (.node (o150_838 P) (.node (o201_1350 P) .nil .nil) .nil)) (.node (o84_454 P) (.node (o150_710 P) (.node (o201_1222 P) .nil .nil) .nil) (.node (o150_966 P) (.node (o201_1478 P) .nil .nil) .nil)))) (.node (o20_102 P) (.node (o20_166 P) (.node (o84_294 P) (.node (o84_550 P) (.node (o150_1062 P) .nil .nil) .nil) (.node (o150_806 P) (.node (o201_1318 P) .nil .nil) .nil)) (.node (o84_422 P) (.node (o150_678 P) (.node (o174_1190 P) .nil .nil) .nil) (.node (o150_934 P) (.node (o201_1446 P) .nil .nil) .nil))) (.node (o84_230 P) (.node (o84_358 P) (.node (o150_614 P) (.node (o174_1126 P) .nil .nil) .nil) (.node (o150_870 P) (.node (o201_1382 P) .nil .nil) .nil)) (.node (o84_486 P) (.node (o150_742 P) (.node (o201_1254 P) .nil .nil) .nil) (.node (o150_998 P) (.node (o201_1510 P) .nil .nil) .nil))))) (.node (o20_54 P) (.node (o20_86 P) (.node (o20_150 P) (.node (o84_278 P) (.node (o84_534 P) (.node (o150_1046 P) .nil .nil) .nil) (.node (o150_790 P) (.node (o201_1302 P) .nil .nil) .nil)) (.node (o84_406 P) (.node (o150_662 P) (.node (o174_1174 P) .nil .nil) .nil) (.node (o150_918 P) (.node (o201_1430 P) .nil .nil) .nil))) (.node (o84_214 P) (.node (o84_342 P) (.node (o84_598 P) (.node (o174_1110 P) .nil .nil) .nil) (.node (o150_854 P) (.node (o201_1366 P) .nil .nil) .nil)) (.node (o84_470 P) (.node (o150_726 P) (.node (o201_1238 P) .nil .nil) .nil) (.node (o150_982 P) (.node (o201_1494 P) .nil .nil) .nil)))) (.node (o20_118 P) (.node (o20_182 P) (.node (o84_310 P) (.node (o84_566 P) (.node (o174_1078 P) .nil .nil) .nil) (.node (o150_822 P) (.node (o201_1334 P) .nil .nil) .nil)) (.node (o84_438 P) (.node (o150_694 P) (.node (o201_1206 P) .nil .nil) .nil) (.node (o150_950 P) (.node (o201_1462 P) .nil .nil) .nil))) (.node (o84_246 P) (.node (o84_374 P) (.node (o150_630 P) (.node (o174_1142 P) .nil .nil) .nil) (.node (o150_886 P) (.node (o201_1398 P) .nil .nil) .nil)) (.node (o84_502 P) (.node (o150_758 P) (.node (o201_1270 P) .nil .nil) .nil) (.node (o150_1014 P) .nil .nil)))))) (.node (o20_30 P) (.node (o20_46 P) (.node (o20_78 P) (.node (o20_142 P) (.node (o84_270 P) (.node (o84_526 P) (.node (o150_1038 P) .nil .nil) .nil) (.node (o150_782 P) (.node (o201_1294 P) .nil .nil) .nil)) (.node (o84_398 P) (.node (o150_654 P) (.node (o174_1166 P) .nil .nil) .nil) (.node (o150_910 P) (.node (o201_1422 P) .nil .nil) .nil))) (.node (o20_206 P) (.node (o84_334 P) (.node (o84_590 P) (.node (o174_1102 P) .nil .nil) .nil) (.node (o150_846 P) (.node (o201_1358 P) .nil .nil) .nil)) (.node (o84_462 P) (.node (o150_718 P) (.node (o201_1230 P) .nil .nil) .nil) (.node (o150_974 P) (.node (o201_1486 P) .nil .nil) .nil)))) (.node (o20_110 P) (.node (o20_174 P) (.node (o84_302 P) (.node (o84_558 P) (.node (o150_1070 P) .nil .nil) .nil) (.node (o150_814 P) (.node (o201_1326 P) .nil .nil) .nil)) (.node (o84_430 P) (.node (o150_686 P) (.node (o175_1198 P) .nil .nil) .nil) (.node (o150_942 P) (.node (o201_1454 P) .nil .nil) .nil))) (.node (o84_238 P) (.node (o84_366 P) (.node (o150_622 P) (.node (o174_1134 P) .nil .nil) .nil) (.node (o150_878 P) (.node (o201_1390 P) .nil .nil) .nil)) (.node (o84_494 P) (.node (o150_750 P) (.node (o201_1262 P) .nil .nil) .nil) (.node (o150_1006 P) (.node (o201_1518 P) .nil .nil) .nil))))) (.node (o20_62 P) (.node (o20_94 P) (.node (o20_158 P) (.node (o84_286 P) (.node (o84_542 P) (.node (o150_1054 P) .nil .nil) .nil) (.node (o150_798 P) (.node (o201_1310 P) .nil .nil) .nil)) (.node (o84_414 P) (.node (o150_670 P) (.node (o174_1182 P) .nil .nil) .nil) (.node (o150_926 P) (.node (o201_1438 P) .nil .nil) .nil))) (.node (o84_222 P) (.node (o84_350 P) (.node (o85_606 P) (.node (o174_1118 P) .nil .nil) .nil) (.node (o150_862 P) (.node (o201_1374 P) .nil .nil) .nil)) (.node (o84_478 P) (.node (o150_734 P) (.node (o201_1246 P) .nil .nil) .nil) (.node (o150_990 P) (.node (o201_1502 P) .nil .nil) .nil)))) (.node (o20_126 P) (.node (o20_190 P) (.node (o84_318 P) (.node (o84_574 P) (.node (o174_1086 P) .nil .nil) .nil) (.node (o150_830 P) (.node (o201_1342 P) .nil .nil) .nil)) (.node (o84_446 P) (.node (o150_702 P) (.node (o201_1214 P) .nil .nil) .nil) (.node (o150_958 P) (.node (o201_1470 P) .nil .nil) .nil))) (.node (o84_254 P) (.node (o84_382 P) (.node (o150_638 P) (.node (o174_1150 P) .nil .nil) .nil) (.node (o150_894 P) (.node (o201_1406 P) .nil .nil) .nil)) (.node (o84_510 P) (.node (o150_766 P) (.node (o201_1278 P) .nil .nil) .nil) (.node (o150_1022 P) .nil .nil))))))))))
def S201 (w : World) (os : OsState) : SharedT := ⟨T201 w.params, 1524, (boot_heap w.params).life, Array.mk [], boot_drawn, 2511, os⟩
end J93H
end
noncomputable section
namespace J93H
open PySem PySem.W PySem.Calls PyProof.Rows L2 HandSHeadRun

/-! ### so many steps; a run to the end of some statements -/
section
variable (st : SharedT → Thread → Option (SharedT × Thread)) (n0 : Nat) (ann : Option Value)
def goT : Nat → SharedT → Thread → Option (SharedT × Thread)
  | 0, s, t => some (s, t)
  | m + 1, s, t => match through t with
    | true => none
    | false => match stepOk n0 ann t with
      | false => none
      | true => match st s t with
        | some (s', t') => frS s' fun s' => goT m s' t'
        | none => none
def segF : Nat → SharedT → Thread → Option (SharedT × Code × Pos)
  | 0, _, _ => none
  | m + 1, s, t => match endAt 1 t with
    | some .next => some (s, t.code, t.pos)
    | some _ => none
    | none => match stepOk n0 ann t with
      | false => none
      | true => match st s t with
        | some (s', t') => frS s' fun s' => segF m s' t'
        | none => none
end
theorem goT_ok {tb : String → Option Builtin} {p : Program} {w : World} {n0 : Nat} {ann : Option Value} : ∀ {m : Nat} {s s' : SharedT} {t t' : Thread}, goT (stepT (denote tb) p w) n0 ann m s t = some (s', t') → topGo tb p w n0 ann m s.abs t = some (s'.abs, t')
  | 0, s, s', t, t', h => by
    cases h
    rfl
  | m + 1, s, s', t, t', h => by
    unfold goT at h
    unfold topGo
    cases ht : through t with
    | true => rw [ht] at h; cases h
    | false =>
      rw [ht] at h
      cases hk : stepOk n0 ann t with
      | false => rw [hk] at h; cases h
      | true =>
        rw [hk] at h
        cases hs : stepT (denote tb) p w s t with
        | none => rw [hs] at h; cases h
        | some r =>
          obtain ⟨s2, t2⟩ := r
          rw [hs] at h
          have h3 : (frS s2 fun s' => goT (stepT (denote tb) p w) n0 ann m s' t2) = some (s', t') := h
          rw [frS_eq] at h3
          rw [stepT_spec hs]
          exact goT_ok h3
theorem segF_ok {tb : String → Option Builtin} {p : Program} {w : World} {n0 : Nat} {ann : Option Value} : ∀ {m : Nat} {s s' : SharedT} {t : Thread} {c : Code} {q : Pos}, segF (stepT (denote tb) p w) n0 ann m s t = some (s', c, q) → segRun tb p w n0 ann 1 m s.abs t = some (.next, s'.abs, c, q)
  | 0, _, _, _, _, _, h => by cases h
  | m + 1, s, s', t, c, q, h => by
    unfold segF at h
    unfold segRun
    cases he : endAt 1 t with
    | some f =>
      rw [he] at h
      cases f with
      | next => cases h; rfl
      | _ => cases h
    | none =>
      rw [he] at h
      cases hk : stepOk n0 ann t with
      | false => rw [hk] at h; cases h
      | true =>
        rw [hk] at h
        cases hs : stepT (denote tb) p w s t with
        | none => rw [hs] at h; cases h
        | some r =>
          obtain ⟨s2, t2⟩ := r
          rw [hs] at h
          have h3 : (frS s2 fun s' => segF (stepT (denote tb) p w) n0 ann m s' t2) = some (s', c, q) := h
          rw [frS_eq] at h3
          rw [stepT_spec hs]
          exact segF_ok h3

/-! ### this program's pieces -/
def bod : List Stmt := behindTheImports R.prog
def sl (i k : Nat) : List Stmt := (bod.drop i).take k
theorem sl_drop (i k : Nat) : sl i k ++ bod.drop (i + k) = bod.drop i := by
  unfold sl
  rw [← List.drop_drop]
  exact List.take_append_drop k (bod.drop i)
def env0 : Env := { scope := R.prog.main.scope, locals := mainNs, globals := mainNs, cells := [], code := .ref 13, frame := some 14 }
def cE : Code := .body bod env0
def q0 : Pos := ⟨0, 0, 0, 0⟩
def ann0 : Option Value := some (.ref 6)
def T0 (P : Params) : BT := (.node (boot_o_0 P) (.node (boot_o_1 P) (.node (boot_o_3 P) (.node (boot_o_7 P) .nil .nil) .nil) (.node (boot_o_5 P) (.node (boot_o_9 P) .nil .nil) .nil)) (.node (boot_o_2 P) (.node (boot_o_4 P) (.node (boot_o_8 P) .nil .nil) .nil) (.node (boot_o_6 P) (.node (boot_o_10 P) .nil .nil) .nil)))
theorem put0 (P : Params) : putAll (boot_heap P).objs.toList .nil 0 = some (T0 P, 11) := by kernel_rfl
theorem ann_eq (w : World) : bootAnn w = ann0 := by kernel_rfl
theorem size_eq (w : World) : (boot_heap w.params).objs.size = 11 := by kernel_rfl
def S0 (w : World) (os : OsState) : SharedT := bootT w os (T0 w.params, 11)
theorem S0_abs (w : World) (os : OsState) : (S0 w os).abs = ⟨boot_heap w.params, #[], boot_drawn, boot_toks, os⟩ := by
  show (⟨absHeap (T0 w.params) 11 (boot_heap w.params).life, #[], boot_drawn, boot_toks, os⟩ : Shared) = _
  rw [putAll_heap (put0 w.params)]
/-- a piece: statements i … i + k - 1 lead from S to S' -/
def Pc (w : World) (m i k : Nat) (S S' : World → OsState → SharedT) (q q' : Pos) : Prop := ∀ os, segF (stepQ (denQ tabQ) R.prog w) 11 ann0 m (S w os) (piecesOf (sl i k) env0 cE q [topFrame q0]) = some (S' w os, cE, q')
theorem pre0 (w : World) (os : OsState) : goT (stepQ (denQ tabQ) R.prog w) 11 ann0 12 (S0 w os) (topStub R.prog) = some (Sa w os, ⟨denQ tabQ cE, cE, q0, [topFrame q0]⟩) := by kernel_rfl
theorem blk0 (w : World) (os : OsState) : segF (stepQ (denQ tabQ) R.prog w) 11 ann0 1 (Sa w os) (blockOf bod env0 cE q0 [topFrame q0]) = some (Sa w os, cE, q0) := by kernel_rfl
theorem pc20 (w : World) : Pc w 3135 0 20 Sa S20 q0 ⟨45, 0, 45, 12⟩ := by
  intro os
  kernel_rfl
theorem pc84 (w : World) : Pc w 3111 20 64 S20 S84 ⟨45, 0, 45, 12⟩ ⟨392, 0, 394, 35⟩ := by
  intro os
  kernel_rfl
theorem pc85_f (w : World) : Pc (w.withFollow "special-get-raises" false) 942 84 1 S84 S85 ⟨392, 0, 394, 35⟩ ⟨395, 0, 395, 5⟩ := by
  intro os
  kernel_rfl
theorem pc85_t (w : World) : Pc (w.withFollow "special-get-raises" true) 942 84 1 S84 S85 ⟨392, 0, 394, 35⟩ ⟨395, 0, 395, 5⟩ := by
  intro os
  kernel_rfl
theorem pc85 (w : World) : Pc w 942 84 1 S84 S85 ⟨392, 0, 394, 35⟩ ⟨395, 0, 395, 5⟩ := byRow2 "special-get-raises" (P := fun w => Pc w 942 84 1 S84 S85 ⟨392, 0, 394, 35⟩ ⟨395, 0, 395, 5⟩) pc85_f pc85_t w
theorem pc150 (w : World) : Pc w 3435 85 65 S85 S150 ⟨395, 0, 395, 5⟩ ⟨809, 0, 814, 16⟩ := by
  intro os
  kernel_rfl
theorem pc174 (w : World) : Pc w 1749 150 24 S150 S174 ⟨809, 0, 814, 16⟩ ⟨982, 0, 982, 9⟩ := by
  intro os
  kernel_rfl
theorem pc175_f (w : World) : Pc (w.withFollow "special-get-raises" false) 1205 174 1 S174 S175 ⟨982, 0, 982, 9⟩ ⟨983, 0, 983, 5⟩ := by
  intro os
  kernel_rfl
theorem pc175_t (w : World) : Pc (w.withFollow "special-get-raises" true) 1205 174 1 S174 S175 ⟨982, 0, 982, 9⟩ ⟨983, 0, 983, 5⟩ := by
  intro os
  kernel_rfl
theorem pc175 (w : World) : Pc w 1205 174 1 S174 S175 ⟨982, 0, 982, 9⟩ ⟨983, 0, 983, 5⟩ := byRow2 "special-get-raises" (P := fun w => Pc w 1205 174 1 S174 S175 ⟨982, 0, 982, 9⟩ ⟨983, 0, 983, 5⟩) pc175_f pc175_t w
theorem pc201 (w : World) : Pc w 2507 175 26 S175 S201 ⟨983, 0, 983, 5⟩ ⟨1353, 0, 1391, 47⟩ := by
  intro os
  kernel_rfl
theorem fin0 (w : World) (os : OsState) : goF (stepQ (denQ tabQ) R.prog w) 11 ann0 20 (S201 w os) ⟨doneF .next, cE, ⟨1353, 0, 1391, 47⟩, [topFrame q0]⟩ = some (S201 w os) := by kernel_rfl
abbrev SE := S201
theorem bod_end : bod.drop 201 = [] := by kernel_rfl
theorem seg_up {w : World} {m i k : Nat} {S S' : World → OsState → SharedT} {q q' : Pos} (h : Pc w m i k S S' q q') (os : OsState) {N : Nat} {r : Shared}
    (z : topRun treeTable R.prog w 11 ann0 N (S' w os).abs (restOf (bod.drop (i + k)) env0 cE q' [topFrame q0]) = some r) :
    topRun treeTable R.prog w 11 ann0 (m + N) (S w os).abs (restOf (bod.drop i) env0 cE q [topFrame q0]) = some r := by
  have e := h os
  rw [← stepQ_eq, ← denQ_eq, ← tabQ_eq] at e
  rw [← sl_drop i k]
  exact piece_app (segF_ok e) z
theorem run_end (w : World) (os : OsState) : topRun treeTable R.prog w (boot_heap w.params).objs.size (bootAnn w) 16117 ⟨boot_heap w.params, #[], boot_drawn, boot_toks, os⟩ (topStub R.prog) = some (SE w os).abs := by
  rw [size_eq, ann_eq, ← S0_abs w os, show 16117 = 12 + (1 + (3135 + (3111 + (942 + (3435 + (1749 + (1205 + (2507 + 20)))))))) from rfl]
  have e1 := pre0 w os
  have e2 := blk0 w os
  have e3 := fin0 w os
  rw [← stepQ_eq, ← denQ_eq, ← tabQ_eq] at e1 e2 e3
  refine go_top (goT_ok e1) ?_
  refine piece_block (segF_ok e2) ?_
  have b0 : bod = bod.drop 0 := rfl
  rw [b0]
  refine seg_up (pc20 w) os ?_
  refine seg_up (pc84 w) os ?_
  refine seg_up (pc85 w) os ?_
  refine seg_up (pc150 w) os ?_
  refine seg_up (pc174 w) os ?_
  refine seg_up (pc175 w) os ?_
  refine seg_up (pc201 w) os ?_
  show topRun treeTable R.prog w 11 ann0 20 (SE w os).abs (restOf (bod.drop 201) env0 cE ⟨1353, 0, 1391, 47⟩ [topFrame q0]) = _
  rw [bod_end]
  refine piece_nil ?_
  exact goF_ok e3
end J93H
end
noncomputable section
namespace J93H
open PySem PySem.W PySem.Calls PyProof.Rows L2 HandSHeadRun

theorem left_two {p q : Program} {loose : List PySem.Str} {Xt : Shared → Bool} {α : Type} {Yf : Shared → α} {Ya : World → α} {N M : Nat} {S : World → OsState → SharedT}
    (e : opening p = plainProg p.main.scope.names) (hN : Nat.ble 600 N = true) (f : ∀ s, fenceModules? p s = some s) (le : Nat.ble M N = true)
    (run : ∀ (w : World) (os : OsState), topRun treeTable p w (boot_heap w.params).objs.size (bootAnn w) M ⟨boot_heap w.params, #[], boot_drawn, boot_toks, os⟩ (topStub p) = some (S w os).abs)
    (l1 : ∀ (w : World) (os : OsState), looksF p (boot_heap w.params) (S w os).abs = true)
    (l2 : ∀ (w : World) (os : OsState), openSeen q loose (importedModules p.main.body) Xt true (S w os).abs = openGood q loose)
    (l3 : ∀ (w : World) (os : OsState), Yf (S w os).abs = Ya w) :
    LeftO p q loose Xt Yf Ya N true := fun w => by
  obtain ⟨⟨h, gs, d, k, os⟩, a, a'⟩ := Option.map_eq_some_iff.mp (boot_open e hN f w)
  obtain ⟨rfl, rfl, rfl, rfl⟩ : h = boot_heap w.params ∧ gs = Array.mk [] ∧ d = boot_drawn ∧ k = boot_toks := by simpa using a'
  have r := topRun_mono (N - M) _ _ _ _ (run w os)
  rw [show M + (N - M) = N by have := Nat.le_of_ble_eq_true le; omega] at r
  have l1' : (staticsOk (importedModules p.main.body) (boot_heap w.params) (S w os).abs.heap && namesBound p (S w os).abs.heap && gensDone (S w os).abs && laidKept (boot_heap w.params) (S w os).abs.heap) = true := l1 w os
  have t : topFrom treeTable p w N ⟨boot_heap w.params, Array.mk [], boot_drawn, boot_toks, os⟩ = some (S w os).abs := by
    unfold topFrom
    dsimp only
    rw [boot_ns]
    show (topRun treeTable p w (boot_heap w.params).objs.size (bootAnn w) N ⟨boot_heap w.params, #[], boot_drawn, boot_toks, os⟩ (topStub p)).bind _ = _
    rw [r]
    show (match staticsOk (importedModules p.main.body) (boot_heap w.params) (S w os).abs.heap && namesBound p (S w os).abs.heap && gensDone (S w os).abs && laidKept (boot_heap w.params) (S w os).abs.heap with | true => some (S w os).abs | false => none) = _
    rw [l1']
  unfold openEnds
  rw [a]
  show (topFrom treeTable p w N _).map _ = _
  rw [t]
  exact congrArg some (Prod.ext (l2 w os) (l3 w os))
def names0 : List PySem.Str := ["_wall", "PlinthError", "NotText", "NotNumeral", "BadFuel", "BadPlan", "BadClaim", "BadTrap", "NotPlantable", "BadName", "BadKind", "NoEntry", "OutOfRange", "BadJournal", "OpenTrial", "NEWLINE", "PRINTABLE", "DIGITS_signs", "LIMIT", "codes_of", "_char", "text_of", "readable", "numeral", "number_of", "is_digit", "read_digits", "ShortReader", "translate_short", "BLANK"]
def names1 : List PySem.Str := ["QUOTE", "RETURN_translate", "COLON", "SEMICOLON", "ASSIGN", "PUSH_translate", "TEST_translate", "Translator", "translate", "DIGITS_audit", "SHORT", "PLAIN", "TURNED", "KINDS", "due", "due_audit", "first_difference", "audit", "nodes_of", "image_of", "table_of", "FIRST_LETTER", "LAST_LETTER", "FIRST_CAPITAL", "LAST_CAPITAL", "LAST_LOW", "_push", "_plus", "_minus", "_digit"]
def names2 : List PySem.Str := ["_less", "_same", "_load", "_keep", "_assign", "_take", "_rewind", "_emit", "_cell", "_drop", "_double", "_exchange", "_test", "_call", "_call_low", "_return", "DEEDS", "State", "run", "_parts", "_reach", "_rules_of", "_twice", "_missing", "check_plan", "order_of", "_check_name", "needs", "Build", "build_all"]
def names3 : List PySem.Str := ["start", "state_of", "next_state", "story", "right_claim", "entry", "due_claims", "_agree", "dispute", "BASE", "MOST_LURE", "MOST_EXTRA", "FIXED", "PUSH_traps", "CELL", "CALL", "RETURN_traps", "PLUS", "TAKE", "GIVE", "DOUBLE", "TEST_traps", "REWIND", "DROP", "SAME", "is_trap", "is_plantable", "beginning", "comparison", "writing"]
def names4 : List PySem.Str := ["copying", "trap_nodes", "plant", "LONGEST_NAME", "Entry", "check_new", "Shelf", "SIGNS", "PAIRS", "is_letter", "is_nop", "combined", "written", "_ways", "reached", "is_closed_table", "has_nop", "passed", "target_in", "threaded", "_folded", "_folded_table", "_order", "renumbered", "thread", "fold", "renumber", "trim", "LETTERS", "_is_line"]
def names5 : List PySem.Str := ["words_of", "is_name", "integer_of", "MOST_FUEL", "FORMS", "_marks", "_fits", "_defined", "Desk", "LINE", "ANSWER", "BAD", "is_line", "Pages", "repeated", "Journal", "rows_of", "resume", "_law_number", "_law_draws", "_law_next", "_law_char", "_law_line", "_law_digits", "_law_answer", "_law_recorded", "_law_given", "_law_items"]
def names : List PySem.Str := names0 ++ (names1 ++ (names2 ++ (names3 ++ (names4 ++ (names5)))))
theorem look1 (w : World) (os : OsState) : looksF R.prog (boot_heap w.params) (SE w os).abs = true := by kernel_rfl
theorem look2 (w : World) (os : OsState) : seenQ qv names (importedModules R.prog.main.body) (fun s => xlAt qv [] s && recOk R.toRowW.records s) (SE w os).abs = openGood qv names := by kernel_rfl
end J93H
end
noncomputable section
namespace J93H
open PySem PySem.Spec PyProof.Rows L2 He
/-! ### what the head tells -/
def adrs : List Addr := [3, 218, 217, 212, 213, 214, 215, 216, 239, 238, 233, 234, 235, 236, 237, 246, 245, 240, 241, 242, 243, 244, 253, 252, 247, 248, 249, 250, 251, 260, 259, 254, 255, 256, 257, 258, 267, 266, 261, 262, 263, 264, 265, 1177, 1176, 1171, 1172, 1173, 1174, 1175, 1184, 1183, 1178, 1179, 1180, 1181, 1182, 1189, 1188, 1185, 1186, 1187, 1197, 1196, 1190, 1191, 1192, 1193, 1194, 1195, 1206, 1205, 1200, 1201, 1202, 1203, 1204, 1213, 1212, 1207, 1208, 1209, 1210, 1211, 1220, 1219, 1214, 1215, 1216, 1217, 1218, 1324, 1323, 1318, 1319, 1320, 1321, 1322, 1443, 1442, 1437, 1438, 1439, 1440, 1441, 1450, 1449, 1444, 1445, 1446, 1447, 1448, 1457, 1456, 1451, 1452, 1453, 1454, 1455, 1464, 1463, 1458, 1459, 1460, 1461, 1462, 1471, 1470, 1465, 1466, 1467, 1468, 1469, 1478, 1477, 1472, 1473, 1474, 1475, 1476, 1483, 1482, 1479, 1480, 1481, 1490, 1489, 1484, 1485, 1486, 1487, 1488, 1495, 1494, 1491, 1492, 1493, 1502, 1501, 1496, 1497, 1498, 1499, 1500, 1509, 1508, 1503, 1504, 1505, 1506, 1507, 1516, 1515, 1510, 1511, 1512, 1513, 1514, 1523, 1522, 1517, 1518, 1519, 1520, 1521, 1039, 1038, 958, 957, 952, 953, 954, 955, 956, 1313, 1312, 1234, 1233, 1228, 1229, 1230, 1231, 1232, 1248, 1247, 1242, 1243, 1244, 1245, 1246, 1260, 1259, 1254, 1255, 1256, 1257, 1258, 1267, 1266, 1261, 1262, 1263, 1264, 1265, 1274, 1273, 1268, 1269, 1270, 1271, 1272, 1281, 1280, 1275, 1276, 1277, 1278, 1279, 1286, 1285, 1282, 1283, 1284, 1291, 1290, 1287, 1288, 1289, 1355, 1354, 1338, 1337, 1332, 1333, 1334, 1335, 1336, 1345, 1344, 1339, 1340, 1341, 1342, 1343, 1352, 1351, 1346, 1347, 1348, 1349, 1350, 1432, 1431, 1380, 1379, 1374, 1375, 1376, 1377, 1378, 1408, 1407, 1402, 1403, 1404, 1405, 1406, 1415, 1414, 1409, 1410, 1411, 1412, 1413, 1422, 1421, 1416, 1417, 1418, 1419, 1420, 1429, 1428, 1423, 1424, 1425, 1426, 1427, 44, 43, 31, 30, 1198]
def fa : List Fa := [.str "PRINTABLE" " !\"#$&'()*+,-./0123456789:;<=>?@ABCDEFGHIJKLMNOPQRSTUVWXYZ[\\]^_`abcdefghijklmnopqrstuvwxyz{|}~",
  .str "DIGITS_signs" "0123456789",
  .str "LETTERS" "abcdefghijklmnopqrstuvwxyz",
  .str "LINE" "> ",
  .str "ANSWER" "< ",
  .str "BAD" "bad",
  .int "LIMIT" (10 ^ 60),
  .free "ord",
  .free "str",
  .free "len",
  .free "int",
  .free "all",
  .free "zip",
  .free "list",
  .free "enumerate",
  .free "range",
  .free "isinstance",
  .exc "NotText",
  .exm "NotText" "NotText" true,
  .glo "NotText",
  .glo "codes_of",
  .glo "readable",
  .glo "numeral",
  .glo "number_of",
  .glo "is_digit",
  .glo "read_digits",
  .glo "_is_line",
  .glo "words_of",
  .glo "is_name",
  .glo "integer_of",
  .glo "_marks",
  .glo "_fits",
  .glo "_defined",
  .glo "is_line",
  .glo "rows_of",
  .glo "resume",
  .glo "_law_number",
  .glo "_law_draws",
  .glo "_law_next",
  .glo "_law_char",
  .glo "_law_line",
  .glo "_law_digits",
  .glo "_law_answer",
  .glo "_law_recorded",
  .glo "_law_given",
  .glo "_law_items",
  .glo "law",
  .glo "Shelf",
  .glo "Desk",
  .glo "Pages",
  .glo "Journal",
  .cls "Shelf",
  .cls "Desk",
  .cls "Pages",
  .cls "Journal",
  .mkr "Shelf",
  .mkr "Desk",
  .mkr "Pages",
  .mkr "Journal",
  .noat "Shelf" "entries",
  .noat "Desk" "_items",
  .noat "Desk" "_rules",
  .noat "Desk" "_shelf",
  .noat "Desk" "_claims",
  .noat "Pages" "desk",
  .noat "Pages" "given",
  .noat "Pages" "told",
  .noat "Journal" "pages",
  .noat "Journal" "earlier",
  .noat "Journal" "kept",
  .meth "Desk" "content",
  .meth "Desk" "answer",
  .meth "Desk" "_knows",
  .meth "Desk" "_done",
  .meth "Desk" "_kept",
  .meth "Desk" "_of_items",
  .meth "Desk" "_shown",
  .meth "Pages" "answer",
  .meth "Pages" "record",
  .meth "Journal" "answer",
  .meth "Journal" "record",
  .meth "Journal" "lines",
  .meth "Journal" "content",
  .glo "FORMS"]
def fn : List DefD := [⟨("codes_of", none), "codes_of", "codes_of", defArgs J93.s_codes_of, defBody J93.s_codes_of, defScope J93.s_codes_of, [], []⟩,
  ⟨("readable", none), "readable", "readable", defArgs J93.s_readable, defBody J93.s_readable, defScope J93.s_readable, [], []⟩,
  ⟨("numeral", none), "numeral", "numeral", defArgs J93.s_numeral, defBody J93.s_numeral, defScope J93.s_numeral, [], []⟩,
  ⟨("number_of", none), "number_of", "number_of", defArgs J93.s_number_of, defBody J93.s_number_of, defScope J93.s_number_of, [], []⟩,
  ⟨("is_digit", none), "is_digit", "is_digit", defArgs J93.s_is_digit, defBody J93.s_is_digit, defScope J93.s_is_digit, [], []⟩,
  ⟨("read_digits", none), "read_digits", "read_digits", defArgs J93.s_read_digits, defBody J93.s_read_digits, defScope J93.s_read_digits, [], []⟩,
  ⟨("_is_line", none), "_is_line", "_is_line", defArgs J93.s_u_is_line, defBody J93.s_u_is_line, defScope J93.s_u_is_line, [], []⟩,
  ⟨("words_of", none), "words_of", "words_of", defArgs J93.s_words_of, defBody J93.s_words_of, defScope J93.s_words_of, [], []⟩,
  ⟨("is_name", none), "is_name", "is_name", defArgs J93.s_is_name, defBody J93.s_is_name, defScope J93.s_is_name, [], []⟩,
  ⟨("integer_of", none), "integer_of", "integer_of", defArgs J93.s_integer_of, defBody J93.s_integer_of, defScope J93.s_integer_of, [], [("least", .non), ("most", .non)]⟩,
  ⟨("_marks", none), "_marks", "_marks", defArgs J93.s_marks, defBody J93.s_marks, defScope J93.s_marks, [], []⟩,
  ⟨("_fits", none), "_fits", "_fits", defArgs J93.s_fits, defBody J93.s_fits, defScope J93.s_fits, [], []⟩,
  ⟨("_defined", none), "_defined", "_defined", defArgs J93.s_defined, defBody J93.s_defined, defScope J93.s_defined, [], []⟩,
  ⟨("is_line", none), "is_line", "is_line", defArgs J93.s_is_line, defBody J93.s_is_line, defScope J93.s_is_line, [], []⟩,
  ⟨("rows_of", none), "rows_of", "rows_of", defArgs J93.s_rows_of, defBody J93.s_rows_of, defScope J93.s_rows_of, [], []⟩,
  ⟨("resume", none), "resume", "resume", defArgs J93.s_resume, defBody J93.s_resume, defScope J93.s_resume, [], []⟩,
  ⟨("_law_number", none), "_law_number", "_law_number", defArgs J93.s_number, defBody J93.s_number, defScope J93.s_number, [], []⟩,
  ⟨("_law_draws", none), "_law_draws", "_law_draws", defArgs J93.s_draws, defBody J93.s_draws, defScope J93.s_draws, [], []⟩,
  ⟨("_law_next", none), "_law_next", "_law_next", defArgs J93.s_next, defBody J93.s_next, defScope J93.s_next, [], []⟩,
  ⟨("_law_char", none), "_law_char", "_law_char", defArgs J93.s_char, defBody J93.s_char, defScope J93.s_char, [], []⟩,
  ⟨("_law_line", none), "_law_line", "_law_line", defArgs J93.s_line, defBody J93.s_line, defScope J93.s_line, [], []⟩,
  ⟨("_law_digits", none), "_law_digits", "_law_digits", defArgs J93.s_digits, defBody J93.s_digits, defScope J93.s_digits, [], []⟩,
  ⟨("_law_answer", none), "_law_answer", "_law_answer", defArgs J93.s_answer, defBody J93.s_answer, defScope J93.s_answer, [], []⟩,
  ⟨("_law_recorded", none), "_law_recorded", "_law_recorded", defArgs J93.s_recorded, defBody J93.s_recorded, defScope J93.s_recorded, [], []⟩,
  ⟨("_law_given", none), "_law_given", "_law_given", defArgs J93.s_given, defBody J93.s_given, defScope J93.s_given, [], []⟩,
  ⟨("_law_items", none), "_law_items", "_law_items", defArgs J93.s_items, defBody J93.s_items, defScope J93.s_items, [], []⟩,
  ⟨("law", none), "law", "law", defArgs J93.s_law, defBody J93.s_law, defScope J93.s_law, [], []⟩,
  ⟨("Shelf", some "__init__"), "__init__", "Shelf.__init__", defArgs J93.s_Shelf_init, defBody J93.s_Shelf_init, defScope J93.s_Shelf_init, [], []⟩,
  ⟨("Desk", some "__init__"), "__init__", "Desk.__init__", defArgs J93.s_Desk_init, defBody J93.s_Desk_init, defScope J93.s_Desk_init, [], []⟩,
  ⟨("Desk", some "content"), "content", "Desk.content", defArgs J93.s_Desk_content, defBody J93.s_Desk_content, defScope J93.s_Desk_content, [], []⟩,
  ⟨("Desk", some "answer"), "answer", "Desk.answer", defArgs J93.s_Desk_answer, defBody J93.s_Desk_answer, defScope J93.s_Desk_answer, [], []⟩,
  ⟨("Desk", some "_knows"), "_knows", "Desk._knows", defArgs J93.s_Desk_knows, defBody J93.s_Desk_knows, defScope J93.s_Desk_knows, [], []⟩,
  ⟨("Desk", some "_done"), "_done", "Desk._done", defArgs J93.s_Desk_done, defBody J93.s_Desk_done, defScope J93.s_Desk_done, [], []⟩,
  ⟨("Desk", some "_kept"), "_kept", "Desk._kept", defArgs J93.s_Desk_kept, defBody J93.s_Desk_kept, defScope J93.s_Desk_kept, [], []⟩,
  ⟨("Desk", some "_of_items"), "_of_items", "Desk._of_items", defArgs J93.s_Desk_of_items, defBody J93.s_Desk_of_items, defScope J93.s_Desk_of_items, [], []⟩,
  ⟨("Desk", some "_shown"), "_shown", "Desk._shown", defArgs J93.s_Desk_shown, defBody J93.s_Desk_shown, defScope J93.s_Desk_shown, [], []⟩,
  ⟨("Pages", some "__init__"), "__init__", "Pages.__init__", defArgs J93.s_Pages_init, defBody J93.s_Pages_init, defScope J93.s_Pages_init, [], []⟩,
  ⟨("Pages", some "answer"), "answer", "Pages.answer", defArgs J93.s_Pages_answer, defBody J93.s_Pages_answer, defScope J93.s_Pages_answer, [], []⟩,
  ⟨("Pages", some "record"), "record", "Pages.record", defArgs J93.s_Pages_record, defBody J93.s_Pages_record, defScope J93.s_Pages_record, [], []⟩,
  ⟨("Journal", some "__init__"), "__init__", "Journal.__init__", defArgs J93.s_Journal_init, defBody J93.s_Journal_init, defScope J93.s_Journal_init, [], []⟩,
  ⟨("Journal", some "answer"), "answer", "Journal.answer", defArgs J93.s_Journal_answer, defBody J93.s_Journal_answer, defScope J93.s_Journal_answer, [], []⟩,
  ⟨("Journal", some "record"), "record", "Journal.record", defArgs J93.s_Journal_record, defBody J93.s_Journal_record, defScope J93.s_Journal_record, [], []⟩,
  ⟨("Journal", some "lines"), "lines", "Journal.lines", defArgs J93.s_Journal_lines, defBody J93.s_Journal_lines, defScope J93.s_Journal_lines, [], []⟩,
  ⟨("Journal", some "content"), "content", "Journal.content", defArgs J93.s_Journal_content, defBody J93.s_Journal_content, defScope J93.s_Journal_content, [], []⟩]
def formK : List Str := ["numbers", "text", "show", "digits", "short", "plain", "turned", "trim", "run", "rule", "build", "needs", "put", "make", "swap", "copy", "damage", "trap", "take", "audit", "claim", "spoil", "dispute"]
def formV : List (Str × Dv) := [("numbers", .str "nz*"), ("text", .str "nk"), ("show", .str "i"), ("digits", .str "ni")]
def ts : List Tab := [(fun K => ga K "FORMS", formK)]
def ex (K : PySem.W.Frag) : Bool := valsB K (ga K "FORMS") formV && eqO (PySem.W.nsIn K (ga K "FORMS") "nothing") (some none)
abbrev AlL : Type := AlT × Bool
def obsL (g : Addr → Option Obj) : AlL := (obsT fa fn ts (frG g adrs), ex (frG g adrs))
def valL (w : World) : AlL := (valT fn ts w, true)
def hookL : PySem.W.Hook where
  α := AlL
  obs := fun s => obsL s.heap.get?
  val := valL
  says := fun w h => ∃ K : PySem.W.Frag, K.In h ∧ SaysT fa fn ts w K ∧ ex K = true
  of := fun _ _ e => ⟨_, frG_in, congrArg (fun z : AlL => z.1) e, congrArg (fun z : AlL => z.2) e⟩
  keeps := fun _ _ _ ⟨K, hK, c⟩ k => ⟨K, PySem.W.Frag.In.keeps hK k, c⟩
theorem look3T (w : World) (os : PySem.OsState) : obsL (HandSHeadRun.getT (SE w os)) = valL w := by kernel_rfl
theorem look3 (w : World) (os : PySem.OsState) : hookL.obs (SE w os).abs = hookL.val w := by
  have e : HandSHeadRun.getT (SE w os) = (SE w os).abs.heap.get? := funext (HandSHeadRun.getT_eq (SE w os))
  show obsL (SE w os).abs.heap.get? = valL w
  rw [← e]
  exact look3T w os
theorem tx_of {K : PySem.W.Frag} {w : World} {mg : Str → Option Value} {h : Heap} (X : K.In h) (G : h.Ns mainGlobals mg) (c : SaysT fa fn ts w K) (e : ex K = true) : J93.Tx K w mg where
  gPRINTABLE := str_ok X G (c.d.fact 0 rfl)
  gDIGITS := str_ok X G (c.d.fact 1 rfl)
  gLETTERS := str_ok X G (c.d.fact 2 rfl)
  gLINE := str_ok X G (c.d.fact 3 rfl)
  gANSWER := str_ok X G (c.d.fact 4 rfl)
  gBAD := str_ok X G (c.d.fact 5 rfl)
  gLIMIT := int_ok X G (c.d.fact 6 rfl)
  f_ord := free_ok X G (c.d.fact 7 rfl)
  f_str := free_ok X G (c.d.fact 8 rfl)
  f_len := free_ok X G (c.d.fact 9 rfl)
  f_int := free_ok X G (c.d.fact 10 rfl)
  f_all := free_ok X G (c.d.fact 11 rfl)
  f_zip := free_ok X G (c.d.fact 12 rfl)
  f_list := free_ok X G (c.d.fact 13 rfl)
  f_enumerate := free_ok X G (c.d.fact 14 rfl)
  f_range := free_ok X G (c.d.fact 15 rfl)
  f_isinstance := free_ok X G (c.d.fact 16 rfl)
  eNT := exc_ok (c.d.fact 17 rfl)
  mNT := exm_ok (c.d.fact 18 rfl)
  gNT := glo_ok X G (c.d.fact 19 rfl)
  d_codes_of := c.d.def_ 0 rfl
  d_readable := c.d.def_ 1 rfl
  d_numeral := c.d.def_ 2 rfl
  d_number_of := c.d.def_ 3 rfl
  d_is_digit := c.d.def_ 4 rfl
  d_read_digits := c.d.def_ 5 rfl
  d_u_is_line := c.d.def_ 6 rfl
  d_words_of := c.d.def_ 7 rfl
  d_is_name := c.d.def_ 8 rfl
  d_integer_of := c.d.def_ 9 rfl
  d_marks := c.d.def_ 10 rfl
  d_fits := c.d.def_ 11 rfl
  d_defined := c.d.def_ 12 rfl
  d_is_line := c.d.def_ 13 rfl
  d_rows_of := c.d.def_ 14 rfl
  d_resume := c.d.def_ 15 rfl
  d_number := c.d.def_ 16 rfl
  d_draws := c.d.def_ 17 rfl
  d_next := c.d.def_ 18 rfl
  d_char := c.d.def_ 19 rfl
  d_line := c.d.def_ 20 rfl
  d_digits := c.d.def_ 21 rfl
  d_answer := c.d.def_ 22 rfl
  d_recorded := c.d.def_ 23 rfl
  d_given := c.d.def_ 24 rfl
  d_items := c.d.def_ 25 rfl
  d_law := c.d.def_ 26 rfl
  g_codes_of := glo_ok X G (c.d.fact 20 rfl)
  g_readable := glo_ok X G (c.d.fact 21 rfl)
  g_numeral := glo_ok X G (c.d.fact 22 rfl)
  g_number_of := glo_ok X G (c.d.fact 23 rfl)
  g_is_digit := glo_ok X G (c.d.fact 24 rfl)
  g_read_digits := glo_ok X G (c.d.fact 25 rfl)
  g_u_is_line := glo_ok X G (c.d.fact 26 rfl)
  g_words_of := glo_ok X G (c.d.fact 27 rfl)
  g_is_name := glo_ok X G (c.d.fact 28 rfl)
  g_integer_of := glo_ok X G (c.d.fact 29 rfl)
  g_marks := glo_ok X G (c.d.fact 30 rfl)
  g_fits := glo_ok X G (c.d.fact 31 rfl)
  g_defined := glo_ok X G (c.d.fact 32 rfl)
  g_is_line := glo_ok X G (c.d.fact 33 rfl)
  g_rows_of := glo_ok X G (c.d.fact 34 rfl)
  g_resume := glo_ok X G (c.d.fact 35 rfl)
  g_number := glo_ok X G (c.d.fact 36 rfl)
  g_draws := glo_ok X G (c.d.fact 37 rfl)
  g_next := glo_ok X G (c.d.fact 38 rfl)
  g_char := glo_ok X G (c.d.fact 39 rfl)
  g_line := glo_ok X G (c.d.fact 40 rfl)
  g_digits := glo_ok X G (c.d.fact 41 rfl)
  g_answer := glo_ok X G (c.d.fact 42 rfl)
  g_recorded := glo_ok X G (c.d.fact 43 rfl)
  g_given := glo_ok X G (c.d.fact 44 rfl)
  g_items := glo_ok X G (c.d.fact 45 rfl)
  g_law := glo_ok X G (c.d.fact 46 rfl)
  gShelf := glo_ok X G (c.d.fact 47 rfl)
  gDesk := glo_ok X G (c.d.fact 48 rfl)
  gPages := glo_ok X G (c.d.fact 49 rfl)
  gJournal := glo_ok X G (c.d.fact 50 rfl)
  cShelf := cls_ok (c.d.fact 51 rfl)
  cDesk := cls_ok (c.d.fact 52 rfl)
  cPages := cls_ok (c.d.fact 53 rfl)
  cJournal := cls_ok (c.d.fact 54 rfl)
  kShelf := mkr_ok (c.d.fact 55 rfl)
  kDesk := mkr_ok (c.d.fact 56 rfl)
  kPages := mkr_ok (c.d.fact 57 rfl)
  kJournal := mkr_ok (c.d.fact 58 rfl)
  nShelf_entries := noat_ok (c.d.fact 59 rfl)
  nDesk_items := noat_ok (c.d.fact 60 rfl)
  nDesk_rules := noat_ok (c.d.fact 61 rfl)
  nDesk_shelf := noat_ok (c.d.fact 62 rfl)
  nDesk_claims := noat_ok (c.d.fact 63 rfl)
  nPages_desk := noat_ok (c.d.fact 64 rfl)
  nPages_given := noat_ok (c.d.fact 65 rfl)
  nPages_told := noat_ok (c.d.fact 66 rfl)
  nJournal_pages := noat_ok (c.d.fact 67 rfl)
  nJournal_earlier := noat_ok (c.d.fact 68 rfl)
  nJournal_kept := noat_ok (c.d.fact 69 rfl)
  d_Shelf_init := c.d.def_ 27 rfl
  d_Desk_init := c.d.def_ 28 rfl
  d_Desk_content := c.d.def_ 29 rfl
  d_Desk_answer := c.d.def_ 30 rfl
  d_Desk_knows := c.d.def_ 31 rfl
  d_Desk_done := c.d.def_ 32 rfl
  d_Desk_kept := c.d.def_ 33 rfl
  d_Desk_of_items := c.d.def_ 34 rfl
  d_Desk_shown := c.d.def_ 35 rfl
  d_Pages_init := c.d.def_ 36 rfl
  d_Pages_answer := c.d.def_ 37 rfl
  d_Pages_record := c.d.def_ 38 rfl
  d_Journal_init := c.d.def_ 39 rfl
  d_Journal_answer := c.d.def_ 40 rfl
  d_Journal_record := c.d.def_ 41 rfl
  d_Journal_lines := c.d.def_ 42 rfl
  d_Journal_content := c.d.def_ 43 rfl
  mDesk_content := meth_ok (c.d.fact 70 rfl)
  mDesk_answer := meth_ok (c.d.fact 71 rfl)
  mDesk_knows := meth_ok (c.d.fact 72 rfl)
  mDesk_done := meth_ok (c.d.fact 73 rfl)
  mDesk_kept := meth_ok (c.d.fact 74 rfl)
  mDesk_of_items := meth_ok (c.d.fact 75 rfl)
  mDesk_shown := meth_ok (c.d.fact 76 rfl)
  mPages_answer := meth_ok (c.d.fact 77 rfl)
  mPages_record := meth_ok (c.d.fact 78 rfl)
  mJournal_answer := meth_ok (c.d.fact 79 rfl)
  mJournal_record := meth_ok (c.d.fact 80 rfl)
  mJournal_lines := meth_ok (c.d.fact 81 rfl)
  mJournal_content := meth_ok (c.d.fact 82 rfl)
  gFORMS := glo_ok X G (c.d.fact 83 rfl)
  dFORMS := c.tab 0 rfl
  vFORMS := fun q hq => by
    obtain ⟨e1, _⟩ := ba e
    have hq2 : (q.1, Dv.str q.2) ∈ formV := by
      simp only [List.mem_cons, List.mem_nil_iff, or_false] at hq
      rcases hq with rfl | rfl | rfl | rfl <;> simp [formV]
    obtain ⟨u, h1, h2⟩ := valsB_ok e1 hq2
    obtain ⟨t, rfl⟩ := h2
    exact ⟨t, h1⟩
  oFORMS := eqO_ok (ba e).2
theorem facts {P : Program} {w : World} {K : PySem.W.Frag} {h : Heap} {mg : Str → Option Value} {f : Addr} (X : K.In h) (G : h.Ns mainGlobals mg) (hfa : mg ("law" : Str) = some (.ref f)) (c : SaysT fa fn ts w K) (e : ex K = true) :
    ∃ fd : FuncData, (∀ (s : Shared) (v : Value), BindsTo s fd ⟨[v], []⟩ [("_law_script", v)]) ∧ ∀ base : Heap, K.In base → base.Ns mainGlobals mg → FnOk P w K mg base CX0 10 f fd ["_law_script"] (J93.sp_law K) := by
  have T := tx_of X G c e
  obtain ⟨fd, F⟩ := T.d_law
  have e2 := hfa.symm.trans T.g_law
  cases e2
  have b := FunD.bindsA (ps := ["_law_script"]) F fun _ _ _ _ _ _ us hl => match us, hl with | [_], _ => rfl
  exact ⟨fd, fun s v => b s [v] rfl, fun base _ _ => J93.ok_law T F⟩
theorem left : PySem.W.LeftO R.prog qv names (fun s => PySem.W.xlAt qv [] s && PySem.W.recOk R.toRowW.records s) hookL.obs hookL.val (16117 + 600) true :=
  left_two (M := 16117) (S := SE) (by kernel_rfl) (Nat.ble_eq_true_of_le (by omega)) (fun s => by kernel_rfl) (Nat.ble_eq_true_of_le (by omega)) run_end look1
    (fun w os => by rw [HandSHeadRun.seenQ_eq]; exact look2 w os) look3
end J93H
end
open PySem PySem.W PySem.Calls PyProof.Rows
theorem PySem.Challenge.cw_plinth_k93_whole_journals_that_are_cut_o_holds : PySem.Challenge.rw_plinth_k93_whole_journals_that_are_cut_o.Holds := by
  refine J93H.law_from fun said => ?_
  refine holds_open (r := J93H.R) (q := J93H.qv) (loose := J93H.names) (XP := XL J93H.qv []) (YP := J93H.hookL.says) (d := HandSHeadRun.topDef J93H.R.prog 200) (kwd := []) J93H.left J93H.hookL.of J93H.hookL.keeps
    (fun s z => xl_of s (Bool.and_eq_true_iff.mp z).1) XL.keeps J93H.side1 J93H.side2 J93H.side3 (fun s z => recFacts_of (Bool.and_eq_true_iff.mp z).2) (by rfl) said J93H.side4 J93H.side5 J93H.side6 ?hc
  case hc =>
    refine L2.walk_ofE (l := PySem.Challenge.rw_plinth_k93_whole_journals_that_are_cut_o) (n := 63) (k := 10) (x := "_law_script") (CX := L2.CX0) rfl (by decide) (by kernel_rfl) ⟨rfl, by decide, by decide⟩ ?F (fun _ _ _ _ z => z)
    intro w mg fa h Y G hmg0
    obtain ⟨K, KX, c, e⟩ := Y
    have hmg : mg ("law" : PySem.Str) = some (.ref fa) := by
      have e2 : (HandSHeadRun.topDef J93H.R.prog 200).name = ("law" : PySem.Str) := by kernel_rfl
      rw [← e2]
      exact hmg0
    obtain ⟨fd, hb, hF⟩ := J93H.facts (P := (PySem.Challenge.rw_plinth_k93_whole_journals_that_are_cut_o).prog) (w := w) KX G hmg c e
    exact ⟨K, fd, J93.sp_law K, KX, hb, fun H a ns hl _ hS => ⟨a, ns, rfl, hS, hl, fun _ => rfl⟩, hF⟩
