import PyProof.Rows.All
import Wide.All
import OpenK.AllK
import Wide.FinOn
import HandS.ForMost
import KE.KStateDown
import KE.KExcSuper
import HandS.ForExc
import HandS.ExcCtx
import HandS.ExcInit
import HandS.ExcField
import HandS.ExcIs
import HandS.HotCalls
import HandS.IsInst
import HandS.Defaults
import HandS.Deep
import HandS.Small
import HandS.Codes
import HandS.RaiseMore
import HandS.Head0
import HandS.Head1
import HandS.Head2
import HandS.HeadEnd
import HandS.HeadHook1
import HandS.HeadHook2
import PySem.Challenge.RW_tellsnone_k04_whole_texts_are_read_exact
import HandS.Evl
import KE.KSuper
import KE.KExcIs
set_option Elab.async false
set_option linter.all false
set_option maxRecDepth 100000
set_option maxHeartbeats 4000000
/-! The plain law: the machine of the law (a stack of what is open), the trees of the program, and why they agree. No program in sight. -/
namespace K4
open PySem
/-! ### words -/
def lowC (c : Nat) : Bool := decide (97 ≤ c) && decide (c ≤ 122)
def digC (c : Nat) : Bool := decide (48 ≤ c) && decide (c ≤ 57)
def kws : List Str := ["var", "table", "lots", "proc", "local", "set", "let", "draw", "put", "lot", "ask", "if", "else", "end", "bad", "after", "answer", "has", "cell", "mod"]
def signs : List Str := ["+", "-", "*", "/", "mod", "<", "="]
def isName (w : Str) : Bool :=
  decide (w ∉ kws) && (decide (0 < w.length) && (decide (w.length ≤ 12) && ((match w.cps.toList with | c :: _ => lowC c | [] => false) && w.cps.toList.all fun c => lowC c || digC c)))
def numOf (w : Str) : Option Int :=
  if 0 < w.length ∧ w.length ≤ 5 ∧ w.cps.toList.all digC = true ∧ ¬ (w.cps.toList.head? = some 48 ∧ w.cps.toList ≠ [48]) then some ((NumText.digitsVal w.cps.toList : Nat) : Int) else none
def inR (w : Str) (lo hi : Int) : Bool := match numOf w with
  | some n => decide (lo ≤ n) && decide (n ≤ hi)
  | none => false
def strI (n : Int) : Str := Str.ofString (toString n)
/-! ### the machine -/
inductive Tb where
  | var | table | lots | proc | loc | asked
  deriving DecidableEq
inductive Kd where
  | proc | then_ | else_ | after | empty
  deriving DecidableEq
inductive It where
  | word (w : Str) | one (t : Tb) | num (lo hi : Int) | value (r : Nat) | block (r : Nat) (k : Kd) | head | locals | size | first | new (t : Tb)
  deriving DecidableEq
structure Sc where
  var : List Str
  table : List Str
  lots : List Str
  proc : List Str
  loc : List Str
  asked : List Str
  stage : Nat
  upper : Int
def Sc.get (sc : Sc) : Tb → List Str
  | .var => sc.var
  | .table => sc.table
  | .lots => sc.lots
  | .proc => sc.proc
  | .loc => sc.loc
  | .asked => sc.asked
def Sc.push (sc : Sc) (w : Str) : Tb → Sc
  | .var => { sc with var := sc.var ++ [w] }
  | .table => { sc with table := sc.table ++ [w] }
  | .lots => { sc with lots := sc.lots ++ [w] }
  | .proc => { sc with proc := sc.proc ++ [w] }
  | .loc => { sc with loc := sc.loc ++ [w] }
  | .asked => { sc with asked := sc.asked ++ [w] }
def kdE : Kd → Kd
  | .empty => .else_
  | k => k
def stValue (sc : Sc) (st : List It) (w : Str) (r : Nat) : Option (List It) :=
  if w ∈ signs ∧ 1 < r then some (.value (r - 1) :: .value (r - 1) :: st)
  else if (w = "has" ∨ w = "cell") ∧ 1 < r ∧ sc.table ≠ [] then some (.one .table :: .value (r - 1) :: st)
  else if w ∈ sc.loc ∨ w ∈ sc.var ∨ inR w 0 65535 = true then some st else none
def stBegins (sc : Sc) (st : List It) (w : Str) (room : Nat) : Option (List It) :=
  if w = "set" ∧ sc.var ≠ [] then some (.one .var :: .value 8 :: st)
  else if w = "let" then some (.one .loc :: .value 8 :: st)
  else if w = "draw" then some (.one .loc :: .num 1 64 :: st)
  else if w = "put" ∧ sc.table ≠ [] then some (.one .table :: .value 8 :: .value 8 :: st)
  else if w = "lot" ∧ sc.lots ≠ [] then some (.one .loc :: .one .lots :: .value 8 :: st)
  else if w = "ask" ∧ sc.asked ≠ [] then some (.one .loc :: .one .asked :: .value 8 :: st)
  else if w = "if" ∧ 0 < room then some (.value 8 :: .block (room - 1) .then_ :: st)
  else if w = "after" ∧ 0 < room then some (.block (room - 1) .after :: st)
  else if w = "bad" then some st else none
def stBlocks (sc : Sc) (st : List It) (w : Str) (room : Nat) (kd : Kd) : Option (List It) :=
  if w = "answer" ∧ kd = .proc then some (.value 8 :: .word "end" :: st)
  else if w = "end" ∧ (kd = .then_ ∨ kd = .else_ ∨ kd = .after) then some st
  else if w = "else" ∧ kd = .then_ then some (.block room .empty :: st)
  else stBegins sc (.block room (kdE kd) :: st) w room
def stHeads (sc : Sc) (st : List It) (w : Str) : Option (Sc × List It) :=
  if w = "var" ∧ sc.stage ≤ 0 ∧ sc.var.length ≤ 5 then some ({ sc with stage := 0 }, .new .var :: .size :: .first :: .head :: st)
  else if w = "table" ∧ sc.stage ≤ 1 ∧ sc.table.length ≤ 5 then some ({ sc with stage := 1 }, .new .table :: .num 1 64 :: .num 1 64 :: .head :: st)
  else if w = "lots" ∧ sc.stage ≤ 2 ∧ sc.lots.length ≤ 5 then some ({ sc with stage := 2 }, .new .lots :: .num 1 64 :: .num 1 64 :: .head :: st)
  else if w = "proc" ∧ sc.stage ≤ 3 ∧ sc.proc.length ≤ 5 then some ({ sc with stage := 3, loc := [] }, .new .proc :: .num 1 64 :: .num 1 64 :: .new .loc :: .locals :: .head :: st)
  else none
def step (sc : Sc) : List It → Str → Option (Sc × List It)
  | [], _ => none
  | .word x :: st, w => if w = x then some (sc, st) else none
  | .one t :: st, w => if w ∈ sc.get t then some (sc, st) else none
  | .num lo hi :: st, w => if inR w lo hi = true then some (sc, st) else none
  | .value r :: st, w => (stValue sc st w r).map fun s => (sc, s)
  | .block r k :: st, w => (stBlocks sc st w r k).map fun s => (sc, s)
  | .head :: st, w => stHeads sc st w
  | .locals :: st, w => if w = "local" ∧ sc.loc.length < 6 then some (sc, .new .loc :: .locals :: st) else (stBlocks sc st w 6 .proc).map fun s => (sc, s)
  | .size :: st, w => match numOf w with
    | some n => if 1 ≤ n ∧ n ≤ 65535 then some ({ sc with upper := n - 1 }, st) else none
    | none => none
  | .first :: st, w => if inR w 0 sc.upper = true then some (sc, st) else none
  | .new t :: st, w => if w ∈ sc.get t ∨ (t = .loc ∧ w ∈ sc.var) ∨ isName w = false then none else some (sc.push w t, st)
/-- how many words stand behind the place where it goes wrong (that place itself counted), or none -/
def run : Sc → List It → List Str → Option Nat
  | _, st, [] => if st = [.head] then none else some 0
  | sc, st, w :: ws => match step sc st w with
    | none => some (ws.length + 1)
    | some (sc', st') => run sc' st' ws
def sc0 (asked : List Str) : Sc := ⟨[], [], [], [], [], asked, 0, 0⟩
/-- the law's own answer -/
def wrong (asked ws : List Str) : Option Nat := (run (sc0 asked) [.head] ws).map fun r => ws.length - r
theorem run_cons {sc : Sc} {st : List It} {w : Str} {ws : List Str} : run sc st (w :: ws) = match step sc st w with
    | none => some (ws.length + 1)
    | some (sc', st') => run sc' st' ws := rfl
theorem run_some {sc sc' : Sc} {st st' : List It} {w : Str} {ws : List Str} (h : step sc st w = some (sc', st')) : run sc st (w :: ws) = run sc' st' ws := by
  rw [run_cons, h]
theorem run_none {sc : Sc} {st : List It} {w : Str} {ws : List Str} (h : step sc st w = none) : run sc st (w :: ws) = some (ws.length + 1) := by
  rw [run_cons, h]
/-- the next word; an empty text at the end -/
def hdW (ws : List Str) : Str := ws.headD Str.empty
theorem hdW_cons {w : Str} {ws : List Str} : hdW (w :: ws) = w := rfl
theorem cons_of_hd {w : Str} {ws : List Str} (h : hdW ws = w) (hw : w ≠ Str.empty) : ws = w :: ws.tail := by
  cases ws with
  | nil => exact absurd h.symm hw
  | cons a r => rw [← h]; rfl
/-- an item that refuses the next word (or the end) -/
theorem run_rej {sc : Sc} {i : It} {st : List It} {ws : List Str} (h : step sc (i :: st) (hdW ws) = none) (hh : i ≠ .head ∨ st ≠ []) : run sc (i :: st) ws = some ws.length := by
  cases ws with
  | nil =>
    show (if i :: st = [.head] then none else some 0) = some 0
    rw [if_neg]
    intro e
    injection e with e1 e2
    rcases hh with hh | hh
    · exact hh e1
    · exact hh e2
  | cons w ws => exact run_none h
/-! ### the trees -/
inductive Ex where
  | num (n : Int) | loc (x : Str) | var (x : Str) | tab (k t : Str) (e : Ex) | op (k : Str) (e f : Ex)
def exW : Ex → List Str
  | .num n => [strI n]
  | .loc x => [x]
  | .var x => [x]
  | .tab k t e => k :: t :: exW e
  | .op k e f => k :: (exW e ++ exW f)
inductive Blk where
  | nil
  | bad (r : Blk)
  | after (s r : Blk)
  | ite (e : Ex) (s t r : Blk)
  | draw (l : Str) (n : Int) (r : Blk)
  | put (t : Str) (e f : Ex) (r : Blk)
  | gen (k : Str) (xs : List Str) (e : Ex) (r : Blk)
def Blk.isNil : Blk → Bool
  | .nil => true
  | _ => false
def blkW : Blk → List Str
  | .nil => []
  | .bad r => ("bad" : Str) :: blkW r
  | .after s r => ("after" : Str) :: (blkW s ++ ("end" : Str) :: blkW r)
  | .ite e s t r => ("if" : Str) :: (exW e ++ (blkW s ++ ((if t.isNil = true then [] else ("else" : Str) :: blkW t) ++ ("end" : Str) :: blkW r)))
  | .draw l n r => ("draw" : Str) :: l :: strI n :: blkW r
  | .put t e f r => ("put" : Str) :: t :: (exW e ++ (exW f ++ blkW r))
  | .gen k xs e r => k :: (xs ++ (exW e ++ blkW r))
def Blk.app : Blk → Blk → Blk
  | .nil, c => c
  | .bad r, c => .bad (r.app c)
  | .after s r, c => .after s (r.app c)
  | .ite e s t r, c => .ite e s t (r.app c)
  | .draw l n r, c => .draw l n (r.app c)
  | .put t e f r, c => .put t e f (r.app c)
  | .gen k xs e r, c => .gen k xs e (r.app c)
theorem blkW_app : ∀ b c : Blk, blkW (b.app c) = blkW b ++ blkW c
  | .nil, c => rfl
  | .bad r, c => by simp only [Blk.app, blkW, blkW_app r c, List.cons_append]
  | .after s r, c => by simp only [Blk.app, blkW, blkW_app r c, List.cons_append, List.append_assoc]
  | .ite e s t r, c => by simp only [Blk.app, blkW, blkW_app r c, List.cons_append, List.append_assoc]
  | .draw l n r, c => by simp only [Blk.app, blkW, blkW_app r c, List.cons_append]
  | .put t e f r, c => by simp only [Blk.app, blkW, blkW_app r c, List.cons_append, List.append_assoc]
  | .gen k xs e r, c => by simp only [Blk.app, blkW, blkW_app r c, List.cons_append, List.append_assoc]
theorem app_isNil : ∀ b c : Blk, (b.app c).isNil = (b.isNil && c.isNil)
  | .nil, c => rfl
  | .bad _, _ => rfl
  | .after _ _, _ => rfl
  | .ite _ _ _ _, _ => rfl
  | .draw _ _ _, _ => rfl
  | .put _ _ _ _, _ => rfl
  | .gen _ _ _ _, _ => rfl
structure Pr where
  name : Str
  size : Int
  ans : Int
  l0 : Str
  ls : List Str
  blk : Blk
  res : Ex
abbrev Row := Str × Int × Int
structure Gm where
  vars : List Row
  tabs : List Row
  lots : List Row
  procs : List Pr
def rowW (k : Str) (r : Row) : List Str := [k, r.1, strI r.2.1, strI r.2.2]
def prW (p : Pr) : List Str := ("proc" : Str) :: p.name :: strI p.size :: strI p.ans :: p.l0 :: (p.ls.flatMap (fun l => [("local" : Str), l]) ++ (blkW p.blk ++ ("answer" : Str) :: (exW p.res ++ [("end" : Str)])))
def gameW (g : Gm) : List Str := g.vars.flatMap (rowW "var") ++ (g.tabs.flatMap (rowW "table") ++ (g.lots.flatMap (rowW "lots") ++ g.procs.flatMap prW))
/-! ### numbers -/
theorem numL_canon : ∀ (l : List Nat), NumText.AllDigits l → l ≠ [] → ¬ (l.head? = some 48 ∧ l ≠ [48]) → TL.numL (NumText.digitsVal l) = l := by
  intro l
  induction hl : l.length using Nat.strongRecOn generalizing l with
  | _ n ih =>
    intro hd hne hz
    obtain ⟨m, c, rfl⟩ : ∃ m c, l = m ++ [c] := ⟨l.dropLast, l.getLast hne, (List.dropLast_concat_getLast hne).symm⟩
    have hc : 48 ≤ c ∧ c ≤ 57 := hd c (by simp)
    have ev : NumText.digitsVal (m ++ [c]) = NumText.digitsVal m * 10 + (c - 48) := by
      unfold NumText.digitsVal
      rw [List.foldl_append]
      rfl
    cases m with
    | nil =>
      rw [ev]
      show TL.numL (0 * 10 + (c - 48)) = [c]
      rw [show 0 * 10 + (c - 48) = c - 48 by omega, TL.numL_lt (by omega)]
      rw [show 48 + (c - 48) = c by omega]
    | cons a r =>
      have hr : NumText.AllDigits (a :: r) := fun d hdm => hd d (List.mem_append_left _ hdm)
      have ha : a ≠ 48 := fun e => hz ⟨by rw [e]; rfl, by simp⟩
      have i1 := ih (a :: r).length (by rw [← hl]; simp) (a :: r) rfl hr (by simp) (fun z => ha (by simpa using z.1))
      have hpos : 0 < NumText.digitsVal (a :: r) := by
        rcases Nat.eq_zero_or_pos (NumText.digitsVal (a :: r)) with e | e
        · rw [e, TL.numL_lt (by omega)] at i1
          have : 48 = a := by simpa using congrArg List.head? i1
          exact absurd this.symm ha
        · exact e
      rw [ev]
      rw [TL.numL_step (by omega)]
      rw [show (NumText.digitsVal (a :: r) * 10 + (c - 48)) / 10 = NumText.digitsVal (a :: r) by omega, i1]
      rw [show 48 + (NumText.digitsVal (a :: r) * 10 + (c - 48)) % 10 = c by omega]
theorem digC_iff {c : Nat} : digC c = true ↔ 48 ≤ c ∧ c ≤ 57 := by
  unfold digC
  rw [Bool.and_eq_true, decide_eq_true_eq, decide_eq_true_eq]
theorem allDig {l : List Nat} (h : l.all digC = true) : NumText.AllDigits l := fun c hc => digC_iff.mp (List.all_eq_true.mp h c hc)
theorem str_ext {a b : Str} (h : a.cps.toList = b.cps.toList) : a = b := by
  obtain ⟨⟨x⟩⟩ := a
  obtain ⟨⟨y⟩⟩ := b
  have e : x = y := h
  rw [e]
theorem len_toList (w : Str) : w.cps.toList.length = w.length := by
  show w.cps.toList.length = w.cps.size
  simp
theorem numOf_spec {w : Str} {n : Int} (h : numOf w = some n) : 0 < w.length ∧ w.length ≤ 5 ∧ w.cps.toList.all digC = true ∧ ¬ (w.cps.toList.head? = some 48 ∧ w.cps.toList ≠ [48]) ∧ n = ((NumText.digitsVal w.cps.toList : Nat) : Int) := by
  unfold numOf at h
  split at h
  · rename_i c
    exact ⟨c.1, c.2.1, c.2.2.1, c.2.2.2, (Option.some.inj h).symm⟩
  · cases h
theorem numOf_str {w : Str} {n : Int} (h : numOf w = some n) : strI n = w := by
  obtain ⟨h1, h2, h3, h4, rfl⟩ := numOf_spec h
  refine str_ext ?_
  unfold strI
  rw [show (Str.ofString (toString ((NumText.digitsVal w.cps.toList : Nat) : Int))).cps.toList = TL.numL (NumText.digitsVal w.cps.toList) from TL.tl_num _]
  refine numL_canon _ (allDig h3) (fun e => ?_) h4
  have := len_toList w
  rw [e] at this
  simp at this
  omega
theorem numOf_nonneg {w : Str} {n : Int} (h : numOf w = some n) : 0 ≤ n := by
  obtain ⟨_, _, _, _, rfl⟩ := numOf_spec h
  omega
theorem inR_spec {w : Str} {lo hi : Int} (h : inR w lo hi = true) : ∃ n, numOf w = some n ∧ lo ≤ n ∧ n ≤ hi := by
  unfold inR at h
  split at h
  · rename_i n e
    rw [Bool.and_eq_true, decide_eq_true_eq, decide_eq_true_eq] at h
    exact ⟨n, e, h⟩
  · cases h
theorem inR_of {w : Str} {lo hi n : Int} (h : numOf w = some n) (h1 : lo ≤ n) (h2 : n ≤ hi) : inR w lo hi = true := by
  unfold inR
  rw [h]
  show (decide (lo ≤ n) && decide (n ≤ hi)) = true
  rw [decide_eq_true h1, decide_eq_true h2]
  rfl
theorem inR_no {w : Str} {lo hi : Int} (h : ∀ n, numOf w = some n → ¬ (lo ≤ n ∧ n ≤ hi)) : inR w lo hi = false := by
  cases e : inR w lo hi with
  | false => rfl
  | true =>
    obtain ⟨n, e1, e2⟩ := inR_spec e
    exact absurd e2 (h n e1)
theorem numOf_empty : numOf Str.empty = none := by decide +kernel
theorem isName_empty : isName Str.empty = false := by decide +kernel
theorem inR_empty {lo hi : Int} : inR Str.empty lo hi = false := inR_no fun n e => by rw [numOf_empty] at e; cases e
end K4

/-! The plain law, second part: what reading a tree does to the machine. -/
namespace K4
open PySem
/-- no name is empty -/
def NoE (sc : Sc) : Prop := ∀ t, Str.empty ∉ sc.get t
section
variable {sc : Sc} {rest : List It} {ws : List Str}
theorem tail_of {w : Str} (h : hdW ws = w) (hw : w ≠ Str.empty) : ws = w :: ws.tail := cons_of_hd h hw
theorem len_tail {w : Str} (h : hdW ws = w) (hw : w ≠ Str.empty) : ws.length = ws.tail.length + 1 := by
  rw [tail_of h hw]
  rfl
theorem hd_mem_ne {t : Tb} (N : NoE sc) (h : hdW ws ∈ sc.get t) : hdW ws ≠ Str.empty := fun e => N t (e ▸ h)
theorem run_one_ok {t : Tb} (N : NoE sc) (h : hdW ws ∈ sc.get t) : run sc (.one t :: rest) ws = run sc rest ws.tail := by
  rw [tail_of rfl (hd_mem_ne N h)]
  exact run_some (by show (if hdW ws ∈ sc.get t then _ else _) = _; rw [if_pos h])
theorem run_one_err {t : Tb} (h : hdW ws ∉ sc.get t) : run sc (.one t :: rest) ws = some ws.length :=
  run_rej (by show (if hdW ws ∈ sc.get t then _ else _) = _; rw [if_neg h]) (.inl (by intro z; cases z))
theorem num_ne {n : Int} (h : numOf (hdW ws) = some n) : hdW ws ≠ Str.empty := fun e => by rw [e, numOf_empty] at h; cases h
theorem run_num_ok {lo hi n : Int} (h : numOf (hdW ws) = some n) (h1 : lo ≤ n) (h2 : n ≤ hi) : run sc (.num lo hi :: rest) ws = run sc rest ws.tail := by
  rw [tail_of rfl (num_ne h)]
  exact run_some (by show (if inR (hdW ws) lo hi = true then _ else _) = _; rw [if_pos (inR_of h h1 h2)])
theorem run_num_err {lo hi : Int} (h : inR (hdW ws) lo hi = false) : run sc (.num lo hi :: rest) ws = some ws.length :=
  run_rej (by show (if inR (hdW ws) lo hi = true then _ else _) = _; rw [if_neg (by rw [h]; exact Bool.false_ne_true)]) (.inl (by intro z; cases z))
theorem run_word_ok {x : Str} (h : hdW ws = x) (hx : x ≠ Str.empty) : run sc (.word x :: rest) ws = run sc rest ws.tail := by
  rw [tail_of h hx]
  exact run_some (by show (if x = x then _ else _) = _; rw [if_pos rfl])
theorem run_word_err {x : Str} (h : hdW ws ≠ x) : run sc (.word x :: rest) ws = some ws.length :=
  run_rej (by show (if hdW ws = x then _ else _) = _; rw [if_neg h]) (.inl (by intro z; cases z))
theorem name_ne (h : isName (hdW ws) = true) : hdW ws ≠ Str.empty := fun e => by rw [e, isName_empty] at h; cases h
theorem run_new_ok {t : Tb} (h : isName (hdW ws) = true) (h1 : hdW ws ∉ sc.get t) (h2 : t = .loc → hdW ws ∉ sc.var) : run sc (.new t :: rest) ws = run (sc.push (hdW ws) t) rest ws.tail := by
  rw [tail_of rfl (name_ne h)]
  refine run_some ?_
  show (if hdW ws ∈ sc.get t ∨ (t = .loc ∧ hdW ws ∈ sc.var) ∨ isName (hdW ws) = false then none else some (sc.push (hdW ws) t, rest)) = some (sc.push (hdW ws) t, rest)
  rw [if_neg]
  rintro (z | ⟨z1, z2⟩ | z)
  · exact h1 z
  · exact h2 z1 z2
  · rw [h] at z; cases z
theorem run_new_err {t : Tb} (h : hdW ws ∈ sc.get t ∨ (t = .loc ∧ hdW ws ∈ sc.var) ∨ isName (hdW ws) = false) : run sc (.new t :: rest) ws = some ws.length :=
  run_rej (by show (if hdW ws ∈ sc.get t ∨ (t = .loc ∧ hdW ws ∈ sc.var) ∨ isName (hdW ws) = false then none else some (sc.push (hdW ws) t, rest)) = _; rw [if_pos h]) (.inl (by intro z; cases z))
theorem run_size_ok {n : Int} (h : numOf (hdW ws) = some n) (h1 : 1 ≤ n) (h2 : n ≤ 65535) : run sc (.size :: rest) ws = run { sc with upper := n - 1 } rest ws.tail := by
  rw [tail_of rfl (num_ne h)]
  refine run_some ?_
  show (match numOf (hdW ws) with
    | some n => if 1 ≤ n ∧ n ≤ 65535 then some ({ sc with upper := n - 1 }, rest) else none
    | none => none) = _
  rw [h]
  show (if 1 ≤ n ∧ n ≤ 65535 then some ({ sc with upper := n - 1 }, rest) else none) = _
  rw [if_pos ⟨h1, h2⟩]
theorem run_size_err (h : inR (hdW ws) 1 65535 = false) : run sc (.size :: rest) ws = some ws.length := by
  refine run_rej ?_ (.inl (by intro z; cases z))
  show (match numOf (hdW ws) with
    | some n => if 1 ≤ n ∧ n ≤ 65535 then some ({ sc with upper := n - 1 }, rest) else none
    | none => none) = none
  cases e : numOf (hdW ws) with
  | none => rfl
  | some n =>
    show (if 1 ≤ n ∧ n ≤ 65535 then some ({ sc with upper := n - 1 }, rest) else none) = none
    rw [if_neg]
    intro c
    rw [inR_of e c.1 c.2] at h
    cases h
theorem run_first_ok {n : Int} (h : numOf (hdW ws) = some n) (h1 : 0 ≤ n) (h2 : n ≤ sc.upper) : run sc (.first :: rest) ws = run sc rest ws.tail := by
  rw [tail_of rfl (num_ne h)]
  exact run_some (by show (if inR (hdW ws) 0 sc.upper = true then _ else _) = _; rw [if_pos (inR_of h h1 h2)])
theorem run_first_err (h : inR (hdW ws) 0 sc.upper = false) : run sc (.first :: rest) ws = some ws.length :=
  run_rej (by show (if inR (hdW ws) 0 sc.upper = true then _ else _) = _; rw [if_neg (by rw [h]; exact Bool.false_ne_true)]) (.inl (by intro z; cases z))
end
/-! ### expressions -/
def EOk (sc : Sc) (r : Nat) (ws : List Str) (e : Ex) (ws' : List Str) : Prop := ws = exW e ++ ws' ∧ ∀ rest, run sc (.value r :: rest) ws = run sc rest ws'
def EErr (sc : Sc) (r : Nat) (ws : List Str) (n : Nat) : Prop := ∀ rest, run sc (.value r :: rest) ws = some n
theorem exW_pos : ∀ e : Ex, 0 < (exW e).length
  | .num _ => Nat.one_pos
  | .loc _ => Nat.one_pos
  | .var _ => Nat.one_pos
  | .tab _ _ _ => Nat.succ_pos _
  | .op _ _ _ => Nat.succ_pos _
theorem EOk.len {sc : Sc} {r : Nat} {ws ws' : List Str} {e : Ex} (h : EOk sc r ws e ws') : ws'.length < ws.length := by
  have := congrArg List.length h.1
  rw [List.length_append] at this
  have := exW_pos e
  omega
theorem signs_ne {w : Str} (h : w ∈ signs) : w ≠ Str.empty := fun e => by subst e; exact absurd h (by decide +kernel)
theorem tabk_ne {w : Str} (h : w = "has" ∨ w = "cell") : w ≠ Str.empty := by
  rcases h with rfl | rfl <;> decide +kernel
theorem tabk_signs {w : Str} (h : w = "has" ∨ w = "cell") : w ∉ signs := by
  rcases h with rfl | rfl <;> decide +kernel
section
variable {sc : Sc} {r : Nat} {ws ws1 ws2 : List Str} {e f : Ex} {n : Nat}
theorem run_value {st : List It} {rest : List It} (hne : hdW ws ≠ Str.empty) (h : stValue sc rest (hdW ws) r = some st) : run sc (.value r :: rest) ws = run sc st ws.tail := by
  rw [tail_of rfl hne]
  exact run_some (by show (stValue sc rest (hdW ws) r).map _ = _; rw [h]; rfl)
theorem sv_op {rest : List It} (h : hdW ws ∈ signs) (hr : 1 < r) : stValue sc rest (hdW ws) r = some (.value (r - 1) :: .value (r - 1) :: rest) := if_pos ⟨h, hr⟩
theorem sv_tab {rest : List It} (h : hdW ws = "has" ∨ hdW ws = "cell") (hr : 1 < r) (ht : sc.table ≠ []) : stValue sc rest (hdW ws) r = some (.one .table :: .value (r - 1) :: rest) := by
  unfold stValue
  rw [if_neg (fun z => tabk_signs h z.1), if_pos ⟨h, hr, ht⟩]
theorem ex_op (h : hdW ws ∈ signs) (hr : 1 < r) (h1 : EOk sc (r - 1) ws.tail e ws1) (h2 : EOk sc (r - 1) ws1 f ws2) : EOk sc r ws (.op (hdW ws) e f) ws2 := by
  refine ⟨?_, fun rest => (run_value (signs_ne h) (sv_op h hr)).trans ((h1.2 _).trans (h2.2 _))⟩
  conv => lhs; rw [tail_of rfl (signs_ne h), h1.1, h2.1]
  show _ = hdW ws :: (exW e ++ exW f) ++ ws2
  rw [List.cons_append, List.append_assoc]
theorem ex_op1 (h : hdW ws ∈ signs) (hr : 1 < r) (h1 : EErr sc (r - 1) ws.tail n) : EErr sc r ws n := fun rest => (run_value (signs_ne h) (sv_op h hr)).trans (h1 _)
theorem ex_op2 (h : hdW ws ∈ signs) (hr : 1 < r) (h1 : EOk sc (r - 1) ws.tail e ws1) (h2 : EErr sc (r - 1) ws1 n) : EErr sc r ws n := fun rest => (run_value (signs_ne h) (sv_op h hr)).trans ((h1.2 _).trans (h2 _))
theorem ex_tab (N : NoE sc) (h : hdW ws = "has" ∨ hdW ws = "cell") (hr : 1 < r) (ht : sc.table ≠ []) (hm : hdW ws.tail ∈ sc.table) (h1 : EOk sc (r - 1) ws.tail.tail e ws1) : EOk sc r ws (.tab (hdW ws) (hdW ws.tail) e) ws1 := by
  refine ⟨?_, fun rest => (run_value (tabk_ne h) (sv_tab h hr ht)).trans ((run_one_ok (t := .table) N hm).trans (h1.2 _))⟩
  conv => lhs; rw [tail_of rfl (tabk_ne h), tail_of (ws := ws.tail) rfl (hd_mem_ne (t := .table) N hm), h1.1]
  rfl
theorem ex_tab0 (h : hdW ws = "has" ∨ hdW ws = "cell") (hr : 1 < r) (ht : sc.table ≠ []) (hm : hdW ws.tail ∉ sc.table) : EErr sc r ws ws.tail.length :=
  fun rest => (run_value (tabk_ne h) (sv_tab h hr ht)).trans (run_one_err (t := .table) hm)
theorem ex_tab1 (N : NoE sc) (h : hdW ws = "has" ∨ hdW ws = "cell") (hr : 1 < r) (ht : sc.table ≠ []) (hm : hdW ws.tail ∈ sc.table) (h1 : EErr sc (r - 1) ws.tail.tail n) : EErr sc r ws n :=
  fun rest => (run_value (tabk_ne h) (sv_tab h hr ht)).trans ((run_one_ok (t := .table) N hm).trans (h1 _))
theorem sv_end {rest : List It} (h1 : ¬ (hdW ws ∈ signs ∧ 1 < r)) (h2 : ¬ ((hdW ws = "has" ∨ hdW ws = "cell") ∧ 1 < r ∧ sc.table ≠ [])) :
    stValue sc rest (hdW ws) r = if hdW ws ∈ sc.loc ∨ hdW ws ∈ sc.var ∨ inR (hdW ws) 0 65535 = true then some rest else none := by
  unfold stValue
  rw [if_neg h1, if_neg h2]
theorem ex_loc (N : NoE sc) (h1 : ¬ (hdW ws ∈ signs ∧ 1 < r)) (h2 : ¬ ((hdW ws = "has" ∨ hdW ws = "cell") ∧ 1 < r ∧ sc.table ≠ [])) (h : hdW ws ∈ sc.loc) : EOk sc r ws (.loc (hdW ws)) ws.tail := by
  have ne := hd_mem_ne (t := .loc) N h
  exact ⟨tail_of rfl ne, fun rest => run_value ne (by rw [sv_end h1 h2, if_pos (.inl h)])⟩
theorem ex_var (N : NoE sc) (h1 : ¬ (hdW ws ∈ signs ∧ 1 < r)) (h2 : ¬ ((hdW ws = "has" ∨ hdW ws = "cell") ∧ 1 < r ∧ sc.table ≠ [])) (h : hdW ws ∈ sc.var) : EOk sc r ws (.var (hdW ws)) ws.tail := by
  have ne := hd_mem_ne (t := .var) N h
  exact ⟨tail_of rfl ne, fun rest => run_value ne (by rw [sv_end h1 h2, if_pos (.inr (.inl h))])⟩
theorem ex_num {m : Int} (h1 : ¬ (hdW ws ∈ signs ∧ 1 < r)) (h2 : ¬ ((hdW ws = "has" ∨ hdW ws = "cell") ∧ 1 < r ∧ sc.table ≠ [])) (h : numOf (hdW ws) = some m) (hm : m ≤ 65535) : EOk sc r ws (.num m) ws.tail := by
  have ne := num_ne h
  refine ⟨?_, fun rest => run_value ne (by rw [sv_end h1 h2, if_pos (.inr (.inr (inR_of h (numOf_nonneg h) hm)))])⟩
  conv => lhs; rw [tail_of rfl ne]
  show _ = strI m :: ws.tail
  rw [numOf_str h]
theorem ex_no (h1 : ¬ (hdW ws ∈ signs ∧ 1 < r)) (h2 : ¬ ((hdW ws = "has" ∨ hdW ws = "cell") ∧ 1 < r ∧ sc.table ≠ [])) (h3 : hdW ws ∉ sc.loc) (h4 : hdW ws ∉ sc.var) (h5 : inR (hdW ws) 0 65535 = false) : EErr sc r ws ws.length := fun rest =>
  run_rej (by
    show (stValue sc rest (hdW ws) r).map _ = none
    rw [sv_end h1 h2, if_neg]
    · rfl
    · rintro (z | z | z)
      · exact h3 z
      · exact h4 z
      · rw [h5] at z; cases z) (.inl (by intro z; cases z))
end
/-! ### statements -/
def begins (sc : Sc) (room : Nat) (w : Str) : Bool :=
  if w = "set" then !sc.var.isEmpty else if w = "put" then !sc.table.isEmpty else if w = "lot" then !sc.lots.isEmpty else if w = "ask" then !sc.asked.isEmpty
  else if w = "if" ∨ w = "after" then decide (0 < room) else decide (w = "let" ∨ w = "draw" ∨ w = "bad")
def kdA (k : Kd) (b : Blk) : Kd := if b.isNil = true then k else kdE k
def SOk (sc : Sc) (room : Nat) (ws : List Str) (b : Blk) (ws' : List Str) : Prop := b.isNil = false ∧ ws = blkW b ++ ws' ∧ ws'.length < ws.length ∧ ∀ kd rest, run sc (.block room kd :: rest) ws = run sc (.block room (kdE kd) :: rest) ws'
def SErr (sc : Sc) (room : Nat) (ws : List Str) (n : Nat) : Prop := ∀ kd rest, run sc (.block room kd :: rest) ws = some n
/-- b has been read -/
def PreB (sc : Sc) (room : Nat) (ws : List Str) (b : Blk) (ws' : List Str) : Prop := ws = blkW b ++ ws' ∧ ∀ kd rest, run sc (.block room kd :: rest) ws = run sc (.block room (kdA kd b) :: rest) ws'
def BOk (sc : Sc) (room : Nat) (ws : List Str) (b : Blk) (ws' : List Str) : Prop := PreB sc room ws b ws' ∧ begins sc room (hdW ws') = false
def BErr (sc : Sc) (room : Nat) (ws : List Str) (n : Nat) : Prop := ∀ kd rest, run sc (.block room kd :: rest) ws = some n
section
variable {sc : Sc} {room : Nat} {ws ws1 ws2 ws3 : List Str} {b s t : Blk} {e f : Ex} {n : Nat}
theorem kdE_kdE (k : Kd) : kdE (kdE k) = kdE k := by cases k <;> rfl
theorem preB_nil : PreB sc room ws .nil ws := ⟨rfl, fun _ _ => rfl⟩
theorem preB_snoc (h : PreB sc room ws b ws1) (h1 : SOk sc room ws1 s ws2) : PreB sc room ws (b.app s) ws2 := by
  refine ⟨by rw [h.1, h1.2.1, blkW_app, List.append_assoc], fun kd rest => (h.2 kd rest).trans ((h1.2.2.2 _ rest).trans ?_)⟩
  have e : kdE (kdA kd b) = kdA kd (b.app s) := by
    unfold kdA
    rw [app_isNil, h1.1, Bool.and_false, if_neg Bool.false_ne_true]
    cases b.isNil
    · rw [if_neg Bool.false_ne_true, kdE_kdE]
    · rw [if_pos rfl]
  rw [e]
theorem preB_err (h : PreB sc room ws b ws1) (h1 : SErr sc room ws1 n) : BErr sc room ws n := fun kd rest => (h.2 kd rest).trans (h1 _ rest)
theorem begins_word (h : begins sc room (hdW ws) = true) : hdW ws = "set" ∨ hdW ws = "put" ∨ hdW ws = "lot" ∨ hdW ws = "ask" ∨ hdW ws = "if" ∨ hdW ws = "after" ∨ hdW ws = "let" ∨ hdW ws = "draw" ∨ hdW ws = "bad" := by
  unfold begins at h
  split at h
  · rename_i c; exact .inl c
  · split at h
    · rename_i c; exact .inr (.inl c)
    · split at h
      · rename_i c; exact .inr (.inr (.inl c))
      · split at h
        · rename_i c; exact .inr (.inr (.inr (.inl c)))
        · split at h
          · rename_i c
            rcases c with c | c
            · exact .inr (.inr (.inr (.inr (.inl c))))
            · exact .inr (.inr (.inr (.inr (.inr (.inl c)))))
          · have h := of_decide_eq_true h
            rcases h with c | c | c
            · exact .inr (.inr (.inr (.inr (.inr (.inr (.inl c))))))
            · exact .inr (.inr (.inr (.inr (.inr (.inr (.inr (.inl c)))))))
            · exact .inr (.inr (.inr (.inr (.inr (.inr (.inr (.inr c)))))))
/-- a statement's word is no end of a block -/
theorem run_begin {w : Str} {kd : Kd} {rest st : List It} (hw : hdW ws = w) (h1 : w ≠ "answer") (h2 : w ≠ "end") (h3 : w ≠ "else") (h4 : w ≠ Str.empty) (h : stBegins sc (.block room (kdE kd) :: rest) w room = some st) :
    run sc (.block room kd :: rest) ws = run sc st ws.tail := by
  rw [tail_of hw h4]
  refine run_some ?_
  show (stBlocks sc rest w room kd).map _ = _
  unfold stBlocks
  rw [if_neg (fun z => h1 z.1), if_neg (fun z => h2 z.1), if_neg (fun z => h3 z.1), h]
  rfl
theorem bg_set : begins sc room "set" = !sc.var.isEmpty := by unfold begins; rw [if_pos rfl]
theorem bg_put : begins sc room "put" = !sc.table.isEmpty := by unfold begins; rw [if_neg (by decide +kernel), if_pos rfl]
theorem bg_lot : begins sc room "lot" = !sc.lots.isEmpty := by unfold begins; rw [if_neg (by decide +kernel), if_neg (by decide +kernel), if_pos rfl]
theorem bg_ask : begins sc room "ask" = !sc.asked.isEmpty := by unfold begins; rw [if_neg (by decide +kernel), if_neg (by decide +kernel), if_neg (by decide +kernel), if_pos rfl]
theorem bg_if : begins sc room "if" = decide (0 < room) := by unfold begins; rw [if_neg (by decide +kernel), if_neg (by decide +kernel), if_neg (by decide +kernel), if_neg (by decide +kernel), if_pos (.inl rfl)]
theorem bg_after : begins sc room "after" = decide (0 < room) := by unfold begins; rw [if_neg (by decide +kernel), if_neg (by decide +kernel), if_neg (by decide +kernel), if_neg (by decide +kernel), if_pos (.inr rfl)]
theorem bg_let : begins sc room "let" = true := by unfold begins; rw [if_neg (by decide +kernel), if_neg (by decide +kernel), if_neg (by decide +kernel), if_neg (by decide +kernel), if_neg (by decide +kernel)]; decide +kernel
theorem bg_draw : begins sc room "draw" = true := by unfold begins; rw [if_neg (by decide +kernel), if_neg (by decide +kernel), if_neg (by decide +kernel), if_neg (by decide +kernel), if_neg (by decide +kernel)]; decide +kernel
theorem bg_bad : begins sc room "bad" = true := by unfold begins; rw [if_neg (by decide +kernel), if_neg (by decide +kernel), if_neg (by decide +kernel), if_neg (by decide +kernel), if_neg (by decide +kernel)]; decide +kernel
theorem ne_isEmpty {l : List Str} (h : l ≠ []) : (!l.isEmpty) = true := by
  cases l with
  | nil => exact absurd rfl h
  | cons a r => rfl
theorem ne_of_isEmpty {l : List Str} (h : (!l.isEmpty) = true) : l ≠ [] := fun e => by
  rw [e] at h
  cases h
/-- what does not begin a statement, and is none of the block's ends, is refused -/
theorem begins_no {w : Str} {st : List It} (h : begins sc room w = false) : stBegins sc st w room = none := by
  have no : ∀ {p : Prop}, begins sc room w = true → p := fun z => by rw [h] at z; cases z
  unfold stBegins
  rw [if_neg (fun z => no (by rw [z.1, bg_set]; exact ne_isEmpty z.2)), if_neg (fun z => no (by rw [z, bg_let])), if_neg (fun z => no (by rw [z, bg_draw])), if_neg (fun z => no (by rw [z.1, bg_put]; exact ne_isEmpty z.2)),
    if_neg (fun z => no (by rw [z.1, bg_lot]; exact ne_isEmpty z.2)), if_neg (fun z => no (by rw [z.1, bg_ask]; exact ne_isEmpty z.2)), if_neg (fun z => no (by rw [z.1, bg_if]; exact decide_eq_true z.2)),
    if_neg (fun z => no (by rw [z.1, bg_after]; exact decide_eq_true z.2)), if_neg (fun z => no (by rw [z, bg_bad]))]
theorem run_block_no {kd : Kd} {rest : List It} (hb : begins sc room (hdW ws) = false) (h1 : ¬ (hdW ws = "answer" ∧ kd = .proc)) (h2 : ¬ (hdW ws = "end" ∧ (kd = .then_ ∨ kd = .else_ ∨ kd = .after))) (h3 : ¬ (hdW ws = "else" ∧ kd = .then_)) :
    run sc (.block room kd :: rest) ws = some ws.length := by
  refine run_rej ?_ (.inl (by intro z; cases z))
  show (stBlocks sc rest (hdW ws) room kd).map _ = none
  unfold stBlocks
  rw [if_neg h1, if_neg h2, if_neg h3, begins_no hb]
  rfl
theorem run_block_end {kd : Kd} {rest : List It} (hw : hdW ws = "end") (hk : kd = .then_ ∨ kd = .else_ ∨ kd = .after) : run sc (.block room kd :: rest) ws = run sc rest ws.tail := by
  rw [tail_of hw (by decide +kernel)]
  refine run_some ?_
  show (stBlocks sc rest "end" room kd).map _ = _
  unfold stBlocks
  rw [if_neg (fun z => absurd z.1 (by decide +kernel)), if_pos ⟨rfl, hk⟩]
  rfl
theorem run_block_else {rest : List It} (hw : hdW ws = "else") : run sc (.block room .then_ :: rest) ws = run sc (.block room .empty :: rest) ws.tail := by
  rw [tail_of hw (by decide +kernel)]
  refine run_some ?_
  show (stBlocks sc rest "else" room .then_).map _ = _
  unfold stBlocks
  rw [if_neg (fun z => absurd z.1 (by decide +kernel)), if_neg (fun z => absurd z.1 (by decide +kernel)), if_pos ⟨rfl, rfl⟩]
  rfl
theorem run_block_answer {rest : List It} (hw : hdW ws = "answer") : run sc (.block room .proc :: rest) ws = run sc (.value 8 :: .word "end" :: rest) ws.tail := by
  rw [tail_of hw (by decide +kernel)]
  refine run_some ?_
  show (stBlocks sc rest "answer" room .proc).map _ = _
  unfold stBlocks
  rw [if_pos ⟨rfl, rfl⟩]
  rfl
/-! the words' own first turns -/
theorem sb_bad {st : List It} : stBegins sc st "bad" room = some st := by
  unfold stBegins
  rw [if_neg (fun z => absurd z.1 (by decide +kernel)), if_neg (by decide +kernel), if_neg (by decide +kernel), if_neg (fun z => absurd z.1 (by decide +kernel)), if_neg (fun z => absurd z.1 (by decide +kernel)), if_neg (fun z => absurd z.1 (by decide +kernel)), if_neg (fun z => absurd z.1 (by decide +kernel)), if_neg (fun z => absurd z.1 (by decide +kernel)), if_pos rfl]
theorem sb_after {st : List It} (h : 0 < room) : stBegins sc st "after" room = some (.block (room - 1) .after :: st) := by
  unfold stBegins
  rw [if_neg (fun z => absurd z.1 (by decide +kernel)), if_neg (by decide +kernel), if_neg (by decide +kernel), if_neg (fun z => absurd z.1 (by decide +kernel)), if_neg (fun z => absurd z.1 (by decide +kernel)), if_neg (fun z => absurd z.1 (by decide +kernel)), if_neg (fun z => absurd z.1 (by decide +kernel)), if_pos ⟨rfl, h⟩]
theorem sb_if {st : List It} (h : 0 < room) : stBegins sc st "if" room = some (.value 8 :: .block (room - 1) .then_ :: st) := by
  unfold stBegins
  rw [if_neg (fun z => absurd z.1 (by decide +kernel)), if_neg (by decide +kernel), if_neg (by decide +kernel), if_neg (fun z => absurd z.1 (by decide +kernel)), if_neg (fun z => absurd z.1 (by decide +kernel)), if_neg (fun z => absurd z.1 (by decide +kernel)), if_pos ⟨rfl, h⟩]
theorem sb_ask {st : List It} (h : sc.asked ≠ []) : stBegins sc st "ask" room = some (.one .loc :: .one .asked :: .value 8 :: st) := by
  unfold stBegins
  rw [if_neg (fun z => absurd z.1 (by decide +kernel)), if_neg (by decide +kernel), if_neg (by decide +kernel), if_neg (fun z => absurd z.1 (by decide +kernel)), if_neg (fun z => absurd z.1 (by decide +kernel)), if_pos ⟨rfl, h⟩]
theorem sb_lot {st : List It} (h : sc.lots ≠ []) : stBegins sc st "lot" room = some (.one .loc :: .one .lots :: .value 8 :: st) := by
  unfold stBegins
  rw [if_neg (fun z => absurd z.1 (by decide +kernel)), if_neg (by decide +kernel), if_neg (by decide +kernel), if_neg (fun z => absurd z.1 (by decide +kernel)), if_pos ⟨rfl, h⟩]
theorem sb_put {st : List It} (h : sc.table ≠ []) : stBegins sc st "put" room = some (.one .table :: .value 8 :: .value 8 :: st) := by
  unfold stBegins
  rw [if_neg (fun z => absurd z.1 (by decide +kernel)), if_neg (by decide +kernel), if_neg (by decide +kernel), if_pos ⟨rfl, h⟩]
theorem sb_draw {st : List It} : stBegins sc st "draw" room = some (.one .loc :: .num 1 64 :: st) := by
  unfold stBegins
  rw [if_neg (fun z => absurd z.1 (by decide +kernel)), if_neg (by decide +kernel), if_pos rfl]
theorem sb_let {st : List It} : stBegins sc st "let" room = some (.one .loc :: .value 8 :: st) := by
  unfold stBegins
  rw [if_neg (fun z => absurd z.1 (by decide +kernel)), if_pos rfl]
theorem sb_set {st : List It} (h : sc.var ≠ []) : stBegins sc st "set" room = some (.one .var :: .value 8 :: st) := by
  unfold stBegins
  rw [if_pos ⟨rfl, h⟩]
variable {kd : Kd} {rest : List It}
theorem rb_bad (hw : hdW ws = "bad") : run sc (.block room kd :: rest) ws = run sc (.block room (kdE kd) :: rest) ws.tail := run_begin hw (by decide +kernel) (by decide +kernel) (by decide +kernel) (by decide +kernel) sb_bad
theorem rb_after (hw : hdW ws = "after") (h : 0 < room) : run sc (.block room kd :: rest) ws = run sc (.block (room - 1) .after :: .block room (kdE kd) :: rest) ws.tail := run_begin hw (by decide +kernel) (by decide +kernel) (by decide +kernel) (by decide +kernel) (sb_after h)
theorem rb_if (hw : hdW ws = "if") (h : 0 < room) : run sc (.block room kd :: rest) ws = run sc (.value 8 :: .block (room - 1) .then_ :: .block room (kdE kd) :: rest) ws.tail := run_begin hw (by decide +kernel) (by decide +kernel) (by decide +kernel) (by decide +kernel) (sb_if h)
theorem rb_ask (hw : hdW ws = "ask") (h : sc.asked ≠ []) : run sc (.block room kd :: rest) ws = run sc (.one .loc :: .one .asked :: .value 8 :: .block room (kdE kd) :: rest) ws.tail := run_begin hw (by decide +kernel) (by decide +kernel) (by decide +kernel) (by decide +kernel) (sb_ask h)
theorem rb_lot (hw : hdW ws = "lot") (h : sc.lots ≠ []) : run sc (.block room kd :: rest) ws = run sc (.one .loc :: .one .lots :: .value 8 :: .block room (kdE kd) :: rest) ws.tail := run_begin hw (by decide +kernel) (by decide +kernel) (by decide +kernel) (by decide +kernel) (sb_lot h)
theorem rb_put (hw : hdW ws = "put") (h : sc.table ≠ []) : run sc (.block room kd :: rest) ws = run sc (.one .table :: .value 8 :: .value 8 :: .block room (kdE kd) :: rest) ws.tail := run_begin hw (by decide +kernel) (by decide +kernel) (by decide +kernel) (by decide +kernel) (sb_put h)
theorem rb_draw (hw : hdW ws = "draw") : run sc (.block room kd :: rest) ws = run sc (.one .loc :: .num 1 64 :: .block room (kdE kd) :: rest) ws.tail := run_begin hw (by decide +kernel) (by decide +kernel) (by decide +kernel) (by decide +kernel) sb_draw
theorem rb_let (hw : hdW ws = "let") : run sc (.block room kd :: rest) ws = run sc (.one .loc :: .value 8 :: .block room (kdE kd) :: rest) ws.tail := run_begin hw (by decide +kernel) (by decide +kernel) (by decide +kernel) (by decide +kernel) sb_let
theorem rb_set (hw : hdW ws = "set") (h : sc.var ≠ []) : run sc (.block room kd :: rest) ws = run sc (.one .var :: .value 8 :: .block room (kdE kd) :: rest) ws.tail := run_begin hw (by decide +kernel) (by decide +kernel) (by decide +kernel) (by decide +kernel) (sb_set h)
end
section
variable {sc : Sc} {room : Nat} {ws ws1 ws2 ws3 : List Str} {b s t : Blk} {e f : Ex} {n : Nat} {m : Int}
theorem BOk.le (h : BOk sc room ws b ws1) : ws1.length ≤ ws.length := by
  have := congrArg List.length h.1.1
  rw [List.length_append] at this
  omega
theorem st_bad (hw : hdW ws = "bad") : SOk sc room ws (.bad .nil) ws.tail := by
  have e := tail_of hw (by decide +kernel)
  refine ⟨rfl, e, by have := len_tail hw (by decide +kernel); omega, fun kd rest => rb_bad hw⟩
theorem st_after (hw : hdW ws = "after") (hr : 0 < room) (h1 : BOk sc (room - 1) ws.tail b ws1) (h2 : hdW ws1 = "end") : SOk sc room ws (.after b .nil) ws1.tail := by
  have e := tail_of hw (by decide +kernel)
  have e1 := tail_of h2 (by decide +kernel)
  refine ⟨rfl, ?_, ?_, fun kd rest => (rb_after hw hr).trans ((h1.1.2 _ _).trans (run_block_end h2 ?_))⟩
  · conv => lhs; rw [e, h1.1.1, e1]
    simp only [blkW, List.cons_append, List.append_assoc, List.nil_append]
  · have := len_tail hw (by decide +kernel)
    have := len_tail h2 (by decide +kernel)
    have := h1.le
    omega
  · unfold kdA
    cases b.isNil <;> exact .inr (.inr rfl)
theorem st_after1 (hw : hdW ws = "after") (hr : 0 < room) (h1 : BErr sc (room - 1) ws.tail n) : SErr sc room ws n := fun kd rest => (rb_after hw hr).trans (h1 _ _)
theorem st_after2 (hw : hdW ws = "after") (hr : 0 < room) (h1 : BOk sc (room - 1) ws.tail b ws1) (h2 : hdW ws1 ≠ "end") : SErr sc room ws ws1.length := fun kd rest => (rb_after hw hr).trans ((h1.1.2 _ _).trans (by
  have e : kdA .after b = .after := by unfold kdA; cases b.isNil <;> rfl
  rw [e]
  exact run_block_no h1.2 (fun z => by cases z.2) (fun z => h2 z.1) (fun z => by cases z.2)))
theorem then_kd : kdA .then_ b = .then_ := by unfold kdA; cases b.isNil <;> rfl
theorem run_if (hw : hdW ws = "if") (hr : 0 < room) (h1 : EOk sc 8 ws.tail e ws1) (h2 : BOk sc (room - 1) ws1 s ws2) (kd : Kd) (rest : List It) : run sc (.block room kd :: rest) ws = run sc (.block (room - 1) .then_ :: .block room (kdE kd) :: rest) ws2 :=
  (rb_if hw hr).trans ((h1.2 _).trans ((h2.1.2 _ _).trans (by rw [then_kd])))
theorem st_if (hw : hdW ws = "if") (hr : 0 < room) (h1 : EOk sc 8 ws.tail e ws1) (h2 : BOk sc (room - 1) ws1 s ws2) (h3 : hdW ws2 = "end") : SOk sc room ws (.ite e s .nil .nil) ws2.tail := by
  refine ⟨rfl, ?_, ?_, fun kd rest => (run_if hw hr h1 h2 kd rest).trans (run_block_end h3 (.inl rfl))⟩
  · conv => lhs; rw [tail_of hw (by decide +kernel), h1.1, h2.1.1, tail_of h3 (by decide +kernel)]
    simp only [blkW, Blk.isNil, List.cons_append, List.append_assoc, List.nil_append, if_true]
  · have := len_tail hw (by decide +kernel)
    have := len_tail h3 (by decide +kernel)
    have := h2.le
    have := h1.len
    omega
theorem st_if1 (hw : hdW ws = "if") (hr : 0 < room) (h1 : EErr sc 8 ws.tail n) : SErr sc room ws n := fun kd rest => (rb_if hw hr).trans (h1 _)
theorem st_if2 (hw : hdW ws = "if") (hr : 0 < room) (h1 : EOk sc 8 ws.tail e ws1) (h2 : BErr sc (room - 1) ws1 n) : SErr sc room ws n := fun kd rest => (rb_if hw hr).trans ((h1.2 _).trans (h2 _ _))
theorem st_if3 (hw : hdW ws = "if") (hr : 0 < room) (h1 : EOk sc 8 ws.tail e ws1) (h2 : BOk sc (room - 1) ws1 s ws2) (h3 : hdW ws2 ≠ "else") (h4 : hdW ws2 ≠ "end") : SErr sc room ws ws2.length := fun kd rest =>
  (run_if hw hr h1 h2 kd rest).trans (run_block_no h2.2 (fun z => by cases z.2) (fun z => h4 z.1) (fun z => h3 z.1))
theorem run_else (hw : hdW ws = "if") (hr : 0 < room) (h1 : EOk sc 8 ws.tail e ws1) (h2 : BOk sc (room - 1) ws1 s ws2) (h3 : hdW ws2 = "else") (kd : Kd) (rest : List It) : run sc (.block room kd :: rest) ws = run sc (.block (room - 1) .empty :: .block room (kdE kd) :: rest) ws2.tail :=
  (run_if hw hr h1 h2 kd rest).trans (run_block_else h3)
theorem st_else (hw : hdW ws = "if") (hr : 0 < room) (h1 : EOk sc 8 ws.tail e ws1) (h2 : BOk sc (room - 1) ws1 s ws2) (h3 : hdW ws2 = "else") (h4 : BOk sc (room - 1) ws2.tail t ws3) (ht : t.isNil = false) (h5 : hdW ws3 = "end") : SOk sc room ws (.ite e s t .nil) ws3.tail := by
  refine ⟨rfl, ?_, ?_, fun kd rest => (run_else hw hr h1 h2 h3 kd rest).trans ((h4.1.2 _ _).trans (run_block_end h5 ?_))⟩
  · conv => lhs; rw [tail_of hw (by decide +kernel), h1.1, h2.1.1, tail_of h3 (by decide +kernel), h4.1.1, tail_of h5 (by decide +kernel)]
    simp only [blkW, ht, List.cons_append, List.append_assoc, List.nil_append, Bool.false_eq_true, if_false]
  · have := len_tail hw (by decide +kernel)
    have := len_tail h3 (by decide +kernel)
    have := len_tail h5 (by decide +kernel)
    have := h2.le
    have := h4.le
    have := h1.len
    omega
  · unfold kdA
    rw [ht, if_neg Bool.false_ne_true]
    exact .inr (.inl rfl)
theorem st_else1 (hw : hdW ws = "if") (hr : 0 < room) (h1 : EOk sc 8 ws.tail e ws1) (h2 : BOk sc (room - 1) ws1 s ws2) (h3 : hdW ws2 = "else") (h4 : BErr sc (room - 1) ws2.tail n) : SErr sc room ws n := fun kd rest =>
  (run_else hw hr h1 h2 h3 kd rest).trans (h4 _ _)
theorem st_else2 (hw : hdW ws = "if") (hr : 0 < room) (h1 : EOk sc 8 ws.tail e ws1) (h2 : BOk sc (room - 1) ws1 s ws2) (h3 : hdW ws2 = "else") (h4 : BOk sc (room - 1) ws2.tail t ws3) (ht : t.isNil = true) : SErr sc room ws ws3.length := fun kd rest =>
  (run_else hw hr h1 h2 h3 kd rest).trans ((h4.1.2 _ _).trans (by
    have e : kdA .empty t = .empty := by unfold kdA; rw [ht, if_pos rfl]
    rw [e]
    exact run_block_no h4.2 (fun z => by cases z.2) (fun z => by rcases z.2 with y | y | y <;> cases y) (fun z => by cases z.2)))
theorem st_else3 (hw : hdW ws = "if") (hr : 0 < room) (h1 : EOk sc 8 ws.tail e ws1) (h2 : BOk sc (room - 1) ws1 s ws2) (h3 : hdW ws2 = "else") (h4 : BOk sc (room - 1) ws2.tail t ws3) (ht : t.isNil = false) (h5 : hdW ws3 ≠ "end") : SErr sc room ws ws3.length := fun kd rest =>
  (run_else hw hr h1 h2 h3 kd rest).trans ((h4.1.2 _ _).trans (by
    have e : kdA .empty t = .else_ := by unfold kdA; rw [ht, if_neg Bool.false_ne_true]; rfl
    rw [e]
    exact run_block_no h4.2 (fun z => by cases z.2) (fun z => h5 z.1) (fun z => by cases z.2)))
/-! set, let, draw, put, lot, ask -/
theorem st_set (N : NoE sc) (hw : hdW ws = "set") (hv : sc.var ≠ []) (h1 : hdW ws.tail ∈ sc.var) (h2 : EOk sc 8 ws.tail.tail e ws1) : SOk sc room ws (.gen "set" [hdW ws.tail] e .nil) ws1 := by
  have ne := hd_mem_ne (t := .var) N h1
  refine ⟨rfl, ?_, ?_, fun kd rest => (rb_set hw hv).trans ((run_one_ok (t := .var) N h1).trans (h2.2 _))⟩
  · conv => lhs; rw [tail_of hw (by decide +kernel), tail_of (ws := ws.tail) rfl ne, h2.1]
    simp only [blkW, List.cons_append, List.append_assoc, List.nil_append]
  · have := len_tail hw (by decide +kernel)
    have := len_tail (ws := ws.tail) rfl ne
    have := h2.len
    omega
theorem st_set1 (hw : hdW ws = "set") (hv : sc.var ≠ []) (h1 : hdW ws.tail ∉ sc.var) : SErr sc room ws ws.tail.length := fun kd rest => (rb_set hw hv).trans (run_one_err (t := .var) h1)
theorem st_set2 (N : NoE sc) (hw : hdW ws = "set") (hv : sc.var ≠ []) (h1 : hdW ws.tail ∈ sc.var) (h2 : EErr sc 8 ws.tail.tail n) : SErr sc room ws n := fun kd rest => (rb_set hw hv).trans ((run_one_ok (t := .var) N h1).trans (h2 _))
theorem st_let (N : NoE sc) (hw : hdW ws = "let") (h1 : hdW ws.tail ∈ sc.loc) (h2 : EOk sc 8 ws.tail.tail e ws1) : SOk sc room ws (.gen "let" [hdW ws.tail] e .nil) ws1 := by
  have ne := hd_mem_ne (t := .loc) N h1
  refine ⟨rfl, ?_, ?_, fun kd rest => (rb_let hw).trans ((run_one_ok (t := .loc) N h1).trans (h2.2 _))⟩
  · conv => lhs; rw [tail_of hw (by decide +kernel), tail_of (ws := ws.tail) rfl ne, h2.1]
    simp only [blkW, List.cons_append, List.append_assoc, List.nil_append]
  · have := len_tail hw (by decide +kernel)
    have := len_tail (ws := ws.tail) rfl ne
    have := h2.len
    omega
theorem st_let2 (N : NoE sc) (hw : hdW ws = "let") (h1 : hdW ws.tail ∈ sc.loc) (h2 : EErr sc 8 ws.tail.tail n) : SErr sc room ws n := fun kd rest => (rb_let hw).trans ((run_one_ok (t := .loc) N h1).trans (h2 _))
theorem st_let1 (hw : hdW ws = "let") (h1 : hdW ws.tail ∉ sc.loc) : SErr sc room ws ws.tail.length := fun kd rest => (rb_let hw).trans (run_one_err (t := .loc) h1)
theorem st_draw1 (hw : hdW ws = "draw") (h1 : hdW ws.tail ∉ sc.loc) : SErr sc room ws ws.tail.length := fun kd rest => (rb_draw hw).trans (run_one_err (t := .loc) h1)
theorem st_lot1 (hw : hdW ws = "lot") (hl : sc.lots ≠ []) (h1 : hdW ws.tail ∉ sc.loc) : SErr sc room ws ws.tail.length := fun kd rest => (rb_lot hw hl).trans (run_one_err (t := .loc) h1)
theorem st_ask1 (hw : hdW ws = "ask") (hl : sc.asked ≠ []) (h1 : hdW ws.tail ∉ sc.loc) : SErr sc room ws ws.tail.length := fun kd rest => (rb_ask hw hl).trans (run_one_err (t := .loc) h1)
theorem st_draw (N : NoE sc) (hw : hdW ws = "draw") (h1 : hdW ws.tail ∈ sc.loc) (h2 : numOf (hdW ws.tail.tail) = some m) (h3 : 1 ≤ m) (h4 : m ≤ 64) : SOk sc room ws (.draw (hdW ws.tail) m .nil) ws.tail.tail.tail := by
  have ne := hd_mem_ne (t := .loc) N h1
  refine ⟨rfl, ?_, ?_, fun kd rest => (rb_draw hw).trans ((run_one_ok (t := .loc) N h1).trans (run_num_ok h2 h3 h4))⟩
  · conv => lhs; rw [tail_of hw (by decide +kernel), tail_of (ws := ws.tail) rfl ne, tail_of (ws := ws.tail.tail) rfl (num_ne h2)]
    simp only [blkW, List.cons_append, List.append_assoc, List.nil_append, numOf_str h2]
  · have := len_tail hw (by decide +kernel)
    have := len_tail (ws := ws.tail) rfl ne
    have := len_tail (ws := ws.tail.tail) rfl (num_ne h2)
    omega
theorem st_draw2 (N : NoE sc) (hw : hdW ws = "draw") (h1 : hdW ws.tail ∈ sc.loc) (h2 : inR (hdW ws.tail.tail) 1 64 = false) : SErr sc room ws ws.tail.tail.length := fun kd rest => (rb_draw hw).trans ((run_one_ok (t := .loc) N h1).trans (run_num_err h2))
theorem st_put (N : NoE sc) (hw : hdW ws = "put") (hv : sc.table ≠ []) (h1 : hdW ws.tail ∈ sc.table) (h2 : EOk sc 8 ws.tail.tail e ws1) (h3 : EOk sc 8 ws1 f ws2) : SOk sc room ws (.put (hdW ws.tail) e f .nil) ws2 := by
  have ne := hd_mem_ne (t := .table) N h1
  refine ⟨rfl, ?_, ?_, fun kd rest => (rb_put hw hv).trans ((run_one_ok (t := .table) N h1).trans ((h2.2 _).trans (h3.2 _)))⟩
  · conv => lhs; rw [tail_of hw (by decide +kernel), tail_of (ws := ws.tail) rfl ne, h2.1, h3.1]
    simp only [blkW, List.cons_append, List.append_assoc, List.nil_append]
  · have := len_tail hw (by decide +kernel)
    have := len_tail (ws := ws.tail) rfl ne
    have := h2.len
    have := h3.len
    omega
theorem st_put1 (hw : hdW ws = "put") (hv : sc.table ≠ []) (h1 : hdW ws.tail ∉ sc.table) : SErr sc room ws ws.tail.length := fun kd rest => (rb_put hw hv).trans (run_one_err (t := .table) h1)
theorem st_put2 (N : NoE sc) (hw : hdW ws = "put") (hv : sc.table ≠ []) (h1 : hdW ws.tail ∈ sc.table) (h2 : EErr sc 8 ws.tail.tail n) : SErr sc room ws n := fun kd rest => (rb_put hw hv).trans ((run_one_ok (t := .table) N h1).trans (h2 _))
theorem st_put3 (N : NoE sc) (hw : hdW ws = "put") (hv : sc.table ≠ []) (h1 : hdW ws.tail ∈ sc.table) (h2 : EOk sc 8 ws.tail.tail e ws1) (h3 : EErr sc 8 ws1 n) : SErr sc room ws n := fun kd rest => (rb_put hw hv).trans ((run_one_ok (t := .table) N h1).trans ((h2.2 _).trans (h3 _)))
/-- lot | ask: k, the table of names t -/
theorem st_two (N : NoE sc) {k : Str} {tb : Tb} (hb : ∀ kd rest, run sc (.block room kd :: rest) ws = run sc (.one .loc :: .one tb :: .value 8 :: .block room (kdE kd) :: rest) ws.tail) (hw : hdW ws = k) (hk : k ≠ Str.empty) (h1 : hdW ws.tail ∈ sc.loc) (h2 : hdW ws.tail.tail ∈ sc.get tb)
    (h3 : EOk sc 8 ws.tail.tail.tail e ws1) : SOk sc room ws (.gen k [hdW ws.tail, hdW ws.tail.tail] e .nil) ws1 := by
  have ne := hd_mem_ne (t := .loc) N h1
  have ne2 := hd_mem_ne N h2
  refine ⟨rfl, ?_, ?_, fun kd rest => (hb kd rest).trans ((run_one_ok (t := .loc) N h1).trans ((run_one_ok N h2).trans (h3.2 _)))⟩
  · conv => lhs; rw [tail_of hw hk, tail_of (ws := ws.tail) rfl ne, tail_of (ws := ws.tail.tail) rfl ne2, h3.1]
    simp only [blkW, List.cons_append, List.append_assoc, List.nil_append]
  · have := len_tail hw hk
    have := len_tail (ws := ws.tail) rfl ne
    have := len_tail (ws := ws.tail.tail) rfl ne2
    have := h3.len
    omega
theorem st_two1 (N : NoE sc) {tb : Tb} (hb : ∀ kd rest, run sc (.block room kd :: rest) ws = run sc (.one .loc :: .one tb :: .value 8 :: .block room (kdE kd) :: rest) ws.tail) (h1 : hdW ws.tail ∈ sc.loc) (h2 : hdW ws.tail.tail ∉ sc.get tb) : SErr sc room ws ws.tail.tail.length := fun kd rest =>
  (hb kd rest).trans ((run_one_ok (t := .loc) N h1).trans (run_one_err h2))
theorem st_two2 (N : NoE sc) {tb : Tb} (hb : ∀ kd rest, run sc (.block room kd :: rest) ws = run sc (.one .loc :: .one tb :: .value 8 :: .block room (kdE kd) :: rest) ws.tail) (h1 : hdW ws.tail ∈ sc.loc) (h2 : hdW ws.tail.tail ∈ sc.get tb) (h3 : EErr sc 8 ws.tail.tail.tail n) : SErr sc room ws n := fun kd rest =>
  (hb kd rest).trans ((run_one_ok (t := .loc) N h1).trans ((run_one_ok N h2).trans (h3 _)))
end
end K4

/-! The plain law, third part: the heads of a game, a procedure. -/
namespace K4
open PySem
section
variable {sc : Sc} {rest : List It} {ws : List Str}
theorem run_var (hw : hdW ws = "var") (hs : sc.stage ≤ 0) (hl : sc.var.length ≤ 5) : run sc [.head] ws = run { sc with stage := 0 } [.new .var, .size, .first, .head] ws.tail := by
  rw [tail_of hw (by decide +kernel)]
  refine run_some ?_
  show stHeads sc [] "var" = _
  unfold stHeads
  rw [if_pos ⟨rfl, hs, hl⟩]
theorem run_table (hw : hdW ws = "table") (hs : sc.stage ≤ 1) (hl : sc.table.length ≤ 5) : run sc [.head] ws = run { sc with stage := 1 } [.new .table, .num 1 64, .num 1 64, .head] ws.tail := by
  rw [tail_of hw (by decide +kernel)]
  refine run_some ?_
  show stHeads sc [] "table" = _
  unfold stHeads
  rw [if_neg (fun z => absurd z.1 (by decide +kernel)), if_pos ⟨rfl, hs, hl⟩]
theorem run_lots (hw : hdW ws = "lots") (hs : sc.stage ≤ 2) (hl : sc.lots.length ≤ 5) : run sc [.head] ws = run { sc with stage := 2 } [.new .lots, .num 1 64, .num 1 64, .head] ws.tail := by
  rw [tail_of hw (by decide +kernel)]
  refine run_some ?_
  show stHeads sc [] "lots" = _
  unfold stHeads
  rw [if_neg (fun z => absurd z.1 (by decide +kernel)), if_neg (fun z => absurd z.1 (by decide +kernel)), if_pos ⟨rfl, hs, hl⟩]
theorem run_proc (hw : hdW ws = "proc") (hs : sc.stage ≤ 3) (hl : sc.proc.length ≤ 5) : run sc [.head] ws = run { sc with stage := 3, loc := [] } [.new .proc, .num 1 64, .num 1 64, .new .loc, .locals, .head] ws.tail := by
  rw [tail_of hw (by decide +kernel)]
  refine run_some ?_
  show stHeads sc [] "proc" = _
  unfold stHeads
  rw [if_neg (fun z => absurd z.1 (by decide +kernel)), if_neg (fun z => absurd z.1 (by decide +kernel)), if_neg (fun z => absurd z.1 (by decide +kernel)), if_pos ⟨rfl, hs, hl⟩]
/-- no head may stand here -/
theorem run_head_no (hne : ws ≠ []) (h0 : hdW ws = "var" → ¬ (sc.stage ≤ 0 ∧ sc.var.length ≤ 5)) (h1 : hdW ws = "table" → ¬ (sc.stage ≤ 1 ∧ sc.table.length ≤ 5)) (h2 : hdW ws = "lots" → ¬ (sc.stage ≤ 2 ∧ sc.lots.length ≤ 5))
    (h3 : hdW ws = "proc" → ¬ (sc.stage ≤ 3 ∧ sc.proc.length ≤ 5)) : run sc [.head] ws = some ws.length := by
  cases ws with
  | nil => exact absurd rfl hne
  | cons w ws =>
    refine run_none ?_
    show stHeads sc [] w = none
    unfold stHeads
    rw [if_neg (fun z => h0 z.1 z.2), if_neg (fun z => h1 z.1 z.2), if_neg (fun z => h2 z.1 z.2), if_neg (fun z => h3 z.1 z.2)]
theorem run_local (hw : hdW ws = "local") (hl : sc.loc.length < 6) : run sc (.locals :: rest) ws = run sc (.new .loc :: .locals :: rest) ws.tail := by
  rw [tail_of hw (by decide +kernel)]
  refine run_some ?_
  show (if ("local" : Str) = "local" ∧ sc.loc.length < 6 then some (sc, It.new .loc :: .locals :: rest) else _) = _
  rw [if_pos ⟨rfl, hl⟩]
theorem run_locals (h : ¬ (hdW ws = "local" ∧ sc.loc.length < 6)) : run sc (.locals :: rest) ws = run sc (.block 6 .proc :: rest) ws := by
  cases ws with
  | nil =>
    show (if It.locals :: rest = [.head] then none else some 0) = (if It.block 6 .proc :: rest = [.head] then none else some 0)
    rw [if_neg (by intro z; cases z), if_neg (by intro z; cases z)]
  | cons w ws =>
    rw [run_cons, run_cons]
    have e : step sc (.locals :: rest) w = step sc (.block 6 .proc :: rest) w := by
      show (if w = "local" ∧ sc.loc.length < 6 then _ else _) = _
      rw [if_neg (show ¬ (w = "local" ∧ sc.loc.length < 6) from h)]
      rfl
    rw [e]
theorem proc_kd (b : Blk) : kdA .proc b = .proc := by unfold kdA; cases b.isNil <;> rfl
theorem empty_kd {b : Blk} {k : Kd} (h : b.isNil = true) : kdA k b = k := by unfold kdA; rw [h, if_pos rfl]
end
/-! ### the machine keeps its ground -/
/-- what is open ends by the head -/
def Grd (st : List It) : Prop := ∃ p, st = p ++ [.head]
theorem Grd.cons {i : It} {st : List It} (h : Grd st) : Grd (i :: st) := by
  obtain ⟨p, rfl⟩ := h
  exact ⟨i :: p, rfl⟩
theorem Grd.ne {st : List It} (h : Grd st) : st ≠ [] := by
  obtain ⟨p, rfl⟩ := h
  simp
theorem Grd.tail {i : It} {st : List It} (h : Grd (i :: st)) (hi : i ≠ .head) : Grd st := by
  obtain ⟨p, e⟩ := h
  cases p with
  | nil =>
    injection e with e1 e2
    exact absurd e1 hi
  | cons a p =>
    injection e with e1 e2
    exact ⟨p, e2⟩
theorem grd_head (st : List It) (h : Grd (.head :: st)) : Grd (.head :: st) := h
theorem stBegins_grd {sc : Sc} {st st' : List It} {w : Str} {room : Nat} (h : stBegins sc st w room = some st') (g : Grd st) : Grd st' := by
  unfold stBegins at h
  repeat' split at h
  all_goals first
    | (cases h; first | exact g | exact g.cons | exact g.cons.cons | exact g.cons.cons.cons)
    | cases h
theorem stBlocks_grd {sc : Sc} {st st' : List It} {w : Str} {room : Nat} {k : Kd} (h : stBlocks sc st w room k = some st') (g : Grd st) : Grd st' := by
  unfold stBlocks at h
  split at h
  · cases h; exact g.cons.cons
  · split at h
    · cases h; exact g
    · split at h
      · cases h; exact g.cons
      · exact stBegins_grd h g.cons
theorem step_grd {sc sc' : Sc} {st st' : List It} {w : Str} (h : step sc st w = some (sc', st')) (g : Grd st) : Grd st' := by
  cases st with
  | nil => cases h
  | cons i st =>
    cases i with
    | word x =>
      have h : (if w = x then some (sc, st) else none) = some (sc', st') := h
      split at h
      · cases h; exact g.tail (by intro z; cases z)
      · cases h
    | one t =>
      have h : (if w ∈ sc.get t then some (sc, st) else none) = some (sc', st') := h
      split at h
      · cases h; exact g.tail (by intro z; cases z)
      · cases h
    | num lo hi =>
      have h : (if inR w lo hi = true then some (sc, st) else none) = some (sc', st') := h
      split at h
      · cases h; exact g.tail (by intro z; cases z)
      · cases h
    | value r =>
      have h : (stValue sc st w r).map (fun s => (sc, s)) = some (sc', st') := h
      have g' := g.tail (by intro z; cases z)
      unfold stValue at h
      split at h
      · cases h; exact g'.cons.cons
      · split at h
        · cases h; exact g'.cons.cons
        · split at h
          · cases h; exact g'
          · cases h
    | block r k =>
      have h : (stBlocks sc st w r k).map (fun s => (sc, s)) = some (sc', st') := h
      obtain ⟨s, hs, e⟩ := Option.map_eq_some_iff.mp h
      cases e
      exact stBlocks_grd hs (g.tail (by intro z; cases z))
    | head =>
      have h : stHeads sc st w = some (sc', st') := h
      unfold stHeads at h
      split at h
      · cases h; exact g.cons.cons.cons
      · split at h
        · cases h; exact g.cons.cons.cons
        · split at h
          · cases h; exact g.cons.cons.cons
          · split at h
            · cases h; exact g.cons.cons.cons.cons.cons
            · cases h
    | locals =>
      have h : (if w = "local" ∧ sc.loc.length < 6 then some (sc, It.new .loc :: .locals :: st) else (stBlocks sc st w 6 .proc).map fun s => (sc, s)) = some (sc', st') := h
      split at h
      · cases h; exact g.cons
      · obtain ⟨s, hs, e⟩ := Option.map_eq_some_iff.mp h
        cases e
        exact stBlocks_grd hs (g.tail (by intro z; cases z))
    | size =>
      have h : (match numOf w with
        | some n => if 1 ≤ n ∧ n ≤ 65535 then some ({ sc with upper := n - 1 }, st) else none
        | none => none) = some (sc', st') := h
      split at h
      · split at h
        · cases h; exact g.tail (by intro z; cases z)
        · cases h
      · cases h
    | first =>
      have h : (if inR w 0 sc.upper = true then some (sc, st) else none) = some (sc', st') := h
      split at h
      · cases h; exact g.tail (by intro z; cases z)
      · cases h
    | new t =>
      have h : (if w ∈ sc.get t ∨ (t = .loc ∧ w ∈ sc.var) ∨ isName w = false then none else some (sc.push w t, st)) = some (sc', st') := h
      split at h
      · cases h
      · cases h; exact g.tail (by intro z; cases z)
/-! ### running in turns (as the law's loop does) -/
def steps : Sc → List It → List Str → Option (Sc × List It)
  | sc, st, [] => some (sc, st)
  | sc, st, w :: ws => match step sc st w with
    | none => none
    | some (sc', st') => steps sc' st' ws
theorem run_steps : ∀ {p ws : List Str} {sc sc' : Sc} {st st' : List It}, steps sc st p = some (sc', st') → run sc st (p ++ ws) = run sc' st' ws
  | [], ws, sc, sc', st, st', h => by cases h; rfl
  | w :: p, ws, sc, sc', st, st', h => by
    have h : (match step sc st w with
      | none => none
      | some (sc', st') => steps sc' st' p) = some (sc', st') := h
    show run sc st (w :: (p ++ ws)) = _
    rw [run_cons]
    cases e : step sc st w with
    | none => rw [e] at h; cases h
    | some q =>
      obtain ⟨sc1, st1⟩ := q
      rw [e] at h
      exact run_steps h
theorem steps_snoc : ∀ {p : List Str} {w : Str} {sc sc1 sc2 : Sc} {st st1 st2 : List It}, steps sc st p = some (sc1, st1) → step sc1 st1 w = some (sc2, st2) → steps sc st (p ++ [w]) = some (sc2, st2)
  | [], w, sc, sc1, sc2, st, st1, st2, h, h2 => by
    cases h
    show (match step sc st w with
      | none => none
      | some (sc', st') => steps sc' st' []) = _
    rw [h2]
    rfl
  | v :: p, w, sc, sc1, sc2, st, st1, st2, h, h2 => by
    have h : (match step sc st v with
      | none => none
      | some (sc', st') => steps sc' st' p) = some (sc1, st1) := h
    show (match step sc st v with
      | none => none
      | some (sc', st') => steps sc' st' (p ++ [w])) = _
    cases e : step sc st v with
    | none => rw [e] at h; cases h
    | some q =>
      obtain ⟨sc', st'⟩ := q
      rw [e] at h
      exact steps_snoc h h2
theorem steps_grd : ∀ {p : List Str} {sc sc' : Sc} {st st' : List It}, steps sc st p = some (sc', st') → Grd st → Grd st'
  | [], sc, sc', st, st', h, g => by cases h; exact g
  | w :: p, sc, sc', st, st', h, g => by
    have h : (match step sc st w with
      | none => none
      | some (sc', st') => steps sc' st' p) = some (sc', st') := h
    cases e : step sc st w with
    | none => rw [e] at h; cases h
    | some q =>
      obtain ⟨sc1, st1⟩ := q
      rw [e] at h
      exact steps_grd h (step_grd e g)
/-- the law's loop stops at the word behind p -/
theorem wrong_at {asked p ws : List Str} {w : Str} {sc : Sc} {st : List It} (h : steps (sc0 asked) [.head] p = some (sc, st)) (h2 : step sc st w = none) : wrong asked (p ++ w :: ws) = some p.length := by
  unfold wrong
  rw [run_steps h, run_none h2]
  show some ((p ++ w :: ws).length - (ws.length + 1)) = some p.length
  rw [List.length_append, List.length_cons]
  congr 1
  omega
theorem wrong_end {asked p : List Str} {sc : Sc} {st : List It} (h : steps (sc0 asked) [.head] p = some (sc, st)) : wrong asked p = if st = [.head] then none else some p.length := by
  unfold wrong
  have e := run_steps (ws := []) h
  rw [List.append_nil] at e
  rw [e]
  show (if st = [.head] then none else some 0).map _ = _
  by_cases c : st = [.head]
  · rw [if_pos c, if_pos c]; rfl
  · rw [if_neg c, if_neg c]; rfl
end K4

/-! The layer of this proof: where the defs stand, rules for calls, what is kept of the heap, the trees in the heap. -/
namespace K4
open PySem PySem.Spec PyProof.Rows L2
/-! ### the text by places -/
def top (i : Nat) : Stmt := PySem.Challenge.pw_tellsnone_k04_whole_texts_are_read_exact.main.body.getD i (.Pass ⟨0, 0, 0, 0⟩)
def meth (i j : Nat) : Stmt := inClass (top i) j
def mkD (x : Str) (i : Nat) : He.DefD := ⟨(x, none), x, x, defArgs (top i), defBody (top i), defScope (top i), [], []⟩
def mkM (c x q : Str) (i j : Nat) : He.DefD := ⟨(c, some x), x, q, defArgs (meth i j), defBody (meth i j), defScope (meth i j), [], []⟩
/-! ### packages: a def that is called by its name, a method, a class that is made -/
section
variable (P : Program) (w : World) (K : PySem.W.Frag) (mg : Str → Option Value) (base : Heap)
structure FnP (CX : CXT) (k : Nat) (x : Str) (ps : List Str) (sp : Sp) : Prop where
  ex : ∃ (f : Addr) (fd : FuncData), FnOk P w K mg base CX k f fd ps sp ∧ mg x = some (.ref f) ∧ PySem.W.keepIn K (.ref f) = true ∧ Binds K fd ps []
structure MtP (CX : CXT) (k : Nat) (C : Addr) (m : Str) (ps : List Str) (sp : Sp) : Prop where
  ex : ∃ (f : Addr) (fd : FuncData), FnOk P w K mg base CX k f fd ps sp ∧ Meth K C m f ∧ Binds K fd ps []
structure MakP (CX : CXT) (k : Nat) (C : Addr) (x : Str) (ps : List Str) (sp : Sp) : Prop where
  ex : ∃ (f : Addr) (fd : FuncData), FnOk P w K mg base CX k f fd ps sp ∧ Mk K C f ∧ mg x = some (.ref C) ∧ Binds K fd ps []
end
section
variable {P : Program} {w : World} {K : PySem.W.Frag} {mg : Str → Option Value} {base : Heap} {CX : CXT} {j k : Nat} {C : Addr} {x m : Str} {ps : List Str} {sp sp' : Sp}
theorem FnP.imp (F : FnP P w K mg base CX k x ps sp) (h : ∀ vs H Q E, sp' vs H Q E → sp vs H Q E) : FnP P w K mg base CX k x ps sp' := by
  obtain ⟨f, fd, F1, h1, h2, h3⟩ := F.ex
  exact ⟨f, fd, F1.imp h, h1, h2, h3⟩
theorem FnP.mono (F : FnP P w K mg base CX j x ps sp) (h : j ≤ k) : FnP P w K mg base CX k x ps sp := by
  obtain ⟨f, fd, F1, h1, h2, h3⟩ := F.ex
  exact ⟨f, fd, F1.mono h, h1, h2, h3⟩
end
section
variable {X : Cx} {CX : CXT} {j k : Nat} {C : Addr} {x m : Str} {ps : List Str} {sp : Sp} {E : XK} {e o : Expr} {es : List Expr} {t : TA} {ta : TE} {p pos apos : Pos}
theorem pe_cf (F : FnP X.prog X.w X.K X.mg X.base CX j x ps sp) (hr : Room k X.A) (hx : Passes CX X E) (ha : PA X (e :: es) t) (hjk : j ≤ k := by omega) (hg : Gl X x := by rfl) (hdb : (x == ("__debug__" : Str)) = false := by decide)
    (he : starEach (e :: es) X.env = (false, eval e X.env) :: starEach es X.env := by rfl) (hpl : (backTo pos (starEach es X.env)).any (·.1) = false := by rfl) : PE X (.Call (.Name x p) (e :: es) [] pos) (tCall sp [] E t) := by
  obtain ⟨f, fd, F1, h1, h2, h3⟩ := F.ex
  exact pe_call F1 (hr.mono hjk) hg h1 h2 h3 .nil hx ha hdb he hpl
theorem pe_cm {pl : Sem Bool} (c : Cls X.K C) (F : MtP X.prog X.w X.K X.mg X.base CX j C m ps sp) (hr : Room k X.A) (hx : Passes CX X E) (ho : PE X o ta) (ha : PA X (e :: es) t) (hjk : j ≤ k := by omega)
    (hst : starEach (e :: es) X.env = (false, eval e X.env) :: starEach es X.env := by rfl) (hpl : (backTo pos (starEach es X.env)).any (·.1) = false := by rfl)
    (ht : eval (.Call (.Attribute o m apos) (e :: es) [] pos) X.env = (do
      let ov ← eval o X.env
      standAt apos.atName
      let (f, first) ← holding [ov] (getMethod ov m pl)
      callWith pos f first (backTo pos (starEach (e :: es) X.env)) (backToKw pos (keywordEach [] X.env))) := by rfl) :
    PE X (.Call (.Attribute o m apos) (e :: es) [] pos) (tMeth C m sp [] E ta t) := by
  obtain ⟨f, fd, F1, h1, h2⟩ := F.ex
  exact pe_meth ho c h1 F1 (hr.mono hjk) h2 .nil hx ha hst hpl ht
theorem pe_cm0 {pl : Sem Bool} (c : Cls X.K C) (F : MtP X.prog X.w X.K X.mg X.base CX j C m ps sp) (hr : Room k X.A) (hx : Passes CX X E) (ho : PE X o ta) (hjk : j ≤ k := by omega)
    (ht : eval (.Call (.Attribute o m apos) [] [] pos) X.env = (do
      let ov ← eval o X.env
      standAt apos.atName
      let (f, first) ← holding [ov] (getMethod ov m pl)
      callWith pos f first (backTo pos (starEach [] X.env)) (backToKw pos (keywordEach [] X.env))) := by rfl) :
    PE X (.Call (.Attribute o m apos) [] [] pos) (tMeth C m sp [] E ta tNil) := by
  obtain ⟨f, fd, F1, h1, h2⟩ := F.ex
  exact pe_meth0 ho c h1 F1 (hr.mono hjk) h2 .nil hx ht
theorem pe_mk (F : MakP X.prog X.w X.K X.mg X.base CX j C x ps sp) (hr : Room k X.A) (hx : Passes CX X E) (ha : PA X (e :: es) t) (hjk : j + 1 ≤ k := by omega) (hg : Gl X x := by rfl) (hdb : (x == ("__debug__" : Str)) = false := by decide)
    (he : starEach (e :: es) X.env = (false, eval e X.env) :: starEach es X.env := by rfl) (hpl : (backTo pos (starEach es X.env)).any (·.1) = false := by rfl) : PE X (.Call (.Name x p) (e :: es) [] pos) (tMake C sp [] E t) := by
  obtain ⟨f, fd, F1, h1, h2, h3⟩ := F.ex
  exact pe_make h1 F1 (hr.mono hjk) hg h2 h3 .nil hx ha hdb he hpl
theorem pe_gk {v : V} (h : ∃ u, X.mg x = some u ∧ RelV v u) (hg : Gl X x := by rfl) (hd : (x == ("__debug__" : Str)) = false := by decide) : PE X (.Name x pos) (tC v) := by
  obtain ⟨u, h1, h2⟩ := h
  exact pe_glob hg h1 h2 hd
theorem pss_never {st : List Stmt} : PSs X st (fun _ _ _ => False) := ⟨fun _ _ _ _ _ _ h => h.elim⟩
end
section
variable {P : Program} {w : World} {K : PySem.W.Frag} {mg : Str → Option Value} {base : Heap} {N : List Str} {qual : Str} {scope : Scope} {f : Addr} {cd : Value} {A : Around} {outer : List Env} {s : Shared} {H : Hp} {E : XK}
theorem takesC : L2N.Takes (cxOf (L2N.CX P w) P w K mg base N qual scope f cd A outer s H E) (fun cls d _ H => E cls d H) := L2N.takes_of rfl rfl rfl rfl
theorem passX : Passes (L2N.CX P w) (cxOf (L2N.CX P w) P w K mg base N qual scope f cd A outer s H E) E := L2N.passes_call takesC (fun _ _ _ _ h => h)
theorem passO : PassesOwn (model P w) (cxOf (L2N.CX P w) P w K mg base N qual scope f cd A outer s H E).A (cxOf (L2N.CX P w) P w K mg base N qual scope f cd A outer s H E).env (cxOf (L2N.CX P w) P w K mg base N qual scope f cd A outer s H E).xe := L2.passes_of rfl
end
/-! ### a def keeps its promise -/
section
variable {P : Program} {w : World} {K : PySem.W.Frag} {mg : Str → Option Value} {base : Heap} {x qual : Str} {st : Stmt} {N ps : List Str} {k : Nat} {sp : Sp} {C : Addr}
abbrev FD (K : PySem.W.Frag) (x qual : Str) (st : Stmt) (f : Addr) : Prop := ∃ fd, FunD K x qual (defArgs st) (defBody st) (defScope st) [] [] f fd
abbrev BA (x qual : Str) (st : Stmt) (ps : List Str) : Prop := ∀ (kV doc pm : Value) (an : Option Addr) (cdv ct : Value) (us : List Value), us.length = ps.length → bindArgs (PySem.W.fnOf x qual (defArgs st) (defBody st) (defScope st) .none kV doc pm an cdv ct) ⟨us, []⟩ = pure (ps.zip us)
theorem FnP.of0 {f : Addr} (F : FD K x x st f) (hg : mg x = some (.ref f)) (S : FnScope N ps (defScope st)) (hb : BA x x st ps) (len : ∀ vs H Q E, sp vs H Q E → vs.length = ps.length)
    (hbody : ∀ (cdv : Value) (A : Around) (outer : List Env) (s : Shared) (H : Hp) (vs : List V) (Q : VK) (E : XK), Room k (A.deeper (envOfC x (defScope st) s.heap.objs.size f cdv)) → sp vs H Q E →
      ∃ t, PSs (cxOf CX0 P w K mg base N x (defScope st) f cdv A outer s H E).nox (defBody st) t ∧ t { nx := fun _ H' => Q .non H', rt := Q } (start N vs) H) : FnP P w K mg base CX0 (k + 1) x ps sp := by
  obtain ⟨fd, F⟩ := F
  refine ⟨f, fd, F.ok S len fun cdv A outer s H vs Q E hr h => ?_, hg, F.kp, F.bindsN hb⟩
  obtain ⟨t, h1, h2⟩ := hbody cdv A outer s H vs Q E hr h
  exact ⟨t, h1.nox, h2⟩
theorem FnP.ofX {f : Addr} (F : FD K x x st f) (hg : mg x = some (.ref f)) (S : FnScope N ps (defScope st)) (hb : BA x x st ps) (len : ∀ vs H Q E, sp vs H Q E → vs.length = ps.length)
    (hbody : ∀ (cdv : Value) (A : Around) (outer : List Env) (s : Shared) (H : Hp) (vs : List V) (Q : VK) (E : XK), Room k (A.deeper (envOfC x (defScope st) s.heap.objs.size f cdv)) → sp vs H Q E →
      ∃ t, PSs (cxOf (L2N.CX P w) P w K mg base N x (defScope st) f cdv A outer s H E) (defBody st) t ∧ t { nx := fun _ H' => Q .non H', rt := Q } (start N vs) H) : FnP P w K mg base (L2N.CX P w) (k + 1) x ps sp := by
  obtain ⟨fd, F⟩ := F
  exact ⟨f, fd, F.ok S len hbody, hg, F.kp, F.bindsN hb⟩
theorem MtP.of0 {f : Addr} (F : FD K x qual st f) (hg : Meth K C x f) (S : FnScope N ps (defScope st)) (hb : BA x qual st ps) (len : ∀ vs H Q E, sp vs H Q E → vs.length = ps.length)
    (hbody : ∀ (cdv : Value) (A : Around) (outer : List Env) (s : Shared) (H : Hp) (vs : List V) (Q : VK) (E : XK), Room k (A.deeper (envOfC qual (defScope st) s.heap.objs.size f cdv)) → sp vs H Q E →
      ∃ t, PSs (cxOf CX0 P w K mg base N qual (defScope st) f cdv A outer s H E).nox (defBody st) t ∧ t { nx := fun _ H' => Q .non H', rt := Q } (start N vs) H) : MtP P w K mg base CX0 (k + 1) C x ps sp := by
  obtain ⟨fd, F⟩ := F
  refine ⟨f, fd, F.ok S len fun cdv A outer s H vs Q E hr h => ?_, hg, F.bindsN hb⟩
  obtain ⟨t, h1, h2⟩ := hbody cdv A outer s H vs Q E hr h
  exact ⟨t, h1.nox, h2⟩
theorem MtP.ofX {f : Addr} (F : FD K x qual st f) (hg : Meth K C x f) (S : FnScope N ps (defScope st)) (hb : BA x qual st ps) (len : ∀ vs H Q E, sp vs H Q E → vs.length = ps.length)
    (hbody : ∀ (cdv : Value) (A : Around) (outer : List Env) (s : Shared) (H : Hp) (vs : List V) (Q : VK) (E : XK), Room k (A.deeper (envOfC qual (defScope st) s.heap.objs.size f cdv)) → sp vs H Q E →
      ∃ t, PSs (cxOf (L2N.CX P w) P w K mg base N qual (defScope st) f cdv A outer s H E) (defBody st) t ∧ t { nx := fun _ H' => Q .non H', rt := Q } (start N vs) H) : MtP P w K mg base (L2N.CX P w) (k + 1) C x ps sp := by
  obtain ⟨fd, F⟩ := F
  exact ⟨f, fd, F.ok S len hbody, hg, F.bindsN hb⟩
theorem MakP.of0 {f : Addr} {c : Str} (F : FD K x qual st f) (hm : Mk K C f) (hg : mg c = some (.ref C)) (S : FnScope N ps (defScope st)) (hb : BA x qual st ps) (len : ∀ vs H Q E, sp vs H Q E → vs.length = ps.length)
    (hbody : ∀ (cdv : Value) (A : Around) (outer : List Env) (s : Shared) (H : Hp) (vs : List V) (Q : VK) (E : XK), Room k (A.deeper (envOfC qual (defScope st) s.heap.objs.size f cdv)) → sp vs H Q E →
      ∃ t, PSs (cxOf CX0 P w K mg base N qual (defScope st) f cdv A outer s H E).nox (defBody st) t ∧ t { nx := fun _ H' => Q .non H', rt := Q } (start N vs) H) : MakP P w K mg base CX0 (k + 1) C c ps sp := by
  obtain ⟨fd, F⟩ := F
  refine ⟨f, fd, F.ok S len fun cdv A outer s H vs Q E hr h => ?_, hm, hg, F.bindsN hb⟩
  obtain ⟨t, h1, h2⟩ := hbody cdv A outer s H vs Q E hr h
  exact ⟨t, h1.nox, h2⟩
end
theorem call_str_any {X : Cx} : CallR X (.type "str") (fun xs H Q => (∃ i, xs = [.int i] ∧ i.natAbs.log2 < 1920 ∧ Q (.str (toString i)) H) ∨ ∃ a, xs = [.str a] ∧ Q (.str a) H) := CallR.or call_str_int SkE.call_str_str
/-! ### tests that are decided apart -/
def Ans (t : TT) (σ : L2.St) (H : Hp) (b : Bool) : Prop := ∀ Q : Bool → Hp → Prop, Q b H → t σ H Q
section
variable {t u c : TT} {σ : L2.St} {H : Hp} {b b1 b2 : Bool} {t1 t2 : TS} {D : Ends}
theorem ans_and (h1 : Ans t σ H b1) (h2 : Ans u σ H b2) : Ans (tAnd t u) σ H (b1 && b2) := fun Q q => by
  refine h1 _ ?_
  cases b1 with
  | true => exact iteT (h2 _ q)
  | false => exact iteF q
theorem ans_or (h1 : Ans t σ H b1) (h2 : Ans u σ H b2) : Ans (tOr t u) σ H (b1 || b2) := fun Q q => by
  refine h1 _ ?_
  cases b1 with
  | true => exact iteT q
  | false => exact iteF (h2 _ q)
/-- the second one is asked only if the first one holds -/
theorem ans_and' (h1 : Ans t σ H b1) (h2 : b1 = true → Ans u σ H b2) : Ans (tAnd t u) σ H (b1 && b2) := fun Q q => by
  refine h1 _ ?_
  cases b1 with
  | true => exact iteT (h2 rfl _ q)
  | false => exact iteF q
theorem ans_or' (h1 : Ans t σ H b1) (h2 : b1 = false → Ans u σ H b2) : Ans (tOr t u) σ H (b1 || b2) := fun Q q => by
  refine h1 _ ?_
  cases b1 with
  | true => exact iteT q
  | false => exact iteF (h2 rfl _ q)
theorem ans_not (h : Ans t σ H b) : Ans (tNot t) σ H (!b) := fun Q q => h _ q
theorem ans_if (h : Ans c σ H b) (h1 : b = true → t1 D σ H) (h2 : b = false → t2 D σ H) : tIfS c t1 t2 D σ H := by
  refine h _ ?_
  cases b with
  | true => exact iteT (h1 rfl)
  | false => exact iteF (h2 rfl)
theorem seq_if {rest : TS} (h : Ans c σ H b) (h1 : b = true → t1 { D with nx := rest D } σ H) (h2 : b = false → t2 { D with nx := rest D } σ H) : tSeq (tIfS c t1 t2) rest D σ H := ans_if h h1 h2
theorem seq_if0 {rest : TS} (h : Ans c σ H b) (h1 : b = true → t1 { D with nx := rest D } σ H) (h2 : b = false → rest D σ H) : tSeq (tIfS c t1 tNext) rest D σ H := ans_if (t2 := tNext) (D := { D with nx := rest D }) h h1 h2
theorem nx_ {t bk ct : L2.St → Hp → Prop} {rt : VK} (h : t σ H) : Ends.nx ⟨t, rt, bk, ct⟩ σ H := h
theorem rt_ {nx bk ct : L2.St → Hp → Prop} {rt : VK} {v : V} (h : rt v H) : Ends.rt ⟨nx, rt, bk, ct⟩ v H := h
theorem sq_set {rest : TS} {te : TE} {i : Nat} (h : te σ H fun x H1 => rest D (σ.set i (some x)) H1) : tSeq (tAsg te (gName i)) rest D σ H := h
theorem sq_drop {rest : TS} {te : TE} (h : te σ H fun _ H1 => rest D σ H1) : tSeq (tDrop te) rest D σ H := h
theorem and_t {a b : Bool} (h : (a && b) = true) : a = true ∧ b = true := Bool.and_eq_true_iff.mp h
theorem dec_t {p : Prop} [Decidable p] (h : decide p = true) : p := of_decide_eq_true h
theorem dec_f {p : Prop} [Decidable p] (h : decide p = false) : ¬ p := of_decide_eq_false h
end
/-! ### what is kept of the heap: all but what stands at S (a tuple always) -/
def Kp (S : List Addr) (H H' : Hp) : Prop := (∀ b o, b ∉ S → H b = some o → H' b = some o) ∧ ∀ b xs, H b = some (.tup xs) → H' b = some (.tup xs)
section
variable {S S' : List Addr} {H H1 H2 : Hp} {p b : Addr} {o u : HO}
theorem Kp.refl : Kp S H H := ⟨fun _ _ _ h => h, fun _ _ h => h⟩
theorem Kp.trans (a : Kp S H H1) (b : Kp S H1 H2) : Kp S H H2 := ⟨fun c o n h => b.1 c o n (a.1 c o n h), fun c xs h => b.2 c xs (a.2 c xs h)⟩
theorem Kp.mono (a : Kp S H H1) (h : ∀ b ∈ S, b ∈ S') : Kp S' H H1 := ⟨fun c o n q => a.1 c o (fun z => n (h c z)) q, a.2⟩
theorem Kp.nil (a : Kp [] H H1) : Kp S H H1 := a.mono fun _ z => nomatch z
theorem Kp.new (h : H p = none) : Kp S H (upd H p o) := ⟨fun c u _ q => by rw [upd_ne (ne_of_none q h)]; exact q, fun c xs q => by rw [upd_ne (ne_of_none q h)]; exact q⟩
/-- something new, then changed -/
theorem Kp.newer (a : Kp S H H1) (h : H p = none) : Kp S H (upd H1 p o) := ⟨fun c u n q => by rw [upd_ne (ne_of_none q h)]; exact a.1 c u n q, fun c xs q => by rw [upd_ne (ne_of_none q h)]; exact a.2 c xs q⟩
theorem Kp.at_ (h : H p = some u) (hu : ∀ xs, u ≠ .tup xs) (hp : p ∈ S) : Kp S H (upd H p o) :=
  ⟨fun c v n q => by rw [upd_ne (show c ≠ p from fun z => n (by rw [z]; exact hp))]; exact q, fun c xs q => by rw [upd_ne (show c ≠ p from fun z => by rw [z, h] at q; exact hu xs (Option.some.inj q))]; exact q⟩
theorem Kp.lst {xs : List V} (h : H p = some (.lst xs)) (hp : p ∈ S) : Kp S H (upd H p o) := Kp.at_ h (fun _ z => by cases z) hp
theorem Kp.ins {C dx : Addr} {fs : List (Str × V)} (h : H p = some (.ins C dx fs)) (hp : p ∈ S) : Kp S H (upd H p o) := Kp.at_ h (fun _ z => by cases z) hp
theorem Kp.dK {kvs : List (Key × V)} (h : H p = some (.dK kvs)) (hp : p ∈ S) : Kp S H (upd H p o) := Kp.at_ h (fun _ z => by cases z) hp
theorem Kp.free' (a : Kp S H H1) (hS : ∀ b ∈ S, ∃ o, H1 b = some o) (h : H1 p = none) : H p = none := by
  cases q : H p with
  | none => rfl
  | some o =>
    by_cases hp : p ∈ S
    · obtain ⟨o', e⟩ := hS p hp
      rw [h] at e
      cases e
    · rw [a.1 p o hp q] at h
      cases h
theorem Kp.get (a : Kp S H H1) (h : H b = some o) (hb : b ∉ S) : H1 b = some o := a.1 b o hb h
theorem Kp.get1 (a : Kp [p] H H1) (h : H b = some o) (hb : b ≠ p) : H1 b = some o := a.1 b o (by simp [hb]) h
theorem Kp.get0 (a : Kp [] H H1) (h : H b = some o) : H1 b = some o := a.1 b o (by simp) h
theorem Kp.free (a : Kp [] H H1) (h : H1 p = none) : H p = none := by
  cases q : H p with
  | none => rfl
  | some o => rw [a.get0 q] at h; cases h
theorem get_new (h : H p = none) (hb : H b = some o) : upd H p u b = some o := by rw [upd_ne (ne_of_none hb h)]; exact hb
theorem get_upd (hb : H b = some o) (h : b ≠ p) : upd H p u b = some o := by rw [upd_ne h]; exact hb
end
/-! ### the trees in the heap -/
def ExAt (H : Hp) : Ex → V → Prop
  | .num n, v => ∃ a, v = .ref a ∧ H a = some (.tup [.str "number", .int n]) ∧ 0 ≤ n ∧ n < 100000
  | .loc x, v => ∃ a, v = .ref a ∧ H a = some (.tup [.str "local", .str x])
  | .var x, v => ∃ a, v = .ref a ∧ H a = some (.tup [.str "variable", .str x])
  | .tab k t e, v => (k = "has" ∨ k = "cell") ∧ ∃ a w, v = .ref a ∧ H a = some (.tup [.str k, .str t, w]) ∧ ExAt H e w
  | .op k e f, v => k ∈ signs ∧ ∃ a w u, v = .ref a ∧ H a = some (.tup [.str k, w, u]) ∧ ExAt H e w ∧ ExAt H f u
def oddK : List Str := ["bad", "after", "if", "draw", "put"]
def BlkAt (H : Hp) : Blk → List V → Prop
  | .nil, xs => xs = []
  | .bad r, xs => ∃ a ys, xs = .ref a :: ys ∧ H a = some (.tup [.str "bad"]) ∧ BlkAt H r ys
  | .after s r, xs => ∃ a b ss ys, xs = .ref a :: ys ∧ H a = some (.tup [.str "after", .ref b]) ∧ H b = some (.tup ss) ∧ BlkAt H s ss ∧ BlkAt H r ys
  | .ite e s t r, xs => ∃ a ve b c ss ts ys, xs = .ref a :: ys ∧ H a = some (.tup [.str "if", ve, .ref b, .ref c]) ∧ ExAt H e ve ∧ H b = some (.tup ss) ∧ BlkAt H s ss ∧ H c = some (.tup ts) ∧ BlkAt H t ts ∧ BlkAt H r ys
  | .draw l n r, xs => ∃ a ys, xs = .ref a :: ys ∧ H a = some (.tup [.str "draw", .str l, .int n]) ∧ (0 ≤ n ∧ n < 100000) ∧ BlkAt H r ys
  | .put t e f r, xs => ∃ a ve vf ys, xs = .ref a :: ys ∧ H a = some (.tup [.str "put", .str t, ve, vf]) ∧ ExAt H e ve ∧ ExAt H f vf ∧ BlkAt H r ys
  | .gen k zs e r, xs => k ∉ oddK ∧ ∃ a ve ys, xs = .ref a :: ys ∧ H a = some (.tup (.str k :: (zs.map V.str ++ [ve]))) ∧ ExAt H e ve ∧ BlkAt H r ys
theorem ExAt.kp {S : List Addr} {H H' : Hp} (k : Kp S H H') : ∀ {e : Ex} {v : V}, ExAt H e v → ExAt H' e v
  | .num _, _, ⟨a, e, h, hb⟩ => ⟨a, e, k.2 _ _ h, hb⟩
  | .loc _, _, ⟨a, e, h⟩ => ⟨a, e, k.2 _ _ h⟩
  | .var _, _, ⟨a, e, h⟩ => ⟨a, e, k.2 _ _ h⟩
  | .tab _ _ _, _, ⟨hk, a, w, e, h, h1⟩ => ⟨hk, a, w, e, k.2 _ _ h, ExAt.kp k h1⟩
  | .op _ _ _, _, ⟨hk, a, w, u, e, h, h1, h2⟩ => ⟨hk, a, w, u, e, k.2 _ _ h, ExAt.kp k h1, ExAt.kp k h2⟩
theorem BlkAt.kp {S : List Addr} {H H' : Hp} (k : Kp S H H') : ∀ {b : Blk} {xs : List V}, BlkAt H b xs → BlkAt H' b xs
  | .nil, _, h => h
  | .bad _, _, ⟨a, ys, e, h, h1⟩ => ⟨a, ys, e, k.2 _ _ h, BlkAt.kp k h1⟩
  | .after _ _, _, ⟨a, b, ss, ys, e, h, h1, h2, h3⟩ => ⟨a, b, ss, ys, e, k.2 _ _ h, k.2 _ _ h1, BlkAt.kp k h2, BlkAt.kp k h3⟩
  | .ite _ _ _ _, _, ⟨a, ve, b, c, ss, ts, ys, e, h, h1, h2, h3, h4, h5, h6⟩ => ⟨a, ve, b, c, ss, ts, ys, e, k.2 _ _ h, h1.kp k, k.2 _ _ h2, BlkAt.kp k h3, k.2 _ _ h4, BlkAt.kp k h5, BlkAt.kp k h6⟩
  | .draw _ _ _, _, ⟨a, ys, e, h, hb, h1⟩ => ⟨a, ys, e, k.2 _ _ h, hb, BlkAt.kp k h1⟩
  | .put _ _ _ _, _, ⟨a, ve, vf, ys, e, h, h1, h2, h3⟩ => ⟨a, ve, vf, ys, e, k.2 _ _ h, h1.kp k, h2.kp k, BlkAt.kp k h3⟩
  | .gen _ _ _ _, _, ⟨hk, a, ve, ys, e, h, h1, h2⟩ => ⟨hk, a, ve, ys, e, k.2 _ _ h, h1.kp k, BlkAt.kp k h2⟩
theorem BlkAt.app {H : Hp} : ∀ {b c : Blk} {xs zs : List V}, BlkAt H b xs → BlkAt H c zs → BlkAt H (b.app c) (xs ++ zs)
  | .nil, _, _, _, h, hc => by cases (show _ = [] from h); exact hc
  | .bad _, _, _, _, ⟨a, ys, e, h, h1⟩, hc => by subst e; exact ⟨a, _, rfl, h, BlkAt.app h1 hc⟩
  | .after _ _, _, _, _, ⟨a, b, ss, ys, e, h, h1, h2, h3⟩, hc => by subst e; exact ⟨a, b, ss, _, rfl, h, h1, h2, BlkAt.app h3 hc⟩
  | .ite _ _ _ _, _, _, _, ⟨a, ve, b, c, ss, ts, ys, e, h, h1, h2, h3, h4, h5, h6⟩, hc => by subst e; exact ⟨a, ve, b, c, ss, ts, _, rfl, h, h1, h2, h3, h4, h5, BlkAt.app h6 hc⟩
  | .draw _ _ _, _, _, _, ⟨a, ys, e, h, hb, h1⟩, hc => by subst e; exact ⟨a, _, rfl, h, hb, BlkAt.app h1 hc⟩
  | .put _ _ _ _, _, _, _, ⟨a, ve, vf, ys, e, h, h1, h2, h3⟩, hc => by subst e; exact ⟨a, ve, vf, _, rfl, h, h1, h2, BlkAt.app h3 hc⟩
  | .gen _ _ _ _, _, _, _, ⟨hk, a, ve, ys, e, h, h1, h2⟩, hc => by subst e; exact ⟨hk, a, ve, _, rfl, h, h1, BlkAt.app h2 hc⟩
theorem BlkAt.empty {H : Hp} {b : Blk} {xs : List V} (h : BlkAt H b xs) : xs.isEmpty = b.isNil := by
  cases b with
  | nil => cases (show _ = [] from h); rfl
  | bad r => obtain ⟨a, ys, e, _⟩ := h; subst e; rfl
  | after s r => obtain ⟨a, b, ss, ys, e, _⟩ := h; subst e; rfl
  | ite e s t r => obtain ⟨a, ve, b, c, ss, ts, ys, e, _⟩ := h; subst e; rfl
  | draw l n r => obtain ⟨a, ys, e, _⟩ := h; subst e; rfl
  | put t e f r => obtain ⟨a, ve, vf, ys, e, _⟩ := h; subst e; rfl
  | gen k zs e r => obtain ⟨hk, a, ve, ys, e, _⟩ := h; subst e; rfl
def All2 {α : Type} (R : α → V → Prop) : List α → List V → Prop
  | [], xs => xs = []
  | r :: rs, xs => ∃ v ys, xs = v :: ys ∧ R r v ∧ All2 R rs ys
theorem All2.imp {α : Type} {R R' : α → V → Prop} (h : ∀ r v, R r v → R' r v) : ∀ {rs : List α} {xs : List V}, All2 R rs xs → All2 R' rs xs
  | [], _, e => e
  | _ :: _, _, ⟨v, ys, e, h1, h2⟩ => ⟨v, ys, e, h _ _ h1, All2.imp h h2⟩
theorem All2.snoc {α : Type} {R : α → V → Prop} {r : α} {v : V} (hr : R r v) : ∀ {rs : List α} {xs : List V}, All2 R rs xs → All2 R (rs ++ [r]) (xs ++ [v])
  | [], _, e => by cases (show _ = [] from e); exact ⟨v, [], rfl, hr, rfl⟩
  | _ :: _, _, ⟨u, ys, e, h1, h2⟩ => by subst e; exact ⟨u, _, rfl, h1, All2.snoc hr h2⟩
theorem All2.length {α : Type} {R : α → V → Prop} : ∀ {rs : List α} {xs : List V}, All2 R rs xs → xs.length = rs.length
  | [], _, e => by cases (show _ = [] from e); rfl
  | _ :: _, _, ⟨u, ys, e, h1, h2⟩ => by subst e; exact congrArg Nat.succ h2.length
theorem All2.get {α : Type} {R : α → V → Prop} : ∀ {rs : List α} {xs : List V} {i : Nat} {v : V}, All2 R rs xs → xs[i]? = some v → ∃ r, rs[i]? = some r ∧ R r v
  | [], _, i, v, e, h => by cases (show _ = [] from e); simp at h
  | r :: _, _, 0, v, ⟨u, ys, e, h1, h2⟩, h => by subst e; simp at h; subst h; exact ⟨r, rfl, h1⟩
  | _ :: _, _, i + 1, v, ⟨u, ys, e, h1, h2⟩, h => by subst e; simp at h; obtain ⟨r, e1, e2⟩ := h2.get h; exact ⟨r, by simpa using e1, e2⟩
def RowAt (H : Hp) (r : Row) (v : V) : Prop := ∃ a, v = .ref a ∧ H a = some (.tup [.str r.1, .int r.2.1, .int r.2.2]) ∧ (0 ≤ r.2.1 ∧ r.2.1 < 100000) ∧ 0 ≤ r.2.2 ∧ r.2.2 < 100000
def PrAt (H : Hp) (p : Pr) (v : V) : Prop := ∃ a lo b ve ss, v = .ref a ∧ H a = some (.tup [.str p.name, .int p.size, .int p.ans, .ref lo, .ref b, ve]) ∧ H lo = some (.tup ((p.l0 :: p.ls).map V.str)) ∧ H b = some (.tup ss) ∧ BlkAt H p.blk ss ∧ ExAt H p.res ve ∧ (0 ≤ p.size ∧ p.size < 100000) ∧ 0 ≤ p.ans ∧ p.ans < 100000
theorem RowAt.kp {S : List Addr} {H H' : Hp} (k : Kp S H H') {r : Row} {v : V} (h : RowAt H r v) : RowAt H' r v := by
  obtain ⟨a, e, h, hb⟩ := h
  exact ⟨a, e, k.2 _ _ h, hb⟩
theorem PrAt.kp {S : List Addr} {H H' : Hp} (k : Kp S H H') {r : Pr} {v : V} (h : PrAt H r v) : PrAt H' r v := by
  obtain ⟨a, lo, b, ve, ss, e, h1, h2, h3, h4, h5, hb⟩ := h
  exact ⟨a, lo, b, ve, ss, e, k.2 _ _ h1, k.2 _ _ h2, k.2 _ _ h3, h4.kp k, h5.kp k, hb⟩
end K4

/-! What the head tells: the defs and the facts (printed by facts.py). -/
namespace K4
open PySem PySem.Spec PyProof.Rows L2
def fnL0 : List He.DefD := [mkD "is_name" 8, mkD "number_of" 9, mkM "Cursor" "__init__" "Cursor.__init__" 10 0, mkM "Cursor" "word" "Cursor.word" 10 1, mkM "Cursor" "fail" "Cursor.fail" 10 2, mkM "Cursor" "take" "Cursor.take" 10 3, mkM "Cursor" "take_one" "Cursor.take_one" 10 4, mkM "Cursor" "take_new" "Cursor.take_new" 10 5, mkM "Cursor" "take_number" "Cursor.take_number" 10 6, mkM "Game" "__init__" "Game.__init__" 17 0, mkM "Scope" "__init__" "Scope.__init__" 18 0, mkD "read_rows" 20, mkD "read_proc" 21, mkD "read_block" 22, mkD "begins" 23, mkD "read_statement" 24, mkD "read_plain" 25, mkD "read_expression" 26, mkD "expression_words" 27, mkD "statement_words" 28, mkD "block_words" 29, mkD "game_text" 30, mkD "_law_pool" 32, mkD "_law_draw" 33, mkD "_law_spend" 34, mkD "_law_number" 35, mkD "_law_same" 36, mkD "_law_expression" 37, mkD "_law_statement" 38, mkD "_law_block" 39]
def fnL1 : List He.DefD := [mkD "_law_game" 40, mkD "_law_value_words" 41, mkD "_law_block_words" 42, mkD "_law_words" 43, mkD "_law_is_name" 44, mkD "_law_is_number" 45, mkD "_law_values" 46, mkD "_law_begins" 47, mkD "_law_blocks" 48, mkD "_law_heads" 49, mkD "_law_next" 50, mkD "_law_wrong" 51, mkD "_law_menu" 52, mkD "_law_signed" 53, mkD "_law_changed" 54, mkD "_law_walked" 55, mkD "law" 56, { mkD "read_game" 19 with dfl := [.adr (He.dflAt ("read_game", none) 0)] }]
def fnL : List He.DefD := fnL0 ++ fnL1
def faL0 : List He.Fa := [.glo "is_name", .glo "number_of", .cls "Cursor", .glo "Cursor", .mkr "Cursor", .noat "Cursor" "words", .noat "Cursor" "at", .meth "Cursor" "word", .meth "Cursor" "fail", .meth "Cursor" "take", .meth "Cursor" "take_one", .meth "Cursor" "take_new", .meth "Cursor" "take_number", .cls "Game", .glo "Game", .mkr "Game", .noat "Game" "variables", .noat "Game" "tables", .noat "Game" "lots", .noat "Game" "procs", .cls "Scope", .glo "Scope", .mkr "Scope", .noat "Scope" "asked", .noat "Scope" "variables", .noat "Scope" "tables", .noat "Scope" "lots", .noat "Scope" "locals", .glo "read_rows", .glo "read_proc"]
def faL1 : List He.Fa := [.glo "read_block", .glo "begins", .glo "read_statement", .glo "read_plain", .glo "read_expression", .glo "expression_words", .glo "statement_words", .glo "block_words", .glo "game_text", .glo "_law_pool", .glo "_law_draw", .glo "_law_spend", .glo "_law_number", .glo "_law_same", .glo "_law_expression", .glo "_law_statement", .glo "_law_block", .glo "_law_game", .glo "_law_value_words", .glo "_law_block_words", .glo "_law_words", .glo "_law_is_name", .glo "_law_is_number", .glo "_law_values", .glo "_law_begins", .glo "_law_blocks", .glo "_law_heads", .glo "_law_next", .glo "_law_wrong", .glo "_law_menu"]
def faL2 : List He.Fa := [.glo "_law_signed", .glo "_law_changed", .glo "_law_walked", .glo "law", .free "len", .free "all", .free "int", .free "str", .free "list", .free "tuple", .free "isinstance", .free "min", .free "range", .free "bool", .int "GREATEST" 65535, .int "MOST_DRAW" 64, .int "MOST_NAMES" 6, .int "DEEPEST" 8, .int "DEEPEST_IF" 6, .str "DIGITS" "0123456789", .str "LETTERS" "abcdefghijklmnopqrstuvwxyz", .glo "KEYWORDS", .glo "SIGNS", .glo "BadText", .glo "PlayError", .glo "read_game"]
def faL : List He.Fa := faL0 ++ faL1 ++ faL2
/-- what is known of the top: the defs and facts; what a module's name is -/
structure Txt (K : PySem.W.Frag) (mg : Str → Option Value) : Prop where
  says : He.SaysD faL fnL K
  mgs : ∀ (x : Str) (r : Option Value), PySem.W.nsIn K mainGlobals x = some r → mg x = r
  kw : ∀ H, SqT K H (He.ga K "KEYWORDS") (kws.map V.str)
  sg : ∀ H, SqT K H (He.ga K "SIGNS") (signs.map V.str)
section
variable {K : PySem.W.Frag} {mg : Str → Option Value}
theorem Txt.glo (T : Txt K mg) {x : Str} (i : Nat) (h : faL[i]? = some (.glo x)) : mg x = some (.ref (He.ga K x)) := T.mgs _ _ (He.eqO_ok (T.says.fact i h))
theorem Txt.free (T : Txt K mg) {x : Str} (i : Nat) (h : faL[i]? = some (.free x)) : mg x = none := T.mgs _ _ (He.eqO_ok (T.says.fact i h))
theorem Txt.int_ (T : Txt K mg) {x : Str} {n : Int} (i : Nat) (h : faL[i]? = some (.int x n)) : ∃ u, mg x = some u ∧ RelV (.int n) u := by
  have c : (match PySem.W.nsIn K mainGlobals x with
    | some (some (.int j _)) => decide (j = n)
    | _ => false) = true := T.says.fact i h
  split at c
  · rename_i j t e
    exact ⟨_, T.mgs _ _ e, t, by rw [of_decide_eq_true c]⟩
  · cases c
theorem Txt.str_ (T : Txt K mg) {x z : Str} (i : Nat) (h : faL[i]? = some (.str x z)) : ∃ u, mg x = some u ∧ RelV (.str z) u := by
  have c : (match PySem.W.nsIn K mainGlobals x with
    | some (some (.str y _)) => decide (y = z)
    | _ => false) = true := T.says.fact i h
  split at c
  · rename_i y t e
    exact ⟨_, T.mgs _ _ e, t, by rw [of_decide_eq_true c]⟩
  · cases c
theorem Txt.d_is_name (T : Txt K mg) : FD K "is_name" "is_name" (top 8) (He.ga K "is_name") := T.says.def_ 0 rfl
theorem Txt.g_is_name (T : Txt K mg) : mg "is_name" = some (.ref (He.ga K "is_name")) := T.glo 0 rfl
theorem ba_is_name : BA "is_name" "is_name" (top 8) ["word"] := fun _ _ _ _ _ _ us hl => match us, hl with | [_], _ => rfl
theorem Txt.d_number_of (T : Txt K mg) : FD K "number_of" "number_of" (top 9) (He.ga K "number_of") := T.says.def_ 1 rfl
theorem Txt.g_number_of (T : Txt K mg) : mg "number_of" = some (.ref (He.ga K "number_of")) := T.glo 1 rfl
theorem ba_number_of : BA "number_of" "number_of" (top 9) ["word"] := fun _ _ _ _ _ _ us hl => match us, hl with | [_], _ => rfl
theorem Txt.c_Cursor (T : Txt K mg) : Cls K (He.ga K "Cursor") := He.cls_ok (T.says.fact 2 (f := .cls "Cursor") rfl)
theorem Txt.g_Cursor (T : Txt K mg) : mg "Cursor" = some (.ref (He.ga K "Cursor")) := T.glo 3 rfl
theorem Txt.m_Cursor (T : Txt K mg) : Mk K (He.ga K "Cursor") (He.ma K (He.ga K "Cursor") "__init__") := He.mkr_ok (T.says.fact 4 (f := .mkr "Cursor") rfl)
theorem Txt.n_Cursor_words (T : Txt K mg) : NoAttr K (He.ga K "Cursor") "words" := He.noat_ok (T.says.fact 5 (f := .noat "Cursor" "words") rfl)
theorem Txt.n_Cursor_at (T : Txt K mg) : NoAttr K (He.ga K "Cursor") "at" := He.noat_ok (T.says.fact 6 (f := .noat "Cursor" "at") rfl)
theorem Txt.d_Cursor_init (T : Txt K mg) : FD K "__init__" "Cursor.__init__" (meth 10 0) (He.ma K (He.ga K "Cursor") "__init__") := T.says.def_ 2 rfl
theorem ba_Cursor_init : BA "__init__" "Cursor.__init__" (meth 10 0) ["self", "text"] := fun _ _ _ _ _ _ us hl => match us, hl with | [_, _], _ => rfl
theorem Txt.d_Cursor_word (T : Txt K mg) : FD K "word" "Cursor.word" (meth 10 1) (He.ma K (He.ga K "Cursor") "word") := T.says.def_ 3 rfl
theorem ba_Cursor_word : BA "word" "Cursor.word" (meth 10 1) ["self"] := fun _ _ _ _ _ _ us hl => match us, hl with | [_], _ => rfl
theorem Txt.t_Cursor_word (T : Txt K mg) : Meth K (He.ga K "Cursor") "word" (He.ma K (He.ga K "Cursor") "word") := He.meth_ok (T.says.fact 7 (f := .meth "Cursor" "word") rfl)
theorem Txt.d_Cursor_fail (T : Txt K mg) : FD K "fail" "Cursor.fail" (meth 10 2) (He.ma K (He.ga K "Cursor") "fail") := T.says.def_ 4 rfl
theorem ba_Cursor_fail : BA "fail" "Cursor.fail" (meth 10 2) ["self"] := fun _ _ _ _ _ _ us hl => match us, hl with | [_], _ => rfl
theorem Txt.t_Cursor_fail (T : Txt K mg) : Meth K (He.ga K "Cursor") "fail" (He.ma K (He.ga K "Cursor") "fail") := He.meth_ok (T.says.fact 8 (f := .meth "Cursor" "fail") rfl)
theorem Txt.d_Cursor_take (T : Txt K mg) : FD K "take" "Cursor.take" (meth 10 3) (He.ma K (He.ga K "Cursor") "take") := T.says.def_ 5 rfl
theorem ba_Cursor_take : BA "take" "Cursor.take" (meth 10 3) ["self", "word"] := fun _ _ _ _ _ _ us hl => match us, hl with | [_, _], _ => rfl
theorem Txt.t_Cursor_take (T : Txt K mg) : Meth K (He.ga K "Cursor") "take" (He.ma K (He.ga K "Cursor") "take") := He.meth_ok (T.says.fact 9 (f := .meth "Cursor" "take") rfl)
theorem Txt.d_Cursor_take_one (T : Txt K mg) : FD K "take_one" "Cursor.take_one" (meth 10 4) (He.ma K (He.ga K "Cursor") "take_one") := T.says.def_ 6 rfl
theorem ba_Cursor_take_one : BA "take_one" "Cursor.take_one" (meth 10 4) ["self", "words"] := fun _ _ _ _ _ _ us hl => match us, hl with | [_, _], _ => rfl
theorem Txt.t_Cursor_take_one (T : Txt K mg) : Meth K (He.ga K "Cursor") "take_one" (He.ma K (He.ga K "Cursor") "take_one") := He.meth_ok (T.says.fact 10 (f := .meth "Cursor" "take_one") rfl)
theorem Txt.d_Cursor_take_new (T : Txt K mg) : FD K "take_new" "Cursor.take_new" (meth 10 5) (He.ma K (He.ga K "Cursor") "take_new") := T.says.def_ 7 rfl
theorem ba_Cursor_take_new : BA "take_new" "Cursor.take_new" (meth 10 5) ["self", "names"] := fun _ _ _ _ _ _ us hl => match us, hl with | [_, _], _ => rfl
theorem Txt.t_Cursor_take_new (T : Txt K mg) : Meth K (He.ga K "Cursor") "take_new" (He.ma K (He.ga K "Cursor") "take_new") := He.meth_ok (T.says.fact 11 (f := .meth "Cursor" "take_new") rfl)
theorem Txt.d_Cursor_take_number (T : Txt K mg) : FD K "take_number" "Cursor.take_number" (meth 10 6) (He.ma K (He.ga K "Cursor") "take_number") := T.says.def_ 8 rfl
theorem ba_Cursor_take_number : BA "take_number" "Cursor.take_number" (meth 10 6) ["self", "least", "most"] := fun _ _ _ _ _ _ us hl => match us, hl with | [_, _, _], _ => rfl
theorem Txt.t_Cursor_take_number (T : Txt K mg) : Meth K (He.ga K "Cursor") "take_number" (He.ma K (He.ga K "Cursor") "take_number") := He.meth_ok (T.says.fact 12 (f := .meth "Cursor" "take_number") rfl)
theorem Txt.c_Game (T : Txt K mg) : Cls K (He.ga K "Game") := He.cls_ok (T.says.fact 13 (f := .cls "Game") rfl)
theorem Txt.g_Game (T : Txt K mg) : mg "Game" = some (.ref (He.ga K "Game")) := T.glo 14 rfl
theorem Txt.m_Game (T : Txt K mg) : Mk K (He.ga K "Game") (He.ma K (He.ga K "Game") "__init__") := He.mkr_ok (T.says.fact 15 (f := .mkr "Game") rfl)
theorem Txt.n_Game_variables (T : Txt K mg) : NoAttr K (He.ga K "Game") "variables" := He.noat_ok (T.says.fact 16 (f := .noat "Game" "variables") rfl)
theorem Txt.n_Game_tables (T : Txt K mg) : NoAttr K (He.ga K "Game") "tables" := He.noat_ok (T.says.fact 17 (f := .noat "Game" "tables") rfl)
theorem Txt.n_Game_lots (T : Txt K mg) : NoAttr K (He.ga K "Game") "lots" := He.noat_ok (T.says.fact 18 (f := .noat "Game" "lots") rfl)
theorem Txt.n_Game_procs (T : Txt K mg) : NoAttr K (He.ga K "Game") "procs" := He.noat_ok (T.says.fact 19 (f := .noat "Game" "procs") rfl)
theorem Txt.d_Game_init (T : Txt K mg) : FD K "__init__" "Game.__init__" (meth 17 0) (He.ma K (He.ga K "Game") "__init__") := T.says.def_ 9 rfl
theorem ba_Game_init : BA "__init__" "Game.__init__" (meth 17 0) ["self", "variables", "tables", "lots", "procs"] := fun _ _ _ _ _ _ us hl => match us, hl with | [_, _, _, _, _], _ => rfl
theorem Txt.c_Scope (T : Txt K mg) : Cls K (He.ga K "Scope") := He.cls_ok (T.says.fact 20 (f := .cls "Scope") rfl)
theorem Txt.g_Scope (T : Txt K mg) : mg "Scope" = some (.ref (He.ga K "Scope")) := T.glo 21 rfl
theorem Txt.m_Scope (T : Txt K mg) : Mk K (He.ga K "Scope") (He.ma K (He.ga K "Scope") "__init__") := He.mkr_ok (T.says.fact 22 (f := .mkr "Scope") rfl)
theorem Txt.n_Scope_asked (T : Txt K mg) : NoAttr K (He.ga K "Scope") "asked" := He.noat_ok (T.says.fact 23 (f := .noat "Scope" "asked") rfl)
theorem Txt.n_Scope_variables (T : Txt K mg) : NoAttr K (He.ga K "Scope") "variables" := He.noat_ok (T.says.fact 24 (f := .noat "Scope" "variables") rfl)
theorem Txt.n_Scope_tables (T : Txt K mg) : NoAttr K (He.ga K "Scope") "tables" := He.noat_ok (T.says.fact 25 (f := .noat "Scope" "tables") rfl)
theorem Txt.n_Scope_lots (T : Txt K mg) : NoAttr K (He.ga K "Scope") "lots" := He.noat_ok (T.says.fact 26 (f := .noat "Scope" "lots") rfl)
theorem Txt.n_Scope_locals (T : Txt K mg) : NoAttr K (He.ga K "Scope") "locals" := He.noat_ok (T.says.fact 27 (f := .noat "Scope" "locals") rfl)
theorem Txt.d_Scope_init (T : Txt K mg) : FD K "__init__" "Scope.__init__" (meth 18 0) (He.ma K (He.ga K "Scope") "__init__") := T.says.def_ 10 rfl
theorem ba_Scope_init : BA "__init__" "Scope.__init__" (meth 18 0) ["self", "asked"] := fun _ _ _ _ _ _ us hl => match us, hl with | [_, _], _ => rfl
theorem Txt.d_read_rows (T : Txt K mg) : FD K "read_rows" "read_rows" (top 20) (He.ga K "read_rows") := T.says.def_ 11 rfl
theorem Txt.g_read_rows (T : Txt K mg) : mg "read_rows" = some (.ref (He.ga K "read_rows")) := T.glo 28 rfl
theorem ba_read_rows : BA "read_rows" "read_rows" (top 20) ["cursor", "word", "names"] := fun _ _ _ _ _ _ us hl => match us, hl with | [_, _, _], _ => rfl
theorem Txt.d_read_proc (T : Txt K mg) : FD K "read_proc" "read_proc" (top 21) (He.ga K "read_proc") := T.says.def_ 12 rfl
theorem Txt.g_read_proc (T : Txt K mg) : mg "read_proc" = some (.ref (He.ga K "read_proc")) := T.glo 29 rfl
theorem ba_read_proc : BA "read_proc" "read_proc" (top 21) ["cursor", "scope", "names"] := fun _ _ _ _ _ _ us hl => match us, hl with | [_, _, _], _ => rfl
theorem Txt.d_read_block (T : Txt K mg) : FD K "read_block" "read_block" (top 22) (He.ga K "read_block") := T.says.def_ 13 rfl
theorem Txt.g_read_block (T : Txt K mg) : mg "read_block" = some (.ref (He.ga K "read_block")) := T.glo 30 rfl
theorem ba_read_block : BA "read_block" "read_block" (top 22) ["cursor", "scope", "room"] := fun _ _ _ _ _ _ us hl => match us, hl with | [_, _, _], _ => rfl
theorem Txt.d_begins (T : Txt K mg) : FD K "begins" "begins" (top 23) (He.ga K "begins") := T.says.def_ 14 rfl
theorem Txt.g_begins (T : Txt K mg) : mg "begins" = some (.ref (He.ga K "begins")) := T.glo 31 rfl
theorem ba_begins : BA "begins" "begins" (top 23) ["word", "scope", "room"] := fun _ _ _ _ _ _ us hl => match us, hl with | [_, _, _], _ => rfl
theorem Txt.d_read_statement (T : Txt K mg) : FD K "read_statement" "read_statement" (top 24) (He.ga K "read_statement") := T.says.def_ 15 rfl
theorem Txt.g_read_statement (T : Txt K mg) : mg "read_statement" = some (.ref (He.ga K "read_statement")) := T.glo 32 rfl
theorem ba_read_statement : BA "read_statement" "read_statement" (top 24) ["cursor", "scope", "room"] := fun _ _ _ _ _ _ us hl => match us, hl with | [_, _, _], _ => rfl
theorem Txt.d_read_plain (T : Txt K mg) : FD K "read_plain" "read_plain" (top 25) (He.ga K "read_plain") := T.says.def_ 16 rfl
theorem Txt.g_read_plain (T : Txt K mg) : mg "read_plain" = some (.ref (He.ga K "read_plain")) := T.glo 33 rfl
theorem ba_read_plain : BA "read_plain" "read_plain" (top 25) ["cursor", "scope", "word"] := fun _ _ _ _ _ _ us hl => match us, hl with | [_, _, _], _ => rfl
theorem Txt.d_read_expression (T : Txt K mg) : FD K "read_expression" "read_expression" (top 26) (He.ga K "read_expression") := T.says.def_ 17 rfl
theorem Txt.g_read_expression (T : Txt K mg) : mg "read_expression" = some (.ref (He.ga K "read_expression")) := T.glo 34 rfl
theorem ba_read_expression : BA "read_expression" "read_expression" (top 26) ["cursor", "scope", "room"] := fun _ _ _ _ _ _ us hl => match us, hl with | [_, _, _], _ => rfl
theorem Txt.d_expression_words (T : Txt K mg) : FD K "expression_words" "expression_words" (top 27) (He.ga K "expression_words") := T.says.def_ 18 rfl
theorem Txt.g_expression_words (T : Txt K mg) : mg "expression_words" = some (.ref (He.ga K "expression_words")) := T.glo 35 rfl
theorem ba_expression_words : BA "expression_words" "expression_words" (top 27) ["expression"] := fun _ _ _ _ _ _ us hl => match us, hl with | [_], _ => rfl
theorem Txt.d_statement_words (T : Txt K mg) : FD K "statement_words" "statement_words" (top 28) (He.ga K "statement_words") := T.says.def_ 19 rfl
theorem Txt.g_statement_words (T : Txt K mg) : mg "statement_words" = some (.ref (He.ga K "statement_words")) := T.glo 36 rfl
theorem ba_statement_words : BA "statement_words" "statement_words" (top 28) ["statement"] := fun _ _ _ _ _ _ us hl => match us, hl with | [_], _ => rfl
theorem Txt.d_block_words (T : Txt K mg) : FD K "block_words" "block_words" (top 29) (He.ga K "block_words") := T.says.def_ 20 rfl
theorem Txt.g_block_words (T : Txt K mg) : mg "block_words" = some (.ref (He.ga K "block_words")) := T.glo 37 rfl
theorem ba_block_words : BA "block_words" "block_words" (top 29) ["block"] := fun _ _ _ _ _ _ us hl => match us, hl with | [_], _ => rfl
theorem Txt.d_game_text (T : Txt K mg) : FD K "game_text" "game_text" (top 30) (He.ga K "game_text") := T.says.def_ 21 rfl
theorem Txt.g_game_text (T : Txt K mg) : mg "game_text" = some (.ref (He.ga K "game_text")) := T.glo 38 rfl
theorem ba_game_text : BA "game_text" "game_text" (top 30) ["game"] := fun _ _ _ _ _ _ us hl => match us, hl with | [_], _ => rfl
theorem Txt.d_law_pool (T : Txt K mg) : FD K "_law_pool" "_law_pool" (top 32) (He.ga K "_law_pool") := T.says.def_ 22 rfl
theorem Txt.g_law_pool (T : Txt K mg) : mg "_law_pool" = some (.ref (He.ga K "_law_pool")) := T.glo 39 rfl
theorem ba_law_pool : BA "_law_pool" "_law_pool" (top 32) ["_law_script", "_law_budget"] := fun _ _ _ _ _ _ us hl => match us, hl with | [_, _], _ => rfl
theorem Txt.d_law_draw (T : Txt K mg) : FD K "_law_draw" "_law_draw" (top 33) (He.ga K "_law_draw") := T.says.def_ 23 rfl
theorem Txt.g_law_draw (T : Txt K mg) : mg "_law_draw" = some (.ref (He.ga K "_law_draw")) := T.glo 40 rfl
theorem ba_law_draw : BA "_law_draw" "_law_draw" (top 33) ["_law_pool_here", "_law_size"] := fun _ _ _ _ _ _ us hl => match us, hl with | [_, _], _ => rfl
theorem Txt.d_law_spend (T : Txt K mg) : FD K "_law_spend" "_law_spend" (top 34) (He.ga K "_law_spend") := T.says.def_ 24 rfl
theorem Txt.g_law_spend (T : Txt K mg) : mg "_law_spend" = some (.ref (He.ga K "_law_spend")) := T.glo 41 rfl
theorem ba_law_spend : BA "_law_spend" "_law_spend" (top 34) ["_law_pool_here"] := fun _ _ _ _ _ _ us hl => match us, hl with | [_], _ => rfl
theorem Txt.d_law_number (T : Txt K mg) : FD K "_law_number" "_law_number" (top 35) (He.ga K "_law_number") := T.says.def_ 25 rfl
theorem Txt.g_law_number (T : Txt K mg) : mg "_law_number" = some (.ref (He.ga K "_law_number")) := T.glo 42 rfl
theorem ba_law_number : BA "_law_number" "_law_number" (top 35) ["_law_pool_here"] := fun _ _ _ _ _ _ us hl => match us, hl with | [_], _ => rfl
theorem Txt.d_law_same (T : Txt K mg) : FD K "_law_same" "_law_same" (top 36) (He.ga K "_law_same") := T.says.def_ 26 rfl
theorem Txt.g_law_same (T : Txt K mg) : mg "_law_same" = some (.ref (He.ga K "_law_same")) := T.glo 43 rfl
theorem ba_law_same : BA "_law_same" "_law_same" (top 36) ["_law_actual", "_law_due"] := fun _ _ _ _ _ _ us hl => match us, hl with | [_, _], _ => rfl
theorem Txt.d_law_expression (T : Txt K mg) : FD K "_law_expression" "_law_expression" (top 37) (He.ga K "_law_expression") := T.says.def_ 27 rfl
theorem Txt.g_law_expression (T : Txt K mg) : mg "_law_expression" = some (.ref (He.ga K "_law_expression")) := T.glo 44 rfl
theorem ba_law_expression : BA "_law_expression" "_law_expression" (top 37) ["_law_pool_here", "_law_scope", "_law_deep"] := fun _ _ _ _ _ _ us hl => match us, hl with | [_, _, _], _ => rfl
theorem Txt.d_law_statement (T : Txt K mg) : FD K "_law_statement" "_law_statement" (top 38) (He.ga K "_law_statement") := T.says.def_ 28 rfl
theorem Txt.g_law_statement (T : Txt K mg) : mg "_law_statement" = some (.ref (He.ga K "_law_statement")) := T.glo 45 rfl
theorem ba_law_statement : BA "_law_statement" "_law_statement" (top 38) ["_law_pool_here", "_law_scope", "_law_room"] := fun _ _ _ _ _ _ us hl => match us, hl with | [_, _, _], _ => rfl
theorem Txt.d_law_block (T : Txt K mg) : FD K "_law_block" "_law_block" (top 39) (He.ga K "_law_block") := T.says.def_ 29 rfl
theorem Txt.g_law_block (T : Txt K mg) : mg "_law_block" = some (.ref (He.ga K "_law_block")) := T.glo 46 rfl
theorem ba_law_block : BA "_law_block" "_law_block" (top 39) ["_law_pool_here", "_law_scope", "_law_room", "_law_most"] := fun _ _ _ _ _ _ us hl => match us, hl with | [_, _, _, _], _ => rfl
theorem Txt.d_law_game (T : Txt K mg) : FD K "_law_game" "_law_game" (top 40) (He.ga K "_law_game") := T.says.def_ 30 rfl
theorem Txt.g_law_game (T : Txt K mg) : mg "_law_game" = some (.ref (He.ga K "_law_game")) := T.glo 47 rfl
theorem ba_law_game : BA "_law_game" "_law_game" (top 40) ["_law_pool_here", "_law_wide", "_law_ways"] := fun _ _ _ _ _ _ us hl => match us, hl with | [_, _, _], _ => rfl
theorem Txt.d_law_value_words (T : Txt K mg) : FD K "_law_value_words" "_law_value_words" (top 41) (He.ga K "_law_value_words") := T.says.def_ 31 rfl
theorem Txt.g_law_value_words (T : Txt K mg) : mg "_law_value_words" = some (.ref (He.ga K "_law_value_words")) := T.glo 48 rfl
theorem ba_law_value_words : BA "_law_value_words" "_law_value_words" (top 41) ["_law_due"] := fun _ _ _ _ _ _ us hl => match us, hl with | [_], _ => rfl
theorem Txt.d_law_block_words (T : Txt K mg) : FD K "_law_block_words" "_law_block_words" (top 42) (He.ga K "_law_block_words") := T.says.def_ 32 rfl
theorem Txt.g_law_block_words (T : Txt K mg) : mg "_law_block_words" = some (.ref (He.ga K "_law_block_words")) := T.glo 49 rfl
theorem ba_law_block_words : BA "_law_block_words" "_law_block_words" (top 42) ["_law_block_here"] := fun _ _ _ _ _ _ us hl => match us, hl with | [_], _ => rfl
theorem Txt.d_law_words (T : Txt K mg) : FD K "_law_words" "_law_words" (top 43) (He.ga K "_law_words") := T.says.def_ 33 rfl
theorem Txt.g_law_words (T : Txt K mg) : mg "_law_words" = some (.ref (He.ga K "_law_words")) := T.glo 50 rfl
theorem ba_law_words : BA "_law_words" "_law_words" (top 43) ["_law_game_here"] := fun _ _ _ _ _ _ us hl => match us, hl with | [_], _ => rfl
theorem Txt.d_law_is_name (T : Txt K mg) : FD K "_law_is_name" "_law_is_name" (top 44) (He.ga K "_law_is_name") := T.says.def_ 34 rfl
theorem Txt.g_law_is_name (T : Txt K mg) : mg "_law_is_name" = some (.ref (He.ga K "_law_is_name")) := T.glo 51 rfl
theorem ba_law_is_name : BA "_law_is_name" "_law_is_name" (top 44) ["_law_word"] := fun _ _ _ _ _ _ us hl => match us, hl with | [_], _ => rfl
theorem Txt.d_law_is_number (T : Txt K mg) : FD K "_law_is_number" "_law_is_number" (top 45) (He.ga K "_law_is_number") := T.says.def_ 35 rfl
theorem Txt.g_law_is_number (T : Txt K mg) : mg "_law_is_number" = some (.ref (He.ga K "_law_is_number")) := T.glo 52 rfl
theorem ba_law_is_number : BA "_law_is_number" "_law_is_number" (top 45) ["_law_word", "_law_least", "_law_most"] := fun _ _ _ _ _ _ us hl => match us, hl with | [_, _, _], _ => rfl
theorem Txt.d_law_values (T : Txt K mg) : FD K "_law_values" "_law_values" (top 46) (He.ga K "_law_values") := T.says.def_ 36 rfl
theorem Txt.g_law_values (T : Txt K mg) : mg "_law_values" = some (.ref (He.ga K "_law_values")) := T.glo 53 rfl
theorem ba_law_values : BA "_law_values" "_law_values" (top 46) ["_law_stack", "_law_scope", "_law_word", "_law_room"] := fun _ _ _ _ _ _ us hl => match us, hl with | [_, _, _, _], _ => rfl
theorem Txt.d_law_begins (T : Txt K mg) : FD K "_law_begins" "_law_begins" (top 47) (He.ga K "_law_begins") := T.says.def_ 37 rfl
theorem Txt.g_law_begins (T : Txt K mg) : mg "_law_begins" = some (.ref (He.ga K "_law_begins")) := T.glo 54 rfl
theorem ba_law_begins : BA "_law_begins" "_law_begins" (top 47) ["_law_stack", "_law_scope", "_law_word", "_law_room"] := fun _ _ _ _ _ _ us hl => match us, hl with | [_, _, _, _], _ => rfl
theorem Txt.d_law_blocks (T : Txt K mg) : FD K "_law_blocks" "_law_blocks" (top 48) (He.ga K "_law_blocks") := T.says.def_ 38 rfl
theorem Txt.g_law_blocks (T : Txt K mg) : mg "_law_blocks" = some (.ref (He.ga K "_law_blocks")) := T.glo 55 rfl
theorem ba_law_blocks : BA "_law_blocks" "_law_blocks" (top 48) ["_law_stack", "_law_scope", "_law_word", "_law_room", "_law_kind"] := fun _ _ _ _ _ _ us hl => match us, hl with | [_, _, _, _, _], _ => rfl
theorem Txt.d_law_heads (T : Txt K mg) : FD K "_law_heads" "_law_heads" (top 49) (He.ga K "_law_heads") := T.says.def_ 39 rfl
theorem Txt.g_law_heads (T : Txt K mg) : mg "_law_heads" = some (.ref (He.ga K "_law_heads")) := T.glo 56 rfl
theorem ba_law_heads : BA "_law_heads" "_law_heads" (top 49) ["_law_stack", "_law_scope", "_law_word"] := fun _ _ _ _ _ _ us hl => match us, hl with | [_, _, _], _ => rfl
theorem Txt.d_law_next (T : Txt K mg) : FD K "_law_next" "_law_next" (top 50) (He.ga K "_law_next") := T.says.def_ 40 rfl
theorem Txt.g_law_next (T : Txt K mg) : mg "_law_next" = some (.ref (He.ga K "_law_next")) := T.glo 57 rfl
theorem ba_law_next : BA "_law_next" "_law_next" (top 50) ["_law_stack", "_law_scope", "_law_word"] := fun _ _ _ _ _ _ us hl => match us, hl with | [_, _, _], _ => rfl
theorem Txt.d_law_wrong (T : Txt K mg) : FD K "_law_wrong" "_law_wrong" (top 51) (He.ga K "_law_wrong") := T.says.def_ 41 rfl
theorem Txt.g_law_wrong (T : Txt K mg) : mg "_law_wrong" = some (.ref (He.ga K "_law_wrong")) := T.glo 58 rfl
theorem ba_law_wrong : BA "_law_wrong" "_law_wrong" (top 51) ["_law_words_here", "_law_asked"] := fun _ _ _ _ _ _ us hl => match us, hl with | [_, _], _ => rfl
theorem Txt.d_law_menu (T : Txt K mg) : FD K "_law_menu" "_law_menu" (top 52) (He.ga K "_law_menu") := T.says.def_ 42 rfl
theorem Txt.g_law_menu (T : Txt K mg) : mg "_law_menu" = some (.ref (He.ga K "_law_menu")) := T.glo 59 rfl
theorem ba_law_menu : BA "_law_menu" "_law_menu" (top 52) ["_law_pool_here"] := fun _ _ _ _ _ _ us hl => match us, hl with | [_], _ => rfl
theorem Txt.d_law_signed (T : Txt K mg) : FD K "_law_signed" "_law_signed" (top 53) (He.ga K "_law_signed") := T.says.def_ 43 rfl
theorem Txt.g_law_signed (T : Txt K mg) : mg "_law_signed" = some (.ref (He.ga K "_law_signed")) := T.glo 60 rfl
theorem ba_law_signed : BA "_law_signed" "_law_signed" (top 53) ["_law_pool_here", "_law_word"] := fun _ _ _ _ _ _ us hl => match us, hl with | [_, _], _ => rfl
theorem Txt.d_law_changed (T : Txt K mg) : FD K "_law_changed" "_law_changed" (top 54) (He.ga K "_law_changed") := T.says.def_ 44 rfl
theorem Txt.g_law_changed (T : Txt K mg) : mg "_law_changed" = some (.ref (He.ga K "_law_changed")) := T.glo 61 rfl
theorem ba_law_changed : BA "_law_changed" "_law_changed" (top 54) ["_law_pool_here", "_law_words_here"] := fun _ _ _ _ _ _ us hl => match us, hl with | [_, _], _ => rfl
theorem Txt.d_law_walked (T : Txt K mg) : FD K "_law_walked" "_law_walked" (top 55) (He.ga K "_law_walked") := T.says.def_ 45 rfl
theorem Txt.g_law_walked (T : Txt K mg) : mg "_law_walked" = some (.ref (He.ga K "_law_walked")) := T.glo 62 rfl
theorem ba_law_walked : BA "_law_walked" "_law_walked" (top 55) ["_law_pool_here", "_law_asked"] := fun _ _ _ _ _ _ us hl => match us, hl with | [_, _], _ => rfl
theorem Txt.d_law (T : Txt K mg) : FD K "law" "law" (top 56) (He.ga K "law") := T.says.def_ 46 rfl
theorem Txt.g_law (T : Txt K mg) : mg "law" = some (.ref (He.ga K "law")) := T.glo 63 rfl
theorem ba_law : BA "law" "law" (top 56) ["_law_script"] := fun _ _ _ _ _ _ us hl => match us, hl with | [_], _ => rfl
theorem Txt.f_len (T : Txt K mg) : mg "len" = none := T.free 64 rfl
theorem Txt.f_all (T : Txt K mg) : mg "all" = none := T.free 65 rfl
theorem Txt.f_int (T : Txt K mg) : mg "int" = none := T.free 66 rfl
theorem Txt.f_str (T : Txt K mg) : mg "str" = none := T.free 67 rfl
theorem Txt.f_list (T : Txt K mg) : mg "list" = none := T.free 68 rfl
theorem Txt.f_tuple (T : Txt K mg) : mg "tuple" = none := T.free 69 rfl
theorem Txt.f_isinstance (T : Txt K mg) : mg "isinstance" = none := T.free 70 rfl
theorem Txt.f_min (T : Txt K mg) : mg "min" = none := T.free 71 rfl
theorem Txt.f_range (T : Txt K mg) : mg "range" = none := T.free 72 rfl
theorem Txt.f_bool (T : Txt K mg) : mg "bool" = none := T.free 73 rfl
theorem Txt.k_GREATEST (T : Txt K mg) : ∃ u, mg "GREATEST" = some u ∧ RelV (.int 65535) u := T.int_ 74 rfl
theorem Txt.k_MOST_DRAW (T : Txt K mg) : ∃ u, mg "MOST_DRAW" = some u ∧ RelV (.int 64) u := T.int_ 75 rfl
theorem Txt.k_MOST_NAMES (T : Txt K mg) : ∃ u, mg "MOST_NAMES" = some u ∧ RelV (.int 6) u := T.int_ 76 rfl
theorem Txt.k_DEEPEST (T : Txt K mg) : ∃ u, mg "DEEPEST" = some u ∧ RelV (.int 8) u := T.int_ 77 rfl
theorem Txt.k_DEEPEST_IF (T : Txt K mg) : ∃ u, mg "DEEPEST_IF" = some u ∧ RelV (.int 6) u := T.int_ 78 rfl
theorem Txt.k_DIGITS (T : Txt K mg) : ∃ u, mg "DIGITS" = some u ∧ RelV (.str "0123456789") u := T.str_ 79 rfl
theorem Txt.k_LETTERS (T : Txt K mg) : ∃ u, mg "LETTERS" = some u ∧ RelV (.str "abcdefghijklmnopqrstuvwxyz") u := T.str_ 80 rfl
theorem Txt.g_KEYWORDS (T : Txt K mg) : mg "KEYWORDS" = some (.ref (He.ga K "KEYWORDS")) := T.glo 81 rfl
theorem Txt.g_SIGNS (T : Txt K mg) : mg "SIGNS" = some (.ref (He.ga K "SIGNS")) := T.glo 82 rfl
theorem Txt.g_BadText (T : Txt K mg) : mg "BadText" = some (.ref (He.ga K "BadText")) := T.glo 83 rfl
theorem Txt.g_PlayError (T : Txt K mg) : mg "PlayError" = some (.ref (He.ga K "PlayError")) := T.glo 84 rfl
theorem Txt.g_read_game (T : Txt K mg) : mg "read_game" = some (.ref (He.ga K "read_game")) := T.glo 85 rfl
theorem Txt.k_KEYWORDS (T : Txt K mg) : ∃ u, mg "KEYWORDS" = some u ∧ RelV (.ref (He.ga K "KEYWORDS")) u := ⟨_, T.g_KEYWORDS, rfl⟩
theorem Txt.k_SIGNS (T : Txt K mg) : ∃ u, mg "SIGNS" = some u ∧ RelV (.ref (He.ga K "SIGNS")) u := ⟨_, T.g_SIGNS, rfl⟩
end
end K4

/-! The law's draws. -/
namespace K4
open PySem PySem.Spec PyProof.Rows L2
theorem sz {n : Nat} (h : n ≤ 1000000) : n ≤ sizeLine := by
  rw [sizeLine_eq]
  omega
theorem szl {n : Nat} (h : n < 1000000) : n < sizeLine := by
  rw [sizeLine_eq]
  omega
theorem fm_lo {x m : Int} (h : 0 < m) : 0 ≤ Int.fmod x m := by
  rw [Int.fmod_eq_emod_of_nonneg x (by omega)]
  exact Int.emod_nonneg x (by omega)
theorem fm_hi {x m : Int} (h : 0 < m) : Int.fmod x m < m := by
  rw [Int.fmod_eq_emod_of_nonneg x (by omega)]
  exact Int.emod_lt_of_pos x h
/-- an item in bounds -/
theorem at_of {xs : List V} {i : Int} (h0 : 0 ≤ i) (h1 : i < (xs.length : Int)) : ∃ v, atI xs i = some v ∧ xs[i.toNat]? = some v := by
  have hk : i.toNat < xs.length := by omega
  have ei : i = ((i.toNat : Nat) : Int) := by omega
  have e : xs[i.toNat]? = some xs[i.toNat] := List.getElem?_eq_getElem hk
  have q : atI xs ((i.toNat : Nat) : Int) = some xs[i.toNat] := atI_nat e
  rw [← ei] at q
  exact ⟨_, q, e⟩
theorem at_map {α : Type} {f : α → V} {ns : List α} {i : Int} (h0 : 0 ≤ i) (h1 : i < (ns.length : Int)) : ∃ n, atI (ns.map f) i = some (f n) ∧ n ∈ ns := by
  obtain ⟨v, q, e⟩ := at_of (xs := ns.map f) h0 (by rw [List.length_map]; exact h1)
  rw [List.getElem?_map] at e
  cases z : ns[i.toNat]? with
  | none => rw [z] at e; cases e
  | some n =>
    rw [z] at e
    exact ⟨n, by rw [q]; exact e.symm, List.mem_of_getElem? z⟩
/-- the pool at p: the cells at a, the budget b -/
def Pool (H : Hp) (p a : Addr) (b : Int) : Prop := ∃ (i j k l : Int) (ns : List Int), H p = some (.lst [.ref a, .int i, .int j, .int k, .int l, .int b]) ∧ H a = some (.lst (ns.map V.int)) ∧ 0 ≤ i ∧ 0 ≤ k ∧ k < 2147483647
theorem Pool.ne {H : Hp} {p a : Addr} {b : Int} (h : Pool H p a b) : a ≠ p := by
  obtain ⟨i, j, k, l, ns, h1, h2, _⟩ := h
  refine ne_of h2 h1 fun e => ?_
  injection e with e
  cases ns with
  | nil => cases e
  | cons n r => injection e with e _; cases e
theorem Pool.kp {S : List Addr} {H H' : Hp} {p a : Addr} {b : Int} (h : Pool H p a b) (k : Kp S H H') (hp : p ∉ S) (ha : a ∉ S) : Pool H' p a b := by
  obtain ⟨i, j, m, l, ns, h1, h2, h3⟩ := h
  exact ⟨i, j, m, l, ns, k.get h1 hp, k.get h2 ha, h3⟩
theorem Pool.at_ {H : Hp} {p a : Addr} {b : Int} (h : Pool H p a b) : ∃ xs, H p = some (.lst xs) := by
  obtain ⟨i, j, k, l, ns, h1, _⟩ := h
  exact ⟨_, h1⟩
def spPool (K : PySem.W.Frag) : Sp := fun vs H Q _ => ∃ (s : Addr) (b : Int) (ns : List Int), vs = [.ref s, .int b] ∧ SqL K H s (ns.map V.int) ∧ ∀ p a H', Kp [] H H' → Pool H' p a b → Q (.ref p) H'
def spDraw : Sp := fun vs H Q _ => ∃ p a b n, vs = [.ref p, .int n] ∧ 1 ≤ n ∧ n < 1073741824 ∧ Pool H p a b ∧ ∀ r H', 0 ≤ r → r < n → Kp [p] H H' → Pool H' p a b → Q (.int r) H'
def spSpend : Sp := fun vs H Q _ => ∃ p a b, vs = [.ref p] ∧ Pool H p a b ∧ ∀ H', Kp [p] H H' → Pool H' p a (b - 1) → Q (.bl (decide (0 ≤ b - 1))) H'
def spNumber : Sp := fun vs H Q _ => ∃ p a b, vs = [.ref p] ∧ Pool H p a b ∧ ∀ r H', 0 ≤ r → r < 65536 → Kp [p] H H' → Pool H' p a b → Q (.int r) H'
section
variable {P : Program} {w : World} {K : PySem.W.Frag} {mg : Str → Option Value} {base : Heap}
theorem fn_law_spend (T : Txt K mg) : FnP P w K mg base CX0 1 "_law_spend" ["_law_pool_here"] spSpend := by
  have S : FnScope ["_law_pool_here"] ["_law_pool_here"] (defScope (top 34)) := ⟨rfl, rfl, rfl, by decide +kernel, rfl, by decide +kernel, by decide +kernel⟩
  have nd := S.nd
  refine FnP.of0 T.d_law_spend T.g_law_spend S ba_law_spend (fun vs H Q E h => ?_) (fun cdv A outer s H vs Q E hr h => ?_)
  · obtain ⟨p, a, b, rfl, _⟩ := h
    rfl
  obtain ⟨p, a, b, rfl, hp, hQ⟩ := h
  refine ⟨_, (pss_cons (ps_asg (pe_op op_sub (pe_ix ix_list (pv 0) pe_int (fun _ _ => rfl)) pe_int) (pg_sub (pv 0) pe_int set_list))
    (pss_one (ps_ret (pe_cmpR op_ge (pe_ix ix_list (pv 0) pe_int (fun _ _ => rfl)) pe_int (nomark _))))), ?_⟩
  obtain ⟨i, j, k, l, ns, h1, h2, h3⟩ := hp
  refine ⟨_, rfl, p, _, _, _, rfl, rfl, SqL.of h1, rfl, _, _, rfl, rfl, _, rfl, p, _, _, 5, rfl, rfl, h1, rfl, ?_⟩
  refine ⟨_, rfl, p, _, _, _, rfl, rfl, SqL.of upd_same, rfl, _, _, rfl, rfl, ?_⟩
  exact hQ _ (Kp.lst h1 (by simp)) ⟨i, j, k, l, ns, upd_same, get_upd h2 (Pool.ne ⟨i, j, k, l, ns, h1, h2, h3⟩), h3⟩
theorem fn_law_pool (T : Txt K mg) : FnP P w K mg base CX0 1 "_law_pool" ["_law_script", "_law_budget"] (spPool K) := by
  have S : FnScope ["_law_script", "_law_budget"] ["_law_script", "_law_budget"] (defScope (top 32)) := ⟨rfl, rfl, rfl, by decide +kernel, rfl, by decide +kernel, by decide +kernel⟩
  have nd := S.nd
  refine FnP.of0 T.d_law_pool T.g_law_pool S ba_law_pool (fun vs H Q E h => ?_) (fun cdv A outer s H vs Q E hr h => ?_)
  · obtain ⟨s, b, ns, rfl, _⟩ := h
    rfl
  obtain ⟨s', b, ns, rfl, hs, hQ⟩ := h
  refine ⟨_, (pss_one (ps_ret (pe_lst (pa_cons (pe_callTy call_list_of (by rfl) T.f_list (by decide +kernel) (pa_cons (pv 0) pa_nil)) (pa_cons pe_int (pa_cons pe_int (pa_cons pe_int (pa_cons pe_int (pa_cons (pv 1) pa_nil))))))))), ?_⟩
  refine ⟨_, rfl, s', _, rfl, .inl hs, fun l hl => ?_⟩
  refine ⟨_, rfl, sz (show 6 ≤ 1000000 by decide), fun p hp => ?_⟩
  refine hQ p l _ ((Kp.new hl).trans (Kp.new hp)) ⟨0, 0, 1, 0, ns, upd_same, get_new hp upd_same, by decide, by decide, by decide⟩
theorem fn_law_draw (T : Txt K mg) : FnP P w K mg base CX0 1 "_law_draw" ["_law_pool_here", "_law_size"] spDraw := by
  have S : FnScope ["_law_pool_here", "_law_size", "_law_cell", "_law_value"] ["_law_pool_here", "_law_size"] (defScope (top 33)) := ⟨rfl, rfl, rfl, by decide +kernel, rfl, by decide +kernel, by decide +kernel⟩
  have nd := S.nd
  refine FnP.of0 T.d_law_draw T.g_law_draw S ba_law_draw (fun vs H Q E h => ?_) (fun cdv A outer s H vs Q E hr h => ?_)
  · obtain ⟨p, a, b, n, rfl, _⟩ := h
    rfl
  obtain ⟨p, a, b, n, rfl, hn1, hn2, hp, hQ⟩ := h
  refine ⟨_, (C8.pss_cut (ps_if (PW.pt (pw_and (pt_cmpR op_le (pe_ix ix_list (pv 0) pe_int (fun _ _ => rfl)) pe_int (nomark _)) (pw_and (pt_cmpR op_le (pe_ix ix_list (pv 0) pe_int (fun _ _ => rfl)) pe_int (nomark _)) (pw_and1 (pt_cmpR op_lt (pe_ix ix_list (pv 0) pe_int (fun _ _ => rfl)) (pe_callB call_len (by rfl) T.f_len (by decide +kernel) (pa_cons (pe_ix ix_list (pv 0) pe_int (fun _ _ => rfl)) pa_nil)) (nomark _)))))) (pss_cons (ps_set (i := 2) nd rfl (Or.inl rfl) (pe_ix ix_list (pe_ix ix_list (pv 0) pe_int (fun _ _ => rfl)) (pe_ix ix_list (pv 0) pe_int (fun _ _ => rfl)) (fun _ _ => rfl)))
    (pss_cons (ps_asg (pe_op op_add (pe_ix ix_list (pv 0) pe_int (fun _ _ => rfl)) pe_int) (pg_sub (pv 0) pe_int set_list))
    (pss_cons (ps_asg (pe_op op_modN (pe_callTy call_int1 (by rfl) T.f_int (by decide +kernel) (pa_cons (pe_op op_add (pe_op op_mul (pe_ix ix_list (pv 0) pe_int (fun _ _ => rfl)) pe_int) (pv 2)) pa_nil)) pe_int) (pg_sub (pv 0) pe_int set_list))
    (pss_cons (ps_asg pe_int (pg_sub (pv 0) pe_int set_list))
    (pss_one (ps_if (pt_cmpR op_ge (pv 2) (pe_op op_pow pe_int pe_int) (nomark _)) (pss_one (ps_asg (pv 2) (pg_sub (pv 0) pe_int set_list))) pss_nil)))))) pss_nil)
    (pss_cons (ps_if (pt_cmpR op_gt (pe_ix ix_list (pv 0) pe_int (fun _ _ => rfl)) pe_int (nomark _)) (pss_cons (ps_set (i := 3) nd rfl (Or.inl rfl) (pe_op op_modN (pe_callTy call_int1 (by rfl) T.f_int (by decide +kernel) (pa_cons (pe_ix ix_list (pv 0) pe_int (fun _ _ => rfl)) pa_nil)) (pv 1)))
    (pss_cons (ps_asg (pe_op op_fdivN (pe_ix ix_list (pv 0) pe_int (fun _ _ => rfl)) (pv 1)) (pg_sub (pv 0) pe_int set_list))
    (pss_cons (ps_asg pe_int (pg_sub (pv 0) pe_int set_list))
    (pss_one (ps_ret (pv 3)))))) pss_nil)
    (pss_cons (ps_asg (pe_op op_sub (pe_ix ix_list (pv 0) pe_int (fun _ _ => rfl)) pe_int) (pg_sub (pv 0) pe_int set_list))
    (pss_cons (ps_asg (pe_op op_modN (pe_callTy call_int1 (by rfl) T.f_int (by decide +kernel) (pa_cons (pe_op op_add (pe_op op_mul (pe_ix ix_list (pv 0) pe_int (fun _ _ => rfl)) pe_int) pe_int) pa_nil)) pe_int) (pg_sub (pv 0) pe_int set_list))
    (pss_one (ps_ret (pe_op op_modN (pe_op op_modN (pe_callTy call_int1 (by rfl) T.f_int (by decide +kernel) (pa_cons (pe_op op_add (pe_op op_mul (pe_ix ix_list (pv 0) pe_int (fun _ _ => rfl)) pe_int) pe_int) pa_nil)) pe_int) (pv 1)))))))), ?_⟩
  refine ⟨fun σ' H' => ∃ x y, σ' = [some (.ref p), some (.int n), x, y] ∧ Kp [p] H H' ∧ Pool H' p a b, ?_, ?_⟩
  · have hne := hp.ne
    obtain ⟨i, j, k, l, ns, h1, h2, hi, hk, hk2⟩ := id hp
    refine ⟨_, rfl, p, _, _, _, rfl, rfl, SqL.of h1, rfl, _, _, rfl, rfl, _, rfl, ?_⟩
    refine ite2 (fun c1 => ?_) (fun c1 => iteF ⟨_, _, rfl, Kp.refl, hp⟩)
    refine ⟨_, rfl, p, _, _, _, rfl, rfl, SqL.of h1, rfl, _, _, rfl, rfl, _, rfl, ?_⟩
    refine ite2 (fun c2 => ?_) (fun c2 => iteF ⟨_, _, rfl, Kp.refl, hp⟩)
    refine ⟨_, rfl, p, _, _, _, rfl, rfl, SqL.of h1, rfl, _, rfl, p, _, _, _, rfl, rfl, SqL.of h1, rfl, _, _, rfl, .inl ⟨_, SqL.of h2, rfl⟩, _, _, rfl, rfl, _, rfl, ?_⟩
    refine ite2 (fun c3 => ?_) (fun c3 => ⟨_, _, rfl, Kp.refl, hp⟩)
    have c3 := of_decide_eq_true c3
    rw [List.length_map] at c3
    obtain ⟨cell, hc, _⟩ := at_map (f := V.int) hi c3
    refine ⟨_, rfl, p, _, _, _, rfl, rfl, SqL.of h1, rfl, _, rfl, p, _, _, _, rfl, rfl, SqL.of h1, rfl, a, _, _, _, rfl, rfl, SqL.of h2, hc, ?_⟩
    refine ⟨_, rfl, p, _, _, _, rfl, rfl, SqL.of h1, rfl, _, _, rfl, rfl, _, rfl, p, _, _, 1, rfl, rfl, h1, rfl, ?_⟩
    refine ⟨_, rfl, p, _, _, _, rfl, rfl, SqL.of upd_same, rfl, _, _, rfl, rfl, .inr ⟨by decide, by decide⟩, _, rfl, _, _, rfl, rfl, .inl ⟨_, rfl, _, _, rfl, rfl, (show (2147483647 : Int) ≠ 0 by decide), ?_⟩⟩
    refine ⟨_, rfl, p, _, _, 3, rfl, rfl, upd_same, rfl, ?_⟩
    refine ⟨_, rfl, p, _, _, 4, rfl, rfl, upd_same, rfl, ?_⟩
    rw [upd_upd, upd_upd]
    refine ⟨_, rfl, _, _, rfl, rfl, ⟨by decide, by decide, by decide⟩, _, _, rfl, rfl, _, rfl, ?_⟩
    have i1 : 0 ≤ i + 1 := by omega
    have m1 := fm_lo (x := k * 31 + cell) (m := 2147483647) (by decide)
    have m2 := fm_hi (x := k * 31 + cell) (m := 2147483647) (by decide)
    refine ite2 (fun c4 => ?_) (fun c4 => ?_)
    · refine ⟨_, rfl, _, rfl, p, _, _, 2, rfl, rfl, upd_same, rfl, ?_⟩
      rw [upd_upd]
      exact ⟨_, _, rfl, Kp.lst h1 (by simp), i + 1, cell, _, 7, ns, upd_same, get_upd h2 hne, i1, m1, m2⟩
    · exact ⟨_, _, rfl, Kp.lst h1 (by simp), i + 1, j, _, 7, ns, upd_same, get_upd h2 hne, i1, m1, m2⟩
  · rintro σ' H' ⟨x, y, rfl, k0, hp'⟩
    have hne := hp'.ne
    obtain ⟨i, j, k, l, ns, h1, h2, hi, hk, hk2⟩ := hp'
    refine ⟨_, rfl, p, _, _, _, rfl, rfl, SqL.of h1, rfl, _, _, rfl, rfl, _, rfl, ?_⟩
    refine ite2 (fun c1 => ?_) (fun c1 => ?_)
    · refine ⟨_, rfl, p, _, _, _, rfl, rfl, SqL.of h1, rfl, .inl ⟨_, rfl, _, rfl, _, _, rfl, rfl, (show n ≠ 0 by omega), ?_⟩⟩
      refine ⟨_, rfl, p, _, _, _, rfl, rfl, SqL.of h1, rfl, _, rfl, _, _, rfl, rfl, ⟨(show n ≠ 0 by omega), (show n.natAbs < 1073741824 by omega)⟩, _, rfl, p, _, _, 2, rfl, rfl, h1, rfl, ?_⟩
      refine ⟨_, rfl, p, _, _, 4, rfl, rfl, upd_same, rfl, ?_⟩
      rw [upd_upd]
      refine ⟨_, rfl, hQ _ _ (fm_lo (by omega)) (fm_hi (by omega)) (k0.trans (Kp.lst h1 (by simp))) ⟨i, _, k, 0, ns, upd_same, get_upd h2 hne, hi, hk, hk2⟩⟩
    · refine ⟨_, rfl, p, _, _, _, rfl, rfl, SqL.of h1, rfl, _, _, rfl, rfl, _, rfl, p, _, _, 4, rfl, rfl, h1, rfl, ?_⟩
      refine ⟨_, rfl, p, _, _, _, rfl, rfl, SqL.of upd_same, rfl, _, _, rfl, rfl, .inr ⟨by decide, by decide⟩, _, _, rfl, rfl, .inl ⟨_, rfl, _, _, rfl, rfl, (show (2147483647 : Int) ≠ 0 by decide), ?_⟩⟩
      refine ⟨_, rfl, p, _, _, 3, rfl, rfl, upd_same, rfl, ?_⟩
      rw [upd_upd]
      refine ⟨_, rfl, p, _, _, _, rfl, rfl, SqL.of upd_same, rfl, _, _, rfl, rfl, .inr ⟨by decide, by decide⟩, _, _, rfl, rfl, .inl ⟨_, rfl, _, _, rfl, rfl, (show (2147483647 : Int) ≠ 0 by decide), _, rfl, _, _, rfl, rfl, (show n ≠ 0 by omega), ?_⟩⟩
      have m1 := fm_lo (x := k * 48271 + 12345) (m := 2147483647) (by decide)
      have m2 := fm_hi (x := k * 48271 + 12345) (m := 2147483647) (by decide)
      exact hQ _ _ (fm_lo (by omega)) (fm_hi (by omega)) (k0.trans (Kp.lst h1 (by simp))) ⟨i, j, _, _, ns, upd_same, get_upd h2 hne, hi, m1, m2⟩
theorem fn_law_number (T : Txt K mg) (h_law_draw : FnP P w K mg base CX0 1 "_law_draw" ["_law_pool_here", "_law_size"] spDraw) : FnP P w K mg base CX0 2 "_law_number" ["_law_pool_here"] spNumber := by
  have S : FnScope ["_law_pool_here"] ["_law_pool_here"] (defScope (top 35)) := ⟨rfl, rfl, rfl, by decide +kernel, rfl, by decide +kernel, by decide +kernel⟩
  have nd := S.nd
  refine FnP.of0 T.d_law_number T.g_law_number S ba_law_number (fun vs H Q E h => ?_) (fun cdv A outer s H vs Q E hr h => ?_)
  · obtain ⟨p, a, b, rfl, _⟩ := h
    rfl
  obtain ⟨p, a, b, rfl, hp, hQ⟩ := h
  refine ⟨_, (pss_cons (ps_if (pt_cmpR op_eq (pe_cf h_law_draw hr pass0 (pa_cons (pv 0) (pa_cons pe_int pa_nil))) pe_int (nomark _)) (pss_one (ps_ret (pe_cf h_law_draw hr pass0 (pa_cons (pv 0) (pa_cons pe_int pa_nil))))) pss_nil)
    (pss_one (ps_ret (pe_cf h_law_draw hr pass0 (pa_cons (pv 0) (pa_cons pe_int pa_nil)))))), ?_⟩
  refine ⟨_, rfl, p, a, b, 3, rfl, by decide, by decide, hp, fun r H1 h0 h1 k1 p1 => ⟨rfl, _, rfl, ?_⟩⟩
  refine ite2 (fun c => ?_) (fun c => ?_)
  · exact ⟨_, rfl, p, a, b, 65536, rfl, by decide, by decide, p1, fun r H2 h2 h3 k2 p2 => hQ r H2 h2 h3 (k1.trans k2) p2⟩
  · exact ⟨_, rfl, p, a, b, 9, rfl, by decide, by decide, p1, fun r H2 h2 h3 k2 p2 => hQ r H2 h2 (by omega) (k1.trans k2) p2⟩
end
end K4

/-! The law's own game: expressions. -/
namespace K4
open PySem PySem.Spec PyProof.Rows L2
/-- a word without a blank, of so many signs at most -/
def OkW (n : Nat) (x : Str) : Prop := x.length ≤ n ∧ 32 ∉ x.cps.toList
instance {n : Nat} {x : Str} : Decidable (OkW n x) := inferInstanceAs (Decidable (_ ∧ _))
theorem OkW.mono {m n : Nat} {x : Str} (h : OkW m x) (l : m ≤ n) : OkW n x := ⟨Nat.le_trans h.1 l, h.2⟩
theorem ok_num {n : Int} (h0 : 0 ≤ n) (h1 : n < 100000) : OkW 5 (strI n) := by
  obtain ⟨m, rfl⟩ : ∃ m : Nat, n = (m : Int) := ⟨n.toNat, by omega⟩
  have e : (strI ((m : Nat) : Int)).cps.toList = TL.numL m := TL.tl_num m
  refine ⟨?_, ?_⟩
  · rw [← len_toList, e]
    exact TL.numL_len (by decide) (by omega)
  · rw [e]
    exact TL.numL_free (.inl (by decide))
theorem log_small {n : Int} (h0 : 0 ≤ n) (h1 : n < 100000) : n.natAbs.log2 < 1920 := by
  have : n.natAbs < 2 ^ 17 := by omega
  have h2 : n.natAbs.log2 ≤ 17 := by
    rcases Nat.eq_zero_or_pos n.natAbs with e | e
    · rw [e]; decide
    · have := (Nat.log2_lt (n := n.natAbs) (k := 17) (by omega)).mpr this
      omega
  omega
def exD : Ex → Nat
  | .num _ => 0
  | .loc _ => 0
  | .var _ => 0
  | .tab _ _ e => exD e + 1
  | .op _ e f => max (exD e) (exD f) + 1
/-- the law's scope at sd -/
structure GSc (H : Hp) (sd v t l lo : Addr) (vars tabs lots : List Row) (locs : List Str) (ways : Int) : Prop where
  d : H sd = some (.dK [(.inr "variables", .ref v), (.inr "tables", .ref t), (.inr "lots", .ref l), (.inr "locals", .ref lo), (.inr "ways", .int ways)])
  v : ∃ xs, H v = some (.lst xs) ∧ All2 (RowAt H) vars xs
  t : ∃ xs, H t = some (.lst xs) ∧ All2 (RowAt H) tabs xs
  l : ∃ xs, H l = some (.lst xs) ∧ All2 (RowAt H) lots xs
  lo : H lo = some (.lst (locs.map V.str))
  ne : locs ≠ []
  w : 1 ≤ ways
  small : vars.length ≤ 10 ∧ tabs.length ≤ 10 ∧ lots.length ≤ 10 ∧ locs.length ≤ 10 ∧ ways ≤ 100
  ok : (∀ r ∈ vars, OkW 12 r.1) ∧ (∀ r ∈ tabs, OkW 12 r.1) ∧ (∀ r ∈ lots, OkW 12 r.1 ∧ 1 ≤ r.2.2 ∧ r.2.2 ≤ 100) ∧ ∀ x ∈ locs, OkW 12 x
section
variable {H H' : Hp} {sd v t l lo : Addr} {vars tabs lots : List Row} {locs : List Str} {ways : Int}
theorem GSc.kp {S : List Addr} (h : GSc H sd v t l lo vars tabs lots locs ways) (k : Kp S H H') (n : ∀ b ∈ [sd, v, t, l, lo], b ∉ S) : GSc H' sd v t l lo vars tabs lots locs ways := by
  obtain ⟨xs, h1, h2⟩ := h.v
  obtain ⟨ys, h3, h4⟩ := h.t
  obtain ⟨zs, h5, h6⟩ := h.l
  exact ⟨k.get h.d (n _ (by simp)), ⟨xs, k.get h1 (n _ (by simp)), h2.imp fun _ _ => RowAt.kp k⟩, ⟨ys, k.get h3 (n _ (by simp)), h4.imp fun _ _ => RowAt.kp k⟩, ⟨zs, k.get h5 (n _ (by simp)), h6.imp fun _ _ => RowAt.kp k⟩, k.get h.lo (n _ (by simp)), h.ne, h.w, h.small, h.ok⟩
theorem GSc.dv (h : GSc H sd v t l lo vars tabs lots locs ways) : DGet H sd (.str "variables") (some (.ref v)) := DGet.k (k := .inr "variables") h.d
theorem val_t {v t l lo : Addr} {ways : Int} : valV [((.inr "variables" : Key), V.ref v), (.inr "tables", .ref t), (.inr "lots", .ref l), (.inr "locals", .ref lo), (.inr "ways", .int ways)] (.inr "tables") = some (.ref t) := by kernel_rfl
theorem GSc.dt (h : GSc H sd v t l lo vars tabs lots locs ways) : DGet H sd (.str "tables") (some (.ref t)) := by rw [← val_t]; exact DGet.k (k := .inr "tables") h.d
theorem GSc.dl (h : GSc H sd v t l lo vars tabs lots locs ways) : DGet H sd (.str "lots") (some (.ref l)) := by
  have e : valV [((.inr "variables" : Key), V.ref v), (.inr "tables", .ref t), (.inr "lots", .ref l), (.inr "locals", .ref lo), (.inr "ways", .int ways)] (.inr "lots") = some (.ref l) := by kernel_rfl
  rw [← e]; exact DGet.k (k := .inr "lots") h.d
theorem GSc.dlo (h : GSc H sd v t l lo vars tabs lots locs ways) : DGet H sd (.str "locals") (some (.ref lo)) := by
  have e : valV [((.inr "variables" : Key), V.ref v), (.inr "tables", .ref t), (.inr "lots", .ref l), (.inr "locals", .ref lo), (.inr "ways", .int ways)] (.inr "locals") = some (.ref lo) := by kernel_rfl
  rw [← e]; exact DGet.k (k := .inr "locals") h.d
theorem GSc.dw (h : GSc H sd v t l lo vars tabs lots locs ways) : DGet H sd (.str "ways") (some (.int ways)) := by
  have e : valV [((.inr "variables" : Key), V.ref v), (.inr "tables", .ref t), (.inr "lots", .ref l), (.inr "locals", .ref lo), (.inr "ways", .int ways)] (.inr "ways") = some (.int ways) := by kernel_rfl
  rw [← e]; exact DGet.k (k := .inr "ways") h.d
end
/-- an item of a list of rows -/
theorem row_at {R : Row → V → Prop} {rs : List Row} {xs : List V} (h : All2 R rs xs) {i : Int} (h0 : 0 ≤ i) (h1 : i < (xs.length : Int)) : ∃ r v, atI xs i = some v ∧ r ∈ rs ∧ R r v := by
  obtain ⟨v, q, e⟩ := at_of h0 h1
  obtain ⟨r, e1, e2⟩ := h.get e
  exact ⟨r, v, q, List.mem_of_getElem? e1, e2⟩
def eb : Nat → Nat
  | 0 => 1
  | d + 1 => 2 * eb d + 1
theorem eb_pos : ∀ d, 1 ≤ eb d
  | 0 => Nat.le_refl _
  | d + 1 => by unfold eb; omega
theorem eb_le : ∀ d, eb d ≤ eb (d + 1) := fun d => by show eb d ≤ 2 * eb d + 1; omega
/-- a good expression of depth d -/
structure GoodE (e : Ex) (d : Nat) : Prop where
  dep : exD e ≤ d
  len : (exW e).length ≤ eb d
  ok : ∀ x ∈ exW e, OkW 12 x
theorem goodE_one {e : Ex} {x : Str} {d : Nat} (h : exW e = [x]) (hd : exD e = 0) (hx : OkW 12 x) : GoodE e d := by
  refine ⟨by omega, by rw [h]; exact eb_pos d, fun y hy => ?_⟩
  rw [h] at hy
  rw [List.mem_singleton.mp hy]
  exact hx
theorem goodE_op {k : Str} {e f : Ex} {d : Nat} (hk : OkW 12 k) (h1 : GoodE e d) (h2 : GoodE f d) : GoodE (.op k e f) (d + 1) := by
  refine ⟨?_, ?_, ?_⟩
  · show max (exD e) (exD f) + 1 ≤ d + 1
    have := h1.dep
    have := h2.dep
    omega
  · show (k :: (exW e ++ exW f)).length ≤ 2 * eb d + 1
    rw [List.length_cons, List.length_append]
    have := h1.len
    have := h2.len
    omega
  · intro x hx
    rcases List.mem_cons.mp (show x ∈ k :: (exW e ++ exW f) from hx) with rfl | hx
    · exact hk
    · rcases List.mem_append.mp hx with hx | hx
      · exact h1.ok x hx
      · exact h2.ok x hx
theorem goodE_tab {k t : Str} {e : Ex} {d : Nat} (hk : OkW 12 k) (ht : OkW 12 t) (h1 : GoodE e d) : GoodE (.tab k t e) (d + 1) := by
  refine ⟨Nat.succ_le_succ h1.dep, ?_, ?_⟩
  · show (k :: t :: exW e).length ≤ 2 * eb d + 1
    rw [List.length_cons, List.length_cons]
    have := h1.len
    have := eb_pos d
    omega
  · intro x hx
    rcases List.mem_cons.mp (show x ∈ k :: t :: exW e from hx) with rfl | hx
    · exact hk
    · rcases List.mem_cons.mp hx with rfl | hx
      · exact ht
      · exact h1.ok x hx
theorem ok_signs {k : Str} (h : k ∈ signs) : OkW 12 k := (show ∀ k ∈ signs, OkW 12 k by decide +kernel) k h
def spE (n : Nat) : Sp := fun vs H Q _ => ∃ d p a b sd v t l lo vars tabs lots locs ways, n = d + 1 ∧ vs = [.ref p, .ref sd, .int ((d : Nat) : Int)] ∧ Pool H p a b ∧ GSc H sd v t l lo vars tabs lots locs ways ∧ p ∉ [sd, v, t, l, lo] ∧
  ∀ e x H', Kp [p] H H' → Pool H' p a b → ExAt H' e x → GoodE e d → Q x H'
theorem GSc.pool {H H' : Hp} {p sd v t l lo : Addr} {vars tabs lots : List Row} {locs : List Str} {ways : Int} (h : GSc H sd v t l lo vars tabs lots locs ways) (k : Kp [p] H H') (n : p ∉ [sd, v, t, l, lo]) : GSc H' sd v t l lo vars tabs lots locs ways :=
  h.kp k fun b hb z => n (by rw [List.mem_singleton.mp z] at hb; exact hb)
section
variable {P : Program} {w : World} {K : PySem.W.Frag} {mg : Str → Option Value} {base : Heap}
theorem FnP.no {x : Str} {st : Stmt} {ps : List Str} {f : Addr} {CX : CXT} {k : Nat} {sp : Sp} (F : FD K x x st f) (hg : mg x = some (.ref f)) (hb : BA x x st ps) (no : ∀ vs H Q E, ¬ sp vs H Q E) : FnP P w K mg base CX k x ps sp := by
  obtain ⟨fd, F⟩ := F
  exact ⟨f, fd, ⟨fun vs H Q E h => absurd h (no vs H Q E), fun A outer s H args us vs Q E _ _ _ _ h => absurd h (no vs H Q E)⟩, hg, F.kp, F.bindsN hb⟩
set_option maxHeartbeats 8000000 in
theorem fn_law_expression1 (T : Txt K mg) (h_law_draw : FnP P w K mg base CX0 1 "_law_draw" ["_law_pool_here", "_law_size"] spDraw) (h_law_number : FnP P w K mg base CX0 2 "_law_number" ["_law_pool_here"] spNumber) {n : Nat}
    (h_law_expression : FnP P w K mg base CX0 (3 + n) "_law_expression" ["_law_pool_here", "_law_scope", "_law_deep"] (spE n)) : FnP P w K mg base CX0 (3 + n + 1) "_law_expression" ["_law_pool_here", "_law_scope", "_law_deep"] (spE (n + 1)) := by
  have S : FnScope ["_law_pool_here", "_law_scope", "_law_deep", "_law_kind", "_law_sign", "_law_left", "_law_table"] ["_law_pool_here", "_law_scope", "_law_deep"] (defScope (top 37)) := ⟨rfl, rfl, rfl, by decide +kernel, rfl, by decide +kernel, by decide +kernel⟩
  have nd := S.nd
  refine FnP.of0 T.d_law_expression T.g_law_expression S ba_law_expression (fun vs H Q E h => ?_) (fun cdv A outer s H vs Q E hr h => ?_)
  · obtain ⟨d, p, a, b, sd, v, t, l, lo, vars, tabs, lots, locs, ways, _, rfl, _⟩ := h
    rfl
  obtain ⟨d, p, a, b, sd, v, t, l, lo, vars, tabs, lots, locs, ways, hn, rfl, hp, hg, hne, hQ⟩ := h
  obtain rfl : n = d := by omega
  refine ⟨_, (pss_cons (ps_set (i := 3) nd rfl (Or.inl rfl) (pe_cf h_law_draw hr pass0 (pa_cons (pv 0) (pa_cons pe_int pa_nil))))
    (pss_cons (ps_if (PW.pt (pw_and (pt_cmpR op_lt (pv 3) pe_int (nomark _)) (pw_and1 (pt_cmpR op_gt (pv 2) pe_int (nomark _))))) (pss_cons (ps_set (i := 4) nd rfl (Or.inl rfl) (pe_ix ix_tup (pe_tup (pa_cons pe_str (pa_cons pe_str (pa_cons pe_str (pa_cons pe_str (pa_cons pe_str (pa_cons pe_str (pa_cons pe_str pa_nil)))))))) (pe_cf h_law_draw hr pass0 (pa_cons (pv 0) (pa_cons pe_int pa_nil))) (fun _ _ => rfl)))
    (pss_cons (ps_set (i := 5) nd rfl (Or.inl rfl) (pe_cf h_law_expression hr pass0 (pa_cons (pv 0) (pa_cons (pv 1) (pa_cons (pe_op op_sub (pv 2) pe_int) pa_nil)))))
    (pss_one (ps_ret (pe_tup (pa_cons (pv 4) (pa_cons (pv 5) (pa_cons (pe_cf h_law_expression hr pass0 (pa_cons (pv 0) (pa_cons (pv 1) (pa_cons (pe_op op_sub (pv 2) pe_int) pa_nil)))) pa_nil)))))))) pss_nil)
    (pss_cons (ps_if (PW.pt (pw_and (pt_cmpR op_lt (pv 3) pe_int (nomark _)) (pw_and (pt_cmpR op_gt (pv 2) pe_int (nomark _)) (pw_and1 (pt_cmpR op_gt (pe_callB call_len (by rfl) T.f_len (by decide +kernel) (pa_cons (pe_dget (hu_of hr) (pv 1) pe_str (fun _ _ => rfl)) pa_nil)) pe_int (nomark _)))))) (pss_cons (ps_set (i := 6) nd rfl (Or.inl rfl) (pe_ix ix_tup (pe_ix ix_list (pe_dget (hu_of hr) (pv 1) pe_str (fun _ _ => rfl)) (pe_cf h_law_draw hr pass0 (pa_cons (pv 0) (pa_cons (pe_callB call_len (by rfl) T.f_len (by decide +kernel) (pa_cons (pe_dget (hu_of hr) (pv 1) pe_str (fun _ _ => rfl)) pa_nil)) pa_nil))) (fun _ _ => rfl)) pe_int (fun _ _ => rfl)))
    (pss_one (ps_ret (pe_tup (pa_cons (pe_ix ix_tup (pe_tup (pa_cons pe_str (pa_cons pe_str pa_nil))) (pe_cf h_law_draw hr pass0 (pa_cons (pv 0) (pa_cons pe_int pa_nil))) (fun _ _ => rfl)) (pa_cons (pv 6) (pa_cons (pe_cf h_law_expression hr pass0 (pa_cons (pv 0) (pa_cons (pv 1) (pa_cons (pe_op op_sub (pv 2) pe_int) pa_nil)))) pa_nil))))))) pss_nil)
    (pss_cons (ps_if (PW.pt (pw_and (pt_cmpR op_lt (pv 3) pe_int (nomark _)) (pw_and1 (pt_cmpR op_gt (pe_callB call_len (by rfl) T.f_len (by decide +kernel) (pa_cons (pe_dget (hu_of hr) (pv 1) pe_str (fun _ _ => rfl)) pa_nil)) pe_int (nomark _))))) (pss_one (ps_ret (pe_tup (pa_cons pe_str (pa_cons (pe_ix ix_tup (pe_ix ix_list (pe_dget (hu_of hr) (pv 1) pe_str (fun _ _ => rfl)) (pe_cf h_law_draw hr pass0 (pa_cons (pv 0) (pa_cons (pe_callB call_len (by rfl) T.f_len (by decide +kernel) (pa_cons (pe_dget (hu_of hr) (pv 1) pe_str (fun _ _ => rfl)) pa_nil)) pa_nil))) (fun _ _ => rfl)) pe_int (fun _ _ => rfl)) pa_nil))))) pss_nil)
    (pss_cons (ps_if (pt_cmpR op_lt (pv 3) pe_int (nomark _)) (pss_one (ps_ret (pe_tup (pa_cons pe_str (pa_cons (pe_ix ix_list (pe_dget (hu_of hr) (pv 1) pe_str (fun _ _ => rfl)) (pe_cf h_law_draw hr pass0 (pa_cons (pv 0) (pa_cons (pe_callB call_len (by rfl) T.f_len (by decide +kernel) (pa_cons (pe_dget (hu_of hr) (pv 1) pe_str (fun _ _ => rfl)) pa_nil)) pa_nil))) (fun _ _ => rfl)) pa_nil))))) pss_nil)
    (pss_one (ps_ret (pe_tup (pa_cons pe_str (pa_cons (pe_ix ix_tup (pe_tup (pa_cons (pe_cf h_law_draw hr pass0 (pa_cons (pv 0) (pa_cons pe_int pa_nil))) (pa_cons (pe_cf h_law_draw hr pass0 (pa_cons (pv 0) (pa_cons pe_int pa_nil))) (pa_cons (pe_cf h_law_number hr pass0 (pa_cons (pv 0) pa_nil)) pa_nil)))) (pe_cf h_law_draw hr pass0 (pa_cons (pv 0) (pa_cons pe_int pa_nil))) (fun _ _ => rfl)) pa_nil)))))))))), ?_⟩
  refine sq_set ⟨_, rfl, p, a, b, 12, rfl, by decide, by decide, hp, fun r H1 r0 r1 k1 p1 => ?_⟩
  have g1 := hg.pool k1 hne
  obtain ⟨ys, t1, t2⟩ := g1.t
  obtain ⟨xs, v1, v2⟩ := g1.v
  refine seq_if0 (ans_and (fun Q q => ⟨_, rfl, _, _, rfl, rfl, _, rfl, q⟩) (fun Q q => ⟨_, rfl, _, _, rfl, rfl, _, rfl, q⟩)) (fun c => ?_) (fun c => ?_)
  · -- an operator
    obtain ⟨c1, c2⟩ := and_t c
    have c2 := dec_t c2
    obtain ⟨m, rfl⟩ : ∃ m, n = m + 1 := ⟨n - 1, by omega⟩
    have em : (((m + 1 : Nat) : Int)) - 1 = (m : Int) := by omega
    have ev : [V.ref p, V.ref sd, V.int (((m + 1 : Nat) : Int) - 1)] = [V.ref p, V.ref sd, V.int ((m : Nat) : Int)] := by rw [em]
    refine sq_set ⟨sz (show 7 ≤ 1000000 by decide), fun q hq => ?_⟩
    have kq : Kp [p] H (upd H1 q (.tup (signs.map V.str))) := k1.trans (Kp.new hq)
    refine ⟨_, rfl, p, a, b, 7, rfl, by decide, by decide, p1.kp (Kp.new hq : Kp [] _ _) (by simp) (by simp), fun i H2 i0 i1 k2 p2 => ?_⟩
    obtain ⟨sg, hat, hsg⟩ := at_map (f := V.str) (ns := signs) i0 i1
    refine ⟨q, _, _, _, rfl, rfl, SqT.of (k2.2 _ _ upd_same), hat, ?_⟩
    have g2 := hg.pool (kq.trans k2) hne
    refine sq_set ⟨_, rfl, _, rfl, _, rfl, _, _, rfl, rfl, m, p, a, b, sd, v, t, l, lo, vars, tabs, lots, locs, ways, rfl, ev, p2, g2, hne, fun e x H3 k3 p3 x3 ge => ?_⟩
    refine ⟨_, rfl, _, rfl, _, rfl, _, rfl, _, rfl, _, _, rfl, rfl, m, p, a, b, sd, v, t, l, lo, vars, tabs, lots, locs, ways, rfl, ev, p3, hg.pool ((kq.trans k2).trans k3) hne, hne, fun f y H4 k4 p4 y4 gf => ?_⟩
    refine ⟨sz (show 3 ≤ 1000000 by decide), fun z hz => ?_⟩
    exact hQ (.op sg e f) _ _ ((((kq.trans k2).trans k3).trans k4).trans (Kp.new hz)) (p4.kp (Kp.new hz : Kp [] _ _) (by simp) (by simp)) ⟨hsg, z, x, y, rfl, upd_same, (x3.kp k4).kp (Kp.new hz : Kp [] _ _), y4.kp (Kp.new hz : Kp [] _ _)⟩ (goodE_op (ok_signs hsg) ge gf)
  refine seq_if0 (ans_and (fun Q q => ⟨_, rfl, _, _, rfl, rfl, _, rfl, q⟩) (ans_and (fun Q q => ⟨_, rfl, _, _, rfl, rfl, _, rfl, q⟩) (fun Q q => ⟨_, rfl, _, _, rfl, g1.dt, _, _, rfl, .inl ⟨_, SqL.of t1, rfl⟩, _, _, rfl, rfl, _, rfl, q⟩))) (fun c => ?_) (fun c => ?_)
  · -- a table
    obtain ⟨c1, c2⟩ := and_t c
    obtain ⟨c2, c3⟩ := and_t c2
    have c2 := dec_t c2
    have c3 := dec_t c3
    obtain ⟨m, rfl⟩ : ∃ m, n = m + 1 := ⟨n - 1, by omega⟩
    have em : (((m + 1 : Nat) : Int)) - 1 = (m : Int) := by omega
    have ev : [V.ref p, V.ref sd, V.int (((m + 1 : Nat) : Int) - 1)] = [V.ref p, V.ref sd, V.int ((m : Nat) : Int)] := by rw [em]
    have hyl := t2.length
    have hsm := g1.small
    refine sq_set ⟨_, rfl, _, _, rfl, g1.dt, _, rfl, _, rfl, _, _, rfl, g1.dt, _, _, rfl, .inl ⟨_, SqL.of t1, rfl⟩, p, a, b, _, rfl, by omega, by omega, p1, fun i H2 i0 i1 k2 p2 => ?_⟩
    obtain ⟨rw_, rv, hat, hrm, hrv⟩ := row_at t2 i0 i1
    have hpt : t ∉ [p] := fun z => hne (by rw [List.mem_singleton.mp z]; simp)
    obtain ⟨ra, rfl, hra, _⟩ := hrv.kp k2
    refine ⟨t, _, _, _, rfl, rfl, SqL.of (k2.get t1 hpt), hat, ra, _, _, _, rfl, rfl, SqT.of hra, rfl, ?_⟩
    refine ⟨sz (show 2 ≤ 1000000 by decide), fun q hq => ?_⟩
    have kq := (k1.trans k2).trans (Kp.new (S := [p]) (o := .tup [.str "has", .str "cell"]) hq)
    refine ⟨_, rfl, p, a, b, 2, rfl, by decide, by decide, p2.kp (Kp.new hq : Kp [] _ _) (by simp) (by simp), fun i2 H3 i20 i21 k3 p3 => ?_⟩
    obtain ⟨sg, hat2, hsg⟩ := at_map (f := V.str) (ns := [("has" : Str), "cell"]) i20 i21
    refine ⟨q, _, _, _, rfl, rfl, SqT.of (k3.2 _ _ upd_same), hat2, ?_⟩
    refine ⟨_, rfl, _, rfl, _, rfl, _, rfl, _, _, rfl, rfl, m, p, a, b, sd, v, t, l, lo, vars, tabs, lots, locs, ways, rfl, ev, p3, hg.pool (kq.trans k3) hne, hne, fun f y H4 k4 p4 y4 gf => ?_⟩
    refine ⟨sz (show 3 ≤ 1000000 by decide), fun z hz => ?_⟩
    have hsg' : sg = "has" ∨ sg = "cell" := by
      rcases List.mem_cons.mp hsg with e | e
      · exact .inl e
      · exact .inr (List.mem_singleton.mp e)
    refine hQ (.tab sg rw_.1 f) _ _ (((kq.trans k3).trans k4).trans (Kp.new hz)) (p4.kp (Kp.new hz : Kp [] _ _) (by simp) (by simp)) ⟨hsg', z, y, rfl, upd_same, y4.kp (Kp.new hz : Kp [] _ _)⟩ (goodE_tab ?_ (hg.ok.2.1 _ hrm) gf)
    rcases hsg' with rfl | rfl <;> decide +kernel
  refine seq_if0 (ans_and (fun Q q => ⟨_, rfl, _, _, rfl, rfl, _, rfl, q⟩) (fun Q q => ⟨_, rfl, _, _, rfl, g1.dv, _, _, rfl, .inl ⟨_, SqL.of v1, rfl⟩, _, _, rfl, rfl, _, rfl, q⟩)) (fun c => ?_) (fun c => ?_)
  · -- a variable
    obtain ⟨c1, c3⟩ := and_t c
    have c3 := dec_t c3
    have hyl := v2.length
    have hsm := g1.small
    refine ⟨_, rfl, _, _, rfl, g1.dv, _, rfl, _, rfl, _, _, rfl, g1.dv, _, _, rfl, .inl ⟨_, SqL.of v1, rfl⟩, p, a, b, _, rfl, by omega, by omega, p1, fun i H2 i0 i1 k2 p2 => ?_⟩
    obtain ⟨rw_, rv, hat, hrm, hrv⟩ := row_at v2 i0 i1
    have hpt : v ∉ [p] := fun z => hne (by rw [List.mem_singleton.mp z]; simp)
    obtain ⟨ra, rfl, hra, _⟩ := hrv.kp k2
    refine ⟨v, _, _, _, rfl, rfl, SqL.of (k2.get v1 hpt), hat, ra, _, _, _, rfl, rfl, SqT.of hra, rfl, ?_⟩
    refine ⟨sz (show 2 ≤ 1000000 by decide), fun q hq => ?_⟩
    exact hQ (.var rw_.1) _ _ ((k1.trans k2).trans (Kp.new hq)) (p2.kp (Kp.new hq : Kp [] _ _) (by simp) (by simp)) ⟨q, rfl, upd_same⟩ (goodE_one rfl rfl (hg.ok.1 _ hrm))
  refine seq_if0 (fun Q q => ⟨_, rfl, _, _, rfl, rfl, _, rfl, q⟩) (fun c => ?_) (fun c => ?_)
  · -- a local
    have hsm := g1.small
    have hl1 : (locs.map V.str).length = locs.length := List.length_map _
    have hl0 : 0 < locs.length := List.length_pos_iff.mpr g1.ne
    refine ⟨_, rfl, _, _, rfl, g1.dlo, _, rfl, _, rfl, _, _, rfl, g1.dlo, _, _, rfl, .inl ⟨_, SqL.of g1.lo, rfl⟩, p, a, b, _, rfl, by omega, by omega, p1, fun i H2 i0 i1 k2 p2 => ?_⟩
    obtain ⟨x, hat, hx⟩ := at_map (f := V.str) (ns := locs) i0 (by omega)
    have hpt : lo ∉ [p] := fun z => hne (by rw [List.mem_singleton.mp z]; simp)
    refine ⟨lo, _, _, _, rfl, rfl, SqL.of (k2.get g1.lo hpt), hat, ?_⟩
    refine ⟨sz (show 2 ≤ 1000000 by decide), fun q hq => ?_⟩
    exact hQ (.loc x) _ _ ((k1.trans k2).trans (Kp.new hq)) (p2.kp (Kp.new hq : Kp [] _ _) (by simp) (by simp)) ⟨q, rfl, upd_same⟩ (goodE_one rfl rfl (hg.ok.2.2.2 _ hx))
  · -- a number
    refine ⟨_, rfl, p, a, b, 4, rfl, by decide, by decide, p1, fun n1 H2 n10 n11 k2 p2 => ?_⟩
    refine ⟨_, rfl, p, a, b, 70, rfl, by decide, by decide, p2, fun n2 H3 n20 n21 k3 p3 => ?_⟩
    refine ⟨_, rfl, p, a, b, rfl, p3, fun n3 H4 n30 n31 k4 p4 => ?_⟩
    refine ⟨sz (show 3 ≤ 1000000 by decide), fun q hq => ?_⟩
    refine ⟨_, rfl, p, a, b, 3, rfl, by decide, by decide, p4.kp (Kp.new hq : Kp [] _ _) (by simp) (by simp), fun i H5 i0 i1 k5 p5 => ?_⟩
    obtain ⟨x, hat, hx⟩ := at_map (f := V.int) (ns := [n1, n2, n3]) i0 i1
    refine ⟨q, _, _, _, rfl, rfl, SqT.of (k5.2 _ _ upd_same), hat, ?_⟩
    refine ⟨sz (show 2 ≤ 1000000 by decide), fun z hz => ?_⟩
    have hxb : 0 ≤ x ∧ x < 100000 := by
      simp only [List.mem_cons, List.not_mem_nil, or_false] at hx
      rcases hx with rfl | rfl | rfl <;> omega
    exact hQ (.num x) _ _ ((((((k1.trans k2).trans k3).trans k4).trans (Kp.new hq)).trans k5).trans (Kp.new hz)) (p5.kp (Kp.new hz : Kp [] _ _) (by simp) (by simp)) ⟨z, rfl, upd_same, hxb⟩ (goodE_one rfl rfl ((ok_num hxb.1 hxb.2).mono (by decide)))
theorem fn_law_expression (T : Txt K mg) (h_law_draw : FnP P w K mg base CX0 1 "_law_draw" ["_law_pool_here", "_law_size"] spDraw) (h_law_number : FnP P w K mg base CX0 2 "_law_number" ["_law_pool_here"] spNumber) : ∀ n : Nat, FnP P w K mg base CX0 (3 + n) "_law_expression" ["_law_pool_here", "_law_scope", "_law_deep"] (spE n)
  | 0 => FnP.no T.d_law_expression T.g_law_expression ba_law_expression fun vs H Q E ⟨d, _, _, _, _, _, _, _, _, _, _, _, _, _, e, _⟩ => by omega
  | n + 1 => fn_law_expression1 T h_law_draw h_law_number (fn_law_expression T h_law_draw h_law_number n)
end
end K4

set_option maxHeartbeats 8000000
/-! The law's own game: statements, blocks. -/
namespace K4
open PySem PySem.Spec PyProof.Rows L2
def blkD : Blk → Nat
  | .nil => 0
  | .bad r => blkD r
  | .after s r => max (blkD s + 1) (blkD r)
  | .ite _ s t r => max (max (blkD s) (blkD t) + 1) (blkD r)
  | .draw _ _ r => blkD r
  | .put _ _ _ r => blkD r
  | .gen _ _ _ r => blkD r
/-- all expressions are so deep at most, all numbers are small -/
def EDB (d : Nat) : Blk → Prop
  | .nil => True
  | .bad r => EDB d r
  | .after s r => EDB d s ∧ EDB d r
  | .ite e s t r => exD e ≤ d ∧ EDB d s ∧ EDB d t ∧ EDB d r
  | .draw _ _ r => EDB d r
  | .put _ e f r => exD e ≤ d ∧ exD f ≤ d ∧ EDB d r
  | .gen _ _ e r => exD e ≤ d ∧ EDB d r
theorem blkD_app : ∀ b c : Blk, blkD (b.app c) = max (blkD b) (blkD c)
  | .nil, c => by simp [Blk.app, blkD]
  | .bad r, c => by simp only [Blk.app, blkD, blkD_app r c]
  | .after s r, c => by simp only [Blk.app, blkD, blkD_app r c, Nat.max_assoc]
  | .ite e s t r, c => by simp only [Blk.app, blkD, blkD_app r c, Nat.max_assoc]
  | .draw l n r, c => by simp only [Blk.app, blkD, blkD_app r c]
  | .put t e f r, c => by simp only [Blk.app, blkD, blkD_app r c]
  | .gen k xs e r, c => by simp only [Blk.app, blkD, blkD_app r c]
theorem EDB_app {d : Nat} : ∀ {b c : Blk}, EDB d b → EDB d c → EDB d (b.app c)
  | .nil, _, _, h => h
  | .bad r, _, h, hc => EDB_app (b := r) h hc
  | .after _ r, _, h, hc => ⟨h.1, EDB_app (b := r) h.2 hc⟩
  | .ite _ _ _ r, _, h, hc => ⟨h.1, h.2.1, h.2.2.1, EDB_app (b := r) h.2.2.2 hc⟩
  | .draw _ _ r, _, h, hc => EDB_app (b := r) h hc
  | .put _ _ _ r, _, h, hc => ⟨h.1, h.2.1, EDB_app (b := r) h.2.2 hc⟩
  | .gen _ _ _ r, _, h, hc => ⟨h.1, EDB_app (b := r) h.2 hc⟩
structure GoodB (b : Blk) (r : Nat) : Prop where
  dep : blkD b ≤ r
  exs : EDB 2 b
  ok : ∀ x ∈ blkW b, OkW 12 x
theorem goodB_nil {r : Nat} : GoodB .nil r := ⟨Nat.zero_le _, trivial, fun x h => by cases h⟩
theorem goodB_app {b c : Blk} {r : Nat} (h : GoodB b r) (h' : GoodB c r) : GoodB (b.app c) r := by
  refine ⟨?_, EDB_app h.exs h'.exs, fun x hx => ?_⟩
  · rw [blkD_app]
    have := h.dep
    have := h'.dep
    omega
  · rw [blkW_app] at hx
    rcases List.mem_append.mp hx with hx | hx
    · exact h.ok x hx
    · exact h'.ok x hx
theorem GSc.setw {H : Hp} {sd v t l lo : Addr} {vars tabs lots : List Row} {locs : List Str} {ways w' : Int} (h : GSc H sd v t l lo vars tabs lots locs ways) (h1 : 1 ≤ w') (h2 : w' ≤ 100) :
    ∃ H', DPut H sd (.str "ways") (.int w') H' ∧ Kp [sd] H H' ∧ GSc H' sd v t l lo vars tabs lots locs w' := by
  have e : putK [((.inr "variables" : Key), V.ref v), (.inr "tables", .ref t), (.inr "lots", .ref l), (.inr "locals", .ref lo), (.inr "ways", .int ways)] (.inr "ways") (.int w') =
    [((.inr "variables" : Key), V.ref v), (.inr "tables", .ref t), (.inr "lots", .ref l), (.inr "locals", .ref lo), (.inr "ways", .int w')] := by kernel_rfl
  have k : Kp [sd] H (upd H sd (.dK [((.inr "variables" : Key), V.ref v), (.inr "tables", .ref t), (.inr "lots", .ref l), (.inr "locals", .ref lo), (.inr "ways", .int w')])) := Kp.dK h.d (by simp)
  obtain ⟨xs, v1, v2⟩ := h.v
  obtain ⟨ys, t1, t2⟩ := h.t
  obtain ⟨zs, l1, l2⟩ := h.l
  have ne : ∀ {b : Addr} {us : List V}, H b = some (.lst us) → b ∉ [sd] := fun hb z => by
    rw [List.mem_singleton.mp z, h.d] at hb
    cases hb
  refine ⟨_, DPut.k (k := .inr "ways") h.d (szl (show 5 < 1000000 by decide)), ?_, ?_⟩
  · rw [e]; exact k
  · rw [e]
    exact ⟨upd_same, ⟨xs, k.get v1 (ne v1), v2.imp fun _ _ => RowAt.kp k⟩, ⟨ys, k.get t1 (ne t1), t2.imp fun _ _ => RowAt.kp k⟩, ⟨zs, k.get l1 (ne l1), l2.imp fun _ _ => RowAt.kp k⟩, k.get h.lo (ne h.lo), h.ne, h1, ⟨h.small.1, h.small.2.1, h.small.2.2.1, h.small.2.2.2.1, h2⟩, h.ok⟩
theorem Pool.dict {H H' : Hp} {p a sd : Addr} {b : Int} {kvs : List (Key × V)} (h : Pool H p a b) (hd : H sd = some (.dK kvs)) (k : Kp [sd] H H') : Pool H' p a b := by
  obtain ⟨i, j, m, l, ns, h1, h2, h3⟩ := id h
  refine h.kp k (fun z => ?_) (fun z => ?_)
  · rw [List.mem_singleton.mp z, hd] at h1; cases h1
  · rw [List.mem_singleton.mp z, hd] at h2; cases h2
def spS (r : Nat) : Sp := fun vs H Q _ => ∃ p a b sd v t l lo vars tabs lots locs ways, vs = [.ref p, .ref sd, .int ((r : Nat) : Int)] ∧ Pool H p a b ∧ GSc H sd v t l lo vars tabs lots locs ways ∧ p ∉ [sd, v, t, l, lo] ∧
  ∀ bl x H' b' ways', Kp [p, sd] H H' → Pool H' p a b' → GSc H' sd v t l lo vars tabs lots locs ways' → BlkAt H' bl [x] → GoodB bl r → (blkW bl).length + 16 * b'.toNat ≤ 16 + 16 * b.toNat → Q x H'
def spBl (n : Nat) : Sp := fun vs H Q _ => ∃ r m p a b sd v t l lo vars tabs lots locs ways, n = r + 1 ∧ vs = [.ref p, .ref sd, .int ((r : Nat) : Int), .int m] ∧ 0 ≤ m ∧ m ≤ 100 ∧ Pool H p a b ∧ GSc H sd v t l lo vars tabs lots locs ways ∧ p ∉ [sd, v, t, l, lo] ∧
  ∀ bl c ss H' b' ways', Kp [p, sd] H H' → Pool H' p a b' → GSc H' sd v t l lo vars tabs lots locs ways' → H' c = some (.tup ss) → BlkAt H' bl ss → GoodB bl r → (blkW bl).length + 16 * b'.toNat ≤ 16 * b.toNat → Q (.ref c) H'
theorem fd_pos {x m : Int} (h : 1 ≤ m) (h2 : m ≤ x) : 1 ≤ Int.fdiv x m ∧ Int.fdiv x m ≤ x := by
  rw [Int.fdiv_eq_ediv_of_nonneg x (show 0 ≤ m by omega)]
  refine ⟨?_, Int.ediv_le_self m (show 0 ≤ x by omega)⟩
  exact Int.le_ediv_of_mul_le (a := 1) (b := x) (c := m) (show 0 < m by omega) (show 1 * m ≤ x by omega)
section
variable {P : Program} {w : World} {K : PySem.W.Frag} {mg : Str → Option Value} {base : Heap}
theorem fn_law_statement1 (T : Txt K mg) (h_law_draw : FnP P w K mg base CX0 1 "_law_draw" ["_law_pool_here", "_law_size"] spDraw) (h_law_expression : FnP P w K mg base CX0 6 "_law_expression" ["_law_pool_here", "_law_scope", "_law_deep"] (spE 3)) {r : Nat}
    (h_law_block : FnP P w K mg base CX0 (6 + 2 * r) "_law_block" ["_law_pool_here", "_law_scope", "_law_room", "_law_most"] (spBl r)) : FnP P w K mg base CX0 (6 + 2 * r + 1) "_law_statement" ["_law_pool_here", "_law_scope", "_law_room"] (spS r) := by
  have S : FnScope ["_law_pool_here", "_law_scope", "_law_room", "_law_kind", "_law_local", "_law_value", "_law_table", "_law_count", "_law_lots", "_law_then"] ["_law_pool_here", "_law_scope", "_law_room"] (defScope (top 38)) := ⟨rfl, rfl, rfl, by decide +kernel, rfl, by decide +kernel, by decide +kernel⟩
  have nd := S.nd
  refine FnP.of0 T.d_law_statement T.g_law_statement S ba_law_statement (fun vs H Q E h => ?_) (fun cdv A outer s H vs Q E hr h => ?_)
  · obtain ⟨p, a, b, sd, v, t, l, lo, vars, tabs, lots, locs, ways, rfl, _⟩ := h
    rfl
  obtain ⟨p, a, b, sd, v, t, l, lo, vars, tabs, lots, locs, ways, rfl, hp, hg, hne, hQ⟩ := h
  have kk : ∀ {H H' : Hp}, Kp [p] H H' → Kp [p, sd] H H' := fun k => k.mono (by simp)
  refine ⟨_, (pss_cons (ps_set (i := 3) nd rfl (Or.inl rfl) (pe_cf h_law_draw hr pass0 (pa_cons (pv 0) (pa_cons pe_int pa_nil))))
    (pss_cons (ps_set (i := 4) nd rfl (Or.inl rfl) (pe_ix ix_list (pe_dget (hu_of hr) (pv 1) pe_str (fun _ _ => rfl)) (pe_cf h_law_draw hr pass0 (pa_cons (pv 0) (pa_cons (pe_callB call_len (by rfl) T.f_len (by decide +kernel) (pa_cons (pe_dget (hu_of hr) (pv 1) pe_str (fun _ _ => rfl)) pa_nil)) pa_nil))) (fun _ _ => rfl)))
    (pss_cons (ps_set (i := 5) nd rfl (Or.inl rfl) (pe_cf h_law_expression hr pass0 (pa_cons (pv 0) (pa_cons (pv 1) (pa_cons pe_int pa_nil)))))
    (pss_cons (ps_if (PW.pt (pw_and (pt_cmpR op_lt (pv 3) pe_int (nomark _)) (pw_and1 (pt_cmpR op_gt (pe_callB call_len (by rfl) T.f_len (by decide +kernel) (pa_cons (pe_dget (hu_of hr) (pv 1) pe_str (fun _ _ => rfl)) pa_nil)) pe_int (nomark _))))) (pss_one (ps_ret (pe_tup (pa_cons pe_str (pa_cons (pe_ix ix_tup (pe_ix ix_list (pe_dget (hu_of hr) (pv 1) pe_str (fun _ _ => rfl)) (pe_cf h_law_draw hr pass0 (pa_cons (pv 0) (pa_cons (pe_callB call_len (by rfl) T.f_len (by decide +kernel) (pa_cons (pe_dget (hu_of hr) (pv 1) pe_str (fun _ _ => rfl)) pa_nil)) pa_nil))) (fun _ _ => rfl)) pe_int (fun _ _ => rfl)) (pa_cons (pv 5) pa_nil)))))) pss_nil)
    (pss_cons (ps_if (PW.pt (pw_and (pt_cmpR op_lt (pv 3) pe_int (nomark _)) (pw_and1 (pt_cmpR op_gt (pe_callB call_len (by rfl) T.f_len (by decide +kernel) (pa_cons (pe_dget (hu_of hr) (pv 1) pe_str (fun _ _ => rfl)) pa_nil)) pe_int (nomark _))))) (pss_cons (ps_set (i := 6) nd rfl (Or.inl rfl) (pe_ix ix_tup (pe_ix ix_list (pe_dget (hu_of hr) (pv 1) pe_str (fun _ _ => rfl)) (pe_cf h_law_draw hr pass0 (pa_cons (pv 0) (pa_cons (pe_callB call_len (by rfl) T.f_len (by decide +kernel) (pa_cons (pe_dget (hu_of hr) (pv 1) pe_str (fun _ _ => rfl)) pa_nil)) pa_nil))) (fun _ _ => rfl)) pe_int (fun _ _ => rfl)))
    (pss_one (ps_ret (pe_tup (pa_cons pe_str (pa_cons (pv 6) (pa_cons (pv 5) (pa_cons (pe_cf h_law_expression hr pass0 (pa_cons (pv 0) (pa_cons (pv 1) (pa_cons pe_int pa_nil)))) pa_nil)))))))) pss_nil)
    (pss_cons (ps_if (pt_cmpR op_lt (pv 3) pe_int (nomark _)) (pss_cons (ps_set (i := 7) nd rfl (Or.inl rfl) (pe_op op_add pe_int (pe_cf h_law_draw hr pass0 (pa_cons (pv 0) (pa_cons (pe_callB (call_min2 rfl) (by rfl) T.f_min (by decide +kernel) (pa_cons pe_int (pa_cons (pe_dget (hu_of hr) (pv 1) pe_str (fun _ _ => rfl)) pa_nil))) pa_nil)))))
    (pss_cons (ps_dput (hu_of hr) (pv 1) pe_str (pe_op op_fdivN (pe_dget (hu_of hr) (pv 1) pe_str (fun _ _ => rfl)) (pv 7)) rfl)
    (pss_one (ps_ret (pe_tup (pa_cons pe_str (pa_cons (pv 4) (pa_cons (pv 7) pa_nil)))))))) pss_nil)
    (C8.pss_cut (ps_if (PW.pt (pw_and (pt_cmpR op_lt (pv 3) pe_int (nomark _)) (pw_and1 (pt_cmpR op_gt (pe_callB call_len (by rfl) T.f_len (by decide +kernel) (pa_cons (pe_dget (hu_of hr) (pv 1) pe_str (fun _ _ => rfl)) pa_nil)) pe_int (nomark _))))) (pss_cons (ps_set (i := 8) nd rfl (Or.inl rfl) (pe_ix ix_list (pe_dget (hu_of hr) (pv 1) pe_str (fun _ _ => rfl)) (pe_cf h_law_draw hr pass0 (pa_cons (pv 0) (pa_cons (pe_callB call_len (by rfl) T.f_len (by decide +kernel) (pa_cons (pe_dget (hu_of hr) (pv 1) pe_str (fun _ _ => rfl)) pa_nil)) pa_nil))) (fun _ _ => rfl)))
    (pss_one (ps_if (pt_cmpR op_le (pe_ix ix_tup (pv 8) pe_int (fun _ _ => rfl)) (pe_dget (hu_of hr) (pv 1) pe_str (fun _ _ => rfl)) (nomark _)) (pss_cons (ps_dput (hu_of hr) (pv 1) pe_str (pe_op op_fdivN (pe_dget (hu_of hr) (pv 1) pe_str (fun _ _ => rfl)) (pe_ix ix_tup (pv 8) pe_int (fun _ _ => rfl))) rfl)
    (pss_one (ps_ret (pe_tup (pa_cons pe_str (pa_cons (pv 4) (pa_cons (pe_ix ix_tup (pv 8) pe_int (fun _ _ => rfl)) (pa_cons (pv 5) pa_nil)))))))) pss_nil))) pss_nil)
    (pss_cons (ps_if (PW.pt (pw_and (pt_cmpR op_lt (pv 3) pe_int (nomark _)) (pw_and1 (pt_cmpR op_gt (pv 2) pe_int (nomark _))))) (pss_cons (ps_set (i := 9) nd rfl (Or.inl rfl) (pe_cf h_law_block hr pass0 (pa_cons (pv 0) (pa_cons (pv 1) (pa_cons (pe_op op_sub (pv 2) pe_int) (pa_cons pe_int pa_nil))))))
    (pss_one (ps_ret (pe_tup (pa_cons pe_str (pa_cons (pv 5) (pa_cons (pv 9) (pa_cons (pe_cf h_law_block hr pass0 (pa_cons (pv 0) (pa_cons (pv 1) (pa_cons (pe_op op_sub (pv 2) pe_int) (pa_cons pe_int pa_nil))))) pa_nil)))))))) pss_nil)
    (pss_cons (ps_if (PW.pt (pw_and (pt_cmpR op_eq (pv 3) pe_int (nomark _)) (pw_and1 (pt_cmpR op_gt (pv 2) pe_int (nomark _))))) (pss_one (ps_ret (pe_tup (pa_cons pe_str (pa_cons (pe_cf h_law_block hr pass0 (pa_cons (pv 0) (pa_cons (pv 1) (pa_cons (pe_op op_sub (pv 2) pe_int) (pa_cons pe_int pa_nil))))) pa_nil))))) pss_nil)
    (pss_cons (ps_if (pt_cmpR op_eq (pv 3) pe_int (nomark _)) (pss_one (ps_ret (pe_tup (pa_cons pe_str pa_nil)))) pss_nil)
    (pss_one (ps_ret (pe_tup (pa_cons pe_str (pa_cons (pv 4) (pa_cons (pv 5) pa_nil)))))))))))))))), ?_⟩
  -- kind
  refine sq_set ⟨_, rfl, p, a, b, 16, rfl, by decide, by decide, hp, fun kd H1 _ _ k1 p1 => ?_⟩
  have g1 := hg.pool k1 hne
  have hsm := g1.small
  -- local
  have hl1 : (locs.map V.str).length = locs.length := List.length_map _
  have hl0 : 0 < locs.length := List.length_pos_iff.mpr g1.ne
  refine sq_set ⟨_, rfl, _, _, rfl, g1.dlo, _, rfl, _, rfl, _, _, rfl, g1.dlo, _, _, rfl, .inl ⟨_, SqL.of g1.lo, rfl⟩, p, a, b, _, rfl, by omega, by omega, p1, fun i H2 i0 i1 k2 p2 => ?_⟩
  obtain ⟨lx, hat, hlx⟩ := at_map (f := V.str) (ns := locs) i0 (by omega)
  have hokl := hg.ok.2.2.2 _ hlx
  refine ⟨lo, _, _, _, rfl, rfl, SqL.of (k2.get g1.lo (fun z => hne (by rw [List.mem_singleton.mp z]; simp))), hat, ?_⟩
  have g2 := hg.pool (k1.trans k2) hne
  -- value
  refine sq_set ⟨_, rfl, _, rfl, 2, p, a, b, sd, v, t, l, lo, vars, tabs, lots, locs, ways, rfl, rfl, p2, g2, hne, fun e x H3 k3 p3 x3 ge => ?_⟩
  have k03 := (k1.trans k2).trans k3
  have g3 := hg.pool k03 hne
  obtain ⟨xs, v1, v2⟩ := g3.v
  obtain ⟨ys, t1, t2⟩ := g3.t
  obtain ⟨zs, l1, l2⟩ := g3.l
  have hxl := v2.length
  have hyl := t2.length
  have hzl := l2.length
  have hel : (exW e).length ≤ 7 := ge.len
  refine seq_if0 (ans_and (fun Q q => ⟨_, rfl, _, _, rfl, rfl, _, rfl, q⟩) (fun Q q => ⟨_, rfl, _, _, rfl, g3.dv, _, _, rfl, .inl ⟨_, SqL.of v1, rfl⟩, _, _, rfl, rfl, _, rfl, q⟩)) (fun c => ?_) (fun _ => ?_)
  · -- set
    have c3 := dec_t (and_t c).2
    refine ⟨_, rfl, _, _, rfl, g3.dv, _, rfl, _, rfl, _, _, rfl, g3.dv, _, _, rfl, .inl ⟨_, SqL.of v1, rfl⟩, p, a, b, _, rfl, by omega, by omega, p3, fun i H4 i0 i1 k4 p4 => ?_⟩
    obtain ⟨rw_, rv, hat, hrm, hrv⟩ := row_at v2 i0 i1
    obtain ⟨ra, rfl, hra, _⟩ := hrv.kp k4
    refine ⟨v, _, _, _, rfl, rfl, SqL.of (k4.get v1 (fun z => hne (by rw [List.mem_singleton.mp z]; simp))), hat, ra, _, _, _, rfl, rfl, SqT.of hra, rfl, _, rfl, ?_⟩
    refine ⟨sz (show 3 ≤ 1000000 by decide), fun z hz => ?_⟩
    have kz : Kp [] H4 (upd H4 z (.tup [.str "set", .str rw_.1, x])) := Kp.new hz
    refine hQ (.gen "set" [rw_.1] e .nil) _ _ b ways (kk ((k03.trans k4).trans kz.nil)) (p4.kp kz (by simp) (by simp)) ((hg.pool (k03.trans k4) hne).kp kz (by simp)) ⟨by decide +kernel, z, x, [], rfl, upd_same, (x3.kp k4).kp kz, rfl⟩ ⟨Nat.zero_le _, ⟨ge.dep, trivial⟩, fun y hy => ?_⟩ ?_
    · simp only [blkW, List.cons_append, List.nil_append, List.append_nil, List.mem_cons] at hy
      rcases hy with rfl | rfl | hy
      · decide +kernel
      · exact hg.ok.1 _ hrm
      · exact ge.ok y hy
    · simp only [blkW, List.cons_append, List.nil_append, List.append_nil, List.length_cons]
      omega
  refine seq_if0 (ans_and (fun Q q => ⟨_, rfl, _, _, rfl, rfl, _, rfl, q⟩) (fun Q q => ⟨_, rfl, _, _, rfl, g3.dt, _, _, rfl, .inl ⟨_, SqL.of t1, rfl⟩, _, _, rfl, rfl, _, rfl, q⟩)) (fun c => ?_) (fun _ => ?_)
  · -- put
    have c3 := dec_t (and_t c).2
    refine sq_set ⟨_, rfl, _, _, rfl, g3.dt, _, rfl, _, rfl, _, _, rfl, g3.dt, _, _, rfl, .inl ⟨_, SqL.of t1, rfl⟩, p, a, b, _, rfl, by omega, by omega, p3, fun i H4 i0 i1 k4 p4 => ?_⟩
    obtain ⟨rw_, rv, hat, hrm, hrv⟩ := row_at t2 i0 i1
    obtain ⟨ra, rfl, hra, _⟩ := hrv.kp k4
    refine ⟨t, _, _, _, rfl, rfl, SqL.of (k4.get t1 (fun z => hne (by rw [List.mem_singleton.mp z]; simp))), hat, ra, _, _, _, rfl, rfl, SqT.of hra, rfl, ?_⟩
    refine ⟨_, rfl, _, rfl, _, rfl, _, rfl, 2, p, a, b, sd, v, t, l, lo, vars, tabs, lots, locs, ways, rfl, rfl, p4, hg.pool (k03.trans k4) hne, hne, fun f y H5 k5 p5 y5 gf => ?_⟩
    refine ⟨sz (show 4 ≤ 1000000 by decide), fun z hz => ?_⟩
    have kz : Kp [] H5 (upd H5 z (.tup [.str "put", .str rw_.1, x, y])) := Kp.new hz
    have hfl : (exW f).length ≤ 7 := gf.len
    refine hQ (.put rw_.1 e f .nil) _ _ b ways (kk (((k03.trans k4).trans k5).trans kz.nil)) (p5.kp kz (by simp) (by simp)) ((hg.pool ((k03.trans k4).trans k5) hne).kp kz (by simp)) ⟨z, x, y, [], rfl, upd_same, ((x3.kp k4).kp k5).kp kz, y5.kp kz, rfl⟩ ⟨Nat.zero_le _, ⟨ge.dep, gf.dep, trivial⟩, fun u hu => ?_⟩ ?_
    · simp only [blkW, List.append_nil, List.mem_cons, List.mem_append] at hu
      rcases hu with rfl | rfl | hu | hu
      · decide +kernel
      · exact hg.ok.2.1 _ hrm
      · exact ge.ok u hu
      · exact gf.ok u hu
    · simp only [blkW, List.append_nil, List.length_cons, List.length_append]
      omega
  refine seq_if0 (fun Q q => ⟨_, rfl, _, _, rfl, rfl, _, rfl, q⟩) (fun _ => ?_) (fun _ => ?_)
  · -- draw
    have hw1 := g3.w
    refine sq_set ⟨_, rfl, _, rfl, _, _, rfl, g3.dw, _, _, rfl, p, a, b, _, rfl, ?_, ?_, p3, fun i H4 i0 i1 k4 p4 => ?_⟩
    · split <;> omega
    · split <;> omega
    have g4 := hg.pool (k03.trans k4) hne
    have hi : i < ways ∧ i < 4 := by
      split at i1 <;> omega
    obtain ⟨f1, f2⟩ := fd_pos (x := ways) (m := 1 + i) (by omega) (by omega)
    obtain ⟨H5, d5, k5, g5⟩ := g4.setw (w' := ways.fdiv (1 + i)) f1 (by omega)
    refine ⟨_, _, rfl, rfl, ?_⟩
    refine ⟨_, rfl, _, _, rfl, g4.dw, _, rfl, _, _, rfl, rfl, ⟨(show 1 + i ≠ 0 by omega), (show (1 + i).natAbs < 1073741824 by omega)⟩, _, rfl, _, H5, rfl, d5, ?_⟩
    refine ⟨_, rfl, _, rfl, sz (show 3 ≤ 1000000 by decide), fun z hz => ?_⟩
    have kz : Kp [] H5 (upd H5 z (.tup [.str "draw", .str lx, .int (1 + i)])) := Kp.new hz
    refine hQ (.draw lx (1 + i) .nil) _ _ b _ (((kk (k03.trans k4)).trans (k5.mono (by simp))).trans kz.nil) ((p4.dict g4.d k5).kp kz (by simp) (by simp)) (g5.kp kz (by simp)) ⟨z, [], rfl, upd_same, ⟨by omega, by omega⟩, rfl⟩ ⟨Nat.zero_le _, trivial, fun u hu => ?_⟩ ?_
    · simp only [blkW, List.mem_cons, List.not_mem_nil, or_false] at hu
      rcases hu with rfl | rfl | rfl
      · decide +kernel
      · exact hokl
      · exact (ok_num (by omega) (by omega)).mono (by decide)
    · simp only [blkW, List.length_cons, List.length_nil]
      omega
  -- lot, or on
  refine ⟨fun σ' H' => ∃ y, Kp [p] H3 H' ∧ Pool H' p a b ∧ σ' = [some (.ref p), some (.ref sd), some (.int r), some (.int kd), some (.str lx), some x, none, none, y, none], ?_, ?_⟩
  · refine ans_if (t2 := tNext) (ans_and (fun Q q => ⟨_, rfl, _, _, rfl, rfl, _, rfl, q⟩) (fun Q q => ⟨_, rfl, _, _, rfl, g3.dl, _, _, rfl, .inl ⟨_, SqL.of l1, rfl⟩, _, _, rfl, rfl, _, rfl, q⟩)) (fun c => ?_) (fun _ => ⟨_, Kp.refl, p3, rfl⟩)
    have c3 := dec_t (and_t c).2
    refine sq_set ⟨_, rfl, _, _, rfl, g3.dl, _, rfl, _, rfl, _, _, rfl, g3.dl, _, _, rfl, .inl ⟨_, SqL.of l1, rfl⟩, p, a, b, _, rfl, by omega, by omega, p3, fun i H4 i0 i1 k4 p4 => ?_⟩
    obtain ⟨rw_, rv, hat, hrm, hrv⟩ := row_at l2 i0 i1
    obtain ⟨ra, rfl, hra, _⟩ := hrv.kp k4
    obtain ⟨ok1, ok2, ok3⟩ := hg.ok.2.2.1 _ hrm
    have g4 := hg.pool (k03.trans k4) hne
    refine ⟨l, _, _, _, rfl, rfl, SqL.of (k4.get l1 (fun z => hne (by rw [List.mem_singleton.mp z]; simp))), hat, ?_⟩
    refine ans_if (t2 := tNext) (fun Q q => ⟨_, rfl, ra, _, _, _, rfl, rfl, SqT.of hra, rfl, _, rfl, _, _, rfl, g4.dw, _, _, rfl, rfl, _, rfl, q⟩) (fun c => ?_) (fun _ => ⟨_, k4, p4, rfl⟩)
    have c4 := dec_t c
    obtain ⟨f1, f2⟩ := fd_pos (x := ways) (m := rw_.2.2) ok2 c4
    obtain ⟨H5, d5, k5, g5⟩ := g4.setw (w' := ways.fdiv rw_.2.2) f1 (by omega)
    refine ⟨_, rfl, _, _, rfl, g4.dw, _, rfl, ra, _, _, _, rfl, rfl, SqT.of hra, rfl, _, _, rfl, rfl, ⟨(show rw_.2.2 ≠ 0 by omega), (show rw_.2.2.natAbs < 1073741824 by omega)⟩, _, rfl, _, H5, rfl, d5, ?_⟩
    refine ⟨_, rfl, _, rfl, ra, _, _, _, rfl, rfl, SqT.of (k5.2 _ _ hra), rfl, _, rfl, sz (show 4 ≤ 1000000 by decide), fun z hz => ?_⟩
    have kz : Kp [] H5 (upd H5 z (.tup [.str "lot", .str lx, .str rw_.1, x])) := Kp.new hz
    refine hQ (.gen "lot" [lx, rw_.1] e .nil) _ _ b _ (((kk (k03.trans k4)).trans (k5.mono (by simp))).trans kz.nil) ((p4.dict g4.d k5).kp kz (by simp) (by simp)) (g5.kp kz (by simp)) ⟨by decide +kernel, z, x, [], rfl, upd_same, ((x3.kp k4).kp k5).kp kz, rfl⟩ ⟨Nat.zero_le _, ⟨ge.dep, trivial⟩, fun u hu => ?_⟩ ?_
    · simp only [blkW, List.cons_append, List.nil_append, List.append_nil, List.mem_cons] at hu
      rcases hu with rfl | rfl | rfl | hu
      · decide +kernel
      · exact hokl
      · exact ok1
      · exact ge.ok u hu
    · simp only [blkW, List.cons_append, List.nil_append, List.append_nil, List.length_cons]
      omega
  · rintro σ' H4 ⟨y, k4, p4, rfl⟩
    have k04 := k03.trans k4
    have g4 := hg.pool k04 hne
    have x4 := x3.kp k4
    refine seq_if0 (ans_and (fun Q q => ⟨_, rfl, _, _, rfl, rfl, _, rfl, q⟩) (fun Q q => ⟨_, rfl, _, _, rfl, rfl, _, rfl, q⟩)) (fun c => ?_) (fun _ => ?_)
    · -- if
      have c3 := dec_t (and_t c).2
      obtain ⟨m, rfl⟩ : ∃ m, r = m + 1 := ⟨r - 1, by omega⟩
      have em : (((m + 1 : Nat) : Int)) - 1 = (m : Int) := by omega
      refine sq_set ⟨_, rfl, _, rfl, _, rfl, _, _, rfl, rfl, m, 3, p, a, b, sd, v, t, l, lo, vars, tabs, lots, locs, ways, rfl, (show [V.ref p, V.ref sd, V.int (((m + 1 : Nat) : Int) - 1), V.int 3] = [V.ref p, V.ref sd, V.int ((m : Nat) : Int), V.int 3] by rw [em]), by decide, by decide, p4, g4, hne,
        fun b1 c1 ss1 H5 bu1 w1 k5 p5 g5 hc1 hb1 gb1 hl1 => ?_⟩
      refine ⟨_, rfl, _, rfl, _, rfl, _, rfl, _, rfl, _, _, rfl, rfl, m, 2, p, a, bu1, sd, v, t, l, lo, vars, tabs, lots, locs, w1, rfl, (show [V.ref p, V.ref sd, V.int (((m + 1 : Nat) : Int) - 1), V.int 2] = [V.ref p, V.ref sd, V.int ((m : Nat) : Int), V.int 2] by rw [em]), by decide, by decide, p5, g5, hne,
        fun b2 c2 ss2 H6 bu2 w2 k6 p6 g6 hc2 hb2 gb2 hl2 => ?_⟩
      refine ⟨sz (show 4 ≤ 1000000 by decide), fun z hz => ?_⟩
      have kz : Kp [] H6 (upd H6 z (.tup [.str "if", x, .ref c1, .ref c2])) := Kp.new hz
      refine hQ (.ite e b1 b2 .nil) _ _ bu2 w2 ((((kk k04).trans k5).trans k6).trans kz.nil) (p6.kp kz (by simp) (by simp)) (g6.kp kz (by simp))
        ⟨z, x, c1, c2, ss1, ss2, [], rfl, upd_same, (((x4.kp k5).kp k6)).kp kz, kz.2 _ _ (k6.2 _ _ hc1), (hb1.kp k6).kp kz, kz.2 _ _ hc2, hb2.kp kz, rfl⟩ ⟨?_, ⟨ge.dep, gb1.exs, gb2.exs, trivial⟩, fun u hu => ?_⟩ ?_
      · simp only [blkD]
        have := gb1.dep
        have := gb2.dep
        omega
      · simp only [blkW, List.mem_cons, List.mem_append, List.not_mem_nil, or_false] at hu
        rcases hu with rfl | hu | hu | hu | rfl
        · decide +kernel
        · exact ge.ok u hu
        · exact gb1.ok u hu
        · split at hu
          · cases hu
          · rcases List.mem_cons.mp hu with rfl | hu
            · decide +kernel
            · exact gb2.ok u hu
        · decide +kernel
      · have hs : (if b2.isNil = true then ([] : List Str) else ("else" : Str) :: blkW b2).length ≤ (blkW b2).length + 1 := by
          split
          · exact Nat.zero_le _
          · exact Nat.le_refl _
        simp only [blkW, List.length_cons, List.length_append, List.length_nil]
        omega
    refine seq_if0 (ans_and (fun Q q => ⟨_, rfl, rfl, _, rfl, q⟩) (fun Q q => ⟨_, rfl, _, _, rfl, rfl, _, rfl, q⟩)) (fun c => ?_) (fun _ => ?_)
    · -- after
      have c3 := dec_t (and_t c).2
      obtain ⟨m, rfl⟩ : ∃ m, r = m + 1 := ⟨r - 1, by omega⟩
      have em : (((m + 1 : Nat) : Int)) - 1 = (m : Int) := by omega
      refine ⟨_, rfl, _, rfl, _, rfl, _, _, rfl, rfl, m, 2, p, a, b, sd, v, t, l, lo, vars, tabs, lots, locs, ways, rfl, (show [V.ref p, V.ref sd, V.int (((m + 1 : Nat) : Int) - 1), V.int 2] = [V.ref p, V.ref sd, V.int ((m : Nat) : Int), V.int 2] by rw [em]), by decide, by decide, p4, g4, hne,
        fun b1 c1 ss1 H5 bu1 w1 k5 p5 g5 hc1 hb1 gb1 hl1 => ?_⟩
      refine ⟨sz (show 2 ≤ 1000000 by decide), fun z hz => ?_⟩
      have kz : Kp [] H5 (upd H5 z (.tup [.str "after", .ref c1])) := Kp.new hz
      refine hQ (.after b1 .nil) _ _ bu1 w1 (((kk k04).trans k5).trans kz.nil) (p5.kp kz (by simp) (by simp)) (g5.kp kz (by simp)) ⟨z, c1, ss1, [], rfl, upd_same, kz.2 _ _ hc1, hb1.kp kz, rfl⟩ ⟨?_, ⟨gb1.exs, trivial⟩, fun u hu => ?_⟩ ?_
      · simp only [blkD]
        have := gb1.dep
        omega
      · simp only [blkW, List.mem_cons, List.mem_append, List.not_mem_nil, or_false] at hu
        rcases hu with rfl | hu | rfl
        · decide +kernel
        · exact gb1.ok u hu
        · decide +kernel
      · simp only [blkW, List.length_cons, List.length_append, List.length_nil]
        omega
    refine seq_if0 (fun Q q => ⟨_, rfl, rfl, _, rfl, q⟩) (fun _ => ?_) (fun _ => ?_)
    · -- bad
      refine ⟨sz (show 1 ≤ 1000000 by decide), fun z hz => ?_⟩
      have kz : Kp [] H4 (upd H4 z (.tup [.str "bad"])) := Kp.new hz
      refine hQ (.bad .nil) _ _ b ways (kk (k04.trans kz.nil)) (p4.kp kz (by simp) (by simp)) (g4.kp kz (by simp)) ⟨z, [], rfl, upd_same, rfl⟩ ⟨Nat.zero_le _, trivial, fun u hu => ?_⟩ ?_
      · rw [List.mem_singleton.mp hu]
        decide +kernel
      · simp only [blkW, List.length_cons, List.length_nil]
        omega
    · -- let
      refine ⟨_, rfl, _, rfl, sz (show 3 ≤ 1000000 by decide), fun z hz => ?_⟩
      have kz : Kp [] H4 (upd H4 z (.tup [.str "let", .str lx, x])) := Kp.new hz
      refine hQ (.gen "let" [lx] e .nil) _ _ b ways (kk (k04.trans kz.nil)) (p4.kp kz (by simp) (by simp)) (g4.kp kz (by simp)) ⟨by decide +kernel, z, x, [], rfl, upd_same, x4.kp kz, rfl⟩ ⟨Nat.zero_le _, ⟨ge.dep, trivial⟩, fun u hu => ?_⟩ ?_
      · simp only [blkW, List.cons_append, List.nil_append, List.append_nil, List.mem_cons] at hu
        rcases hu with rfl | rfl | hu
        · decide +kernel
        · exact hokl
        · exact ge.ok u hu
      · simp only [blkW, List.cons_append, List.nil_append, List.append_nil, List.length_cons]
        omega
theorem fn_law_block1 (T : Txt K mg) (h_law_draw : FnP P w K mg base CX0 1 "_law_draw" ["_law_pool_here", "_law_size"] spDraw) (h_law_spend : FnP P w K mg base CX0 1 "_law_spend" ["_law_pool_here"] spSpend) {r : Nat}
    (h_law_statement : FnP P w K mg base CX0 (6 + 2 * r + 1) "_law_statement" ["_law_pool_here", "_law_scope", "_law_room"] (spS r)) : FnP P w K mg base CX0 (6 + 2 * r + 1 + 1) "_law_block" ["_law_pool_here", "_law_scope", "_law_room", "_law_most"] (spBl (r + 1)) := by
  have S : FnScope ["_law_pool_here", "_law_scope", "_law_room", "_law_most", "_law_block_here", "_law_k"] ["_law_pool_here", "_law_scope", "_law_room", "_law_most"] (defScope (top 39)) := ⟨rfl, rfl, rfl, by decide +kernel, rfl, by decide +kernel, by decide +kernel⟩
  have nd := S.nd
  refine FnP.of0 T.d_law_block T.g_law_block S ba_law_block (fun vs H Q E h => ?_) (fun cdv A outer s H vs Q E hr h => ?_)
  · obtain ⟨r, m, p, a, b, sd, v, t, l, lo, vars, tabs, lots, locs, ways, _, rfl, _⟩ := h
    rfl
  obtain ⟨r', m, p, a, b, sd, v, t, l, lo, vars, tabs, lots, locs, ways, er, rfl, hm0, hm1, hp, hg, hne, hQ⟩ := h
  obtain rfl : r = r' := by omega
  refine ⟨_, (pss_cons (ps_set (i := 4) nd rfl (Or.inl rfl) (pe_lst pa_nil))
    (pss_cons (ps_for PassesOwn.never rfl (pi_range1 (by rfl) T.f_range (pa_cons (pe_cf h_law_draw hr pass0 (pa_cons (pv 0) (pa_cons (pe_op op_add (pv 3) pe_int) pa_nil))) pa_nil)) (pg_name (i := 5) nd rfl (Or.inl rfl)) (pss_one (ps_if (pt_val (pe_cf h_law_spend hr pass0 (pa_cons (pv 0) pa_nil))) (pss_one (ps_expr (pe_bm PySem.F.plainAttrs_list PySem.F.slot_list_append PySem.F.type_list_append mt_append (pv 4) (pa_cons (pe_cf h_law_statement hr pass0 (pa_cons (pv 0) (pa_cons (pv 1) (pa_cons (pv 2) pa_nil)))) pa_nil)))) pss_nil)))
    (pss_one (ps_ret (pe_callTy call_tuple_of (by rfl) T.f_tuple (by decide +kernel) (pa_cons (pv 4) pa_nil)))))), ?_⟩
  refine sq_set ⟨sz (show 0 ≤ 1000000 by decide), fun q hq => ?_⟩
  have kq : Kp [] H (upd H q (.lst [])) := Kp.new hq
  refine ⟨_, rfl, _, rfl, _, _, rfl, rfl, p, a, b, m + 1, rfl, by omega, by omega, hp.kp kq (by simp) (by simp), fun n H1 n0 n1 k1 p1 => ?_⟩
  have hqp : q ∉ [p] := fun z => by
    obtain ⟨xs, e⟩ := hp.at_
    rw [← List.mem_singleton.mp z, hq] at e
    cases e
  have hqs : q ≠ sd := fun z => by
    rw [z, hg.d] at hq
    cases hq
  refine ⟨n, rfl, by omega, by omega, for_range (lo := 0) (n := n.toNat) (fun i σ Hc => ∃ b' ways' bl ss y, σ = [some (.ref p), some (.ref sd), some (.int r), some (.int m), some (.ref q), y] ∧ Kp [p, sd] H Hc ∧ Pool Hc p a b' ∧ GSc Hc sd v t l lo vars tabs lots locs ways' ∧
    Hc q = some (.lst ss) ∧ BlkAt Hc bl ss ∧ GoodB bl r ∧ (blkW bl).length + 16 * b'.toNat ≤ 16 * b.toNat ∧ ss.length ≤ i) ?_ ?_ ?_⟩
  · exact ⟨b, ways, .nil, [], none, rfl, (kq.nil.trans (k1.mono (by simp))), p1, (hg.kp kq (by simp)).pool k1 hne, k1.get upd_same hqp, rfl, goodB_nil, by simp [blkW], Nat.le_refl _⟩
  · rintro i σ Hc hi ⟨b', ways', bl, ss, y, rfl, kc, pc, gc, hqc, hbl, gbl, hlen, hss⟩
    have hq2 : q ∉ [p, sd] := by
      simp only [List.mem_cons, List.not_mem_nil, or_false]
      rintro (z | z)
      · exact hqp (by simp [z])
      · exact hqs z
    refine ⟨_, rfl, p, a, b', rfl, pc, fun H2 k2 p2 => ?_⟩
    have g2 := gc.pool k2 hne
    have h2q := k2.get hqc hqp
    refine ⟨_, rfl, ite2 (fun c => ?_) (fun c => ?_)⟩
    · have c := dec_t c
      refine ⟨_, rfl, .inl ⟨rfl, _, SqL.of h2q⟩, _, rfl, _, rfl, _, rfl, p, a, b' - 1, sd, v, t, l, lo, vars, tabs, lots, locs, ways', rfl, p2, g2, hne, fun b1 x H3 b3 w3 k3 p3 g3 hb1 gb1 hl1 => ?_⟩
      refine ⟨q, ss, x, rfl, rfl, k3.get h2q hq2, szl (by omega), ?_⟩
      have ka : Kp [q] H3 (upd H3 q (.lst (ss ++ [x]))) := Kp.lst (k3.get h2q hq2) (by simp)
      have kall : Kp [p, sd] H (upd H3 q (.lst (ss ++ [x]))) := ((kc.trans (k2.mono (by simp))).trans k3).newer hq
      have hqn : ∀ z ∈ [sd, v, t, l, lo], z ∉ [q] := fun z hz e => by
        have e := List.mem_singleton.mp e
        subst e
        have : ∃ o, H z = some o := by
          obtain ⟨xs, v1, _⟩ := hg.v
          obtain ⟨ys, t1, _⟩ := hg.t
          obtain ⟨zs, l1, _⟩ := hg.l
          simp only [List.mem_cons, List.not_mem_nil, or_false] at hz
          rcases hz with rfl | rfl | rfl | rfl | rfl
          · exact ⟨_, hg.d⟩
          · exact ⟨_, v1⟩
          · exact ⟨_, t1⟩
          · exact ⟨_, l1⟩
          · exact ⟨_, hg.lo⟩
        obtain ⟨o, ho⟩ := this
        rw [hq] at ho
        cases ho
      have haq : a ∉ [q] := fun e => by
        obtain ⟨_, _, _, _, ns, _, h2, _⟩ := id hp
        rw [List.mem_singleton.mp e, hq] at h2
        cases h2
      refine ⟨b3, w3, bl.app b1, ss ++ [x], some (.int (0 + i)), rfl, kall, p3.kp ka (fun z => hqp (by rw [List.mem_singleton.mp z]; simp)) haq, g3.kp ka hqn, upd_same, ?_, goodB_app gbl gb1, ?_, ?_⟩
      · exact (((hbl.kp k2).kp k3).kp ka).app (hb1.kp ka)
      · rw [blkW_app, List.length_append]
        omega
      · rw [List.length_append, List.length_singleton]
        omega
    · have c := dec_f (Bool.eq_false_iff.mpr c)
      refine ⟨b' - 1, ways', bl, ss, some (.int (0 + i)), rfl, kc.trans (k2.mono (by simp)), p2, g2, h2q, hbl.kp k2, gbl, by omega, by omega⟩
  · rintro σ Hc ⟨b', ways', bl, ss, y, rfl, kc, pc, gc, hqc, hbl, gbl, hlen, hss⟩
    refine ⟨_, rfl, q, _, rfl, .inl ⟨SqL.of hqc, fun z hz => ?_⟩⟩
    have kz : Kp [] Hc (upd Hc z (.tup ss)) := Kp.new hz
    exact hQ bl z ss _ b' ways' (kc.trans kz.nil) (pc.kp kz (by simp) (by simp)) (gc.kp kz (by simp)) upd_same (hbl.kp kz) gbl hlen
theorem fn_law_block (T : Txt K mg) (h_law_draw : FnP P w K mg base CX0 1 "_law_draw" ["_law_pool_here", "_law_size"] spDraw) (h_law_spend : FnP P w K mg base CX0 1 "_law_spend" ["_law_pool_here"] spSpend)
    (h_law_expression : FnP P w K mg base CX0 6 "_law_expression" ["_law_pool_here", "_law_scope", "_law_deep"] (spE 3)) : ∀ r : Nat, FnP P w K mg base CX0 (6 + 2 * r) "_law_block" ["_law_pool_here", "_law_scope", "_law_room", "_law_most"] (spBl r)
  | 0 => FnP.no T.d_law_block T.g_law_block ba_law_block fun vs H Q E ⟨d, _, _, _, _, _, _, _, _, _, _, _, _, _, _, e, _⟩ => by omega
  | r + 1 => (fn_law_block1 T h_law_draw h_law_spend (fn_law_statement1 T h_law_draw h_law_expression (fn_law_block T h_law_draw h_law_spend h_law_expression r))).mono (by omega)
end
end K4

/-! The law's own game: the game as a whole. -/
namespace K4
open PySem PySem.Spec PyProof.Rows L2
def RowG (r : Row) : Prop := OkW 12 r.1 ∧ (0 ≤ r.2.1 ∧ r.2.1 < 100000) ∧ 0 ≤ r.2.2 ∧ r.2.2 < 100000
structure PrG (p : Pr) : Prop where
  name : OkW 12 p.name
  size : 0 ≤ p.size ∧ p.size < 100000
  ans : 0 ≤ p.ans ∧ p.ans < 100000
  locs : ∀ x ∈ p.l0 :: p.ls, OkW 12 x
  few : p.ls.length ≤ 5
  blk : GoodB p.blk 6
  len : (blkW p.blk).length ≤ 256
  res : GoodE p.res 3
structure GmG (g : Gm) : Prop where
  vars : g.vars.length ≤ 3 ∧ ∀ r ∈ g.vars, RowG r
  tabs : g.tabs.length ≤ 3 ∧ ∀ r ∈ g.tabs, RowG r
  lots : g.lots.length ≤ 3 ∧ ∀ r ∈ g.lots, RowG r
  procs : g.procs.length ≤ 2 ∧ ∀ p ∈ g.procs, PrG p
/-- four tuples -/
def GmAt (H : Hp) (g : Gm) (v : V) : Prop := ∃ a a1 a2 a3 a4 x1 x2 x3 x4, v = .ref a ∧ H a = some (.tup [.ref a1, .ref a2, .ref a3, .ref a4]) ∧ H a1 = some (.tup x1) ∧ All2 (RowAt H) g.vars x1 ∧ H a2 = some (.tup x2) ∧ All2 (RowAt H) g.tabs x2 ∧
  H a3 = some (.tup x3) ∧ All2 (RowAt H) g.lots x3 ∧ H a4 = some (.tup x4) ∧ All2 (PrAt H) g.procs x4
/-- the scope while the game is made -/
structure GBld (H : Hp) (sd v t l lo : Addr) (vars tabs lots : List Row) (ways : Int) : Prop where
  d : H sd = some (.dK [(.inr "variables", .ref v), (.inr "tables", .ref t), (.inr "lots", .ref l), (.inr "locals", .ref lo), (.inr "ways", .int ways)])
  fv : ∃ xs, H v = some (.lst xs) ∧ All2 (RowAt H) vars xs
  ft : ∃ xs, H t = some (.lst xs) ∧ All2 (RowAt H) tabs xs
  fl : ∃ xs, H l = some (.lst xs) ∧ All2 (RowAt H) lots xs
  vt : v ≠ t
  vl : v ≠ l
  tl : t ≠ l
section
variable {H H' : Hp} {sd v t l lo : Addr} {vars tabs lots : List Row} {ways : Int}
theorem GBld.kp {S : List Addr} (h : GBld H sd v t l lo vars tabs lots ways) (k : Kp S H H') (n : ∀ b ∈ [sd, v, t, l], b ∉ S) : GBld H' sd v t l lo vars tabs lots ways := by
  obtain ⟨xs, h1, h2⟩ := h.fv
  obtain ⟨ys, h3, h4⟩ := h.ft
  obtain ⟨zs, h5, h6⟩ := h.fl
  exact ⟨k.get h.d (n _ (by simp)), ⟨xs, k.get h1 (n _ (by simp)), h2.imp fun _ _ => RowAt.kp k⟩, ⟨ys, k.get h3 (n _ (by simp)), h4.imp fun _ _ => RowAt.kp k⟩, ⟨zs, k.get h5 (n _ (by simp)), h6.imp fun _ _ => RowAt.kp k⟩, h.vt, h.vl, h.tl⟩
theorem GBld.pool {p : Addr} (h : GBld H sd v t l lo vars tabs lots ways) (k : Kp [p] H H') (n : p ∉ [sd, v, t, l]) : GBld H' sd v t l lo vars tabs lots ways :=
  h.kp k fun b hb z => n (by rw [List.mem_singleton.mp z] at hb; exact hb)
theorem GBld.new {p : Addr} {o : HO} (h : GBld H sd v t l lo vars tabs lots ways) (hp : H p = none) : GBld (upd H p o) sd v t l lo vars tabs lots ways := h.kp (Kp.new hp : Kp [] _ _) (by simp)
theorem valG {v t l lo : Addr} {ways : Int} {k : Key} {r : Option V} (e : valV [((.inr "variables" : Key), V.ref v), (.inr "tables", .ref t), (.inr "lots", .ref l), (.inr "locals", .ref lo), (.inr "ways", .int ways)] k = r) (hd : H sd = some (.dK [(.inr "variables", .ref v), (.inr "tables", .ref t), (.inr "lots", .ref l), (.inr "locals", .ref lo), (.inr "ways", .int ways)])) : DGet H sd (kV k) r := by
  rw [← e]
  exact DGet.k hd
theorem GBld.dv (h : GBld H sd v t l lo vars tabs lots ways) : DGet H sd (.str "variables") (some (.ref v)) := valG (k := .inr "variables") (by kernel_rfl) h.d
theorem GBld.dt (h : GBld H sd v t l lo vars tabs lots ways) : DGet H sd (.str "tables") (some (.ref t)) := valG (k := .inr "tables") (by kernel_rfl) h.d
theorem GBld.dl (h : GBld H sd v t l lo vars tabs lots ways) : DGet H sd (.str "lots") (some (.ref l)) := valG (k := .inr "lots") (by kernel_rfl) h.d
theorem GBld.dlo (h : GBld H sd v t l lo vars tabs lots ways) : DGet H sd (.str "locals") (some (.ref lo)) := valG (k := .inr "locals") (by kernel_rfl) h.d
theorem GBld.nsd (h : GBld H sd v t l lo vars tabs lots ways) : sd ≠ v ∧ sd ≠ t ∧ sd ≠ l := by
  obtain ⟨xs, h1, _⟩ := h.fv
  obtain ⟨ys, h3, _⟩ := h.ft
  obtain ⟨zs, h5, _⟩ := h.fl
  exact ⟨ne_of h.d h1 (by intro z; cases z), ne_of h.d h3 (by intro z; cases z), ne_of h.d h5 (by intro z; cases z)⟩
/-- a row more -/
theorem GBld.addv {xs : List V} {r : Row} {x : V} (h : GBld H sd v t l lo vars tabs lots ways) (hv : H v = some (.lst xs)) (ha : All2 (RowAt H) vars xs) (hr : RowAt H r x) : GBld (upd H v (.lst (xs ++ [x]))) sd v t l lo (vars ++ [r]) tabs lots ways := by
  have k : Kp [v] H (upd H v (.lst (xs ++ [x]))) := Kp.lst hv (by simp)
  obtain ⟨ys, h3, h4⟩ := h.ft
  obtain ⟨zs, h5, h6⟩ := h.fl
  obtain ⟨n1, n2, n3⟩ := h.nsd
  exact ⟨k.get1 h.d n1, ⟨_, upd_same, (ha.imp fun _ _ => RowAt.kp k).snoc (hr.kp k)⟩, ⟨ys, k.get1 h3 h.vt.symm, h4.imp fun _ _ => RowAt.kp k⟩, ⟨zs, k.get1 h5 h.vl.symm, h6.imp fun _ _ => RowAt.kp k⟩, h.vt, h.vl, h.tl⟩
theorem GBld.addt {xs : List V} {r : Row} {x : V} (h : GBld H sd v t l lo vars tabs lots ways) (hv : H t = some (.lst xs)) (ha : All2 (RowAt H) tabs xs) (hr : RowAt H r x) : GBld (upd H t (.lst (xs ++ [x]))) sd v t l lo vars (tabs ++ [r]) lots ways := by
  have k : Kp [t] H (upd H t (.lst (xs ++ [x]))) := Kp.lst hv (by simp)
  obtain ⟨ys, h3, h4⟩ := h.fv
  obtain ⟨zs, h5, h6⟩ := h.fl
  obtain ⟨n1, n2, n3⟩ := h.nsd
  exact ⟨k.get1 h.d n2, ⟨ys, k.get1 h3 h.vt, h4.imp fun _ _ => RowAt.kp k⟩, ⟨_, upd_same, (ha.imp fun _ _ => RowAt.kp k).snoc (hr.kp k)⟩, ⟨zs, k.get1 h5 h.tl.symm, h6.imp fun _ _ => RowAt.kp k⟩, h.vt, h.vl, h.tl⟩
theorem GBld.addl {xs : List V} {r : Row} {x : V} (h : GBld H sd v t l lo vars tabs lots ways) (hv : H l = some (.lst xs)) (ha : All2 (RowAt H) lots xs) (hr : RowAt H r x) : GBld (upd H l (.lst (xs ++ [x]))) sd v t l lo vars tabs (lots ++ [r]) ways := by
  have k : Kp [l] H (upd H l (.lst (xs ++ [x]))) := Kp.lst hv (by simp)
  obtain ⟨ys, h3, h4⟩ := h.fv
  obtain ⟨zs, h5, h6⟩ := h.ft
  obtain ⟨n1, n2, n3⟩ := h.nsd
  exact ⟨k.get1 h.d n3, ⟨ys, k.get1 h3 h.vl, h4.imp fun _ _ => RowAt.kp k⟩, ⟨zs, k.get1 h5 h.tl, h6.imp fun _ _ => RowAt.kp k⟩, ⟨_, upd_same, (ha.imp fun _ _ => RowAt.kp k).snoc (hr.kp k)⟩, h.vt, h.vl, h.tl⟩
theorem GBld.putw {w' : Int} (h : GBld H sd v t l lo vars tabs lots ways) : ∃ H', DPut H sd (.str "ways") (.int w') H' ∧ Kp [sd] H H' ∧ GBld H' sd v t l lo vars tabs lots w' := by
  have e : putK [((.inr "variables" : Key), V.ref v), (.inr "tables", .ref t), (.inr "lots", .ref l), (.inr "locals", .ref lo), (.inr "ways", .int ways)] (.inr "ways") (.int w') =
    [((.inr "variables" : Key), V.ref v), (.inr "tables", .ref t), (.inr "lots", .ref l), (.inr "locals", .ref lo), (.inr "ways", .int w')] := by kernel_rfl
  obtain ⟨n1, n2, n3⟩ := h.nsd
  have k : Kp [sd] H (upd H sd (.dK [((.inr "variables" : Key), V.ref v), (.inr "tables", .ref t), (.inr "lots", .ref l), (.inr "locals", .ref lo), (.inr "ways", .int w')])) := Kp.dK h.d (by simp)
  obtain ⟨xs, h1, h2⟩ := h.fv
  obtain ⟨ys, h3, h4⟩ := h.ft
  obtain ⟨zs, h5, h6⟩ := h.fl
  refine ⟨_, DPut.k (k := .inr "ways") h.d (szl (show 5 < 1000000 by decide)), ?_, ?_⟩
  · rw [e]; exact k
  · rw [e]
    exact ⟨upd_same, ⟨xs, k.get1 h1 n1.symm, h2.imp fun _ _ => RowAt.kp k⟩, ⟨ys, k.get1 h3 n2.symm, h4.imp fun _ _ => RowAt.kp k⟩, ⟨zs, k.get1 h5 n3.symm, h6.imp fun _ _ => RowAt.kp k⟩, h.vt, h.vl, h.tl⟩
theorem GBld.putlo {lo' : Addr} (h : GBld H sd v t l lo vars tabs lots ways) : ∃ H', DPut H sd (.str "locals") (.ref lo') H' ∧ Kp [sd] H H' ∧ GBld H' sd v t l lo' vars tabs lots ways := by
  have e : putK [((.inr "variables" : Key), V.ref v), (.inr "tables", .ref t), (.inr "lots", .ref l), (.inr "locals", .ref lo), (.inr "ways", .int ways)] (.inr "locals") (.ref lo') =
    [((.inr "variables" : Key), V.ref v), (.inr "tables", .ref t), (.inr "lots", .ref l), (.inr "locals", .ref lo'), (.inr "ways", .int ways)] := by kernel_rfl
  obtain ⟨n1, n2, n3⟩ := h.nsd
  have k : Kp [sd] H (upd H sd (.dK [((.inr "variables" : Key), V.ref v), (.inr "tables", .ref t), (.inr "lots", .ref l), (.inr "locals", .ref lo'), (.inr "ways", .int ways)])) := Kp.dK h.d (by simp)
  obtain ⟨xs, h1, h2⟩ := h.fv
  obtain ⟨ys, h3, h4⟩ := h.ft
  obtain ⟨zs, h5, h6⟩ := h.fl
  refine ⟨_, DPut.k (k := .inr "locals") h.d (szl (show 5 < 1000000 by decide)), ?_, ?_⟩
  · rw [e]; exact k
  · rw [e]
    exact ⟨upd_same, ⟨xs, k.get1 h1 n1.symm, h2.imp fun _ _ => RowAt.kp k⟩, ⟨ys, k.get1 h3 n2.symm, h4.imp fun _ _ => RowAt.kp k⟩, ⟨zs, k.get1 h5 n3.symm, h6.imp fun _ _ => RowAt.kp k⟩, h.vt, h.vl, h.tl⟩
theorem GBld.sc {locs : List Str} (h : GBld H sd v t l lo vars tabs lots ways) (hlo : H lo = some (.lst (locs.map V.str))) (hne : locs ≠ []) (hw : 1 ≤ ways ∧ ways ≤ 100) (hs : vars.length ≤ 3 ∧ tabs.length ≤ 3 ∧ lots.length ≤ 3 ∧ locs.length ≤ 6)
    (g1 : ∀ r ∈ vars, RowG r) (g2 : ∀ r ∈ tabs, RowG r) (g3 : ∀ r ∈ lots, RowG r ∧ 1 ≤ r.2.2 ∧ r.2.2 ≤ 100) (g4 : ∀ x ∈ locs, OkW 12 x) : GSc H sd v t l lo vars tabs lots locs ways :=
  ⟨h.d, h.fv, h.ft, h.fl, hlo, hne, hw.1, by omega, fun r hr => (g1 r hr).1, fun r hr => (g2 r hr).1, fun r hr => ⟨(g3 r hr).1.1, (g3 r hr).2⟩, g4⟩
theorem GBld.of_sc {locs : List Str} (h : GSc H sd v t l lo vars tabs lots locs ways) (h1 : v ≠ t) (h2 : v ≠ l) (h3 : t ≠ l) : GBld H sd v t l lo vars tabs lots ways := ⟨h.d, h.v, h.t, h.l, h1, h2, h3⟩
end
/-- a sign of a text -/
theorem at_str {z : Str} {i : Int} (h0 : 0 ≤ i) (h1 : i < (z.length : Int)) : ∃ c, atI z.cps.toList i = some c ∧ c ∈ z.cps.toList := by
  have e0 := len_toList z
  have hk : i.toNat < z.cps.toList.length := by omega
  have ei : i = ((i.toNat : Nat) : Int) := by omega
  have e : z.cps.toList[i.toNat]? = some z.cps.toList[i.toNat] := List.getElem?_eq_getElem hk
  have q : atI z.cps.toList ((i.toNat : Nat) : Int) = some z.cps.toList[i.toNat] := atI_nat e
  rw [← ei] at q
  exact ⟨_, q, List.mem_of_getElem? e⟩
theorem ok_sign {c : Nat} (h : c ≠ 32) : OkW 12 ⟨#[c]⟩ := ⟨(by decide : (1 : Nat) ≤ 12), by
  show 32 ∉ [c]
  intro z
  exact h (List.mem_singleton.mp z).symm⟩
theorem cut_to {xs : List V} {i : Int} (h0 : 0 ≤ i) (h1 : i ≤ (xs.length : Int)) : cutV xs none (some i) = xs.take i.toNat := by
  have ei : i = ((i.toNat : Nat) : Int) := by omega
  unfold cutV
  rw [ei, HT.sIx_nat, HT.sIx_none]
  rw [List.drop_zero, Nat.sub_zero]
  congr 1
  omega
theorem Kp.off {S : List Addr} {H H1 H2 : Hp} {q : Addr} (a : Kp S H H1) (b : Kp [q] H1 H2) (hq : H q = none) : Kp S H H2 :=
  ⟨fun c o n h => b.get1 (a.1 c o n h) (ne_of_none h hq), fun c xs h => b.2 c xs (a.2 c xs h)⟩
theorem Pool.setb {H : Hp} {p a : Addr} {b : Int} (h : Pool H p a b) : ∃ xs, H p = some (.lst xs) ∧ ixN xs.length 5 = some 5 ∧ ∀ c, Pool (upd H p (.lst (xs.set 5 (.int c)))) p a c ∧ Kp [p] H (upd H p (.lst (xs.set 5 (.int c)))) := by
  have hne := h.ne
  obtain ⟨i, j, k, l, ns, h1, h2, h3⟩ := h
  exact ⟨_, h1, rfl, fun c => ⟨⟨i, j, k, l, ns, upd_same, get_upd h2 hne, h3⟩, Kp.lst h1 (by simp)⟩⟩
def gabc : List Str := ["g", "a", "b", "c", "d", "e"]
def spGame : Sp := fun vs H Q _ => ∃ p a b, vs = [.ref p, .bl true, .int 24] ∧ Pool H p a b ∧ ∀ g x H' b', Kp [p] H H' → Pool H' p a b' → GmAt H' g x → GmG g → Q x H'
section
variable {P : Program} {w : World} {K : PySem.W.Frag} {mg : Str → Option Value} {base : Heap}
theorem fn_law_game (T : Txt K mg) (h_law_draw : FnP P w K mg base CX0 1 "_law_draw" ["_law_pool_here", "_law_size"] spDraw) (h_law_number : FnP P w K mg base CX0 2 "_law_number" ["_law_pool_here"] spNumber)
    (h_law_expression : FnP P w K mg base CX0 7 "_law_expression" ["_law_pool_here", "_law_scope", "_law_deep"] (spE 4)) (h_law_block : FnP P w K mg base CX0 20 "_law_block" ["_law_pool_here", "_law_scope", "_law_room", "_law_most"] (spBl 7)) : FnP P w K mg base CX0 21 "_law_game" ["_law_pool_here", "_law_wide", "_law_ways"] spGame := by
  have S : FnScope ["_law_pool_here", "_law_wide", "_law_ways", "_law_scope", "_law_upper", "_law_k", "_law_size", "_law_variables", "_law_tables", "_law_lots", "_law_procs", "_law_block_here", "_law_answers"] ["_law_pool_here", "_law_wide", "_law_ways"] (defScope (top 40)) := ⟨rfl, rfl, rfl, by decide +kernel, rfl, by decide +kernel, by decide +kernel⟩
  have nd := S.nd
  refine FnP.of0 T.d_law_game T.g_law_game S ba_law_game (fun vs H Q E h => ?_) (fun cdv A outer s H vs Q E hr h => ?_)
  · obtain ⟨p, a, b, rfl, _⟩ := h
    rfl
  obtain ⟨p, a, b, rfl, hp, hQ⟩ := h
  refine ⟨_, (pss_cons (ps_set (i := 3) nd rfl (Or.inl rfl) (pe_disp (pps_cons pe_str (pe_lst pa_nil) (pps_cons pe_str (pe_lst pa_nil) (pps_cons pe_str (pe_lst pa_nil) (pps_cons pe_str (pe_lst pa_nil) (pps_cons pe_str (pv 2) pps_nil))))) (by rfl) (by rfl) (fun z => by cases z) (by decide)))
    (pss_cons (ps_set (i := 4) nd rfl (Or.inl rfl) (pe_op op_add pe_int (pe_op op_mul pe_int (pe_callTy call_int1 (by rfl) T.f_int (by decide +kernel) (pa_cons (pv 1) pa_nil)))))
    (pss_cons (ps_for PassesOwn.never rfl (pi_range1 (by rfl) T.f_range (pa_cons (pe_cf h_law_draw hr pass0 (pa_cons (pv 0) (pa_cons (pe_op op_add pe_int (pe_callTy call_int1 (by rfl) T.f_int (by decide +kernel) (pa_cons (pv 1) pa_nil))) pa_nil))) pa_nil)) (pg_name (i := 5) nd rfl (Or.inl rfl)) (pss_cons (ps_set (i := 6) nd rfl (Or.inl rfl) (pe_ix ix_tup (pe_tup (pa_cons (pe_op op_add pe_int (pe_cf h_law_draw hr pass0 (pa_cons (pv 0) (pa_cons pe_int pa_nil)))) (pa_cons (pe_op op_add pe_int (pe_op op_fdivN (pe_cf h_law_number hr pass0 (pa_cons (pv 0) pa_nil)) pe_int)) pa_nil))) (pe_cf h_law_draw hr pass0 (pa_cons (pv 0) (pa_cons pe_int pa_nil))) (fun _ _ => rfl)))
    (pss_cons (ps_set (i := 7) nd rfl (Or.inl rfl) (pe_dget (hu_of hr) (pv 3) pe_str (fun _ _ => rfl)))
    (pss_one (ps_expr (pe_bm PySem.F.plainAttrs_list PySem.F.slot_list_append PySem.F.type_list_append mt_append (pv 7) (pa_cons (pe_tup (pa_cons (pe_ix ix_str pe_str (pv 5) (fun _ _ => rfl)) (pa_cons (pv 6) (pa_cons (pe_cf h_law_draw hr pass0 (pa_cons (pv 0) (pa_cons (pv 6) pa_nil))) pa_nil)))) pa_nil)))))))
    (pss_cons (ps_for PassesOwn.never rfl (pi_range1 (by rfl) T.f_range (pa_cons (pe_cf h_law_draw hr pass0 (pa_cons (pv 0) (pa_cons pe_int pa_nil))) pa_nil)) (pg_name (i := 5) nd rfl (Or.inl rfl)) (pss_cons (ps_set (i := 8) nd rfl (Or.inl rfl) (pe_dget (hu_of hr) (pv 3) pe_str (fun _ _ => rfl)))
    (pss_one (ps_expr (pe_bm PySem.F.plainAttrs_list PySem.F.slot_list_append PySem.F.type_list_append mt_append (pv 8) (pa_cons (pe_tup (pa_cons (pe_ix ix_str pe_str (pv 5) (fun _ _ => rfl)) (pa_cons (pe_op op_add pe_int (pe_cf h_law_draw hr pass0 (pa_cons (pv 0) (pa_cons (pv 4) pa_nil)))) (pa_cons (pe_op op_add pe_int (pe_cf h_law_draw hr pass0 (pa_cons (pv 0) (pa_cons (pv 4) pa_nil)))) pa_nil)))) pa_nil))))))
    (pss_cons (ps_for PassesOwn.never rfl (pi_range1 (by rfl) T.f_range (pa_cons (pe_cf h_law_draw hr pass0 (pa_cons (pv 0) (pa_cons pe_int pa_nil))) pa_nil)) (pg_name (i := 5) nd rfl (Or.inl rfl)) (pss_cons (ps_set (i := 9) nd rfl (Or.inl rfl) (pe_dget (hu_of hr) (pv 3) pe_str (fun _ _ => rfl)))
    (pss_one (ps_expr (pe_bm PySem.F.plainAttrs_list PySem.F.slot_list_append PySem.F.type_list_append mt_append (pv 9) (pa_cons (pe_tup (pa_cons (pe_ix ix_str pe_str (pv 5) (fun _ _ => rfl)) (pa_cons (pe_op op_add pe_int (pe_cf h_law_draw hr pass0 (pa_cons (pv 0) (pa_cons (pv 4) pa_nil)))) (pa_cons (pe_op op_add pe_int (pe_cf h_law_draw hr pass0 (pa_cons (pv 0) (pa_cons pe_int pa_nil)))) pa_nil)))) pa_nil))))))
    (pss_cons (ps_set (i := 10) nd rfl (Or.inl rfl) (pe_lst pa_nil))
    (pss_cons (ps_for PassesOwn.never rfl (pi_range1 (by rfl) T.f_range (pa_cons (pe_op op_add pe_int (pe_cf h_law_draw hr pass0 (pa_cons (pv 0) (pa_cons pe_int pa_nil)))) pa_nil)) (pg_name (i := 5) nd rfl (Or.inl rfl)) (pss_cons (ps_dput (hu_of hr) (pv 3) pe_str (pv 2) rfl)
    (pss_cons (ps_dput (hu_of hr) (pv 3) pe_str (pe_slice sl_list (pe_lst (pa_cons pe_str (pa_cons pe_str (pa_cons pe_str (pa_cons pe_str (pa_cons pe_str (pa_cons pe_str pa_nil))))))) po_none (po_some (pe_op op_add pe_int (pe_cf h_law_draw hr pass0 (pa_cons (pv 0) (pa_cons (pe_op op_add pe_int (pe_op op_mul pe_int (pe_callTy call_int1 (by rfl) T.f_int (by decide +kernel) (pa_cons (pv 1) pa_nil)))) pa_nil)))))) rfl)
    (pss_cons (ps_asg (pe_op op_add pe_int (pe_op op_mul pe_int (pe_callTy call_int1 (by rfl) T.f_int (by decide +kernel) (pa_cons (pv 1) pa_nil)))) (pg_sub (pv 0) pe_int set_list))
    (pss_cons (ps_set (i := 11) nd rfl (Or.inl rfl) (pe_cf h_law_block hr pass0 (pa_cons (pv 0) (pa_cons (pv 3) (pa_cons (pe_op op_add pe_int (pe_op op_mul pe_int (pe_callTy call_int1 (by rfl) T.f_int (by decide +kernel) (pa_cons (pv 1) pa_nil)))) (pa_cons pe_int pa_nil))))))
    (pss_cons (ps_set (i := 6) nd rfl (Or.inl rfl) (pe_op op_add pe_int (pe_cf h_law_draw hr pass0 (pa_cons (pv 0) (pa_cons (pe_ix ix_tup (pe_tup (pa_cons pe_int (pa_cons pe_int pa_nil))) (pe_callTy call_int1 (by rfl) T.f_int (by decide +kernel) (pa_cons (pv 1) pa_nil)) (fun _ _ => rfl)) pa_nil)))))
    (pss_cons (ps_set (i := 12) nd rfl (Or.inl rfl) (pe_op op_add pe_int (pe_cf h_law_draw hr pass0 (pa_cons (pv 0) (pa_cons (pe_ix ix_tup (pe_tup (pa_cons pe_int (pa_cons pe_int pa_nil))) (pe_callTy call_int1 (by rfl) T.f_int (by decide +kernel) (pa_cons (pv 1) pa_nil)) (fun _ _ => rfl)) pa_nil)))))
    (pss_one (ps_expr (pe_bm PySem.F.plainAttrs_list PySem.F.slot_list_append PySem.F.type_list_append mt_append (pv 10) (pa_cons (pe_tup (pa_cons (pe_ix ix_str pe_str (pv 5) (fun _ _ => rfl)) (pa_cons (pv 6) (pa_cons (pv 12) (pa_cons (pe_callTy call_tuple_of (by rfl) T.f_tuple (by decide +kernel) (pa_cons (pe_dget (hu_of hr) (pv 3) pe_str (fun _ _ => rfl)) pa_nil)) (pa_cons (pv 11) (pa_cons (pe_cf h_law_expression hr pass0 (pa_cons (pv 0) (pa_cons (pv 3) (pa_cons pe_int pa_nil)))) pa_nil))))))) pa_nil)))))))))))
    (pss_one (ps_ret (pe_tup (pa_cons (pe_callTy call_tuple_of (by rfl) T.f_tuple (by decide +kernel) (pa_cons (pe_dget (hu_of hr) (pv 3) pe_str (fun _ _ => rfl)) pa_nil)) (pa_cons (pe_callTy call_tuple_of (by rfl) T.f_tuple (by decide +kernel) (pa_cons (pe_dget (hu_of hr) (pv 3) pe_str (fun _ _ => rfl)) pa_nil)) (pa_cons (pe_callTy call_tuple_of (by rfl) T.f_tuple (by decide +kernel) (pa_cons (pe_dget (hu_of hr) (pv 3) pe_str (fun _ _ => rfl)) pa_nil)) (pa_cons (pe_callTy call_tuple_of (by rfl) T.f_tuple (by decide +kernel) (pa_cons (pv 10) pa_nil)) pa_nil)))))))))))))), ?_⟩
  -- the scope
  refine sq_set fun sd hsd => ⟨sz (show 0 ≤ 1000000 by decide), fun v hv => ⟨sz (show 0 ≤ 1000000 by decide), fun t ht => ⟨sz (show 0 ≤ 1000000 by decide), fun l hl => ⟨sz (show 0 ≤ 1000000 by decide), fun lo hlo => ⟨_, rfl, ?_, [(.inr "variables", .ref v), (.inr "tables", .ref t), (.inr "lots", .ref l), (.inr "locals", .ref lo), (.inr "ways", .int 24)], rfl, (show 5 ≤ 15 by decide), ?_⟩⟩⟩⟩⟩
  · exact get_new hlo (get_new hl (get_new ht (get_new hv upd_same)))
  have em : mergeK [] [((.inr "variables" : Key), V.ref v), (.inr "tables", .ref t), (.inr "lots", .ref l), (.inr "locals", .ref lo), (.inr "ways", .int 24)] = [((.inr "variables" : Key), V.ref v), (.inr "tables", .ref t), (.inr "lots", .ref l), (.inr "locals", .ref lo), (.inr "ways", .int 24)] := by kernel_rfl
  rw [em]
  have nsv := ne_of_none (upd_same) hv
  have nst := ne_of_none (get_new hv upd_same) ht
  have nsl := ne_of_none (get_new ht (get_new hv upd_same)) hl
  have nslo := ne_of_none (get_new hl (get_new ht (get_new hv upd_same))) hlo
  have nvt := ne_of_none (upd_same) ht
  have nvl := ne_of_none (get_new ht upd_same) hl
  have ntl := ne_of_none (upd_same) hl
  have kA : Kp [] H _ := (((((Kp.new hsd).trans (Kp.new hv)).trans (Kp.new ht)).trans (Kp.new hl)).trans (Kp.new (o := .lst []) hlo)).newer (o := .dK [((.inr "variables" : Key), V.ref v), (.inr "tables", .ref t), (.inr "lots", .ref l), (.inr "locals", .ref lo), (.inr "ways", .int 24)]) hsd
  generalize hH0 : upd (upd (upd (upd (upd (upd H sd (.dK [])) v (.lst [])) t (.lst [])) l (.lst [])) lo (.lst [])) sd (.dK [((.inr "variables" : Key), V.ref v), (.inr "tables", .ref t), (.inr "lots", .ref l), (.inr "locals", .ref lo), (.inr "ways", .int 24)]) = H0 at kA ⊢
  have g0 : GBld H0 sd v t l lo [] [] [] 24 := by
    rw [← hH0]
    exact ⟨upd_same, ⟨[], get_upd (get_new hlo (get_new hl (get_new ht upd_same))) nsv.symm, rfl⟩, ⟨[], get_upd (get_new hlo (get_new hl upd_same)) nst.symm, rfl⟩, ⟨[], get_upd (get_new hlo upd_same) nsl.symm, rfl⟩, nvt, nvl, ntl⟩
  have hpn : ∀ q : Addr, H q = none → q ≠ p ∧ q ≠ a := fun q hq => by
    obtain ⟨_, _, _, _, ns, h1, h2, _⟩ := id hp
    exact ⟨(ne_of_none h1 hq).symm, (ne_of_none h2 hq).symm⟩
  have hvn : H v = none := by rw [upd_ne nsv.symm] at hv; exact hv
  have htn : H t = none := by rw [upd_ne nvt.symm, upd_ne nst.symm] at ht; exact ht
  have hln : H l = none := by rw [upd_ne ntl.symm, upd_ne nvl.symm, upd_ne nsl.symm] at hl; exact hl
  have hpo : p ∉ [sd, v, t, l] := by
    simp only [List.mem_cons, List.not_mem_nil, or_false]
    rintro (z | z | z | z)
    · exact (hpn sd hsd).1 z.symm
    · exact (hpn v hvn).1 z.symm
    · exact (hpn t htn).1 z.symm
    · exact (hpn l hln).1 z.symm
  have p0 : Pool H0 p a b := hp.kp kA (by simp) (by simp)
  have dr2 : ∀ {x y : Int}, x < y → y ≤ 1000 → x < 100000 := fun h1 h2 => by omega
  -- upper
  refine sq_set ⟨_, rfl, .inr ⟨_, rfl, _, _, rfl, rfl, .inl ⟨by decide, by decide⟩, _, _, rfl, rfl, ?_⟩⟩
  -- variables
  refine ⟨_, rfl, _, rfl, .inr ⟨_, rfl, _, _, rfl, rfl, p, a, b, _, rfl, by decide, by decide, p0, fun n H1 n0 n1 k1 p1 => ?_⟩⟩
  have n1 : n < 4 := n1
  refine ⟨n, rfl, by omega, by omega, for_range (lo := 0) (n := n.toNat) (fun i σ Hc => ∃ vars y5 y6 y7, σ = [some (.ref p), some (.bl true), some (.int 24), some (.ref sd), some (.int 64), y5, y6, y7, none, none, none, none, none] ∧ Kp [p] H Hc ∧ Pool Hc p a b ∧ GBld Hc sd v t l lo vars [] [] 24 ∧ vars.length ≤ i ∧ ∀ r ∈ vars, RowG r) ?_ ?_ ?_⟩
  · exact ⟨[], none, none, none, rfl, kA.nil.trans k1, p1, g0.pool k1 hpo, Nat.le_refl _, fun r hr => by cases hr⟩
  · rintro i σ Hc hi ⟨vars, y5, y6, y7, rfl, kc, pc, gc, hvl, hvg⟩
    refine sq_set ⟨_, rfl, p, a, b, 4, rfl, by decide, by decide, pc, fun r1 H2 r10 r11 k2 p2 => ⟨_, _, rfl, rfl, _, rfl, p, a, b, rfl, p2, fun r2 H3 r20 r21 k3 p3 => ⟨_, _, rfl, rfl, ⟨(show (2 : Int) ≠ 0 by decide), (show (2 : Int).natAbs < 1073741824 by decide)⟩, _, _, rfl, rfl, sz (show 2 ≤ 1000000 by decide), fun q hq => ?_⟩⟩⟩
    refine ⟨_, rfl, p, a, b, 2, rfl, by decide, by decide, p3.kp (Kp.new hq : Kp [] _ _) (by simp) (by simp), fun j H4 j0 j1 k4 p4 => ?_⟩
    obtain ⟨sx, hat, hsx⟩ := at_map (f := V.int) (ns := [1 + r1, 1 + r2.fdiv 2]) j0 j1
    refine ⟨q, _, _, _, rfl, rfl, SqT.of (k4.2 _ _ upd_same), hat, ?_⟩
    have hsb : 1 ≤ sx ∧ sx < 100000 := by
      have e2 : r2.fdiv 2 = r2 / 2 := Int.fdiv_eq_ediv_of_nonneg r2 (by decide)
      simp only [List.mem_cons, List.not_mem_nil, or_false] at hsx
      rcases hsx with rfl | rfl <;> omega
    have k24 := (((k2.trans k3).trans (Kp.new hq)).trans k4)
    have g4 := gc.pool k24 hpo
    refine sq_set ⟨_, rfl, _, _, rfl, g4.dv, ?_⟩
    obtain ⟨xs, h1, h2⟩ := g4.fv
    obtain ⟨ch, hch, hcm⟩ := at_str (z := "xyz") (i := 0 + (i : Int)) (by omega) (by show _ < (3 : Int); omega)
    have hc32 : ch ≠ 32 := fun z => (by decide +kernel : (32 : Nat) ∉ ("xyz" : Str).cps.toList) (z ▸ hcm)
    refine ⟨_, rfl, .inl ⟨rfl, _, SqL.of h1⟩, _, rfl, _, _, ch, rfl, rfl, sz (show 3 ≤ 1000000 by decide), hch, _, rfl, _, rfl, _, rfl, p, a, b, sx, rfl, by omega, by omega, p4, fun f H5 f0 f1 k5 p5 => ⟨sz (show 3 ≤ 1000000 by decide), fun z hz => ?_⟩⟩
    have kz : Kp [] H5 (upd H5 z (.tup [.str ⟨#[ch]⟩, .int sx, .int f])) := Kp.new hz
    have g5 := (g4.pool k5 hpo).new (o := .tup [.str ⟨#[ch]⟩, .int sx, .int f]) hz
    have hvp : v ∉ [p] := fun z => hpo (by rw [List.mem_singleton.mp z]; simp)
    have h1z := kz.get (k5.get h1 hvp) (by simp)
    refine ⟨v, xs, .ref z, rfl, rfl, h1z, szl (by have := h2.length; omega), ?_⟩
    have kv : Kp [v] _ (upd (upd H5 z (.tup [.str ⟨#[ch]⟩, .int sx, .int f])) v (.lst (xs ++ [.ref z]))) := Kp.lst h1z (by simp)
    refine ⟨vars ++ [(⟨#[ch]⟩, sx, f)], _, _, _, rfl, (((kc.trans k24).trans k5).trans kz.nil).newer hvn, (p5.kp kz (by simp) (by simp)).kp kv (by simp [(hpn v hvn).1.symm]) (by simp [(hpn v hvn).2.symm]),
      g5.addv (r := (⟨#[ch]⟩, sx, f)) h1z (((h2.imp fun _ _ => RowAt.kp k5)).imp fun _ _ => RowAt.kp kz) ⟨z, rfl, upd_same, ⟨by show 0 ≤ sx; omega, by show sx < 100000; omega⟩, f0, by show f < 100000; omega⟩, by rw [List.length_append, List.length_singleton]; omega, fun r hr => ?_⟩
    rcases List.mem_append.mp hr with hr | hr
    · exact hvg r hr
    · rw [List.mem_singleton.mp hr]
      exact ⟨ok_sign hc32, ⟨by show 0 ≤ sx; omega, by show sx < 100000; omega⟩, f0, by show f < 100000; omega⟩
  rintro σ H2 ⟨vars, y5, y6, y7, rfl, k2, p2, g2, hvl, hvg⟩
  -- tables
  refine ⟨_, rfl, p, a, b, 3, rfl, by decide, by decide, p2, fun n2 H3 n20 n21 k3 p3 => ?_⟩
  refine ⟨n2, rfl, by omega, by omega, for_range (lo := 0) (n := n2.toNat) (fun i σ Hc => ∃ tabs y5 y6 y7 y8, σ = [some (.ref p), some (.bl true), some (.int 24), some (.ref sd), some (.int 64), y5, y6, y7, y8, none, none, none, none] ∧ Kp [p] H Hc ∧ Pool Hc p a b ∧ GBld Hc sd v t l lo vars tabs [] 24 ∧ tabs.length ≤ i ∧ ∀ r ∈ tabs, RowG r) ?_ ?_ ?_⟩
  · exact ⟨[], _, _, _, none, rfl, k2.trans k3, p3, g2.pool k3 hpo, Nat.le_refl _, fun r hr => by cases hr⟩
  · rintro i σ Hc hi ⟨tabs, y5, y6, y7, y8, rfl, kc, pc, gc, htl, htg⟩
    refine sq_set ⟨_, rfl, _, _, rfl, gc.dt, ?_⟩
    obtain ⟨xs, h1, h2⟩ := gc.ft
    obtain ⟨ch, hch, hcm⟩ := at_str (z := "ts") (i := 0 + (i : Int)) (by omega) (by show _ < (2 : Int); omega)
    have hc32 : ch ≠ 32 := fun z => (by decide +kernel : (32 : Nat) ∉ ("ts" : Str).cps.toList) (z ▸ hcm)
    refine ⟨_, rfl, .inl ⟨rfl, _, SqL.of h1⟩, _, rfl, _, _, ch, rfl, rfl, sz (show 2 ≤ 1000000 by decide), hch, _, rfl, _, rfl, p, a, b, 64, rfl, by decide, by decide, pc, fun f1 H5 f10 f11 k5 p5 => ⟨_, _, rfl, rfl, _, rfl, _, rfl, p, a, b, 64, rfl, by decide, by decide, p5, fun f2 H6 f20 f21 k6 p6 => ⟨_, _, rfl, rfl, sz (show 3 ≤ 1000000 by decide), fun z hz => ?_⟩⟩⟩
    have k56 := k5.trans k6
    have kz : Kp [] H6 (upd H6 z (.tup [.str ⟨#[ch]⟩, .int (1 + f1), .int (1 + f2)])) := Kp.new hz
    have g5 := (gc.pool k56 hpo).new (o := .tup [.str ⟨#[ch]⟩, .int (1 + f1), .int (1 + f2)]) hz
    have hvp : t ∉ [p] := fun z => hpo (by rw [List.mem_singleton.mp z]; simp)
    have h1z := kz.get (k56.get h1 hvp) (by simp)
    refine ⟨t, xs, .ref z, rfl, rfl, h1z, szl (by have := h2.length; omega), ?_⟩
    have kv : Kp [t] _ (upd (upd H6 z (.tup [.str ⟨#[ch]⟩, .int (1 + f1), .int (1 + f2)])) t (.lst (xs ++ [.ref z]))) := Kp.lst h1z (by simp)
    refine ⟨tabs ++ [(⟨#[ch]⟩, 1 + f1, 1 + f2)], _, _, _, _, rfl, ((kc.trans k56).trans kz.nil).newer htn, (p6.kp kz (by simp) (by simp)).kp kv (by simp [(hpn t htn).1.symm]) (by simp [(hpn t htn).2.symm]),
      g5.addt (r := (⟨#[ch]⟩, 1 + f1, 1 + f2)) h1z (((h2.imp fun _ _ => RowAt.kp k56)).imp fun _ _ => RowAt.kp kz) ⟨z, rfl, upd_same, ⟨by show 0 ≤ 1 + f1; omega, by show 1 + f1 < 100000; omega⟩, by show 0 ≤ 1 + f2; omega, by show 1 + f2 < 100000; omega⟩, by rw [List.length_append, List.length_singleton]; omega, fun r hr => ?_⟩
    rcases List.mem_append.mp hr with hr | hr
    · exact htg r hr
    · rw [List.mem_singleton.mp hr]
      exact ⟨ok_sign hc32, ⟨by show 0 ≤ 1 + f1; omega, by show 1 + f1 < 100000; omega⟩, by show 0 ≤ 1 + f2; omega, by show 1 + f2 < 100000; omega⟩
  rintro σ H4 ⟨tabs, y5', y6', y7', y8', rfl, k4, p4, g4, htl, htg⟩
  -- lots
  refine ⟨_, rfl, p, a, b, 3, rfl, by decide, by decide, p4, fun n3 H5 n30 n31 k5 p5 => ?_⟩
  refine ⟨n3, rfl, by omega, by omega, for_range (lo := 0) (n := n3.toNat) (fun i σ Hc => ∃ lots y5 y6 y7 y8 y9, σ = [some (.ref p), some (.bl true), some (.int 24), some (.ref sd), some (.int 64), y5, y6, y7, y8, y9, none, none, none] ∧ Kp [p] H Hc ∧ Pool Hc p a b ∧ GBld Hc sd v t l lo vars tabs lots 24 ∧ lots.length ≤ i ∧ ∀ r ∈ lots, RowG r ∧ 1 ≤ r.2.2 ∧ r.2.2 ≤ 100) ?_ ?_ ?_⟩
  · exact ⟨[], _, _, _, _, none, rfl, k4.trans k5, p5, g4.pool k5 hpo, Nat.le_refl _, fun r hr => by cases hr⟩
  · rintro i σ Hc hi ⟨lots, y5, y6, y7, y8, y9, rfl, kc, pc, gc, hll, hlg⟩
    refine sq_set ⟨_, rfl, _, _, rfl, gc.dl, ?_⟩
    obtain ⟨xs, h1, h2⟩ := gc.fl
    obtain ⟨ch, hch, hcm⟩ := at_str (z := "ok") (i := 0 + (i : Int)) (by omega) (by show _ < (2 : Int); omega)
    have hc32 : ch ≠ 32 := fun z => (by decide +kernel : (32 : Nat) ∉ ("ok" : Str).cps.toList) (z ▸ hcm)
    refine ⟨_, rfl, .inl ⟨rfl, _, SqL.of h1⟩, _, rfl, _, _, ch, rfl, rfl, sz (show 2 ≤ 1000000 by decide), hch, _, rfl, _, rfl, p, a, b, 64, rfl, by decide, by decide, pc, fun f1 H6 f10 f11 k6 p6 => ⟨_, _, rfl, rfl, _, rfl, p, a, b, 3, rfl, by decide, by decide, p6, fun f2 H7 f20 f21 k7 p7 => ⟨_, _, rfl, rfl, sz (show 3 ≤ 1000000 by decide), fun z hz => ?_⟩⟩⟩
    have k56 := k6.trans k7
    have kz : Kp [] H7 (upd H7 z (.tup [.str ⟨#[ch]⟩, .int (1 + f1), .int (1 + f2)])) := Kp.new hz
    have g5 := (gc.pool k56 hpo).new (o := .tup [.str ⟨#[ch]⟩, .int (1 + f1), .int (1 + f2)]) hz
    have hvp : l ∉ [p] := fun z => hpo (by rw [List.mem_singleton.mp z]; simp)
    have h1z := kz.get (k56.get h1 hvp) (by simp)
    refine ⟨l, xs, .ref z, rfl, rfl, h1z, szl (by have := h2.length; omega), ?_⟩
    have kv : Kp [l] _ (upd (upd H7 z (.tup [.str ⟨#[ch]⟩, .int (1 + f1), .int (1 + f2)])) l (.lst (xs ++ [.ref z]))) := Kp.lst h1z (by simp)
    refine ⟨lots ++ [(⟨#[ch]⟩, 1 + f1, 1 + f2)], _, _, _, _, _, rfl, ((kc.trans k56).trans kz.nil).newer hln, (p7.kp kz (by simp) (by simp)).kp kv (by simp [(hpn l hln).1.symm]) (by simp [(hpn l hln).2.symm]),
      g5.addl (r := (⟨#[ch]⟩, 1 + f1, 1 + f2)) h1z (((h2.imp fun _ _ => RowAt.kp k56)).imp fun _ _ => RowAt.kp kz) ⟨z, rfl, upd_same, ⟨by show 0 ≤ 1 + f1; omega, by show 1 + f1 < 100000; omega⟩, by show 0 ≤ 1 + f2; omega, by show 1 + f2 < 100000; omega⟩, by rw [List.length_append, List.length_singleton]; omega, fun r hr => ?_⟩
    rcases List.mem_append.mp hr with hr | hr
    · exact hlg r hr
    · rw [List.mem_singleton.mp hr]
      exact ⟨⟨ok_sign hc32, ⟨by show 0 ≤ 1 + f1; omega, by show 1 + f1 < 100000; omega⟩, by show 0 ≤ 1 + f2; omega, by show 1 + f2 < 100000; omega⟩, by show 1 ≤ 1 + f2; omega, by show 1 + f2 ≤ 100; omega⟩
  rintro σ H6 ⟨lots, z5, z6, z7, z8, z9, rfl, k6, p6, g6, hll, hlg⟩
  -- procedures
  refine nx_ ?_
  refine sq_set ⟨sz (show 0 ≤ 1000000 by decide), fun q hq => ?_⟩
  have kq : Kp [] H6 (upd H6 q (.lst [])) := Kp.new hq
  have hqH : H q = none := by
    cases z : H q with
    | none => rfl
    | some o =>
      by_cases e : q ∈ [p]
      · obtain ⟨xs, e1⟩ := p6.at_
        rw [← List.mem_singleton.mp e, hq] at e1
        cases e1
      · rw [k6.get z e] at hq
        cases hq
  have hqp : q ∉ [p] := fun z => (hpn q hqH).1 (List.mem_singleton.mp z)
  have hqx : ∀ z ∈ [sd, v, t, l], z ∉ [q] := fun z hz e => by
    have e := List.mem_singleton.mp e
    subst e
    have : ∃ o, H6 z = some o := by
      obtain ⟨xs, v1, _⟩ := g6.fv
      obtain ⟨ys, t1, _⟩ := g6.ft
      obtain ⟨zs, l1, _⟩ := g6.fl
      simp only [List.mem_cons, List.not_mem_nil, or_false] at hz
      rcases hz with rfl | rfl | rfl | rfl
      · exact ⟨_, g6.d⟩
      · exact ⟨_, v1⟩
      · exact ⟨_, t1⟩
      · exact ⟨_, l1⟩
    obtain ⟨o, ho⟩ := this
    rw [hq] at ho
    cases ho
  refine ⟨_, rfl, p, a, b, 2, rfl, by decide, by decide, p6.kp kq (by simp) (by simp), fun n4 H7 n40 n41 k7 p7 => ⟨_, _, rfl, rfl, ?_⟩⟩
  refine ⟨1 + n4, rfl, by omega, by omega, for_range (lo := 0) (n := (1 + n4).toNat) (fun i σ Hc => ∃ procs ps lo' w' b' y5 y6 y7 y8 y9 y11 y12, σ = [some (.ref p), some (.bl true), some (.int 24), some (.ref sd), some (.int 64), y5, y6, y7, y8, y9, some (.ref q), y11, y12] ∧ Kp [p] H Hc ∧ Pool Hc p a b' ∧ GBld Hc sd v t l lo' vars tabs lots w' ∧
    Hc q = some (.lst ps) ∧ All2 (PrAt Hc) procs ps ∧ procs.length ≤ i ∧ ∀ pr ∈ procs, PrG pr) ?_ ?_ ?_⟩
  · exact ⟨[], [], lo, 24, b, _, _, _, _, _, none, none, rfl, (k6.trans kq.nil).trans k7, p7, (g6.kp kq (by simp)).pool k7 hpo, k7.get upd_same hqp, rfl, Nat.le_refl _, fun r hr => by cases hr⟩
  · rintro i σ Hc hi ⟨procs, ps, lo', w', b', y5, y6, y7, y8, y9, y11, y12, rfl, kc, pc, gc, hqc, hps, hpl, hpg⟩
    have hi : (i : Int) < 2 := by omega
    -- ways, locals
    obtain ⟨Hw, dw, kw, gw⟩ := gc.putw (w' := 24)
    refine ⟨_, rfl, _, rfl, _, Hw, rfl, dw, ?_⟩
    have kW := kc.off kw hsd
    have pW := pc.dict gc.d kw
    have hsq : q ∉ [sd] := fun z => hqx sd (by simp) (by rw [List.mem_singleton.mp z]; simp)
    have hqW := kw.get hqc hsq
    refine ⟨sz (show 6 ≤ 1000000 by decide), fun q1 hq1 => ?_⟩
    have k1 : Kp [] Hw (upd Hw q1 (.lst (gabc.map V.str))) := Kp.new hq1
    refine ⟨_, rfl, _, rfl, .inr ⟨_, rfl, _, _, rfl, rfl, .inl ⟨by decide, by decide⟩, _, _, rfl, rfl, p, a, b', _, rfl, by decide, by decide, pW.kp k1 (by simp) (by simp), fun m1 H8 m10 m11 k8 p8 => ⟨_, _, rfl, rfl, _, rfl, ?_⟩⟩⟩
    have m11 : m1 < 5 := m11
    have hq1p : q1 ∉ [p] := fun z => by
      obtain ⟨xs, e1⟩ := pW.at_
      rw [← List.mem_singleton.mp z, hq1] at e1
      cases e1
    refine ⟨q1, _, rfl, SqL.of (k8.get upd_same hq1p), fun q2 hq2 => ?_⟩
    have ecut : cutV (gabc.map V.str) none (some (2 + m1)) = (gabc.take (2 + m1).toNat).map V.str := by
      rw [cut_to (by omega) (by show (2 + m1 : Int) ≤ 6; omega), List.map_take]
    have g8 := (gw.new hq1 (o := .lst (gabc.map V.str))).pool k8 hpo
    have k2 : Kp [] H8 (upd H8 q2 (.lst (cutV (gabc.map V.str) none (some (2 + m1))))) := Kp.new hq2
    have g9 := g8.new hq2 (o := .lst (cutV (gabc.map V.str) none (some (2 + m1))))
    obtain ⟨Hl, dl, kl, gl⟩ := g9.putlo (lo' := q2)
    refine ⟨_, rfl, _, Hl, rfl, dl, ?_⟩
    have kL : Kp [p] H Hl := ((((kW.trans k1.nil).trans k8).trans k2.nil)).off kl hsd
    have pL := (p8.kp k2 (by simp) (by simp)).dict g9.d kl
    have hq2s : q2 ≠ sd := fun z => by rw [z, g8.d] at hq2; cases hq2
    have hlo : Hl q2 = some (.lst ((gabc.take (2 + m1).toNat).map V.str)) := by
      rw [← ecut]
      exact kl.get1 upd_same hq2s
    have hqL : Hl q = some (.lst ps) := kl.get (k2.get (k8.get (k1.get hqW (by simp)) hqp) (by simp)) hsq
    have hpsL : All2 (PrAt Hl) procs ps := ((((hps.imp fun _ _ => PrAt.kp kw).imp fun _ _ => PrAt.kp k1).imp fun _ _ => PrAt.kp k8).imp fun _ _ => PrAt.kp k2).imp fun _ _ => PrAt.kp kl
    -- the budget
    obtain ⟨bs, hb1, hb2, hb3⟩ := pL.setb
    obtain ⟨pB, kB⟩ := hb3 16
    refine ⟨_, rfl, .inr ⟨_, rfl, _, _, rfl, rfl, .inl ⟨by decide, by decide⟩, _, _, rfl, rfl, _, rfl, p, _, _, 5, rfl, rfl, hb1, hb2, ?_⟩⟩
    refine nx_ ?_
    have gB := gl.pool kB hpo
    have hq2p : q2 ∉ [p] := fun z => by
      obtain ⟨xs, e1⟩ := p8.at_
      rw [← List.mem_singleton.mp z, hq2] at e1
      cases e1
    have hloB := kB.get hlo hq2p
    have hqB := kB.get hqL hqp
    have hpsB := hpsL.imp fun _ _ => PrAt.kp kB
    have kB' := kL.trans kB
    have hlen : (gabc.take (2 + m1).toNat).length = (2 + m1).toNat := by
      rw [List.length_take]
      show min _ 6 = _
      omega
    have hne1 : gabc.take (2 + m1).toNat ≠ [] := fun z => by rw [z] at hlen; simp at hlen; omega
    have hokl : ∀ x ∈ gabc.take (2 + m1).toNat, OkW 12 x := fun x hx => (show ∀ x ∈ gabc, OkW 12 x by decide +kernel) x (List.mem_of_mem_take hx)
    have hsB := gB.sc hloB hne1 (by omega) (by omega) hvg htg hlg hokl
    have hp5 : p ∉ [sd, v, t, l, q2] := by
      intro z
      simp only [List.mem_cons, List.not_mem_nil, or_false] at z hpo hq2p
      rcases z with z | z | z | z | z
      · exact hpo (.inl z)
      · exact hpo (.inr (.inl z))
      · exact hpo (.inr (.inr (.inl z)))
      · exact hpo (.inr (.inr (.inr z)))
      · exact hq2p z.symm
    -- the block
    refine sq_set ⟨_, rfl, _, rfl, _, rfl, .inr ⟨_, rfl, _, _, rfl, rfl, .inl ⟨by decide, by decide⟩, _, _, rfl, rfl, 6, 6, p, a, 16, sd, v, t, l, q2, vars, tabs, lots, _, 24, rfl, rfl, by decide, by decide, pB, hsB, hp5, fun bl c ss H9 b9 w9 k9 p9 g9 hc9 hbl gbl hbw => ?_⟩⟩
    have hk9 : Kp [p] H H9 := ⟨fun x o n h => k9.get (kB'.1 x o n h) (by
        simp only [List.mem_cons, List.not_mem_nil, or_false]
        rintro (z | z)
        · exact n (by simp [z])
        · rw [z, hsd] at h; cases h), fun x xs h => k9.2 x xs (kB'.2 x xs h)⟩
    have hqps : q ∉ [p, sd] := by
      simp only [List.mem_cons, List.not_mem_nil, or_false]
      rintro (z | z)
      · exact hqp (by simp [z])
      · exact hsq (by simp [z])
    have hq9 := k9.get hqB hqps
    have hps9 := hpsB.imp fun _ _ => PrAt.kp k9
    -- size, answers
    refine sq_set ⟨_, rfl, sz (show 2 ≤ 1000000 by decide), fun c1 hc1 => ⟨_, rfl, .inr ⟨_, rfl, c1, _, _, _, rfl, rfl, SqT.of upd_same, rfl, p, a, b9, 64, rfl, by decide, by decide, p9.kp (Kp.new hc1 : Kp [] _ _) (by simp) (by simp), fun r1 H10 r10 r11 k10 p10 => ⟨_, _, rfl, rfl, ?_⟩⟩⟩⟩
    refine sq_set ⟨_, rfl, sz (show 2 ≤ 1000000 by decide), fun c2 hc2 => ⟨_, rfl, .inr ⟨_, rfl, c2, _, _, _, rfl, rfl, SqT.of upd_same, rfl, p, a, b9, 63, rfl, by decide, by decide, p10.kp (Kp.new hc2 : Kp [] _ _) (by simp) (by simp), fun r2 H11 r20 r21 k11 p11 => ⟨_, _, rfl, rfl, ?_⟩⟩⟩⟩
    have k911 : Kp [p] H9 H11 := (((Kp.new hc1).trans k10).trans (Kp.new hc2)).trans k11
    have g11 := g9.pool k911 hp5
    have hq11 := k911.get hq9 hqp
    have hps11 := hps9.imp fun _ _ => PrAt.kp k911
    -- the procedure
    obtain ⟨ch, hch, hcm⟩ := at_str (z := "pr") (i := 0 + (i : Int)) (by omega) (by show _ < (2 : Int); omega)
    have hc32 : ch ≠ 32 := fun z => (by decide +kernel : (32 : Nat) ∉ ("pr" : Str).cps.toList) (z ▸ hcm)
    refine ⟨_, rfl, .inl ⟨rfl, _, SqL.of hq11⟩, _, rfl, _, _, ch, rfl, rfl, sz (show 2 ≤ 1000000 by decide), hch, _, rfl, _, rfl, _, rfl, _, _, rfl, g11.dlo, q2, _, rfl, .inl ⟨SqL.of g11.lo, fun lt hlt => ?_⟩⟩
    have klt : Kp [] H11 (upd H11 lt (.tup ((gabc.take (2 + m1).toNat).map V.str))) := Kp.new hlt
    refine ⟨_, rfl, _, rfl, _, rfl, 3, p, a, b9, sd, v, t, l, q2, vars, tabs, lots, _, w9, rfl, rfl, p11.kp klt (by simp) (by simp), g11.kp klt (by simp), hp5, fun e x H12 k12 p12 x12 ge => ⟨sz (show 6 ≤ 1000000 by decide), fun z hz => ?_⟩⟩
    have kz : Kp [] H12 (upd H12 z (.tup [.str ⟨#[ch]⟩, .int (1 + r1), .int (2 + r2), .ref lt, .ref c, x])) := Kp.new hz
    have k9z : Kp [p] H9 (upd H12 z (.tup [.str ⟨#[ch]⟩, .int (1 + r1), .int (2 + r2), .ref lt, .ref c, x])) := ((k911.trans klt.nil).trans k12).trans kz.nil
    have hqz := k9z.get hq9 hqp
    refine ⟨q, ps, .ref z, rfl, rfl, hqz, szl (by have := hps.length; omega), ?_⟩
    have ka : Kp [q] (upd H12 z (.tup [.str ⟨#[ch]⟩, .int (1 + r1), .int (2 + r2), .ref lt, .ref c, x])) (upd (upd H12 z (.tup [.str ⟨#[ch]⟩, .int (1 + r1), .int (2 + r2), .ref lt, .ref c, x])) q (.lst (ps ++ [.ref z]))) := Kp.lst hqz (by simp)
    obtain ⟨l0, ls, els⟩ : ∃ l0 ls, gabc.take (2 + m1).toNat = l0 :: ls := by
      cases e : gabc.take (2 + m1).toNat with
      | nil => exact absurd e hne1
      | cons l0 ls => exact ⟨l0, ls, rfl⟩
    have hprat : PrAt (upd H12 z (.tup [.str ⟨#[ch]⟩, .int (1 + r1), .int (2 + r2), .ref lt, .ref c, x])) ⟨⟨#[ch]⟩, 1 + r1, 2 + r2, l0, ls, bl, e⟩ (.ref z) :=
      ⟨z, lt, c, x, ss, rfl, upd_same, by rw [← els]; exact kz.2 _ _ (k12.2 _ _ upd_same), k9z.2 _ _ hc9, hbl.kp k9z, x12.kp kz, ⟨by show 0 ≤ 1 + r1; omega, by show 1 + r1 < 100000; omega⟩, by show 0 ≤ 2 + r2; omega, by show 2 + r2 < 100000; omega⟩
    have p9z := (p12.kp kz (by simp) (by simp)).kp ka (fun z => hqp (by rw [List.mem_singleton.mp z]; simp)) (fun z => (hpn q hqH).2 (List.mem_singleton.mp z).symm)
    have g9z := ((GBld.of_sc (g9.pool (k911.trans (klt.nil)) hp5) gc.vt gc.vl gc.tl).pool k12 hpo).kp kz (by simp)
    refine ⟨procs ++ [⟨⟨#[ch]⟩, 1 + r1, 2 + r2, l0, ls, bl, e⟩], ps ++ [.ref z], q2, w9, b9, _, _, _, _, _, _, _, rfl, (hk9.trans k9z).off ka hqH, p9z, g9z.kp ka hqx, upd_same, ?_, ?_, fun pr hpr => ?_⟩
    · exact ((hps9.imp fun _ _ => PrAt.kp k9z).imp fun _ _ => PrAt.kp ka).snoc (hprat.kp ka)
    · rw [List.length_append, List.length_singleton]
      omega
    · rcases List.mem_append.mp hpr with hpr | hpr
      · exact hpg pr hpr
      · rw [List.mem_singleton.mp hpr]
        refine ⟨ok_sign hc32, ⟨by show 0 ≤ 1 + r1; omega, by show 1 + r1 < 100000; omega⟩, ⟨by show 0 ≤ 2 + r2; omega, by show 2 + r2 < 100000; omega⟩, fun x hx => hokl x (by rw [els]; exact hx), ?_, gbl, by show (blkW bl).length ≤ 256; have e16 : (16 : Int).toNat = 16 := rfl; omega, ge⟩
        show ls.length ≤ 5
        rw [els, List.length_cons] at hlen
        omega
  · rintro σ Hc ⟨procs, ps, lo', w', b', y5, y6, y7, y8, y9, y11, y12, rfl, kc, pc, gc, hqc, hps, hpl, hpg⟩
    obtain ⟨xs, v1, v2⟩ := gc.fv
    obtain ⟨ys, t1, t2⟩ := gc.ft
    obtain ⟨zs, l1, l2⟩ := gc.fl
    refine ⟨_, rfl, _, _, rfl, gc.dv, v, _, rfl, .inl ⟨SqL.of v1, fun a1 ha1 => ?_⟩⟩
    have g1 := gc.new ha1 (o := .tup xs)
    have c1 : Kp [] Hc (upd Hc a1 (.tup xs)) := Kp.new ha1
    refine ⟨_, rfl, _, _, rfl, g1.dt, t, _, rfl, .inl ⟨SqL.of (c1.get0 t1), fun a2 ha2 => ?_⟩⟩
    have g2 := g1.new ha2 (o := .tup ys)
    have c2 : Kp [] (upd Hc a1 (.tup xs)) (upd (upd Hc a1 (.tup xs)) a2 (.tup ys)) := Kp.new ha2
    refine ⟨_, rfl, _, _, rfl, g2.dl, l, _, rfl, .inl ⟨SqL.of (c2.get0 (c1.get0 l1)), fun a3 ha3 => ?_⟩⟩
    have c3 : Kp [] (upd (upd Hc a1 (.tup xs)) a2 (.tup ys)) (upd (upd (upd Hc a1 (.tup xs)) a2 (.tup ys)) a3 (.tup zs)) := Kp.new ha3
    refine ⟨_, rfl, q, _, rfl, .inl ⟨SqL.of (c3.get0 (c2.get0 (c1.get0 hqc))), fun a4 ha4 => ?_⟩⟩
    have c4 : Kp [] (upd (upd (upd Hc a1 (.tup xs)) a2 (.tup ys)) a3 (.tup zs)) (upd (upd (upd (upd Hc a1 (.tup xs)) a2 (.tup ys)) a3 (.tup zs)) a4 (.tup ps)) := Kp.new ha4
    refine ⟨sz (show 4 ≤ 1000000 by decide), fun z hz => ?_⟩
    have c5 : Kp [] (upd (upd (upd (upd Hc a1 (.tup xs)) a2 (.tup ys)) a3 (.tup zs)) a4 (.tup ps)) (upd (upd (upd (upd (upd Hc a1 (.tup xs)) a2 (.tup ys)) a3 (.tup zs)) a4 (.tup ps)) z (.tup [.ref a1, .ref a2, .ref a3, .ref a4])) := Kp.new hz
    have call := (((c1.trans c2).trans c3).trans c4).trans c5
    refine hQ ⟨vars, tabs, lots, procs⟩ _ _ b' (kc.trans call.nil) (pc.kp call (by simp) (by simp)) ⟨z, a1, a2, a3, a4, xs, ys, zs, ps, rfl, upd_same, c5.get0 (c4.get0 (c3.get0 (c2.get0 upd_same))), v2.imp fun _ _ => RowAt.kp call, c5.get0 (c4.get0 (c3.get0 upd_same)), t2.imp fun _ _ => RowAt.kp call, c5.get0 (c4.get0 upd_same), l2.imp fun _ _ => RowAt.kp call, c5.get0 upd_same, hps.imp fun _ _ => PrAt.kp call⟩ ⟨⟨by show vars.length ≤ 3; omega, hvg⟩, ⟨by show tabs.length ≤ 3; omega, htg⟩, ⟨by show lots.length ≤ 3; omega, fun r hr => (hlg r hr).1⟩, ⟨by show procs.length ≤ 2; omega, hpg⟩⟩
end
end K4

/-! Trees into words: the law's way and the program's. -/
namespace K4
open PySem PySem.Spec PyProof.Rows L2
def spVW (n : Nat) : Sp := fun vs H Q _ => ∃ e v, vs = [v] ∧ exD e < n ∧ ExAt H e v ∧ (exW e).length ≤ 5000 ∧ ∀ l H', Kp [] H H' → H' l = some (.lst ((exW e).map V.str)) → Q (.ref l) H'
def k3 : List V := [.str "number", .str "local", .str "variable"]
theorem k3_signs : ∀ k ∈ signs, inV (.str k) k3 = false := by decide +kernel
theorem hc_signs : ∀ k ∈ signs, ¬ k = "has" ∧ ¬ k = "cell" := by decide +kernel
theorem hc2_signs : ∀ k ∈ signs, inV (.str k) [.str "has", .str "cell"] = false := by decide +kernel
theorem in_no {b : Bool} {x : V} {xs : List V} (h : inV x xs = false) (c : (if false = true then !inV x xs else inV x xs) = true) : False := by
  rw [if_neg Bool.false_ne_true, h] at c
  cases c
theorem in_yes {b : Bool} {x : V} {xs : List V} (h : inV x xs = true) (c : ¬ (if false = true then !inV x xs else inV x xs) = true) : False := by
  rw [if_neg Bool.false_ne_true, h] at c
  exact c rfl
section
variable {P : Program} {w : World} {K : PySem.W.Frag} {mg : Str → Option Value} {base : Heap}
theorem fn_law_value_words1 (T : Txt K mg) {n : Nat} (h_law_value_words : FnP P w K mg base CX0 (1 + n) "_law_value_words" ["_law_due"] (spVW n)) : FnP P w K mg base CX0 (1 + n + 1) "_law_value_words" ["_law_due"] (spVW (n + 1)) := by
  have S : FnScope ["_law_due"] ["_law_due"] (defScope (top 41)) := ⟨rfl, rfl, rfl, by decide +kernel, rfl, by decide +kernel, by decide +kernel⟩
  have nd := S.nd
  refine FnP.of0 T.d_law_value_words T.g_law_value_words S ba_law_value_words (fun vs H Q E h => ?_) (fun cdv A outer s H vs Q E hr h => ?_)
  · obtain ⟨e, v, rfl, _⟩ := h
    rfl
  obtain ⟨e, v, rfl, hn, he, hl, hQ⟩ := h
  refine ⟨_, (pss_cons (ps_if (pt_cmpR op_in_seq (pe_ix ix_tup (pv 0) pe_int (fun _ _ => rfl)) (pe_tup (pa_cons pe_str (pa_cons pe_str (pa_cons pe_str pa_nil)))) (by with_unfolding_all rfl)) (pss_one (ps_ret (pe_lst (pa_cons (pe_callTy call_str_any (by rfl) T.f_str (by decide +kernel) (pa_cons (pe_ix ix_tup (pv 0) pe_int (fun _ _ => rfl)) pa_nil)) pa_nil)))) pss_nil)
    (pss_cons (ps_if (pt_cmpR op_in_seq (pe_ix ix_tup (pv 0) pe_int (fun _ _ => rfl)) (pe_tup (pa_cons pe_str (pa_cons pe_str pa_nil))) (by with_unfolding_all rfl)) (pss_one (ps_ret (pe_op op_cat (pe_lst (pa_cons (pe_ix ix_tup (pv 0) pe_int (fun _ _ => rfl)) (pa_cons (pe_ix ix_tup (pv 0) pe_int (fun _ _ => rfl)) pa_nil))) (pe_cf h_law_value_words hr pass0 (pa_cons (pe_ix ix_tup (pv 0) pe_int (fun _ _ => rfl)) pa_nil))))) pss_nil)
    (pss_one (ps_ret (pe_op op_cat (pe_op op_cat (pe_lst (pa_cons (pe_ix ix_tup (pv 0) pe_int (fun _ _ => rfl)) pa_nil)) (pe_cf h_law_value_words hr pass0 (pa_cons (pe_ix ix_tup (pv 0) pe_int (fun _ _ => rfl)) pa_nil))) (pe_cf h_law_value_words hr pass0 (pa_cons (pe_ix ix_tup (pv 0) pe_int (fun _ _ => rfl)) pa_nil))))))), ?_⟩
  cases e with
  | num m =>
    obtain ⟨a, rfl, ha, hm0, hm1⟩ := he
    refine ⟨_, rfl, a, _, _, _, rfl, rfl, SqT.of ha, rfl, sz (show 3 ≤ 1000000 by decide), fun q hq => ⟨q, _, rfl, .inr (SqT.of upd_same), rfl, rfl, _, rfl, ite2 (fun _ => ?_) (fun c => (in_yes (b := true) (by decide +kernel) c).elim)⟩⟩
    exact ⟨_, rfl, a, _, _, _, rfl, rfl, SqT.of (get_new hq ha), rfl, .inl ⟨_, rfl, log_small hm0 hm1, sz (show 1 ≤ 1000000 by decide), fun l hl => hQ l _ ((Kp.new hq).trans (Kp.new hl)) upd_same⟩⟩
  | loc x =>
    obtain ⟨a, rfl, ha⟩ := he
    refine ⟨_, rfl, a, _, _, _, rfl, rfl, SqT.of ha, rfl, sz (show 3 ≤ 1000000 by decide), fun q hq => ⟨q, _, rfl, .inr (SqT.of upd_same), rfl, rfl, _, rfl, ite2 (fun _ => ?_) (fun c => (in_yes (b := true) (by decide +kernel) c).elim)⟩⟩
    exact ⟨_, rfl, a, _, _, _, rfl, rfl, SqT.of (get_new hq ha), rfl, .inr ⟨_, rfl, sz (show 1 ≤ 1000000 by decide), fun l hl => hQ l _ ((Kp.new hq).trans (Kp.new hl)) upd_same⟩⟩
  | var x =>
    obtain ⟨a, rfl, ha⟩ := he
    refine ⟨_, rfl, a, _, _, _, rfl, rfl, SqT.of ha, rfl, sz (show 3 ≤ 1000000 by decide), fun q hq => ⟨q, _, rfl, .inr (SqT.of upd_same), rfl, rfl, _, rfl, ite2 (fun _ => ?_) (fun c => (in_yes (b := true) (by decide +kernel) c).elim)⟩⟩
    exact ⟨_, rfl, a, _, _, _, rfl, rfl, SqT.of (get_new hq ha), rfl, .inr ⟨_, rfl, sz (show 1 ≤ 1000000 by decide), fun l hl => hQ l _ ((Kp.new hq).trans (Kp.new hl)) upd_same⟩⟩
  | tab k t e =>
    obtain ⟨hk, a, x, rfl, ha, hx⟩ := he
    have hd : exD e < n := by
      have : exD e + 1 < n + 1 := hn
      omega
    have hl' : (exW e).length + 2 ≤ 5000 := hl
    have hno : inV (.str k) k3 = false := by rcases hk with rfl | rfl <;> decide +kernel
    have hyes : inV (.str k) [.str "has", .str "cell"] = true := by rcases hk with rfl | rfl <;> decide +kernel
    refine ⟨_, rfl, a, _, _, _, rfl, rfl, SqT.of ha, rfl, sz (show 3 ≤ 1000000 by decide), fun q hq => ⟨q, _, rfl, .inr (SqT.of upd_same), rfl, rfl, _, rfl, ite2 (fun c => (in_no (b := true) hno c).elim) (fun _ => ?_)⟩⟩
    have ha1 := get_new (u := .tup k3) hq ha
    refine ⟨_, rfl, a, _, _, _, rfl, rfl, SqT.of ha1, rfl, sz (show 2 ≤ 1000000 by decide), fun q2 hq2 => ⟨q2, _, rfl, .inr (SqT.of upd_same), rfl, rfl, _, rfl, ite2 (fun _ => ?_) (fun c => (in_yes (b := true) hyes c).elim)⟩⟩
    have ha2 := get_new (u := .tup [.str "has", .str "cell"]) hq2 ha1
    have k2 : Kp [] H (upd (upd H q (.tup k3)) q2 (.tup [.str "has", .str "cell"])) := (Kp.new hq).trans (Kp.new hq2)
    refine ⟨_, rfl, a, _, _, _, rfl, rfl, SqT.of ha2, rfl, _, rfl, a, _, _, _, rfl, rfl, SqT.of ha2, rfl, sz (show 2 ≤ 1000000 by decide), fun l1 hl1 => ?_⟩
    have k3' : Kp [] H _ := k2.trans (Kp.new (o := .lst [.str k, .str t]) hl1)
    refine ⟨_, rfl, a, _, _, _, rfl, rfl, SqT.of (get_new hl1 ha2), rfl, e, x, rfl, hd, hx.kp k3', by omega, fun l2 H4 k4 h4 => ?_⟩
    refine ⟨l1, l2, _, _, rfl, rfl, k4.get0 upd_same, h4, sz (by rw [List.length_map]; show 2 + _ ≤ _; omega), fun l3 hl3 => ?_⟩
    exact hQ l3 _ ((k3'.trans k4).trans (Kp.new hl3)) upd_same
  | op k e f =>
    obtain ⟨hk, a, x, y, rfl, ha, hx, hy⟩ := he
    have hd : max (exD e) (exD f) + 1 < n + 1 := hn
    have hl' : (k :: (exW e ++ exW f)).length ≤ 5000 := hl
    rw [List.length_cons, List.length_append] at hl'
    refine ⟨_, rfl, a, _, _, _, rfl, rfl, SqT.of ha, rfl, sz (show 3 ≤ 1000000 by decide), fun q hq => ⟨q, _, rfl, .inr (SqT.of upd_same), rfl, rfl, _, rfl, ite2 (fun c => (in_no (b := true) (k3_signs k hk) c).elim) (fun _ => ?_)⟩⟩
    have ha1 := get_new (u := .tup k3) hq ha
    refine ⟨_, rfl, a, _, _, _, rfl, rfl, SqT.of ha1, rfl, sz (show 2 ≤ 1000000 by decide), fun q2 hq2 => ⟨q2, _, rfl, .inr (SqT.of upd_same), rfl, rfl, _, rfl, ite2 (fun c => (in_no (b := true) (hc2_signs k hk) c).elim) (fun _ => ?_)⟩⟩
    have ha2 := get_new (u := .tup [.str "has", .str "cell"]) hq2 ha1
    have k2 : Kp [] H (upd (upd H q (.tup k3)) q2 (.tup [.str "has", .str "cell"])) := (Kp.new hq).trans (Kp.new hq2)
    refine ⟨_, rfl, a, _, _, _, rfl, rfl, SqT.of ha2, rfl, sz (show 1 ≤ 1000000 by decide), fun l1 hl1 => ?_⟩
    have k3' : Kp [] H _ := k2.trans (Kp.new (o := .lst [.str k]) hl1)
    refine ⟨_, rfl, a, _, _, _, rfl, rfl, SqT.of (get_new hl1 ha2), rfl, e, x, rfl, by omega, hx.kp k3', by omega, fun l2 H4 k4 h4 => ?_⟩
    refine ⟨l1, l2, _, _, rfl, rfl, k4.get0 upd_same, h4, sz (by rw [List.length_map]; show 1 + _ ≤ _; omega), fun l3 hl3 => ?_⟩
    have k5 : Kp [] H _ := (k3'.trans k4).trans (Kp.new (o := .lst ([.str k] ++ (exW e).map V.str)) hl3)
    refine ⟨_, rfl, a, _, _, _, rfl, rfl, SqT.of (k5.2 _ _ ha), rfl, f, y, rfl, by omega, hy.kp k5, by omega, fun l4 H6 k6 h6 => ?_⟩
    refine ⟨l3, l4, _, _, rfl, rfl, k6.get0 upd_same, h6, sz (by rw [List.length_map, List.length_append, List.length_map]; show 1 + _ + _ ≤ _; omega), fun l5 hl5 => ?_⟩
    refine hQ l5 _ ((k5.trans k6).trans (Kp.new hl5)) ?_
    rw [upd_same]
    simp only [exW, List.map_cons, List.map_append, List.cons_append, List.nil_append]
theorem fn_law_value_words (T : Txt K mg) : ∀ n : Nat, FnP P w K mg base CX0 (1 + n) "_law_value_words" ["_law_due"] (spVW n)
  | 0 => FnP.no T.d_law_value_words T.g_law_value_words ba_law_value_words fun vs H Q E ⟨e, _, _, h, _⟩ => by omega
  | n + 1 => fn_law_value_words1 T (fn_law_value_words T n)
theorem fn_expression_words1 (T : Txt K mg) {n : Nat} (h_expression_words : FnP P w K mg base CX0 (1 + n) "expression_words" ["expression"] (spVW n)) : FnP P w K mg base CX0 (1 + n + 1) "expression_words" ["expression"] (spVW (n + 1)) := by
  have S : FnScope ["expression", "kind"] ["expression"] (defScope (top 27)) := ⟨rfl, rfl, rfl, by decide +kernel, rfl, by decide +kernel, by decide +kernel⟩
  have nd := S.nd
  refine FnP.of0 T.d_expression_words T.g_expression_words S ba_expression_words (fun vs H Q E h => ?_) (fun cdv A outer s H vs Q E hr h => ?_)
  · obtain ⟨e, v, rfl, _⟩ := h
    rfl
  obtain ⟨e, v, rfl, hn, he, hl, hQ⟩ := h
  refine ⟨_, (pss_cons (ps_set (i := 1) nd rfl (Or.inl rfl) (pe_ix ix_tup (pv 0) pe_int (fun _ _ => rfl)))
    (pss_cons (ps_if (pt_cmpR op_in_seq (pv 1) (pe_tup (pa_cons pe_str (pa_cons pe_str (pa_cons pe_str pa_nil)))) (by with_unfolding_all rfl)) (pss_one (ps_ret (pe_lst (pa_cons (pe_callTy call_str_any (by rfl) T.f_str (by decide +kernel) (pa_cons (pe_ix ix_tup (pv 0) pe_int (fun _ _ => rfl)) pa_nil)) pa_nil)))) pss_nil)
    (pss_cons (ps_if (PW.pt (pw_or (pt_cmpR op_eq (pv 1) pe_str (nomark _)) (pw_or1 (pt_cmpR op_eq (pv 1) pe_str (nomark _))))) (pss_one (ps_ret (pe_op op_cat (pe_lst (pa_cons (pv 1) (pa_cons (pe_ix ix_tup (pv 0) pe_int (fun _ _ => rfl)) pa_nil))) (pe_cf h_expression_words hr pass0 (pa_cons (pe_ix ix_tup (pv 0) pe_int (fun _ _ => rfl)) pa_nil))))) pss_nil)
    (pss_one (ps_ret (pe_op op_cat (pe_op op_cat (pe_lst (pa_cons (pv 1) pa_nil)) (pe_cf h_expression_words hr pass0 (pa_cons (pe_ix ix_tup (pv 0) pe_int (fun _ _ => rfl)) pa_nil))) (pe_cf h_expression_words hr pass0 (pa_cons (pe_ix ix_tup (pv 0) pe_int (fun _ _ => rfl)) pa_nil)))))))), ?_⟩
  cases e with
  | num m =>
    obtain ⟨a, rfl, ha, hm0, hm1⟩ := he
    refine ⟨_, rfl, a, _, _, _, rfl, rfl, SqT.of ha, rfl, ?_⟩
    refine ⟨_, rfl, sz (show 3 ≤ 1000000 by decide), fun q hq => ⟨q, _, rfl, .inr (SqT.of upd_same), rfl, rfl, _, rfl, ite2 (fun _ => ?_) (fun c => (in_yes (b := true) (by decide +kernel) c).elim)⟩⟩
    exact ⟨_, rfl, a, _, _, _, rfl, rfl, SqT.of (get_new hq ha), rfl, .inl ⟨_, rfl, log_small hm0 hm1, sz (show 1 ≤ 1000000 by decide), fun l hl => hQ l _ ((Kp.new hq).trans (Kp.new hl)) upd_same⟩⟩
  | loc x =>
    obtain ⟨a, rfl, ha⟩ := he
    refine ⟨_, rfl, a, _, _, _, rfl, rfl, SqT.of ha, rfl, ?_⟩
    refine ⟨_, rfl, sz (show 3 ≤ 1000000 by decide), fun q hq => ⟨q, _, rfl, .inr (SqT.of upd_same), rfl, rfl, _, rfl, ite2 (fun _ => ?_) (fun c => (in_yes (b := true) (by decide +kernel) c).elim)⟩⟩
    exact ⟨_, rfl, a, _, _, _, rfl, rfl, SqT.of (get_new hq ha), rfl, .inr ⟨_, rfl, sz (show 1 ≤ 1000000 by decide), fun l hl => hQ l _ ((Kp.new hq).trans (Kp.new hl)) upd_same⟩⟩
  | var x =>
    obtain ⟨a, rfl, ha⟩ := he
    refine ⟨_, rfl, a, _, _, _, rfl, rfl, SqT.of ha, rfl, ?_⟩
    refine ⟨_, rfl, sz (show 3 ≤ 1000000 by decide), fun q hq => ⟨q, _, rfl, .inr (SqT.of upd_same), rfl, rfl, _, rfl, ite2 (fun _ => ?_) (fun c => (in_yes (b := true) (by decide +kernel) c).elim)⟩⟩
    exact ⟨_, rfl, a, _, _, _, rfl, rfl, SqT.of (get_new hq ha), rfl, .inr ⟨_, rfl, sz (show 1 ≤ 1000000 by decide), fun l hl => hQ l _ ((Kp.new hq).trans (Kp.new hl)) upd_same⟩⟩
  | tab k t e =>
    obtain ⟨hk, a, x, rfl, ha, hx⟩ := he
    have hd : exD e < n := by
      have : exD e + 1 < n + 1 := hn
      omega
    have hl' : (exW e).length + 2 ≤ 5000 := hl
    have hno : inV (.str k) k3 = false := by rcases hk with rfl | rfl <;> decide +kernel
    refine ⟨_, rfl, a, _, _, _, rfl, rfl, SqT.of ha, rfl, ?_⟩
    refine ⟨_, rfl, sz (show 3 ≤ 1000000 by decide), fun q hq => ⟨q, _, rfl, .inr (SqT.of upd_same), rfl, rfl, _, rfl, ite2 (fun c => (in_no (b := true) hno c).elim) (fun _ => ?_)⟩⟩
    have ha1 := get_new (u := .tup k3) hq ha
    have k2 : Kp [] H (upd H q (.tup k3)) := Kp.new hq
    refine nx_ (seq_if0 (b := true) ?_ (fun _ => ?_) (fun z => by cases z))
    · rcases hk with rfl | rfl
      · exact fun Q q => ⟨_, rfl, rfl, true, by decide +kernel, iteT q⟩
      · exact fun Q q => ⟨_, rfl, rfl, false, by decide +kernel, iteF ⟨_, rfl, rfl, true, by decide +kernel, q⟩⟩
    refine ⟨_, rfl, _, rfl, a, _, _, _, rfl, rfl, SqT.of ha1, rfl, sz (show 2 ≤ 1000000 by decide), fun l1 hl1 => ?_⟩
    have k3' : Kp [] H _ := k2.trans (Kp.new (o := .lst [.str k, .str t]) hl1)
    refine ⟨_, rfl, a, _, _, _, rfl, rfl, SqT.of (get_new hl1 ha1), rfl, e, x, rfl, hd, hx.kp k3', by omega, fun l2 H4 k4 h4 => ?_⟩
    refine ⟨l1, l2, _, _, rfl, rfl, k4.get0 upd_same, h4, sz (by rw [List.length_map]; show 2 + _ ≤ _; omega), fun l3 hl3 => ?_⟩
    exact hQ l3 _ ((k3'.trans k4).trans (Kp.new hl3)) upd_same
  | op k e f =>
    obtain ⟨hk, a, x, y, rfl, ha, hx, hy⟩ := he
    have hd : max (exD e) (exD f) + 1 < n + 1 := hn
    have hl' : (k :: (exW e ++ exW f)).length ≤ 5000 := hl
    rw [List.length_cons, List.length_append] at hl'
    obtain ⟨hc1, hc2⟩ := hc_signs k hk
    refine ⟨_, rfl, a, _, _, _, rfl, rfl, SqT.of ha, rfl, ?_⟩
    refine ⟨_, rfl, sz (show 3 ≤ 1000000 by decide), fun q hq => ⟨q, _, rfl, .inr (SqT.of upd_same), rfl, rfl, _, rfl, ite2 (fun c => (in_no (b := true) (k3_signs k hk) c).elim) (fun _ => ?_)⟩⟩
    have ha1 := get_new (u := .tup k3) hq ha
    have k2 : Kp [] H (upd H q (.tup k3)) := Kp.new hq
    refine nx_ (seq_if0 (b := false) (fun Q q => ⟨_, rfl, rfl, false, ?_, iteF ⟨_, rfl, rfl, false, ?_, q⟩⟩) (fun z => by cases z) (fun _ => ?_))
    · rw [decide_eq_false (show ¬ V.str k = V.str "has" from fun z => hc1 (V.str.inj z))]
    · rw [decide_eq_false (show ¬ V.str k = V.str "cell" from fun z => hc2 (V.str.inj z))]
    refine ⟨_, rfl, sz (show 1 ≤ 1000000 by decide), fun l1 hl1 => ?_⟩
    have k3' : Kp [] H _ := k2.trans (Kp.new (o := .lst [.str k]) hl1)
    refine ⟨_, rfl, a, _, _, _, rfl, rfl, SqT.of (get_new hl1 ha1), rfl, e, x, rfl, by omega, hx.kp k3', by omega, fun l2 H4 k4 h4 => ?_⟩
    refine ⟨l1, l2, _, _, rfl, rfl, k4.get0 upd_same, h4, sz (by rw [List.length_map]; show 1 + _ ≤ _; omega), fun l3 hl3 => ?_⟩
    have k5 : Kp [] H _ := (k3'.trans k4).trans (Kp.new (o := .lst ([.str k] ++ (exW e).map V.str)) hl3)
    refine ⟨_, rfl, a, _, _, _, rfl, rfl, SqT.of (k5.2 _ _ ha), rfl, f, y, rfl, by omega, hy.kp k5, by omega, fun l4 H6 k6 h6 => ?_⟩
    refine ⟨l3, l4, _, _, rfl, rfl, k6.get0 upd_same, h6, sz (by rw [List.length_map, List.length_append, List.length_map]; show 1 + _ + _ ≤ _; omega), fun l5 hl5 => ?_⟩
    refine hQ l5 _ ((k5.trans k6).trans (Kp.new hl5)) ?_
    rw [upd_same]
    simp only [exW, List.map_cons, List.map_append, List.cons_append, List.nil_append]
theorem fn_expression_words (T : Txt K mg) : ∀ n : Nat, FnP P w K mg base CX0 (1 + n) "expression_words" ["expression"] (spVW n)
  | 0 => FnP.no T.d_expression_words T.g_expression_words ba_expression_words fun vs H Q E ⟨e, _, _, h, _⟩ => by omega
  | n + 1 => fn_expression_words1 T (fn_expression_words T n)
end
end K4

set_option maxHeartbeats 4000000
/-! Rules for what a reading evaluates to, beyond the kit's. -/
namespace K4
open PySem PySem.Spec PyProof.Rows L2 Evl
theorem bn_t' {b : Bool} (h : (!b) = true) : b = false := by cases b <;> first | rfl | cases h
theorem bn_f' {b : Bool} (h : (!b) = false) : b = true := by cases b <;> first | rfl | cases h
section
variable {S : List Addr} {H H' H1 : Hp} {σ : L2.St} {K : PySem.W.Frag} {ta tb tc te : TE} {x y z v : V} {r r' : R2} {t u : TT} {D : Ends} {tu tw tz : TS} {g : TG}
theorem kp_ex (e : Evl.Ex H H') : Kp S H H' := ⟨fun b o _ h => e b o h, fun b xs h => e b _ h⟩
theorem ex_kp (k : Kp [] H H') : Evl.Ex H H' := fun b o h => k.get0 h
theorem inV_str {w : Str} : ∀ {l : List Str}, inV (.str w) (l.map V.str) = decide (w ∈ l)
  | [] => rfl
  | a :: l => by
    have e : inV (.str w) ((a :: l).map V.str) = ((a == w) || inV (.str w) (l.map V.str)) := rfl
    rw [e, inV_str (l := l)]
    by_cases h : a = w
    · subst h
      simp
    · have h' : ¬ w = a := fun z => h z.symm
      rw [beq_eq_false_iff_ne.mpr h, Bool.false_or]
      by_cases h2 : w ∈ l
      · rw [decide_eq_true h2, decide_eq_true (List.mem_cons_of_mem _ h2)]
      · rw [decide_eq_false h2, decide_eq_false]
        intro z
        rcases List.mem_cons.mp z with z | z
        · exact h' z
        · exact h2 z
theorem flat_str : ∀ {l : List Str}, (l.map V.str).all flatV = true
  | [] => rfl
  | a :: l => by
    rw [List.map_cons, List.all_cons, flat_str (l := l)]
    rfl
theorem for_str {s : Str} (Pv : Nat → L2.St → Hp → Prop) (h0 : Pv 0 σ H) (hs : ∀ i c σ H, s.cps[i]? = some c → Pv i σ H → g (.str ⟨#[c]⟩) σ H fun σ2 H2 => tu { D with nx := Pv (i + 1), ct := Pv (i + 1), bk := D.nx } σ2 H2) (hd : ∀ σ H, Pv s.cps.size σ H → D.nx σ H) :
    ∃ W : Nat → Nat → L2.St → Hp → Prop, (∃ m, W 0 m σ H) ∧ ∀ i m σ H, W i m σ H →
      ((Its s).stop i H ∧ D.nx σ H) ∨ ((Its s).go i H ∧ ∃ N : L2.St → Hp → Prop, (∀ σ' H', N σ' H' → ∃ m', m' < m ∧ W (i + 1) m' σ' H') ∧ ∀ x H', (Its s).yld i H x H' → g x σ H' fun σ2 H2 => tu { D with nx := N, ct := N, bk := D.nx } σ2 H2) := by
  refine ⟨fun i m σ H => m = s.cps.size - i ∧ i ≤ s.cps.size ∧ Pv i σ H, ⟨s.cps.size, by simp, Nat.zero_le _, h0⟩, ?_⟩
  rintro i m σ H ⟨rfl, hi, p⟩
  by_cases hlt : i < s.cps.size
  · refine .inr ⟨hlt, Pv (i + 1), fun σ' H' p' => ⟨s.cps.size - (i + 1), by omega, rfl, hlt, p'⟩, fun x H' y => ?_⟩
    obtain ⟨e, c, hc, y⟩ := y
    subst e y
    exact hs i c σ _ hc p
  · have e : i = s.cps.size := by omega
    subst e
    exact .inl ⟨Nat.le_refl _, hd σ H p⟩
/-- for char in text -/
theorem q_forS {s : Str} {tl : TE} (h : Ev tl σ H (.str s)) (Pv : Nat → L2.St → Hp → Prop) (h0 : ∀ H1, Evl.Ex H H1 → Pv 0 σ H1)
    (hs : ∀ i c σ' H', s.cps[i]? = some c → Pv i σ' H' → g (.str ⟨#[c]⟩) σ' H' fun σ2 H2 => tu { D with nx := Pv (i + 1), ct := Pv (i + 1), bk := tz D } σ2 H2) (hd : ∀ σ' H', Pv s.cps.size σ' H' → tz D σ' H') : tSeq (tFor (iStr tl) g tu) tz D σ H :=
  h H (Evl.Ex.refl H) _ fun H1 e => ⟨s, rfl, for_str (D := { D with nx := tz D }) Pv (h0 H1 e) hs hd⟩
theorem q_forTn {a : Addr} {xs : List V} {tl : TE} {j : Nat} (h : Ev tl σ H (.ref a)) (hx : SqT K H a xs) (Pv : Nat → L2.St → Hp → Prop) (h0 : ∀ H1, Evl.Ex H H1 → Pv 0 σ H1) (hl : ∀ i σ' H', i ≤ xs.length → Pv i σ' H' → SqT K H' a xs)
    (hs : ∀ i x σ' H', xs[i]? = some x → Pv i σ' H' → tu { D with nx := Pv (i + 1), ct := Pv (i + 1), bk := tz D } (σ'.set j (some x)) H') (hd : ∀ σ' H', Pv xs.length σ' H' → tz D σ' H') : tSeq (tFor (iTup K tl) (gName j) tu) tz D σ H :=
  q_forT h hx Pv h0 hl hs hd
theorem ev_chain {a b : Bool} (ha : Ev ta σ H x) (hb : Ev tb σ H y) (h1 : RV r x y H (.bl a)) (hc : a = true → Ev tc σ H z) (h2 : a = true → RV r' y z H (.bl b)) : Ev (tChain r r' ta tb tc) σ H (.bl (a && b)) := fun H1 e Q q =>
  ha H1 e _ fun H2 e2 => hb H2 (e.trans e2) _ fun H3 e3 => h1 H3 ((e.trans e2).trans e3) _ fun H4 e4 => ⟨a, rfl, by
    have eH := ((e.trans e2).trans e3).trans e4
    cases a with
    | false => exact ite_ff (q H4 ((e2.trans e3).trans e4))
    | true => exact ite_tt (hc rfl H4 eH _ fun H5 e5 => h2 rfl H5 (eH.trans e5) Q fun H6 e6 => q H6 (((e2.trans e3).trans e4).trans (e5.trans e6)))⟩
abbrev rLeS : R2 := fun x y H Q => ∃ i j, x = .str i ∧ y = .str j ∧ Q (.bl (!decide (j.cps.toList < i.cps.toList))) H
theorem rv_leS {i j : Str} : RV rLeS (.str i) (.str j) H (.bl (!decide (j.cps.toList < i.cps.toList))) := fun H1 _ _ q => ⟨i, j, rfl, rfl, q H1 (Evl.Ex.refl H1)⟩
theorem le_sign (a b : Nat) : (!decide ((⟨#[b]⟩ : Str).cps.toList < (⟨#[a]⟩ : Str).cps.toList)) = decide (a ≤ b) := by
  show (!decide ([b] < [a])) = decide (a ≤ b)
  by_cases h : a ≤ b
  · rw [decide_eq_true h, decide_eq_false]
    · rfl
    · intro z
      cases z with
      | rel z => omega
      | cons z => cases z
  · rw [decide_eq_false h, decide_eq_true]
    · rfl
    · exact List.Lex.rel (by omega)
/-- 'a' <= char <= 'z' -/
theorem ev_between {a b c : Nat} (hb : Ev tb σ H (.str ⟨#[c]⟩)) : Ev (tChain rLeS rLeS (tC (.str ⟨#[a]⟩)) tb (tC (.str ⟨#[b]⟩))) σ H (.bl (decide (a ≤ c) && decide (c ≤ b))) := by
  have h := ev_chain (r := rLeS) (r' := rLeS) (σ := σ) (H := H) (ev_c (v := .str ⟨#[a]⟩)) hb rv_leS (fun _ => ev_c (v := .str ⟨#[b]⟩)) (fun _ => rv_leS)
  rw [le_sign, le_sign] at h
  exact h
theorem rc_lenS {s : Str} (h : s.length ≤ 1000000) : RC (fun xs H Q => ∃ x n, xs = [x] ∧ LenV K x H n ∧ Q (.int n) H) [.str s] H (.int (s.length : Int)) := fun H1 _ _ q => ⟨_, _, rfl, ⟨sz h, rfl⟩, q H1 (Evl.Ex.refl H1)⟩
theorem rc_lenL {p : Addr} {xs : List V} (h : SqL K H p xs) : RC (fun xs H Q => ∃ x n, xs = [x] ∧ LenV K x H n ∧ Q (.int n) H) [.ref p] H (.int (xs.length : Int)) := fun H1 e _ q => ⟨_, _, rfl, .inl ⟨xs, ex_l e h, rfl⟩, q H1 (Evl.Ex.refl H1)⟩
theorem rc_lenT {p : Addr} {xs : List V} (h : SqT K H p xs) : RC (fun xs H Q => ∃ x n, xs = [x] ∧ LenV K x H n ∧ Q (.int n) H) [.ref p] H (.int (xs.length : Int)) := fun H1 e _ q => ⟨_, _, rfl, .inr ⟨xs, ex_t e h, rfl⟩, q H1 (Evl.Ex.refl H1)⟩
/-- len(x) as a reading -/
theorem ev_lens {s : Str} (ha : Ev ta σ H (.str s)) (h : s.length ≤ 1000000) : Ev (tCB (fun xs H Q => ∃ x n, xs = [x] ∧ LenV K x H n ∧ Q (.int n) H) (tCons ta tNil)) σ H (.int (s.length : Int)) := ev_cb (ea_cons ha ea_nil) (rc_lenS h)
theorem ev_lenl {p : Addr} {xs : List V} (ha : Ev ta σ H (.ref p)) (h : SqL K H p xs) : Ev (tCB (fun xs H Q => ∃ x n, xs = [x] ∧ LenV K x H n ∧ Q (.int n) H) (tCons ta tNil)) σ H (.int (xs.length : Int)) := ev_cb (ea_cons ha ea_nil) (rc_lenL h)
theorem ev_lent {p : Addr} {xs : List V} (ha : Ev ta σ H (.ref p)) (h : SqT K H p xs) : Ev (tCB (fun xs H Q => ∃ x n, xs = [x] ∧ LenV K x H n ∧ Q (.int n) H) (tCons ta tNil)) σ H (.int (xs.length : Int)) := ev_cb (ea_cons ha ea_nil) (rc_lenT h)
theorem dget_ex {d : Addr} {k : Key} {kvs : List (Key × V)} (h : H d = some (.dK kvs)) (hv : valV kvs k = some v) : ∀ H1, Evl.Ex H H1 → DGet H1 d (kV k) (some v) := fun H1 e => by
  rw [← hv]
  exact DGet.k (e _ _ h)
theorem ev_dget {d : Addr} (ha : Ev ta σ H (.ref d)) (hb : Ev tb σ H y) (h : ∀ H1, Evl.Ex H H1 → DGet H1 d y (some v)) : Ev (tDGet ta tb) σ H v := fun H1 e Q q =>
  ha H1 e _ fun H2 e2 => hb H2 (e.trans e2) _ fun H3 e3 => ⟨d, v, rfl, h H3 ((e.trans e2).trans e3), q H3 (e2.trans e3)⟩
theorem ev_lenD {p : Addr} {xs : List V} (ha : Ev ta σ H (.ref p)) (h : SqL K H p xs ∨ SqT K H p xs) : Ev (tCB (fun xs H Q => ∃ x n, xs = [x] ∧ LenV K x H n ∧ Q (.int n) H) (tCons ta tNil)) σ H (.int (xs.length : Int)) := by
  rcases h with h | h
  · exact ev_lenl ha h
  · exact ev_lent ha h
/-- l.extend(xs), xs a new list -/
theorem q_ext {l : Addr} {xs ys : List V} (hl : H l = some (.lst xs)) (ha : Ev ta σ H (.ref l)) (h : EvL te σ H ys) (hz : xs.length + ys.length ≤ 1000000) (k : ∀ H1, Evl.Ex H H1 → tz D σ (upd H1 l (.lst (xs ++ ys)))) :
    tSeq (tDrop (tBM K "list" rExtend ta (tCons te tNil))) tz D σ H := ha H (Evl.Ex.refl H) _ fun H1 e1 =>
  ⟨Or.inl ⟨rfl, xs, sq_of (e1 l _ hl)⟩, h H1 e1 _ fun p H2 _ e2 h2 => ⟨l, p, xs, ys, rfl, rfl, e2 l _ (e1 l _ hl), h2, sz hz, k H2 (e1.trans e2)⟩⟩
theorem s_ext {l : Addr} {xs ys : List V} (hl : H l = some (.lst xs)) (ha : Ev ta σ H (.ref l)) (h : EvL te σ H ys) (hz : xs.length + ys.length ≤ 1000000) (k : ∀ H1, Evl.Ex H H1 → D.nx σ (upd H1 l (.lst (xs ++ ys)))) :
    tDrop (tBM K "list" rExtend ta (tCons te tNil)) D σ H := ha H (Evl.Ex.refl H) _ fun H1 e1 =>
  ⟨Or.inl ⟨rfl, xs, sq_of (e1 l _ hl)⟩, h H1 e1 _ fun p H2 _ e2 h2 => ⟨l, p, xs, ys, rfl, rfl, e2 l _ (e1 l _ hl), h2, sz hz, k H2 (e1.trans e2)⟩⟩
theorem et_eq (ha : Ev ta σ H x) (hb : Ev tb σ H y) (h : scal x y = true) : EvT (tTest (tOp rEq ta tb)) σ H (decide (x = y)) := et_test (ev_op ha hb (rv_eq h))
theorem et_eqS {a b : Str} (ha : Ev ta σ H (.str a)) (hb : Ev tb σ H (.str b)) : EvT (tTest (tOp rEq ta tb)) σ H (decide (a = b)) := by
  have h := et_eq ha hb rfl
  refine et_is h ?_
  by_cases e : a = b
  · rw [decide_eq_true e, decide_eq_true (congrArg V.str e)]
  · rw [decide_eq_false e, decide_eq_false fun z => e (V.str.inj z)]
theorem ev_eqS {a b : Str} (ha : Ev ta σ H (.str a)) (hb : Ev tb σ H (.str b)) : Ev (tOp rEq ta tb) σ H (.bl (decide (a = b))) := by
  have h := ev_op ha hb (rv_eq (H := H) (show scal (.str a) (.str b) = true from rfl))
  refine ev_is h (congrArg V.bl ?_)
  by_cases e : a = b
  · rw [decide_eq_true e, decide_eq_true (congrArg V.str e)]
  · rw [decide_eq_false e, decide_eq_false fun z => e (V.str.inj z)]
theorem et_neS {a b : Str} (ha : Ev ta σ H (.str a)) (hb : Ev tb σ H (.str b)) : EvT (tTest (tOp rNe ta tb)) σ H (!decide (a = b)) := by
  refine et_is (et_test (ev_op ha hb (rv_ne (H := H) (show scal (.str a) (.str b) = true from rfl)))) (congrArg Bool.not ?_)
  by_cases e : a = b
  · rw [decide_eq_true e, decide_eq_true (congrArg V.str e)]
  · rw [decide_eq_false e, decide_eq_false fun z => e (V.str.inj z)]
/-- w in (k1, k2, ..) -/
theorem ev_inS {w : Str} {l : List Str} (ha : Ev ta σ H (.str w)) (hb : EvU tb σ H (l.map V.str)) : Ev (tOp (rIn K false) ta tb) σ H (.bl (decide (w ∈ l))) := by
  rw [← inV_str]
  exact ev_inU ha hb rfl flat_str
theorem ev_inLS {w : Str} {p : Addr} {l : List Str} (ha : Ev ta σ H (.str w)) (hb : Ev tb σ H (.ref p)) (h : SqL K H p (l.map V.str)) : Ev (tOp (rIn K false) ta tb) σ H (.bl (decide (w ∈ l))) := by
  rw [← inV_str]
  exact ev_op ha hb (rv_isL h rfl flat_str)
theorem ev_inTS {w : Str} {p : Addr} {l : List Str} (ha : Ev ta σ H (.str w)) (hb : Ev tb σ H (.ref p)) (h : SqT K H p (l.map V.str)) : Ev (tOp (rIn K false) ta tb) σ H (.bl (decide (w ∈ l))) := by
  rw [← inV_str]
  exact ev_op ha hb (rv_isT h rfl flat_str)
theorem ev_niLS {w : Str} {p : Addr} {l : List Str} (ha : Ev ta σ H (.str w)) (hb : Ev tb σ H (.ref p)) (h : SqL K H p (l.map V.str)) : Ev (tOp (rIn K true) ta tb) σ H (.bl (!decide (w ∈ l))) := by
  rw [← inV_str]
  exact ev_op ha hb (rv_niL h rfl flat_str)
theorem et_orT (h : EvT t σ H true) : EvT (tOr t u) σ H true := et_or (b := true) h fun z => by cases z
theorem et_andF (h : EvT t σ H false) : EvT (tAnd t u) σ H false := et_and (b := true) h fun z => by cases z
theorem et_orF {b : Bool} (h : EvT t σ H false) (h2 : EvT u σ H b) : EvT (tOr t u) σ H b := et_or h fun _ => h2
theorem et_andT {b : Bool} (h : EvT t σ H true) (h2 : EvT u σ H b) : EvT (tAnd t u) σ H b := et_and h fun _ => h2
theorem ev_orVT (h : Ev ta σ H (.bl true)) : Ev (tOrV ta tb) σ H (.bl true) := ev_orV (b := true) h fun z => by cases z
theorem ev_andVF (h : Ev ta σ H (.bl false)) : Ev (tAndV ta tb) σ H (.bl false) := ev_andV (b := true) h fun z => by cases z
theorem ev_orVF {b : Bool} (h : Ev ta σ H (.bl false)) (h2 : Ev tb σ H (.bl b)) : Ev (tOrV ta tb) σ H (.bl b) := ev_orV h fun _ => h2
theorem ev_andVT {b : Bool} (h : Ev ta σ H (.bl true)) (h2 : Ev tb σ H (.bl b)) : Ev (tAndV ta tb) σ H (.bl b) := ev_andV h fun _ => h2
/-- a test whose answer is told apart -/
theorem q_whenS {b : Bool} (h : EvT t σ H b) (h1 : b = true → ∀ H1, Evl.Ex H H1 → tu { D with nx := tz D } σ H1) (h2 : b = false → ∀ H1, Evl.Ex H H1 → tz D σ H1) : tSeq (tIfS t tu tNext) tz D σ H := q_when h h1 h2
end
end K4

set_option maxHeartbeats 8000000
/-! Blocks into words: the law's way and the program's. -/
namespace K4
open PySem PySem.Spec PyProof.Rows L2 Evl
/-- a list of these items, old or new -/
def EvW (te : TE) (σ : L2.St) (H : Hp) (xs : List V) : Prop := ∀ H1, Evl.Ex H H1 → ∀ Q : VK, (∀ p H2, Evl.Ex H1 H2 → H2 p = some (.lst xs) → Q (.ref p) H2) → te σ H1 Q
def SpW (sp : Sp) (vs : List V) (H : Hp) (xs : List V) : Prop := ∀ H1, Evl.Ex H H1 → ∀ Q : VK, (∀ p H2, Evl.Ex H1 H2 → H2 p = some (.lst xs) → Q (.ref p) H2) → ∀ E : XK, sp vs H1 Q E
section
variable {H H' H1 : Hp} {σ : L2.St} {K : PySem.W.Frag} {ta tb te : TE} {x y z v : V} {xs ys vs : List V} {tu : TA} {D : Ends} {tz : TS}
theorem ew_L (h : EvL te σ H xs) : EvW te σ H xs := fun H1 e Q q => h H1 e Q fun p H2 _ => q p H2
theorem ew_R {p : Addr} (h : Ev te σ H (.ref p)) (hp : H p = some (.lst xs)) : EvW te σ H xs := fun H1 e Q q => h H1 e Q fun H2 e2 => q p H2 e2 (e2 _ _ (e _ _ hp))
theorem ew_lst (h : EvA tu σ H vs) (hl : vs.length ≤ 100000) : EvW (tLst tu) σ H vs := ew_L (el_lst h hl)
theorem el_cat (ha : EvW ta σ H xs) (hb : EvW tb σ H ys) (hz : xs.length + ys.length ≤ 1000000) : EvL (tOp rCat ta tb) σ H (xs ++ ys) := fun H1 e Q k =>
  ha H1 e _ fun p H2 e2 hp => hb H2 (e.trans e2) _ fun q H3 e3 hq => ⟨p, q, xs, ys, rfl, rfl, e3 _ _ hp, hq, sz hz, fun r hr => k r _ (fresh_back (e2.trans e3) hr) ((e2.trans e3).trans (Evl.Ex.new hr)) upd_same⟩
theorem ew_cat (ha : EvW ta σ H xs) (hb : EvW tb σ H ys) (hz : xs.length + ys.length ≤ 1000000) : EvW (tOp rCat ta tb) σ H (xs ++ ys) := ew_L (el_cat ha hb hz)
theorem ew_call {sp : Sp} {dvs : List V} {E : XK} (h : EvA tu σ H vs) (hs : SpW sp (vs ++ dvs) H xs) : EvW (tCall sp dvs E tu) σ H xs := fun H1 e Q q =>
  h H1 e _ fun H2 e2 => hs H2 (e.trans e2) Q (fun p H3 e3 => q p H3 (e2.trans e3)) E
theorem ew_lslT {a : Addr} {tl th : TO} {lo hi : Option Int} (h : Ev te σ H (.ref a)) (h1 : EvO tl σ H lo) (h2 : EvO th σ H hi) (hs : SqT K H a xs) (hne : ¬ (HT.sIx xs.length 0 lo = 0 ∧ HT.sIx xs.length xs.length hi = xs.length)) :
    EvW (tCB (fun xs H Q => ∃ p ys, xs = [.ref p] ∧ (SqL K H p ys ∨ SqT K H p ys) ∧ ∀ l, H l = none → Q (.ref l) (upd H l (.lst ys))) (tCons (tSl (rSlT K) te tl th) tNil)) σ H (cutV xs lo hi) := fun H1 e Q q =>
  h H1 e _ fun H2 e2 => h1 H2 (e.trans e2) _ fun H3 e3 => h2 H3 ((e.trans e2).trans e3) _ fun H4 e4 => ⟨a, xs, rfl, ex_t (((e.trans e2).trans e3).trans e4) hs, hne, fun p hp =>
    ⟨p, _, rfl, .inr (st_of upd_same), fun l hl => q l _ (((((e2.trans e3).trans e4).trans (Evl.Ex.new hp)).trans (Evl.Ex.new hl))) upd_same⟩⟩
theorem s_asgW {i : Nat} (h : EvW te σ H xs) (k : ∀ p H1, Evl.Ex H H1 → H1 p = some (.lst xs) → D.nx (σ.set i (some (.ref p))) H1) : tAsg te (gName i) D σ H := h H (Evl.Ex.refl H) _ fun p H1 e h1 => k p H1 e h1
theorem s_retW (h : EvW te σ H xs) (k : ∀ p H1, Evl.Ex H H1 → H1 p = some (.lst xs) → D.rt (.ref p) H1) : tRet te D σ H := h H (Evl.Ex.refl H) _ fun p H1 e h1 => k p H1 e h1
/-- l.extend(xs) -/
theorem s_extW {l : Addr} (hl : H l = some (.lst xs)) (ha : Ev ta σ H (.ref l)) (h : EvW te σ H ys) (hz : xs.length + ys.length ≤ 1000000) (k : ∀ H1, Evl.Ex H H1 → D.nx σ (upd H1 l (.lst (xs ++ ys)))) :
    tDrop (tBM K "list" rExtend ta (tCons te tNil)) D σ H := ha H (Evl.Ex.refl H) _ fun H1 e1 =>
  ⟨Or.inl ⟨rfl, xs, sq_of (e1 l _ hl)⟩, h H1 e1 _ fun p H2 e2 h2 => ⟨l, p, xs, ys, rfl, rfl, e2 l _ (e1 l _ hl), h2, sz hz, k H2 (e1.trans e2)⟩⟩
/-- an item of a tuple -/
theorem ev_ixT {p : Addr} {i : Int} (ha : Ev ta σ H (.ref p)) (hi : Ev tb σ H (.int i)) (h : SqT K H p xs) (hx : atI xs i = some v) : Ev (tOp (rIxT K) ta tb) σ H v := ev_op ha hi (rv_ixT h hx)
abbrev rStrAny : List V → Hp → VK → Prop := fun xs H Q => (∃ i, xs = [.int i] ∧ i.natAbs.log2 < 1920 ∧ Q (.str (toString i)) H) ∨ ∃ a, xs = [.str a] ∧ Q (.str a) H
theorem ev_strA {n : Int} (h : Ev te σ H (.int n)) (h0 : 0 ≤ n) (h1 : n < 100000) : Ev (tCB rStrAny (tCons te tNil)) σ H (.str (strI n)) := ev_cb (ea_cons h ea_nil) fun H1 _ _ q => .inl ⟨n, rfl, log_small h0 h1, q H1 (Evl.Ex.refl H1)⟩
theorem ev_strI {n : Int} (h : Ev te σ H (.int n)) (h0 : 0 ≤ n) (h1 : n < 100000) : Ev (tCB (fun xs H Q => ∃ i, xs = [.int i] ∧ i.natAbs.log2 < 1920 ∧ Q (.str (toString i)) H) (tCons te tNil)) σ H (.str (strI n)) := ev_cb (ea_cons h ea_nil) fun H1 _ _ q => ⟨n, rfl, log_small h0 h1, q H1 (Evl.Ex.refl H1)⟩
theorem ExAt.ex {e : Ex} {v : V} (k : Evl.Ex H H') (h : ExAt H e v) : ExAt H' e v := h.kp (kp_ex k : Kp [] H H')
theorem BlkAt.ex {b : Blk} {xs : List V} (k : Evl.Ex H H') (h : BlkAt H b xs) : BlkAt H' b xs := h.kp (kp_ex k : Kp [] H H')
theorem sp_vw {e : Ex} {n : Nat} {v : V} (h : ExAt H e v) (hd : exD e < n) (hl : (exW e).length ≤ 5000) : SpW (spVW n) [v] H ((exW e).map V.str) := fun H1 e1 Q q _ => ⟨e, v, rfl, hd, h.ex e1, hl, fun l H' k hl => q l H' (ex_kp k) hl⟩
theorem cut_init {k : V} {zs : List V} {u : V} : cutV (k :: (zs ++ [u])) none (some (-1)) = k :: zs := by
  unfold cutV
  rw [HT.sIx_none, List.drop_zero, Nat.sub_zero]
  have e : HT.sIx (k :: (zs ++ [u])).length (k :: (zs ++ [u])).length (some (-1)) = zs.length + 1 := by
    show (if (-1 : Int) < 0 then ((-1 : Int) + ((k :: (zs ++ [u])).length : Int)).toNat else min (-1 : Int).toNat (k :: (zs ++ [u])).length) = _
    rw [if_pos (by decide), List.length_cons, List.length_append, List.length_singleton]
    omega
  rw [e, List.take_succ_cons, List.take_left]
theorem whole_init {k : V} {zs : List V} {u : V} : ¬ (HT.sIx (k :: (zs ++ [u])).length 0 none = 0 ∧ HT.sIx (k :: (zs ++ [u])).length (k :: (zs ++ [u])).length (some (-1)) = (k :: (zs ++ [u])).length) := by
  rintro ⟨_, z⟩
  have e : HT.sIx (k :: (zs ++ [u])).length (k :: (zs ++ [u])).length (some (-1)) = zs.length + 1 := by
    show (if (-1 : Int) < 0 then ((-1 : Int) + ((k :: (zs ++ [u])).length : Int)).toNat else min (-1 : Int).toNat (k :: (zs ++ [u])).length) = _
    rw [if_pos (by decide), List.length_cons, List.length_append, List.length_singleton]
    omega
  rw [e, List.length_cons, List.length_append, List.length_singleton] at z
  omega
theorem cut_mid {k : V} {zs : List V} {u : V} : cutV (k :: (zs ++ [u])) (some 1) (some (-1)) = zs := by
  unfold cutV
  have e : HT.sIx (k :: (zs ++ [u])).length (k :: (zs ++ [u])).length (some (-1)) = zs.length + 1 := by
    show (if (-1 : Int) < 0 then ((-1 : Int) + ((k :: (zs ++ [u])).length : Int)).toNat else min (-1 : Int).toNat (k :: (zs ++ [u])).length) = _
    rw [if_pos (by decide), List.length_cons, List.length_append, List.length_singleton]
    omega
  have e1 : HT.sIx (k :: (zs ++ [u])).length 0 (some 1) = 1 := by
    have h := HT.sIx_nat (k :: (zs ++ [u])).length 0 1
    have h2 : HT.sIx (k :: (zs ++ [u])).length 0 (some 1) = min 1 (k :: (zs ++ [u])).length := h
    rw [h2, List.length_cons]
    omega
  rw [e, e1, List.drop_succ_cons, List.drop_zero, Nat.add_sub_cancel, List.take_left]
theorem whole_from {k : V} {zs : List V} {hi : Option Int} : ¬ (HT.sIx (k :: zs).length 0 (some 1) = 0 ∧ HT.sIx (k :: zs).length (k :: zs).length hi = (k :: zs).length) := by
  rintro ⟨z, _⟩
  have h2 : HT.sIx (k :: zs).length 0 (some 1) = min 1 (k :: zs).length := HT.sIx_nat (k :: zs).length 0 1
  rw [h2, List.length_cons] at z
  omega
theorem cut_tail {k : V} {zs : List V} : cutV (k :: zs) (some 1) none = zs := by
  unfold cutV
  have h2 : HT.sIx (k :: zs).length 0 (some 1) = min 1 (k :: zs).length := HT.sIx_nat (k :: zs).length 0 1
  have h3 : min 1 (k :: zs).length = 1 := by rw [List.length_cons]; omega
  rw [h2, h3, HT.sIx_none, List.drop_succ_cons, List.drop_zero, List.length_cons, Nat.add_sub_cancel, List.take_length]
end
theorem at_lastc (k : V) (zs : List V) (v : V) : atI (k :: (zs ++ [v])) (-1) = some v := by
  have h := atI_last (k :: zs) v
  rw [List.cons_append] at h
  exact h
theorem not_odd {k : Str} (h : k ∉ oddK) : ¬ k = "bad" ∧ ¬ k = "after" ∧ ¬ k = "if" ∧ ¬ k = "draw" ∧ ¬ k = "put" := by
  simpa [oddK] using h
/-- a block's words, from its tuple: a new list -/
def spBW (n : Nat) : Sp := fun vs H Q _ => ∃ c ss b, vs = [.ref c] ∧ H c = some (.tup ss) ∧ BlkAt H b ss ∧ blkD b < n ∧ EDB 9 b ∧ (blkW b).length ≤ 5000 ∧ RetL ((blkW b).map V.str) H Q
section
variable {P : Program} {w : World} {K : PySem.W.Frag} {mg : Str → Option Value} {base : Heap}
theorem sp_bw {c : Addr} {ss : List V} {b : Blk} {n : Nat} {H : Hp} (hc : H c = some (.tup ss)) (h : BlkAt H b ss) (hd : blkD b < n) (he : EDB 9 b) (hl : (blkW b).length ≤ 5000) : SpW (spBW n) [.ref c] H ((blkW b).map V.str) := fun H1 e1 Q q _ =>
  ⟨c, ss, b, rfl, e1 _ _ hc, h.ex e1, hd, he, hl, fun p H2 _ e2 h2 => q p H2 e2 h2⟩
theorem drop_cons {α : Type} {xs : List α} {i : Nat} {x : α} (h : xs[i]? = some x) : xs.drop i = x :: xs.drop (i + 1) := by
  obtain ⟨hi, e⟩ := List.getElem?_eq_some_iff.mp h
  rw [List.drop_eq_getElem_cons hi, e]
theorem fn_law_block_words1 (T : Txt K mg) (h_law_value_words : FnP P w K mg base CX0 11 "_law_value_words" ["_law_due"] (spVW 10)) {n : Nat} (h_law_block_words : FnP P w K mg base CX0 (11 + n) "_law_block_words" ["_law_block_here"] (spBW n)) :
    FnP P w K mg base CX0 (11 + n + 1) "_law_block_words" ["_law_block_here"] (spBW (n + 1)) := by
  have S : FnScope ["_law_block_here", "_law_words_here", "_law_due"] ["_law_block_here"] (defScope (top 42)) := ⟨rfl, rfl, rfl, by decide +kernel, rfl, by decide +kernel, by decide +kernel⟩
  have nd := S.nd
  refine FnP.of0 T.d_law_block_words T.g_law_block_words S ba_law_block_words (fun vs H Q E h => ?_) (fun cdv A outer s H vs Q E hr h => ?_)
  · obtain ⟨c, ss, b, rfl, _⟩ := h
    rfl
  obtain ⟨c, ss, b, rfl, hc, hb, hd, he, hl, hQ⟩ := h
  refine ⟨_, (pss_cons (ps_set (i := 1) nd rfl (Or.inl rfl) (pe_lst pa_nil))
    (pss_cons (ps_for PassesOwn.never rfl (pi_tup (pv 0)) (pg_name (i := 2) nd rfl (Or.inl rfl)) (pss_one (ps_if (pt_cmpR op_eq (pe_ix ix_tup (pv 2) pe_int (fun _ _ => rfl)) pe_str (nomark _)) (pss_one (ps_expr (pe_bm PySem.F.plainAttrs_list PySem.F.slot_list_append PySem.F.type_list_append mt_append (pv 1) (pa_cons pe_str pa_nil)))) (pss_one (ps_if (pt_cmpR op_eq (pe_ix ix_tup (pv 2) pe_int (fun _ _ => rfl)) pe_str (nomark _)) (pss_one (ps_set (i := 1) nd rfl (Or.inl rfl) (pe_op op_cat (pe_op op_cat (pe_op op_cat (pv 1) (pe_lst (pa_cons pe_str pa_nil))) (pe_cf h_law_block_words hr pass0 (pa_cons (pe_ix ix_tup (pv 2) pe_int (fun _ _ => rfl)) pa_nil))) (pe_lst (pa_cons pe_str pa_nil))))) (pss_one (ps_if (pt_cmpR op_eq (pe_ix ix_tup (pv 2) pe_int (fun _ _ => rfl)) pe_str (nomark _)) (pss_cons (ps_set (i := 1) nd rfl (Or.inl rfl) (pe_op op_cat (pe_op op_cat (pe_op op_cat (pv 1) (pe_lst (pa_cons pe_str pa_nil))) (pe_cf h_law_value_words hr pass0 (pa_cons (pe_ix ix_tup (pv 2) pe_int (fun _ _ => rfl)) pa_nil))) (pe_cf h_law_block_words hr pass0 (pa_cons (pe_ix ix_tup (pv 2) pe_int (fun _ _ => rfl)) pa_nil))))
    (C8.pss_cut (ps_if (pt_cmpR op_gt (pe_callB call_len (by rfl) T.f_len (by decide +kernel) (pa_cons (pe_ix ix_tup (pv 2) pe_int (fun _ _ => rfl)) pa_nil)) pe_int (nomark _)) (pss_one (ps_set (i := 1) nd rfl (Or.inl rfl) (pe_op op_cat (pe_op op_cat (pv 1) (pe_lst (pa_cons pe_str pa_nil))) (pe_cf h_law_block_words hr pass0 (pa_cons (pe_ix ix_tup (pv 2) pe_int (fun _ _ => rfl)) pa_nil))))) pss_nil)
    (pss_one (ps_expr (pe_bm PySem.F.plainAttrs_list PySem.F.slot_list_append PySem.F.type_list_append mt_append (pv 1) (pa_cons pe_str pa_nil)))))) (pss_one (ps_if (pt_cmpR op_eq (pe_ix ix_tup (pv 2) pe_int (fun _ _ => rfl)) pe_str (nomark _)) (pss_one (ps_set (i := 1) nd rfl (Or.inl rfl) (pe_op op_cat (pv 1) (pe_lst (pa_cons pe_str (pa_cons (pe_ix ix_tup (pv 2) pe_int (fun _ _ => rfl)) (pa_cons (pe_callTy call_str_any (by rfl) T.f_str (by decide +kernel) (pa_cons (pe_ix ix_tup (pv 2) pe_int (fun _ _ => rfl)) pa_nil)) pa_nil))))))) (pss_one (ps_if (pt_cmpR op_eq (pe_ix ix_tup (pv 2) pe_int (fun _ _ => rfl)) pe_str (nomark _)) (pss_one (ps_set (i := 1) nd rfl (Or.inl rfl) (pe_op op_cat (pe_op op_cat (pe_op op_cat (pv 1) (pe_lst (pa_cons pe_str (pa_cons (pe_ix ix_tup (pv 2) pe_int (fun _ _ => rfl)) pa_nil)))) (pe_cf h_law_value_words hr pass0 (pa_cons (pe_ix ix_tup (pv 2) pe_int (fun _ _ => rfl)) pa_nil))) (pe_cf h_law_value_words hr pass0 (pa_cons (pe_ix ix_tup (pv 2) pe_int (fun _ _ => rfl)) pa_nil))))) (pss_one (ps_set (i := 1) nd rfl (Or.inl rfl) (pe_op op_cat (pe_op op_cat (pv 1) (pe_callTy call_list_of (by rfl) T.f_list (by decide +kernel) (pa_cons (pe_slice sl_tup (pv 2) po_none (po_some (pe_un un_neg pe_int))) pa_nil))) (pe_cf h_law_value_words hr pass0 (pa_cons (pe_ix ix_tup (pv 2) (pe_un un_neg pe_int) (fun _ _ => rfl)) pa_nil))))))))))))))))
    (pss_one (ps_ret (pv 1))))), ?_⟩
  refine q_asgL (xs := []) (el_lst ea_nil (by decide)) fun q H1 hq e1 h1 => ?_
  refine q_forTn (ev_var rfl) (st_of (e1 _ _ hc)) (fun i σ Hc => ∃ b2 pre p y, σ = [some (.ref c), some (.ref p), y] ∧ H p = none ∧ Hc p = some (.lst ((pre : List Str).map V.str)) ∧ Evl.Ex H Hc ∧ BlkAt Hc b2 (ss.drop i) ∧ blkW b = pre ++ blkW b2 ∧ blkD b2 < n + 1 ∧ EDB 9 b2) (fun H2 e2 => ?_) (fun i σ Hc _ p => ?_) ?_ ?_
  · exact ⟨b, [], q, none, rfl, hq, e2 _ _ h1, e1.trans e2, hb.ex (e1.trans e2), rfl, hd, he⟩
  · obtain ⟨b2, pre, p, y, _, _, _, ec, _⟩ := p
    exact st_of (ec _ _ hc)
  · rintro i x σ Hc hx ⟨b2, pre, p, y, rfl, hp, hpc, ec, hb2, hw, hd2, he2⟩
    rw [drop_cons hx] at hb2
    have hlen : pre.length + (blkW b2).length ≤ 5000 := by rw [hw, List.length_append] at hl; exact hl
    have ewp : ∀ {H2 : Hp}, Evl.Ex Hc H2 → ∀ {y : Option V}, EvW (tVar 1) [some (.ref c), some (.ref p), y] H2 (pre.map V.str) := fun {H2} e {y} => ew_R (ev_var rfl) (e _ _ hpc)
    have fin : ∀ {b3 : Blk} {zs : List Str} {σ' : L2.St} {r : Addr} {H' : Hp} {y : V}, σ' = [some (.ref c), some (.ref r), some y] → blkW b2 = zs ++ blkW b3 → BlkAt Hc b3 (ss.drop (i + 1)) → blkD b3 < n + 1 → EDB 9 b3 → H r = none → Evl.Ex H H' → (∀ {b xs}, BlkAt Hc b xs → BlkAt H' b xs) → H' r = some (.lst ((pre ++ zs).map V.str)) →
        ∃ b2 pre p y, σ' = [some (.ref c), some (.ref p), y] ∧ H p = none ∧ H' p = some (.lst ((pre : List Str).map V.str)) ∧ Evl.Ex H H' ∧ BlkAt H' b2 (ss.drop (i + 1)) ∧ blkW b = pre ++ blkW b2 ∧ blkD b2 < n + 1 ∧ EDB 9 b2 := fun {b3 zs σ' r H' y} h1 h2 h3 h4 h5 h6 h7 h8 h9 =>
      ⟨b3, pre ++ zs, r, _, h1, h6, h9, h7, h8 h3, by rw [hw, h2, List.append_assoc], h4, h5⟩
    have nw : ∀ {r : Addr} {H2 : Hp}, Evl.Ex Hc H2 → H2 r = none → H r = none := fun e h => fresh_back (ec.trans e) h
    cases b2 with
    | nil => cases (show _ :: _ = [] from hb2)
    | bad r =>
      obtain ⟨a, ys, exy, ha, hr⟩ := hb2
      injection exy with ex ey
      subst ex ey
      refine s_if (b := true) (et_is (et_eqS (ev_ixT (ev_var rfl) ev_c (st_of ha) rfl) ev_c) (by decide)) (fun _ H2 e2 => ?_) (fun z => by cases z)
      refine s_app (e2 _ _ hpc) (ev_var rfl) ev_c (by rw [List.length_map]; omega) fun H3 e3 => ?_
      have k3 : Kp [p] H3 (upd H3 p (.lst (pre.map V.str ++ [.str "bad"]))) := Kp.lst (e3 _ _ (e2 _ _ hpc)) (by simp)
      refine fin (zs := ["bad"]) rfl rfl hr hd2 he2 hp (Evl.Ex.mut ((ec.trans e2).trans e3) hp) (fun h => (h.ex (e2.trans e3)).kp k3) ?_
      rw [upd_same, List.map_append]
      rfl
    | after s r =>
      obtain ⟨a, d, us, ys, exy, ha, hdd, hs, hr⟩ := hb2
      injection exy with ex ey
      subst ex ey
      have hd2 : max (blkD s + 1) (blkD r) < n + 1 := hd2
      have hlen : pre.length + (("after" : Str) :: (blkW s ++ ("end" : Str) :: blkW r)).length ≤ 5000 := hlen
      rw [List.length_cons, List.length_append, List.length_cons] at hlen
      refine s_if (b := false) (et_is (et_eqS (ev_ixT (ev_var rfl) ev_c (st_of ha) rfl) ev_c) (by decide)) (fun z => by cases z) (fun _ H2 e2 => ?_)
      refine s_if (b := true) (et_is (et_eqS (ev_ixT (ev_var rfl) ev_c (st_of (e2 _ _ ha)) rfl) ev_c) (by decide)) (fun _ H3 e3 => ?_) (fun z => by cases z)
      have f3 := e2.trans e3
      refine s_asgL (el_cat (ew_cat (ew_cat (ewp f3) (ew_lst (ea_cons ev_c ea_nil) (by decide)) (by rw [List.length_map]; show _ + 1 ≤ _; omega)) (ew_call (ea_cons (ev_ixT (ev_var rfl) ev_c (st_of (f3 _ _ ha)) rfl) ea_nil) (sp_bw (f3 _ _ hdd) (hs.ex f3) (by omega) he2.1 (by omega))) (by rw [List.length_append, List.length_map, List.length_map]; show _ + 1 + _ ≤ _; omega)) (ew_lst (ea_cons ev_c ea_nil) (by decide)) (by rw [List.length_append, List.length_append, List.length_map, List.length_map]; show _ + 1 + _ + 1 ≤ _; omega)) fun r4 H4 hr4 e4 h4 => ?_
      refine fin (zs := ("after" : Str) :: (blkW s ++ [("end" : Str)])) rfl ?_ hr (by omega) he2.2 (nw f3 hr4) ((ec.trans f3).trans e4) (fun h => h.ex (f3.trans e4)) ?_
      · simp only [blkW, List.cons_append, List.append_assoc, List.nil_append]
      · rw [h4]
        simp only [List.map_append, List.map_cons, List.map_nil, List.append_assoc, List.cons_append, List.nil_append]
    | ite e s t r =>
      obtain ⟨a, ve, d1, d2, us, ts, ys, exy, ha, hve, hd1, hs, hdt, ht, hr⟩ := hb2
      injection exy with ex ey
      subst ex ey
      have hd2 : max (max (blkD s) (blkD t) + 1) (blkD r) < n + 1 := hd2
      have elen : (blkW (.ite e s t r)).length = 1 + (exW e).length + (blkW s).length + (if t.isNil = true then 0 else 1 + (blkW t).length) + 1 + (blkW r).length := by
        simp only [blkW, List.length_cons, List.length_append]
        split <;> simp <;> omega
      rw [elen] at hlen
      refine s_if (b := false) (et_is (et_eqS (ev_ixT (ev_var rfl) ev_c (st_of ha) rfl) ev_c) (by decide)) (fun z => by cases z) (fun _ H2 e2 => ?_)
      refine s_if (b := false) (et_is (et_eqS (ev_ixT (ev_var rfl) ev_c (st_of (e2 _ _ ha)) rfl) ev_c) (by decide)) (fun z => by cases z) (fun _ H3 e3 => ?_)
      refine s_if (b := true) (et_is (et_eqS (ev_ixT (ev_var rfl) ev_c (st_of ((e2.trans e3) _ _ ha)) rfl) ev_c) (by decide)) (fun _ H4 e4 => ?_) (fun z => by cases z)
      have f4 := (e2.trans e3).trans e4
      refine q_asgL (el_cat (ew_cat (ew_cat (ewp f4) (ew_lst (ea_cons ev_c ea_nil) (by decide)) (by rw [List.length_map]; show _ + 1 ≤ _; omega)) (ew_call (ea_cons (ev_ixT (ev_var rfl) ev_c (st_of (f4 _ _ ha)) rfl) ea_nil) (sp_vw (hve.ex f4) (by have := he2.1; omega) (by omega))) (by rw [List.length_append, List.length_map, List.length_map]; show _ + 1 + _ ≤ _; omega))
        (ew_call (ea_cons (ev_ixT (ev_var rfl) ev_c (st_of (f4 _ _ ha)) rfl) ea_nil) (sp_bw (f4 _ _ hd1) (hs.ex f4) (by omega) he2.2.1 (by omega))) (by rw [List.length_append, List.length_append, List.length_map, List.length_map, List.length_map]; show _ + 1 + _ + _ ≤ _; omega)) fun r5 H5 hr5 e5 h5 => ?_
      have f5 := f4.trans e5
      have nr5 := nw f4 hr5
      have hx1 : H5 r5 = some (.lst ((pre ++ (("if" : Str) :: (exW e ++ blkW s))).map V.str)) := by
        rw [h5]
        simp only [List.map_append, List.map_cons, List.map_nil, List.append_assoc, List.cons_append, List.nil_append]
      have htl : ts.length = 0 ↔ t.isNil = true := by
        rw [← ht.empty, List.isEmpty_iff, List.length_eq_zero_iff]
      refine ⟨fun σ' H' => ∃ r6 mid, σ' = [some (.ref c), some (.ref r6), some (.ref a)] ∧ H r6 = none ∧ Evl.Ex H5 H' ∧ H' r6 = some (.lst ((pre ++ mid).map V.str)) ∧ mid = ("if" : Str) :: (exW e ++ (blkW s ++ (if t.isNil = true then [] else ("else" : Str) :: blkW t))), ?_, ?_⟩
      · refine s_when (b := !t.isNil) (et_is (et_test (ev_op (ev_lent (ev_ixT (ev_var rfl) ev_c (st_of (f5 _ _ ha)) rfl) (st_of (f5 _ _ hdt))) ev_c rv_I0)) ?_) (fun hb H6 e6 => ?_) (fun hb H6 e6 => ?_)
        · cases hn : t.isNil with
          | true => have := htl.mpr hn; exact decide_eq_false (by omega)
          | false => exact decide_eq_true (by have : ¬ ts.length = 0 := fun z => (by rw [htl.mp z] at hn; cases hn); omega)
        · have hn := bn_t' hb
          rw [hn] at hlen
          have hlen : pre.length + (1 + (exW e).length + (blkW s).length + (1 + (blkW t).length) + 1 + (blkW r).length) ≤ 5000 := hlen
          refine s_asgL (el_cat (ew_cat (ew_R (ev_var rfl) (e6 _ _ hx1)) (ew_lst (ea_cons ev_c ea_nil) (by decide)) (by rw [List.length_map, List.length_append, List.length_cons, List.length_append]; show _ + 1 ≤ _; omega)) (ew_call (ea_cons (ev_ixT (ev_var rfl) ev_c (st_of ((f5.trans e6) _ _ ha)) rfl) ea_nil) (sp_bw ((f5.trans e6) _ _ hdt) (ht.ex (f5.trans e6)) (by omega) he2.2.2.1 (by omega))) (by rw [List.length_append, List.length_map, List.length_append, List.length_cons, List.length_append, List.length_map]; show _ + 1 + _ ≤ _; omega)) fun r7 H7 hr7 e7 h7 => ?_
          refine ⟨r7, _, rfl, fresh_back (ec.trans f5) (fresh_back e6 hr7), e6.trans e7, ?_, rfl⟩
          rw [h7, hn]
          simp only [List.map_append, List.map_cons, List.map_nil, List.append_assoc, List.cons_append, List.nil_append, Bool.false_eq_true, if_false]
        · have hn := bn_f' hb
          refine ⟨r5, _, rfl, nr5, e6, ?_, rfl⟩
          rw [e6 _ _ hx1, hn]
          simp only [List.map_append, List.map_cons, List.map_nil, List.append_assoc, List.cons_append, List.nil_append, if_true, List.append_nil]
      · rintro σ' H6 ⟨r6, mid, rfl, nr6, e6, h6, hmid⟩
        have hml : mid.length + 1 + (blkW r).length = (blkW (.ite e s t r)).length := by
          rw [elen, hmid]
          simp only [List.length_cons, List.length_append]
          split <;> simp <;> omega
        refine s_app h6 (ev_var rfl) ev_c (by rw [List.length_map, List.length_append]; omega) fun H7 e7 => ?_
        have k7 : Kp [r6] H7 (upd H7 r6 (.lst ((pre ++ mid).map V.str ++ [.str "end"]))) := Kp.lst (e7 _ _ h6) (by simp)
        refine fin (zs := mid ++ [("end" : Str)]) rfl ?_ hr (by omega) he2.2.2.2 nr6 (Evl.Ex.mut (((ec.trans f5).trans e6).trans e7) nr6) (fun h => (h.ex ((f5.trans e6).trans e7)).kp k7) ?_
        · rw [hmid]
          simp only [blkW, List.cons_append, List.append_assoc, List.nil_append]
        · rw [upd_same]
          simp only [List.map_append, List.map_cons, List.map_nil, List.append_assoc]
    | draw lo m r =>
      obtain ⟨a, ys, exy, ha, hm, hr⟩ := hb2
      injection exy with ex ey
      subst ex ey
      have hlen : pre.length + ((blkW r).length + 1 + 1 + 1) ≤ 5000 := hlen
      refine s_if (b := false) (et_is (et_eqS (ev_ixT (ev_var rfl) ev_c (st_of ha) rfl) ev_c) (by decide)) (fun z => by cases z) (fun _ H2 e2 => ?_)
      refine s_if (b := false) (et_is (et_eqS (ev_ixT (ev_var rfl) ev_c (st_of (e2 _ _ ha)) rfl) ev_c) (by decide)) (fun z => by cases z) (fun _ H3 e3 => ?_)
      refine s_if (b := false) (et_is (et_eqS (ev_ixT (ev_var rfl) ev_c (st_of ((e2.trans e3) _ _ ha)) rfl) ev_c) (by decide)) (fun z => by cases z) (fun _ H4 e4 => ?_)
      refine s_if (b := true) (et_is (et_eqS (ev_ixT (ev_var rfl) ev_c (st_of (((e2.trans e3).trans e4) _ _ ha)) rfl) ev_c) (by decide)) (fun _ H5 e5 => ?_) (fun z => by cases z)
      have f5 := ((e2.trans e3).trans e4).trans e5
      refine s_asgL (el_cat (ewp f5) (ew_lst (ea_cons ev_c (ea_cons (ev_ixT (ev_var rfl) ev_c (st_of (f5 _ _ ha)) rfl) (ea_cons (ev_strA (ev_ixT (ev_var rfl) ev_c (st_of (f5 _ _ ha)) rfl) hm.1 hm.2) ea_nil))) (show 3 ≤ 100000 by decide)) (by rw [List.length_map]; show _ + 3 ≤ _; omega)) fun r6 H6 hr6 e6 h6 => ?_
      refine fin (zs := [("draw" : Str), lo, strI m]) rfl rfl hr hd2 he2 (nw f5 hr6) ((ec.trans f5).trans e6) (fun h => h.ex (f5.trans e6)) ?_
      rw [h6, List.map_append]
      rfl
    | put t e f r =>
      obtain ⟨a, ve, vf, ys, exy, ha, hve, hvf, hr⟩ := hb2
      injection exy with ex ey
      subst ex ey
      have hlen : pre.length + (("put" : Str) :: t :: (exW e ++ (exW f ++ blkW r))).length ≤ 5000 := hlen
      rw [List.length_cons, List.length_cons, List.length_append, List.length_append] at hlen
      refine s_if (b := false) (et_is (et_eqS (ev_ixT (ev_var rfl) ev_c (st_of ha) rfl) ev_c) (by decide)) (fun z => by cases z) (fun _ H2 e2 => ?_)
      refine s_if (b := false) (et_is (et_eqS (ev_ixT (ev_var rfl) ev_c (st_of (e2 _ _ ha)) rfl) ev_c) (by decide)) (fun z => by cases z) (fun _ H3 e3 => ?_)
      refine s_if (b := false) (et_is (et_eqS (ev_ixT (ev_var rfl) ev_c (st_of ((e2.trans e3) _ _ ha)) rfl) ev_c) (by decide)) (fun z => by cases z) (fun _ H4 e4 => ?_)
      refine s_if (b := false) (et_is (et_eqS (ev_ixT (ev_var rfl) ev_c (st_of (((e2.trans e3).trans e4) _ _ ha)) rfl) ev_c) (by decide)) (fun z => by cases z) (fun _ H5 e5 => ?_)
      have f5 := ((e2.trans e3).trans e4).trans e5
      refine s_if (b := true) (et_is (et_eqS (ev_ixT (ev_var rfl) ev_c (st_of (f5 _ _ ha)) rfl) ev_c) (by decide)) (fun _ H6 e6 => ?_) (fun z => by cases z)
      have f6 := f5.trans e6
      refine s_asgL (el_cat (ew_cat (ew_cat (ewp f6) (ew_lst (ea_cons ev_c (ea_cons (ev_ixT (ev_var rfl) ev_c (st_of (f6 _ _ ha)) rfl) ea_nil)) (show 2 ≤ 100000 by decide)) (by rw [List.length_map]; show _ + 2 ≤ _; omega)) (ew_call (ea_cons (ev_ixT (ev_var rfl) ev_c (st_of (f6 _ _ ha)) rfl) ea_nil) (sp_vw (hve.ex f6) (by have := he2.1; omega) (by omega))) (by rw [List.length_append, List.length_map, List.length_map]; show _ + 2 + _ ≤ _; omega))
        (ew_call (ea_cons (ev_ixT (ev_var rfl) ev_c (st_of (f6 _ _ ha)) rfl) ea_nil) (sp_vw (hvf.ex f6) (by have := he2.2.1; omega) (by omega))) (by rw [List.length_append, List.length_append, List.length_map, List.length_map, List.length_map]; show _ + 2 + _ + _ ≤ _; omega)) fun r7 H7 hr7 e7 h7 => ?_
      refine fin (zs := ("put" : Str) :: t :: (exW e ++ exW f)) rfl ?_ hr hd2 he2.2.2 (nw f6 hr7) ((ec.trans f6).trans e7) (fun h => h.ex (f6.trans e7)) ?_
      · simp only [blkW, List.cons_append, List.append_assoc, List.nil_append]
      · rw [h7]
        simp only [List.map_append, List.map_cons, List.map_nil, List.append_assoc, List.cons_append, List.nil_append]
    | gen k zs e r =>
      obtain ⟨hk, a, ve, ys, exy, ha, hve, hr⟩ := hb2
      injection exy with ex ey
      subst ex ey
      obtain ⟨m1, m2, m3, m4, m5⟩ := not_odd hk
      have hlen : pre.length + (k :: (zs ++ (exW e ++ blkW r))).length ≤ 5000 := hlen
      rw [List.length_cons, List.length_append, List.length_append] at hlen
      refine s_if (b := false) (et_is (et_eqS (ev_ixT (ev_var rfl) ev_c (st_of ha) (atI_nat (j := 0) rfl)) ev_c) (decide_eq_false m1)) (fun z => by cases z) (fun _ H2 e2 => ?_)
      refine s_if (b := false) (et_is (et_eqS (ev_ixT (ev_var rfl) ev_c (st_of (e2 _ _ ha)) (atI_nat (j := 0) rfl)) ev_c) (decide_eq_false m2)) (fun z => by cases z) (fun _ H3 e3 => ?_)
      refine s_if (b := false) (et_is (et_eqS (ev_ixT (ev_var rfl) ev_c (st_of ((e2.trans e3) _ _ ha)) (atI_nat (j := 0) rfl)) ev_c) (decide_eq_false m3)) (fun z => by cases z) (fun _ H4 e4 => ?_)
      refine s_if (b := false) (et_is (et_eqS (ev_ixT (ev_var rfl) ev_c (st_of (((e2.trans e3).trans e4) _ _ ha)) (atI_nat (j := 0) rfl)) ev_c) (decide_eq_false m4)) (fun z => by cases z) (fun _ H5 e5 => ?_)
      have f5 := ((e2.trans e3).trans e4).trans e5
      refine s_if (b := false) (et_is (et_eqS (ev_ixT (ev_var rfl) ev_c (st_of (f5 _ _ ha)) (atI_nat (j := 0) rfl)) ev_c) (decide_eq_false m5)) (fun z => by cases z) (fun _ H6 e6 => ?_)
      have f6 := f5.trans e6
      refine s_asgL (el_cat (ew_cat (ewp f6) (ew_lslT (ev_var rfl) eo_none (eo_some (ev_un ev_c ru_neg)) (st_of (f6 _ _ ha)) whole_init) (by rw [cut_init, List.length_cons, List.length_map, List.length_map]; omega)) (ew_call (ea_cons (ev_ixT (ev_var rfl) (ev_un ev_c ru_neg) (st_of (f6 _ _ ha)) (at_lastc (V.str k) (zs.map V.str) ve)) ea_nil) (sp_vw (hve.ex f6) (by have := he2.1; omega) (by omega))) (by rw [List.length_append, cut_init, List.length_cons, List.length_map, List.length_map, List.length_map]; omega)) fun r7 H7 hr7 e7 h7 => ?_
      refine fin (zs := k :: (zs ++ exW e)) rfl ?_ hr hd2 he2.2 (nw f6 hr7) ((ec.trans f6).trans e7) (fun h => h.ex (f6.trans e7)) ?_
      · simp only [blkW, List.cons_append, List.append_assoc, List.nil_append]
      · rw [h7, cut_init]
        simp only [List.map_append, List.map_cons, List.map_nil, List.append_assoc, List.cons_append, List.nil_append]
  · rintro σ Hc ⟨b2, pre, p, y, rfl, hp, hpc, ec, hb2, hw, hd2, he2⟩
    rw [List.drop_length] at hb2
    refine s_ret (ev_var rfl) fun H2 e2 => hQ p H2 hp (ec.trans e2) ?_
    rw [e2 _ _ hpc, hw]
    cases b2 with
    | nil => simp only [blkW, List.append_nil]
    | bad r => obtain ⟨a, ys, e, _⟩ := hb2; cases e
    | after s r => obtain ⟨a, b, ss, ys, e, _⟩ := hb2; cases e
    | ite e s t r => obtain ⟨a, ve, b, c, ss, ts, ys, e, _⟩ := hb2; cases e
    | draw l n r => obtain ⟨a, ys, e, _⟩ := hb2; cases e
    | put t e f r => obtain ⟨a, ve, vf, ys, e, _⟩ := hb2; cases e
    | gen k zs e r => obtain ⟨hk, a, ve, ys, e, _⟩ := hb2; cases e
theorem fn_law_block_words (T : Txt K mg) (h_law_value_words : FnP P w K mg base CX0 11 "_law_value_words" ["_law_due"] (spVW 10)) : ∀ n : Nat, FnP P w K mg base CX0 (11 + n) "_law_block_words" ["_law_block_here"] (spBW n)
  | 0 => FnP.no T.d_law_block_words T.g_law_block_words ba_law_block_words fun vs H Q E ⟨_, _, _, _, _, _, h, _⟩ => by omega
  | n + 1 => fn_law_block_words1 T h_law_value_words (fn_law_block_words T h_law_value_words n)
end
end K4

/-! The law's game into words. -/
namespace K4
open PySem PySem.Spec PyProof.Rows L2 Evl
section
variable {H H' H1 : Hp} {σ : L2.St} {K : PySem.W.Frag} {ta tb te : TE} {x y z v : V} {xs ys vs : List V} {tu : TA} {D : Ends} {tw tz : TS} {g : TG} {r : R2}
theorem ev_opU1 (ha : EvU ta σ H xs) (hb : Ev tb σ H y) (hr : ∀ p H1, H1 p = some (.tup xs) → Evl.Ex H H1 → RV r (.ref p) y H1 z) : Ev (tOp r ta tb) σ H z := fun H1 e Q q =>
  ha H1 e _ fun p H2 _ e2 hp => hb H2 (e.trans e2) _ fun H3 e3 => hr p H3 (e3 p _ hp) ((e.trans e2).trans e3) H3 (Evl.Ex.refl H3) Q fun H4 e4 => q H4 ((e2.trans e3).trans e4)
theorem ev_ixU {i : Int} (ha : EvU ta σ H xs) (hb : Ev tb σ H (.int i)) (hx : atI xs i = some v) : Ev (tOp (rIxT K) ta tb) σ H v := ev_opU1 ha hb fun _ _ h _ => rv_ixT (st_of h) hx
theorem eu_sl {a : Addr} {tl th : TO} {lo hi : Option Int} (h : Ev te σ H (.ref a)) (h1 : EvO tl σ H lo) (h2 : EvO th σ H hi) (hs : SqT K H a xs) (hne : ¬ (HT.sIx xs.length 0 lo = 0 ∧ HT.sIx xs.length xs.length hi = xs.length)) : EvU (tSl (rSlT K) te tl th) σ H (cutV xs lo hi) := fun H1 e Q q =>
  h H1 e _ fun H2 e2 => h1 H2 (e.trans e2) _ fun H3 e3 => h2 H3 ((e.trans e2).trans e3) _ fun H4 e4 => ⟨a, xs, rfl, ex_t (((e.trans e2).trans e3).trans e4) hs, hne, fun p hp =>
    q p _ (fresh_back ((e2.trans e3).trans e4) hp) (((e2.trans e3).trans e4).trans (Evl.Ex.new hp)) upd_same⟩
/-- over a new tuple -/
theorem q_forU {tl : TE} (h : EvU tl σ H xs) (Pv : Addr → Nat → L2.St → Hp → Prop) (h0 : ∀ p H1, H p = none → Evl.Ex H H1 → H1 p = some (.tup xs) → Pv p 0 σ H1) (hl : ∀ p i σ' H', Pv p i σ' H' → H' p = some (.tup xs))
    (hs : ∀ p i x σ' H', xs[i]? = some x → Pv p i σ' H' → g x σ' H' fun σ2 H2 => tw { D with nx := Pv p (i + 1), ct := Pv p (i + 1), bk := tz D } σ2 H2) (hd : ∀ p σ' H', Pv p xs.length σ' H' → tz D σ' H') : tSeq (tFor (iTup K tl) g tw) tz D σ H :=
  h H (Evl.Ex.refl H) _ fun p H1 hp e h1 => ⟨p, rfl, ⟨xs, st_of h1⟩, for_tup (D := { D with nx := tz D }) (Pv p) (h0 p H1 hp e h1) (fun i σ' H' _ q => st_of (hl p i σ' H' q)) (hs p) (hd p)⟩
/-- a target of three names -/
theorem g_three {a : Addr} {u1 u2 u3 : V} {i j k : Nat} {Q : L2.St → Hp → Prop} (h : H a = some (.tup [u1, u2, u3])) (q : Q (((σ.set i (some u1)).set j (some u2)).set k (some u3)) H) : gTup K 3 (gCons (gName i) (gCons (gName j) (gCons (gName k) gNil))) (.ref a) σ H Q :=
  ⟨a, _, rfl, st_of h, rfl, _, _, rfl, _, _, rfl, _, _, rfl, rfl, q⟩
end
theorem ft_succ {α β : Type} {f : α → List β} {rs : List α} {i : Nat} {r : α} (h : rs[i]? = some r) : (rs.take (i + 1)).flatMap f = (rs.take i).flatMap f ++ f r := by
  rw [List.take_succ, h]
  simp [List.flatMap_append]
theorem ft_le {α β : Type} {f : α → List β} {rs : List α} {i : Nat} {r : α} (h : rs[i]? = some r) : ((rs.take i).flatMap f).length + (f r).length ≤ (rs.flatMap f).length := by
  rw [← List.length_append, ← ft_succ h]
  have e : rs.flatMap f = (rs.take (i + 1)).flatMap f ++ (rs.drop (i + 1)).flatMap f := by
    rw [← List.flatMap_append, List.take_append_drop]
  rw [e, List.length_append]
  omega
def WdOk (g : Gm) : Prop := (∀ p ∈ g.procs, blkD p.blk < 8 ∧ EDB 9 p.blk ∧ exD p.res < 10) ∧ (gameW g).length ≤ 5000
def spWords : Sp := fun vs H Q _ => ∃ v g, vs = [v] ∧ GmAt H g v ∧ WdOk g ∧ RetL ((gameW g).map V.str) H Q
section
variable {P : Program} {w : World} {K : PySem.W.Frag} {mg : Str → Option Value} {base : Heap}
theorem fn_law_words (T : Txt K mg) (h_law_value_words : FnP P w K mg base CX0 11 "_law_value_words" ["_law_due"] (spVW 10)) (h_law_block_words : FnP P w K mg base CX0 19 "_law_block_words" ["_law_block_here"] (spBW 8)) : FnP P w K mg base CX0 20 "_law_words" ["_law_game_here"] spWords := by
  have S : FnScope ["_law_game_here", "_law_words_here", "_law_name", "_law_size", "_law_first", "_law_k", "_law_keys", "_law_values_here", "_law_proc", "_law_local"] ["_law_game_here"] (defScope (top 43)) := ⟨rfl, rfl, rfl, by decide +kernel, rfl, by decide +kernel, by decide +kernel⟩
  have nd := S.nd
  refine FnP.of0 T.d_law_words T.g_law_words S ba_law_words (fun vs H Q E h => ?_) (fun cdv A outer s H vs Q E hr h => ?_)
  · obtain ⟨v, g, rfl, _⟩ := h
    rfl
  obtain ⟨v, g, rfl, ⟨a, a1, a2, a3, a4, x1, x2, x3, x4, rfl, ha, h1, r1, h2, r2, h3, r3, h4, r4⟩, ⟨hpr, hlen⟩, hQ⟩ := h
  refine ⟨_, (pss_cons (ps_set (i := 1) nd rfl (Or.inl rfl) (pe_lst pa_nil))
    (pss_cons (ps_for PassesOwn.never rfl (pi_tup (pe_ix ix_tup (pv 0) pe_int (fun _ _ => rfl))) (pg_tup rfl (pgs_cons (pg_name (i := 2) nd rfl (Or.inl rfl)) (pgs_cons (pg_name (i := 3) nd rfl (Or.inl rfl)) (pgs_cons (pg_name (i := 4) nd rfl (Or.inl rfl)) pgs_nil)))) (pss_one (ps_set (i := 1) nd rfl (Or.inl rfl) (pe_op op_cat (pv 1) (pe_lst (pa_cons pe_str (pa_cons (pv 2) (pa_cons (pe_callTy call_str_int (by rfl) T.f_str (by decide +kernel) (pa_cons (pv 3) pa_nil)) (pa_cons (pe_callTy call_str_int (by rfl) T.f_str (by decide +kernel) (pa_cons (pv 4) pa_nil)) pa_nil)))))))))
    (pss_cons (ps_for PassesOwn.never rfl (pi_tup (pe_tup (pa_cons pe_int (pa_cons pe_int pa_nil)))) (pg_name (i := 5) nd rfl (Or.inl rfl)) (pss_one (ps_for PassesOwn.never rfl (pi_tup (pe_ix ix_tup (pv 0) (pv 5) (fun _ _ => rfl))) (pg_tup rfl (pgs_cons (pg_name (i := 2) nd rfl (Or.inl rfl)) (pgs_cons (pg_name (i := 6) nd rfl (Or.inl rfl)) (pgs_cons (pg_name (i := 7) nd rfl (Or.inl rfl)) pgs_nil)))) (pss_one (ps_set (i := 1) nd rfl (Or.inl rfl) (pe_op op_cat (pv 1) (pe_lst (pa_cons (pe_ix ix_tup (pe_tup (pa_cons pe_str (pa_cons pe_str pa_nil))) (pe_op op_sub (pv 5) pe_int) (fun _ _ => rfl)) (pa_cons (pv 2) (pa_cons (pe_callTy call_str_int (by rfl) T.f_str (by decide +kernel) (pa_cons (pv 6) pa_nil)) (pa_cons (pe_callTy call_str_int (by rfl) T.f_str (by decide +kernel) (pa_cons (pv 7) pa_nil)) pa_nil)))))))))))
    (pss_cons (ps_for PassesOwn.never rfl (pi_tup (pe_ix ix_tup (pv 0) pe_int (fun _ _ => rfl))) (pg_name (i := 8) nd rfl (Or.inl rfl)) (pss_cons (ps_set (i := 1) nd rfl (Or.inl rfl) (pe_op op_cat (pv 1) (pe_lst (pa_cons pe_str (pa_cons (pe_ix ix_tup (pv 8) pe_int (fun _ _ => rfl)) (pa_cons (pe_callTy call_str_any (by rfl) T.f_str (by decide +kernel) (pa_cons (pe_ix ix_tup (pv 8) pe_int (fun _ _ => rfl)) pa_nil)) (pa_cons (pe_callTy call_str_any (by rfl) T.f_str (by decide +kernel) (pa_cons (pe_ix ix_tup (pv 8) pe_int (fun _ _ => rfl)) pa_nil)) (pa_cons (pe_ix ix_tup (pe_ix ix_tup (pv 8) pe_int (fun _ _ => rfl)) pe_int (fun _ _ => rfl)) pa_nil))))))))
    (pss_cons (ps_for PassesOwn.never rfl (pi_tup (pe_slice sl_tup (pe_ix ix_tup (pv 8) pe_int (fun _ _ => rfl)) (po_some pe_int) po_none)) (pg_name (i := 9) nd rfl (Or.inl rfl)) (pss_one (ps_set (i := 1) nd rfl (Or.inl rfl) (pe_op op_cat (pv 1) (pe_lst (pa_cons pe_str (pa_cons (pv 9) pa_nil)))))))
    (pss_one (ps_set (i := 1) nd rfl (Or.inl rfl) (pe_op op_cat (pe_op op_cat (pe_op op_cat (pe_op op_cat (pv 1) (pe_cf h_law_block_words hr pass0 (pa_cons (pe_ix ix_tup (pv 8) pe_int (fun _ _ => rfl)) pa_nil))) (pe_lst (pa_cons pe_str pa_nil))) (pe_cf h_law_value_words hr pass0 (pa_cons (pe_ix ix_tup (pv 8) pe_int (fun _ _ => rfl)) pa_nil))) (pe_lst (pa_cons pe_str pa_nil))))))))
    (pss_one (ps_ret (pv 1))))))), ?_⟩
  have elen : (gameW g).length = (g.vars.flatMap (rowW "var")).length + ((g.tabs.flatMap (rowW "table")).length + ((g.lots.flatMap (rowW "lots")).length + (g.procs.flatMap prW).length)) := by
    unfold gameW
    rw [List.length_append, List.length_append, List.length_append]
  rw [elen] at hlen
  refine q_asgL (xs := []) (el_lst ea_nil (by decide)) fun q H1 hq e1 hq1 => ?_
  -- variables
  refine q_forT (ev_ixT (ev_var rfl) ev_c (st_of (e1 _ _ ha)) rfl) (st_of (e1 _ _ h1)) (fun i σ Hc => ∃ p y2 y3 y4, σ = [some (.ref a), some (.ref p), y2, y3, y4, none, none, none, none, none] ∧ H p = none ∧ Hc p = some (.lst (((g.vars.take i).flatMap (rowW "var")).map V.str)) ∧ Evl.Ex H Hc) (fun H2 e2 => ?_) (fun i σ Hc _ p => ?_) ?_ ?_
  · exact ⟨q, none, none, none, rfl, hq, e2 _ _ hq1, e1.trans e2⟩
  · obtain ⟨p, y2, y3, y4, _, _, _, ec⟩ := p
    exact st_of (ec _ _ h1)
  · rintro i x σ Hc hx ⟨p, y2, y3, y4, rfl, hp, hpc, ec⟩
    obtain ⟨r, hr, b, rfl, hb, ⟨n0, n1⟩, m0, m1⟩ := r1.get hx
    have hle := ft_le (f := rowW "var") hr
    refine g_three (ec _ _ hb) ?_
    refine s_asgL (el_cat (ew_R (ev_var rfl) hpc) (ew_lst (ea_cons ev_c (ea_cons (ev_var rfl) (ea_cons (ev_strI (ev_var rfl) n0 n1) (ea_cons (ev_strI (ev_var rfl) m0 m1) ea_nil)))) (show 4 ≤ 100000 by decide)) (by rw [List.length_map]; show _ + 4 ≤ _; have : (rowW "var" r).length = 4 := rfl; omega)) fun p2 H2 hp2 e2 h2' => ?_
    refine ⟨p2, _, _, _, rfl, fresh_back ec hp2, ?_, ec.trans e2⟩
    rw [h2', ft_succ hr, List.map_append]
    rfl
  rintro σ H2 ⟨p, y2, y3, y4, rfl, hp, hpc, e2⟩
  rw [r1.length, List.take_length] at hpc
  -- tables, lots
  have hk : ∀ {x : V} {i : Nat}, [V.int 1, V.int 2][i]? = some x → ∃ (j : Int) (ak : Addr) (xk : List V) (rows : List Row) (ky : Str) (bs ns : List Str), x = .int j ∧ atI [V.ref a1, .ref a2, .ref a3, .ref a4] j = some (.ref ak) ∧ H ak = some (.tup xk) ∧ All2 (RowAt H) rows xk ∧ atI [V.str "table", .str "lots"] (j - 1) = some (.str ky) ∧
      (bs, ns) = (if i = 0 then (g.vars.flatMap (rowW "var"), g.vars.flatMap (rowW "var") ++ g.tabs.flatMap (rowW "table")) else (g.vars.flatMap (rowW "var") ++ g.tabs.flatMap (rowW "table"), g.vars.flatMap (rowW "var") ++ g.tabs.flatMap (rowW "table") ++ g.lots.flatMap (rowW "lots"))) ∧ ns = bs ++ rows.flatMap (rowW ky) ∧ ns.length ≤ 5000 := by
    intro x i hx
    match i, hx with
    | 0, hx =>
      refine ⟨1, a2, x2, g.tabs, "table", _, _, by simpa using hx.symm, rfl, h2, r2, rfl, rfl, rfl, ?_⟩
      rw [List.length_append]
      omega
    | 1, hx =>
      refine ⟨2, a3, x3, g.lots, "lots", _, _, by simpa using hx.symm, rfl, h3, r3, rfl, rfl, rfl, ?_⟩
      rw [List.length_append, List.length_append]
      omega
    | i + 2, hx => simp at hx
  let Bs : Nat → List Str := fun i => match i with
    | 0 => g.vars.flatMap (rowW "var")
    | 1 => g.vars.flatMap (rowW "var") ++ g.tabs.flatMap (rowW "table")
    | _ => g.vars.flatMap (rowW "var") ++ g.tabs.flatMap (rowW "table") ++ g.lots.flatMap (rowW "lots")
  refine q_forU (eu_tup (ea_cons ev_c (ea_cons ev_c ea_nil)) (by decide)) (fun t i σ Hc => ∃ p y2 y3 y4 y5 y6 y7, σ = [some (.ref a), some (.ref p), y2, y3, y4, y5, y6, y7, none, none] ∧ H p = none ∧ Hc p = some (.lst ((Bs i).map V.str)) ∧ Evl.Ex H Hc ∧ Hc t = some (.tup [.int 1, .int 2])) (fun t H3 ht e3 ht3 => ?_) (fun t i σ Hc p => ?_) ?_ ?_
  · exact ⟨p, y2, y3, y4, none, none, none, rfl, hp, e3 _ _ hpc, e2.trans e3, ht3⟩
  · obtain ⟨p, y2, y3, y4, y5, y6, y7, _, _, _, _, ht⟩ := p
    exact ht
  · rintro t i x σ Hc hx ⟨p, y2, y3, y4, y5, y6, y7, rfl, hp, hpc, ec, htc⟩
    have hi : i < 2 := (List.getElem?_eq_some_iff.mp hx).1
    obtain ⟨j, ak, xk, rows, ky, bs, ns, rfl, hak, hxk, rk, hky, hbn, hns, hnl⟩ := hk hx
    have hbs : Bs i = bs ∧ Bs (i + 1) = ns := by
      have : i = 0 ∨ i = 1 := by omega
      rcases this with rfl | rfl
      · injection hbn with z1 z2
        exact ⟨z1.symm, z2.symm⟩
      · injection hbn with z1 z2
        exact ⟨z1.symm, z2.symm⟩
    rw [hbs.1] at hpc
    rw [hns, List.length_append] at hnl
    refine s_forT (ev_ixT (ev_var rfl) (ev_var rfl) (st_of (ec _ _ ha)) hak) (st_of (ec _ _ hxk)) (fun i' σ Hd => ∃ p y2 y6 y7, σ = [some (.ref a), some (.ref p), y2, y3, y4, some (.int j), y6, y7, none, none] ∧ H p = none ∧ Hd p = some (.lst ((bs ++ (rows.take i').flatMap (rowW ky)).map V.str)) ∧ Evl.Ex H Hd ∧ Hd t = some (.tup [.int 1, .int 2])) (fun H3 e3 => ?_) (fun i' σ Hd _ p => ?_) ?_ ?_
    · exact ⟨p, y2, y6, y7, rfl, hp, by rw [e3 _ _ hpc, List.take_zero, List.flatMap_nil, List.append_nil], ec.trans e3, e3 _ _ htc⟩
    · obtain ⟨p, y2, y6, y7, _, _, _, ed, _⟩ := p
      exact st_of (ed _ _ hxk)
    · rintro i' x σ Hd hx' ⟨p, y2, y6, y7, rfl, hp, hpc, ed, htd⟩
      obtain ⟨r, hr, b, rfl, hb, ⟨n0, n1⟩, m0, m1⟩ := rk.get hx'
      have hle := ft_le (f := rowW ky) hr
      have e4 : (rowW ky r).length = 4 := rfl
      refine g_three (ed _ _ hb) ?_
      refine s_asgL (el_cat (ew_R (ev_var rfl) hpc) (ew_lst (ea_cons (ev_ixU (eu_tup (ea_cons ev_c (ea_cons ev_c ea_nil)) (by decide)) (ev_op (ev_var rfl) ev_c rv_I0) hky) (ea_cons (ev_var rfl) (ea_cons (ev_strI (ev_var rfl) n0 n1) (ea_cons (ev_strI (ev_var rfl) m0 m1) ea_nil)))) (show 4 ≤ 100000 by decide)) (by rw [List.length_map, List.length_append]; show _ + 4 ≤ _; omega)) fun p2 H2 hp2 e2 h2' => ?_
      refine ⟨p2, _, _, _, rfl, fresh_back ed hp2, ?_, ed.trans e2, e2 _ _ htd⟩
      rw [h2', ft_succ hr]
      simp only [List.map_append, List.append_assoc]
      rfl
    · rintro σ Hd ⟨p, y2, y6, y7, rfl, hp, hpc, ed, htd⟩
      rw [rk.length, List.take_length, ← hns, ← hbs.2] at hpc
      exact ⟨p, _, _, _, _, _, _, rfl, hp, hpc, ed, htd⟩
  rintro t σ H3 ⟨p, y2, y3, y4, y5, y6, y7, rfl, hp, hpc, e3, _⟩
  have hB2 : Bs 2 = g.vars.flatMap (rowW "var") ++ g.tabs.flatMap (rowW "table") ++ g.lots.flatMap (rowW "lots") := rfl
  have hpc : H3 p = some (.lst ((Bs 2).map V.str)) := hpc
  have hBl : (Bs 2).length + (g.procs.flatMap prW).length ≤ 5000 := by
    rw [hB2, List.length_append, List.length_append]
    omega
  -- procedures
  refine q_forTn (ev_ixT (ev_var rfl) ev_c (st_of (e3 _ _ ha)) rfl) (st_of (e3 _ _ h4)) (fun i σ Hc => ∃ p y8 y9, σ = [some (.ref a), some (.ref p), y2, y3, y4, y5, y6, y7, y8, y9] ∧ H p = none ∧ Hc p = some (.lst ((Bs 2 ++ (g.procs.take i).flatMap prW).map V.str)) ∧ Evl.Ex H Hc) (fun H2 e2 => ?_) (fun i σ Hc _ p => ?_) ?_ ?_
  · exact ⟨p, none, none, rfl, hp, by rw [e2 _ _ hpc, List.take_zero, List.flatMap_nil, List.append_nil], e3.trans e2⟩
  · obtain ⟨p, y8, y9, _, _, _, ec⟩ := p
    exact st_of (ec _ _ h4)
  · rintro i x σ Hc hx ⟨p, y8, y9, rfl, hp, hpc, ec⟩
    obtain ⟨pr, hpr1, b, lo, bb, ve, ss, rfl, hb, hlo, hbb, hblk, hve, ⟨n0, n1⟩, m0, m1⟩ := r4.get hx
    have hle := ft_le (f := prW) hpr1
    obtain ⟨q1, q2, q3⟩ := hpr pr (List.mem_of_getElem? hpr1)
    have epl : (prW pr).length = 5 + (pr.ls.flatMap (fun l => [("local" : Str), l])).length + (blkW pr.blk).length + 1 + (exW pr.res).length + 1 := by
      unfold prW
      simp only [List.length_cons, List.length_append, List.length_nil]
      omega
    rw [epl] at hle
    have htot : (Bs 2 ++ (g.procs.take i).flatMap prW).length + (5 + (pr.ls.flatMap (fun l => [("local" : Str), l])).length + (blkW pr.blk).length + 1 + (exW pr.res).length + 1) ≤ 5000 := by
      rw [List.length_append]
      omega
    have hnext : Bs 2 ++ (g.procs.take (i + 1)).flatMap prW = (Bs 2 ++ (g.procs.take i).flatMap prW) ++ prW pr := by rw [ft_succ hpr1, List.append_assoc]
    generalize Bs 2 ++ (g.procs.take i).flatMap prW = pre at hpc htot hnext
    have hix : ∀ {H2 : Hp} {i : Nat} {v : V} {σ : L2.St}, σ[8]? = some (some (.ref b)) → Evl.Ex H H2 → [V.str pr.name, .int pr.size, .int pr.ans, .ref lo, .ref bb, ve][i]? = some v → Ev (tOp (rIxT K) (tVar 8) (tC (.int ((i : Nat) : Int)))) σ H2 v := fun hs e h => ev_ixT (ev_var hs) ev_c (st_of (e _ _ hb)) (atI_nat h)
    refine q_asgL (el_cat (ew_R (ev_var rfl) hpc) (ew_lst (ea_cons ev_c (ea_cons (hix (i := 0) rfl ec rfl) (ea_cons (ev_strA (hix (i := 1) rfl ec rfl) n0 n1) (ea_cons (ev_strA (hix (i := 2) rfl ec rfl) m0 m1) (ea_cons (ev_ixT (hix (i := 3) rfl ec rfl) ev_c (st_of (ec _ _ hlo)) (atI_nat (j := 0) rfl)) ea_nil))))) (show 5 ≤ 100000 by decide)) (by rw [List.length_map]; show _ + 5 ≤ _; omega)) fun p2 H2 hp2 e2 h2' => ?_
    have f2 := ec.trans e2
    have hcut : cutV ((pr.l0 :: pr.ls).map V.str) (some 1) none = pr.ls.map V.str := cut_tail
    refine q_forU (eu_sl (hix (i := 3) rfl f2 rfl) (eo_some ev_c) eo_none (st_of (f2 _ _ hlo)) whole_from) (fun t i' σ Hd => ∃ p y9, σ = [some (.ref a), some (.ref p), y2, y3, y4, y5, y6, y7, some (.ref b), y9] ∧ H p = none ∧ Hd p = some (.lst ((pre ++ (("proc" : Str) :: pr.name :: strI pr.size :: strI pr.ans :: pr.l0 :: (pr.ls.take i').flatMap (fun l => [("local" : Str), l]))).map V.str)) ∧ Evl.Ex H Hd ∧ Hd t = some (.tup (cutV ((pr.l0 :: pr.ls).map V.str) (some 1) none))) (fun t H3 ht e3 ht3 => ?_) (fun t i σ Hc p => ?_) ?_ ?_
    · refine ⟨p2, y9, rfl, fresh_back ec hp2, ?_, f2.trans e3, ht3⟩
      rw [e3 _ _ h2', List.take_zero, List.flatMap_nil, List.map_append]
      rfl
    · obtain ⟨p, y9, _, _, _, _, ht⟩ := p
      exact ht
    · rintro t i' x σ Hd hx' ⟨p, y9, rfl, hp, hpc, ed, htd⟩
      rw [hcut, List.getElem?_map] at hx'
      obtain ⟨l, hl, rfl⟩ : ∃ l, pr.ls[i']? = some l ∧ V.str l = x := by
        cases e : pr.ls[i']? with
        | none => rw [e] at hx'; cases hx'
        | some l => rw [e] at hx'; exact ⟨l, rfl, Option.some.inj hx'⟩
      have hle := ft_le (f := fun l => [("local" : Str), l]) hl
      refine s_asgL (i := 1) (el_cat (ew_R (ev_var rfl) hpc) (ew_lst (ea_cons ev_c (ea_cons (ev_var rfl) ea_nil)) (show 2 ≤ 100000 by decide)) (by
        rw [List.length_map, List.length_append]
        simp only [List.length_cons]
        show _ + 2 ≤ _
        have e2 : [("local" : Str), l].length = 2 := rfl
        omega)) fun p3 H4 hp3 e4 h4' => ?_
      refine ⟨p3, _, rfl, fresh_back ed hp3, ?_, ed.trans e4, e4 _ _ htd⟩
      rw [h4', ft_succ hl]
      simp only [List.map_append, List.map_cons, List.map_nil, List.append_assoc, List.cons_append, List.nil_append]
    · rintro t σ Hd ⟨p, y9, rfl, hp, hpc, ed, htd⟩
      have hpc : Hd p = some (.lst ((pre ++ (("proc" : Str) :: pr.name :: strI pr.size :: strI pr.ans :: pr.l0 :: (pr.ls.flatMap (fun l => [("local" : Str), l])))).map V.str)) := by
        rw [hpc, hcut, List.length_map, List.take_length]
      refine s_asgL (i := 1) (el_cat (ew_cat (ew_cat (ew_cat (ew_R (ev_var rfl) hpc) (ew_call (ea_cons (hix (i := 4) rfl ed rfl) ea_nil) (sp_bw (ed _ _ hbb) (hblk.ex ed) q1 q2 (by omega))) ?_) (ew_lst (ea_cons ev_c ea_nil) (by decide)) ?_) (ew_call (ea_cons (hix (i := 5) rfl ed rfl) ea_nil) (sp_vw (hve.ex ed) q3 (by omega))) ?_) (ew_lst (ea_cons ev_c ea_nil) (by decide)) ?_) fun p3 H4 hp3 e4 h4' => ?_
      · simp only [List.length_map, List.length_append, List.length_cons]; omega
      · simp only [List.length_map, List.length_append, List.length_cons, List.length_nil]; omega
      · simp only [List.length_map, List.length_append, List.length_cons, List.length_nil]; omega
      · simp only [List.length_map, List.length_append, List.length_cons, List.length_nil]; omega
      refine ⟨p3, _, _, rfl, fresh_back ed hp3, ?_, ed.trans e4⟩
      rw [h4', hnext]
      unfold prW
      simp only [List.map_append, List.map_cons, List.map_nil, List.append_assoc, List.cons_append, List.nil_append]
  · rintro σ Hc ⟨p, y8, y9, rfl, hp, hpc, ec⟩
    refine s_ret (ev_var rfl) fun H2 e2 => hQ p H2 hp (ec.trans e2) ?_
    rw [e2 _ _ hpc, r4.length, List.take_length, hB2]
    unfold gameW
    simp only [List.append_assoc]
end
end K4

/-! The program's own text of a game. -/
namespace K4
open PySem PySem.Spec PyProof.Rows L2 Evl
theorem blk_split {H : Hp} {x : V} {xs : List V} : ∀ {b : Blk}, BlkAt H b (x :: xs) → ∃ s r, blkW b = blkW s ++ blkW r ∧ BlkAt H s [x] ∧ BlkAt H r xs ∧ blkD s ≤ blkD b ∧ blkD r ≤ blkD b ∧ ∀ d, EDB d b → EDB d s ∧ EDB d r
  | .nil, h => by cases (show _ :: _ = [] from h)
  | .bad r, h => by
    obtain ⟨a, ys, e, h1, h2⟩ := h
    injection e with e1 e2
    subst e1 e2
    exact ⟨.bad .nil, r, rfl, ⟨a, [], rfl, h1, rfl⟩, h2, Nat.zero_le _, Nat.le_refl _, fun d he => ⟨trivial, he⟩⟩
  | .after s r, h => by
    obtain ⟨a, b, ss, ys, e, h1, h2, h3, h4⟩ := h
    injection e with e1 e2
    subst e1 e2
    refine ⟨.after s .nil, r, ?_, ⟨a, b, ss, [], rfl, h1, h2, h3, rfl⟩, h4, ?_, ?_, fun d he => ⟨⟨he.1, trivial⟩, he.2⟩⟩
    · simp only [blkW, List.cons_append, List.append_assoc, List.nil_append]
    · simp only [blkD]; omega
    · simp only [blkD]; omega
  | .ite e s t r, h => by
    obtain ⟨a, ve, b, c, ss, ts, ys, e0, h1, h2, h3, h4, h5, h6, h7⟩ := h
    injection e0 with e1 e2
    subst e1 e2
    refine ⟨.ite e s t .nil, r, ?_, ⟨a, ve, b, c, ss, ts, [], rfl, h1, h2, h3, h4, h5, h6, rfl⟩, h7, ?_, ?_, fun d he => ⟨⟨he.1, he.2.1, he.2.2.1, trivial⟩, he.2.2.2⟩⟩
    · simp only [blkW, List.cons_append, List.append_assoc, List.nil_append]
    · simp only [blkD]; omega
    · simp only [blkD]; omega
  | .draw l n r, h => by
    obtain ⟨a, ys, e, h1, hb, h2⟩ := h
    injection e with e1 e2
    subst e1 e2
    exact ⟨.draw l n .nil, r, rfl, ⟨a, [], rfl, h1, hb, rfl⟩, h2, Nat.zero_le _, Nat.le_refl _, fun d he => ⟨trivial, he⟩⟩
  | .put t e f r, h => by
    obtain ⟨a, ve, vf, ys, e0, h1, h2, h3, h4⟩ := h
    injection e0 with e1 e2
    subst e1 e2
    refine ⟨.put t e f .nil, r, ?_, ⟨a, ve, vf, [], rfl, h1, h2, h3, rfl⟩, h4, Nat.zero_le _, Nat.le_refl _, fun d he => ⟨⟨he.1, he.2.1, trivial⟩, he.2.2⟩⟩
    simp only [blkW, List.cons_append, List.append_assoc, List.nil_append]
  | .gen k zs e r, h => by
    obtain ⟨hk, a, ve, ys, e0, h1, h2, h3⟩ := h
    injection e0 with e1 e2
    subst e1 e2
    refine ⟨.gen k zs e .nil, r, ?_, ⟨hk, a, ve, [], rfl, h1, h2, rfl⟩, h3, Nat.zero_le _, Nat.le_refl _, fun d he => ⟨⟨he.1, trivial⟩, he.2⟩⟩
    simp only [blkW, List.cons_append, List.append_assoc, List.nil_append]
theorem blk_nil {H : Hp} {b : Blk} (h : BlkAt H b []) : blkW b = [] := by
  cases b with
  | nil => rfl
  | bad r => obtain ⟨a, ys, e, _⟩ := h; cases e
  | after s r => obtain ⟨a, b, ss, ys, e, _⟩ := h; cases e
  | ite e s t r => obtain ⟨a, ve, b, c, ss, ts, ys, e, _⟩ := h; cases e
  | draw l n r => obtain ⟨a, ys, e, _⟩ := h; cases e
  | put t e f r => obtain ⟨a, ve, vf, ys, e, _⟩ := h; cases e
  | gen k zs e r => obtain ⟨hk, a, ve, ys, e, _⟩ := h; cases e
def spSW (n : Nat) : Sp := fun vs H Q _ => ∃ x b, vs = [x] ∧ BlkAt H b [x] ∧ blkD b < n ∧ EDB 9 b ∧ (blkW b).length ≤ 5000 ∧ RetL ((blkW b).map V.str) H Q
section
variable {H H' H1 : Hp} {σ : L2.St} {K : PySem.W.Frag} {ta tb te : TE} {x y z v : V} {xs ys vs : List V} {tu : TA} {D : Ends} {tw tz : TS} {g : TG} {r : R2}
theorem ev_fld {a C dx : Addr} {fs : List (Str × V)} {f : Str} (ha : Ev ta σ H (.ref a)) (h : H a = some (.ins C dx fs)) (c : Cls K C) (n : NoAttr K C f) (hl : fs.lookup f = some v) : Ev (tFld K ta f) σ H v := fun H1 e Q q =>
  ha H1 e _ fun H2 e2 => ⟨a, C, dx, fs, v, rfl, e2 _ _ (e _ _ h), c, n, hl, q H2 e2⟩
theorem sp_sw {b : Blk} {n : Nat} (h : BlkAt H b [x]) (hd : blkD b < n) (he : EDB 9 b) (hl : (blkW b).length ≤ 5000) : SpW (spSW n) [x] H ((blkW b).map V.str) := fun H1 e1 Q q _ =>
  ⟨x, b, rfl, h.ex e1, hd, he, hl, fun p H2 _ e2 h2 => q p H2 e2 h2⟩
end
section
variable {P : Program} {w : World} {K : PySem.W.Frag} {mg : Str → Option Value} {base : Heap}
theorem fn_statement_words1 (T : Txt K mg) (h_expression_words : FnP P w K mg base CX0 11 "expression_words" ["expression"] (spVW 10)) {n : Nat} (h_block_words : FnP P w K mg base CX0 (11 + 2 * n) "block_words" ["block"] (spBW n)) :
    FnP P w K mg base CX0 (11 + 2 * n + 1) "statement_words" ["statement"] (spSW (n + 1)) := by
  have S : FnScope ["statement", "kind", "words"] ["statement"] (defScope (top 28)) := ⟨rfl, rfl, rfl, by decide +kernel, rfl, by decide +kernel, by decide +kernel⟩
  have nd := S.nd
  refine FnP.of0 T.d_statement_words T.g_statement_words S ba_statement_words (fun vs H Q E h => ?_) (fun cdv A outer s H vs Q E hr h => ?_)
  · obtain ⟨x, b, rfl, _⟩ := h
    rfl
  obtain ⟨x, b, rfl, hb2, hd2, he2, hlen, hQ⟩ := h
  refine ⟨_, (pss_cons (ps_set (i := 1) nd rfl (Or.inl rfl) (pe_ix ix_tup (pv 0) pe_int (fun _ _ => rfl)))
    (pss_cons (ps_if (pt_cmpR op_eq (pv 1) pe_str (nomark _)) (pss_one (ps_ret (pe_lst (pa_cons pe_str pa_nil)))) pss_nil)
    (pss_cons (ps_if (pt_cmpR op_eq (pv 1) pe_str (nomark _)) (pss_one (ps_ret (pe_op op_cat (pe_op op_cat (pe_lst (pa_cons pe_str pa_nil)) (pe_cf h_block_words hr pass0 (pa_cons (pe_ix ix_tup (pv 0) pe_int (fun _ _ => rfl)) pa_nil))) (pe_lst (pa_cons pe_str pa_nil))))) pss_nil)
    (pss_cons (ps_if (pt_cmpR op_eq (pv 1) pe_str (nomark _)) (pss_cons (ps_set (i := 2) nd rfl (Or.inl rfl) (pe_op op_cat (pe_op op_cat (pe_lst (pa_cons pe_str pa_nil)) (pe_cf h_expression_words hr pass0 (pa_cons (pe_ix ix_tup (pv 0) pe_int (fun _ _ => rfl)) pa_nil))) (pe_cf h_block_words hr pass0 (pa_cons (pe_ix ix_tup (pv 0) pe_int (fun _ _ => rfl)) pa_nil))))
    (C8.pss_cut (ps_if (pt_truth (pe_ix ix_tup (pv 0) pe_int (fun _ _ => rfl)) (by intro _; rfl)) (pss_one (ps_set (i := 2) nd rfl (Or.inl rfl) (pe_op op_cat (pe_op op_cat (pv 2) (pe_lst (pa_cons pe_str pa_nil))) (pe_cf h_block_words hr pass0 (pa_cons (pe_ix ix_tup (pv 0) pe_int (fun _ _ => rfl)) pa_nil))))) pss_nil)
    (pss_one (ps_ret (pe_op op_cat (pv 2) (pe_lst (pa_cons pe_str pa_nil))))))) pss_nil)
    (pss_cons (ps_if (pt_cmpR op_eq (pv 1) pe_str (nomark _)) (pss_one (ps_ret (pe_lst (pa_cons pe_str (pa_cons (pe_ix ix_tup (pv 0) pe_int (fun _ _ => rfl)) (pa_cons (pe_callTy call_str_any (by rfl) T.f_str (by decide +kernel) (pa_cons (pe_ix ix_tup (pv 0) pe_int (fun _ _ => rfl)) pa_nil)) pa_nil)))))) pss_nil)
    (pss_cons (ps_if (pt_cmpR op_eq (pv 1) pe_str (nomark _)) (pss_one (ps_ret (pe_op op_cat (pe_op op_cat (pe_lst (pa_cons pe_str (pa_cons (pe_ix ix_tup (pv 0) pe_int (fun _ _ => rfl)) pa_nil))) (pe_cf h_expression_words hr pass0 (pa_cons (pe_ix ix_tup (pv 0) pe_int (fun _ _ => rfl)) pa_nil))) (pe_cf h_expression_words hr pass0 (pa_cons (pe_ix ix_tup (pv 0) pe_int (fun _ _ => rfl)) pa_nil))))) pss_nil)
    (pss_one (ps_ret (pe_op op_cat (pe_op op_cat (pe_lst (pa_cons (pv 1) pa_nil)) (pe_callTy call_list_of (by rfl) T.f_list (by decide +kernel) (pa_cons (pe_slice sl_tup (pv 0) (po_some pe_int) (po_some (pe_un un_neg pe_int))) pa_nil))) (pe_cf h_expression_words hr pass0 (pa_cons (pe_ix ix_tup (pv 0) (pe_un un_neg pe_int) (fun _ _ => rfl)) pa_nil))))))))))), ?_⟩
  cases b with
  | nil => cases (show _ :: _ = [] from hb2)
  | bad r =>
    obtain ⟨a, ys, exy, ha, hr⟩ := hb2
    injection exy with ex ey
    subst ex ey
    refine q_asg (ev_ixT (ev_var rfl) ev_c (st_of ha) rfl) fun H1 e1 => ?_
    refine q_whenS (b := true) (et_is (et_eqS (ev_var rfl) ev_c) (by decide)) (fun _ H2 e2 => ?_) (fun z => by cases z)
    have hrn : blkW r = [] := blk_nil hr
    refine s_retL (el_lst (ea_cons ev_c ea_nil) (by decide)) fun p H3 hp e3 h3 => hQ p H3 (fresh_back (e1.trans e2) hp) ((e1.trans e2).trans e3) ?_
    rw [h3]
    show _ = some (HO.lst (List.map V.str (("bad" : Str) :: blkW r)))
    rw [hrn]
    rfl
  | after s r =>
    obtain ⟨a, d, us, ys, exy, ha, hdd, hs, hr⟩ := hb2
    injection exy with ex ey
    subst ex ey
    have hrn : blkW r = [] := blk_nil hr
    have hd2 : max (blkD s + 1) (blkD r) < n + 1 := hd2
    have hlen : (("after" : Str) :: (blkW s ++ ("end" : Str) :: blkW r)).length ≤ 5000 := hlen
    rw [List.length_cons, List.length_append, List.length_cons] at hlen
    refine q_asg (ev_ixT (ev_var rfl) ev_c (st_of ha) rfl) fun H1 e1 => ?_
    refine q_whenS (b := false) (et_is (et_eqS (ev_var rfl) ev_c) (by decide)) (fun z => by cases z) (fun _ H2 e2 => ?_)
    refine q_whenS (b := true) (et_is (et_eqS (ev_var rfl) ev_c) (by decide)) (fun _ H3 e3 => ?_) (fun z => by cases z)
    have f3 := (e1.trans e2).trans e3
    refine s_retL (el_cat (ew_cat (ew_lst (ea_cons ev_c ea_nil) (by decide)) (ew_call (ea_cons (ev_ixT (ev_var rfl) ev_c (st_of (f3 _ _ ha)) rfl) ea_nil) (sp_bw (f3 _ _ hdd) (hs.ex f3) (by omega) he2.1 (by omega))) (by rw [List.length_map]; show 1 + _ ≤ _; omega)) (ew_lst (ea_cons ev_c ea_nil) (by decide)) (by rw [List.length_append, List.length_map]; show 1 + _ + 1 ≤ _; omega)) fun p H4 hp e4 h4 => hQ p H4 (fresh_back f3 hp) (f3.trans e4) ?_
    rw [h4]
    simp only [blkW, hrn, List.map_append, List.map_cons, List.map_nil, List.append_assoc, List.cons_append, List.nil_append]
  | ite e s t r =>
    obtain ⟨a, ve, d1, d2, us, ts, ys, exy, ha, hve, hd1, hs, hdt, ht, hr⟩ := hb2
    injection exy with ex ey
    subst ex ey
    have hrn : blkW r = [] := blk_nil hr
    have hd2 : max (max (blkD s) (blkD t) + 1) (blkD r) < n + 1 := hd2
    have elen : (blkW (.ite e s t r)).length = 1 + (exW e).length + (blkW s).length + (if t.isNil = true then 0 else 1 + (blkW t).length) + 1 + (blkW r).length := by
      simp only [blkW, List.length_cons, List.length_append]
      split <;> simp <;> omega
    rw [elen] at hlen
    refine q_asg (ev_ixT (ev_var rfl) ev_c (st_of ha) rfl) fun H1 e1 => ?_
    refine q_whenS (b := false) (et_is (et_eqS (ev_var rfl) ev_c) (by decide)) (fun z => by cases z) (fun _ H2 e2 => ?_)
    refine q_whenS (b := false) (et_is (et_eqS (ev_var rfl) ev_c) (by decide)) (fun z => by cases z) (fun _ H3 e3 => ?_)
    refine q_whenS (b := true) (et_is (et_eqS (ev_var rfl) ev_c) (by decide)) (fun _ H4 e4 => ?_) (fun z => by cases z)
    have f4 := ((e1.trans e2).trans e3).trans e4
    refine q_asgL (el_cat (ew_cat (ew_lst (ea_cons ev_c ea_nil) (by decide)) (ew_call (ea_cons (ev_ixT (ev_var rfl) ev_c (st_of (f4 _ _ ha)) rfl) ea_nil) (sp_vw (hve.ex f4) (by have := he2.1; omega) (by omega))) (by rw [List.length_map]; show 1 + _ ≤ _; omega))
      (ew_call (ea_cons (ev_ixT (ev_var rfl) ev_c (st_of (f4 _ _ ha)) rfl) ea_nil) (sp_bw (f4 _ _ hd1) (hs.ex f4) (by omega) he2.2.1 (by omega))) (by rw [List.length_append, List.length_map, List.length_map]; show 1 + _ + _ ≤ _; omega)) fun r5 H5 hr5 e5 h5 => ?_
    have f5 := f4.trans e5
    have hx1 : H5 r5 = some (.lst ((("if" : Str) :: (exW e ++ blkW s)).map V.str)) := by
      rw [h5]
      simp only [List.map_append, List.map_cons, List.map_nil, List.append_assoc, List.cons_append, List.nil_append]
    have htl : ts.isEmpty = t.isNil := ht.empty
    refine ⟨fun σ' H' => ∃ r6 mid, σ' = [some (.ref a), some (.str "if"), some (.ref r6)] ∧ Evl.Ex H5 H' ∧ H' r6 = some (.lst ((mid : List Str).map V.str)) ∧ mid = ("if" : Str) :: (exW e ++ (blkW s ++ (if t.isNil = true then [] else ("else" : Str) :: blkW t))), ?_, ?_⟩
    · refine s_when (b := !t.isNil) (fun H6 e6 Q6 q6 => ?_) (fun hb H6 e6 => ?_) (fun hb H6 e6 => ?_)
      · refine ⟨_, rfl, a, _, _, _, rfl, rfl, SqT.of (e6 _ _ (f5 _ _ ha)), rfl, _, .inr (.inl ⟨ts, SqT.of (e6 _ _ (f5 _ _ hdt)), by rw [htl]⟩), q6 H6 (Evl.Ex.refl _)⟩
      · have hn := bn_t' hb
        rw [hn] at hlen
        have hlen : 1 + (exW e).length + (blkW s).length + (1 + (blkW t).length) + 1 + (blkW r).length ≤ 5000 := hlen
        refine s_asgL (el_cat (ew_cat (ew_R (ev_var rfl) (e6 _ _ hx1)) (ew_lst (ea_cons ev_c ea_nil) (by decide)) (by rw [List.length_map, List.length_cons, List.length_append]; show _ + 1 ≤ _; omega)) (ew_call (ea_cons (ev_ixT (ev_var rfl) ev_c (st_of ((f5.trans e6) _ _ ha)) rfl) ea_nil) (sp_bw ((f5.trans e6) _ _ hdt) (ht.ex (f5.trans e6)) (by omega) he2.2.2.1 (by omega))) (by rw [List.length_append, List.length_map, List.length_cons, List.length_append, List.length_map]; show _ + 1 + _ ≤ _; omega)) fun r7 H7 hr7 e7 h7 => ?_
        refine ⟨r7, _, rfl, e6.trans e7, ?_, rfl⟩
        rw [h7, hn]
        simp only [List.map_append, List.map_cons, List.map_nil, List.append_assoc, List.cons_append, List.nil_append, Bool.false_eq_true, if_false]
      · have hn := bn_f' hb
        refine ⟨r5, _, rfl, e6, ?_, rfl⟩
        rw [e6 _ _ hx1, hn]
        simp only [List.map_append, List.map_cons, List.map_nil, List.append_assoc, List.cons_append, List.nil_append, if_true, List.append_nil]
    · rintro σ' H6 ⟨r6, mid, rfl, e6, h6, hmid⟩
      have hml : mid.length + 1 + (blkW r).length = (blkW (.ite e s t r)).length := by
        rw [elen, hmid]
        simp only [List.length_cons, List.length_append]
        split <;> simp <;> omega
      refine s_retL (el_cat (ew_R (ev_var rfl) h6) (ew_lst (ea_cons ev_c ea_nil) (by decide)) (by rw [List.length_map]; show _ + 1 ≤ _; omega)) fun p H7 hp e7 h7 => hQ p H7 (fresh_back (f5.trans e6) hp) ((f5.trans e6).trans e7) ?_
      rw [h7, hmid]
      simp only [blkW, hrn, List.map_append, List.map_cons, List.map_nil, List.append_assoc, List.cons_append, List.nil_append]
  | draw lo m r =>
    obtain ⟨a, ys, exy, ha, hm, hr⟩ := hb2
    injection exy with ex ey
    subst ex ey
    have hrn : blkW r = [] := blk_nil hr
    refine q_asg (ev_ixT (ev_var rfl) ev_c (st_of ha) rfl) fun H1 e1 => ?_
    refine q_whenS (b := false) (et_is (et_eqS (ev_var rfl) ev_c) (by decide)) (fun z => by cases z) (fun _ H2 e2 => ?_)
    refine q_whenS (b := false) (et_is (et_eqS (ev_var rfl) ev_c) (by decide)) (fun z => by cases z) (fun _ H3 e3 => ?_)
    refine q_whenS (b := false) (et_is (et_eqS (ev_var rfl) ev_c) (by decide)) (fun z => by cases z) (fun _ H4 e4 => ?_)
    refine q_whenS (b := true) (et_is (et_eqS (ev_var rfl) ev_c) (by decide)) (fun _ H5 e5 => ?_) (fun z => by cases z)
    have f5 := (((e1.trans e2).trans e3).trans e4).trans e5
    refine s_retL (el_lst (ea_cons ev_c (ea_cons (ev_ixT (ev_var rfl) ev_c (st_of (f5 _ _ ha)) rfl) (ea_cons (ev_strA (ev_ixT (ev_var rfl) ev_c (st_of (f5 _ _ ha)) rfl) hm.1 hm.2) ea_nil))) (show 3 ≤ 100000 by decide)) fun p H6 hp e6 h6 => hQ p H6 (fresh_back f5 hp) (f5.trans e6) ?_
    rw [h6]
    simp only [blkW, hrn, List.map_cons, List.map_nil]
  | put t e f r =>
    obtain ⟨a, ve, vf, ys, exy, ha, hve, hvf, hr⟩ := hb2
    injection exy with ex ey
    subst ex ey
    have hrn : blkW r = [] := blk_nil hr
    have hlen : (("put" : Str) :: t :: (exW e ++ (exW f ++ blkW r))).length ≤ 5000 := hlen
    rw [List.length_cons, List.length_cons, List.length_append, List.length_append] at hlen
    refine q_asg (ev_ixT (ev_var rfl) ev_c (st_of ha) rfl) fun H1 e1 => ?_
    refine q_whenS (b := false) (et_is (et_eqS (ev_var rfl) ev_c) (by decide)) (fun z => by cases z) (fun _ H2 e2 => ?_)
    refine q_whenS (b := false) (et_is (et_eqS (ev_var rfl) ev_c) (by decide)) (fun z => by cases z) (fun _ H3 e3 => ?_)
    refine q_whenS (b := false) (et_is (et_eqS (ev_var rfl) ev_c) (by decide)) (fun z => by cases z) (fun _ H4 e4 => ?_)
    refine q_whenS (b := false) (et_is (et_eqS (ev_var rfl) ev_c) (by decide)) (fun z => by cases z) (fun _ H5 e5 => ?_)
    refine q_whenS (b := true) (et_is (et_eqS (ev_var rfl) ev_c) (by decide)) (fun _ H6 e6 => ?_) (fun z => by cases z)
    have f6 := ((((e1.trans e2).trans e3).trans e4).trans e5).trans e6
    refine s_retL (el_cat (ew_cat (ew_lst (ea_cons ev_c (ea_cons (ev_ixT (ev_var rfl) ev_c (st_of (f6 _ _ ha)) rfl) ea_nil)) (show 2 ≤ 100000 by decide)) (ew_call (ea_cons (ev_ixT (ev_var rfl) ev_c (st_of (f6 _ _ ha)) rfl) ea_nil) (sp_vw (hve.ex f6) (by have := he2.1; omega) (by omega))) (by rw [List.length_map]; show 2 + _ ≤ _; omega))
      (ew_call (ea_cons (ev_ixT (ev_var rfl) ev_c (st_of (f6 _ _ ha)) rfl) ea_nil) (sp_vw (hvf.ex f6) (by have := he2.2.1; omega) (by omega))) (by rw [List.length_append, List.length_map, List.length_map]; show 2 + _ + _ ≤ _; omega)) fun p H7 hp e7 h7 => hQ p H7 (fresh_back f6 hp) (f6.trans e7) ?_
    rw [h7]
    simp only [blkW, hrn, List.append_nil, List.map_append, List.map_cons, List.map_nil, List.append_assoc, List.cons_append, List.nil_append]
  | gen k zs e r =>
    obtain ⟨hk, a, ve, ys, exy, ha, hve, hr⟩ := hb2
    injection exy with ex ey
    subst ex ey
    have hrn : blkW r = [] := blk_nil hr
    obtain ⟨m1, m2, m3, m4, m5⟩ := not_odd hk
    have hlen : (k :: (zs ++ (exW e ++ blkW r))).length ≤ 5000 := hlen
    rw [List.length_cons, List.length_append, List.length_append] at hlen
    refine q_asg (ev_ixT (ev_var rfl) ev_c (st_of ha) (atI_nat (j := 0) rfl)) fun H1 e1 => ?_
    refine q_whenS (b := false) (et_is (et_eqS (ev_var rfl) ev_c) (decide_eq_false m1)) (fun z => by cases z) (fun _ H2 e2 => ?_)
    refine q_whenS (b := false) (et_is (et_eqS (ev_var rfl) ev_c) (decide_eq_false m2)) (fun z => by cases z) (fun _ H3 e3 => ?_)
    refine q_whenS (b := false) (et_is (et_eqS (ev_var rfl) ev_c) (decide_eq_false m3)) (fun z => by cases z) (fun _ H4 e4 => ?_)
    refine q_whenS (b := false) (et_is (et_eqS (ev_var rfl) ev_c) (decide_eq_false m4)) (fun z => by cases z) (fun _ H5 e5 => ?_)
    refine q_whenS (b := false) (et_is (et_eqS (ev_var rfl) ev_c) (decide_eq_false m5)) (fun z => by cases z) (fun _ H6 e6 => ?_)
    have f6 := ((((e1.trans e2).trans e3).trans e4).trans e5).trans e6
    refine s_retL (el_cat (ew_cat (ew_lst (ea_cons (ev_var rfl) ea_nil) (show 1 ≤ 100000 by decide)) (ew_lslT (ev_var rfl) (eo_some ev_c) (eo_some (ev_un ev_c ru_neg)) (st_of (f6 _ _ ha)) whole_from) (by rw [cut_mid, List.length_map]; show 1 + _ ≤ _; omega)) (ew_call (ea_cons (ev_ixT (ev_var rfl) (ev_un ev_c ru_neg) (st_of (f6 _ _ ha)) (at_lastc (V.str k) (zs.map V.str) ve)) ea_nil) (sp_vw (hve.ex f6) (by have := he2.1; omega) (by omega))) (by rw [List.length_append, cut_mid, List.length_map, List.length_map]; show 1 + _ + _ ≤ _; omega)) fun p H7 hp e7 h7 => hQ p H7 (fresh_back f6 hp) (f6.trans e7) ?_
    rw [h7, cut_mid]
    simp only [blkW, hrn, List.append_nil, List.map_append, List.map_cons, List.map_nil, List.append_assoc, List.cons_append, List.nil_append]
theorem fn_block_words1 (T : Txt K mg) {n : Nat} (h_statement_words : FnP P w K mg base CX0 (11 + 2 * n + 1) "statement_words" ["statement"] (spSW (n + 1))) : FnP P w K mg base CX0 (11 + 2 * n + 1 + 1) "block_words" ["block"] (spBW (n + 1)) := by
  have S : FnScope ["block", "words", "statement"] ["block"] (defScope (top 29)) := ⟨rfl, rfl, rfl, by decide +kernel, rfl, by decide +kernel, by decide +kernel⟩
  have nd := S.nd
  refine FnP.of0 T.d_block_words T.g_block_words S ba_block_words (fun vs H Q E h => ?_) (fun cdv A outer s H vs Q E hr h => ?_)
  · obtain ⟨c, ss, b, rfl, _⟩ := h
    rfl
  obtain ⟨c, ss, b, rfl, hc, hb, hd, he, hl, hQ⟩ := h
  refine ⟨_, (pss_cons (ps_set (i := 1) nd rfl (Or.inl rfl) (pe_lst pa_nil))
    (pss_cons (ps_for PassesOwn.never rfl (pi_tup (pv 0)) (pg_name (i := 2) nd rfl (Or.inl rfl)) (pss_one (ps_expr (pe_bm PySem.F.plainAttrs_list PySem.F.slot_list_extend PySem.F.type_list_extend mt_extend (pv 1) (pa_cons (pe_cf h_statement_words hr pass0 (pa_cons (pv 2) pa_nil)) pa_nil)))))
    (pss_one (ps_ret (pv 1))))), ?_⟩
  refine q_asgL (xs := []) (el_lst ea_nil (by decide)) fun q H1 hq e1 h1 => ?_
  refine q_forTn (ev_var rfl) (st_of (e1 _ _ hc)) (fun i σ Hc => ∃ b2 pre y, σ = [some (.ref c), some (.ref q), y] ∧ Hc q = some (.lst ((pre : List Str).map V.str)) ∧ Evl.Ex H Hc ∧ BlkAt Hc b2 (ss.drop i) ∧ blkW b = pre ++ blkW b2 ∧ blkD b2 < n + 1 ∧ EDB 9 b2) (fun H2 e2 => ?_) (fun i σ Hc _ p => ?_) ?_ ?_
  · exact ⟨b, [], none, rfl, e2 _ _ h1, e1.trans e2, hb.ex (e1.trans e2), rfl, hd, he⟩
  · obtain ⟨b2, pre, y, _, _, ec, _⟩ := p
    exact st_of (ec _ _ hc)
  · rintro i x σ Hc hx ⟨b2, pre, y, rfl, hpc, ec, hb2, hw, hd2, he2⟩
    rw [drop_cons hx] at hb2
    obtain ⟨s, r, hw2, hs, hr, ds, dr, hed⟩ := blk_split hb2
    obtain ⟨es, er⟩ := hed 9 he2
    have hlen : pre.length + ((blkW s).length + (blkW r).length) ≤ 5000 := by rw [hw, hw2, List.length_append, List.length_append] at hl; exact hl
    refine s_extW hpc (ev_var rfl) (ew_call (ea_cons (ev_var rfl) ea_nil) (sp_sw hs (by omega) es (by omega))) (by rw [List.length_map, List.length_map]; omega) fun H3 e3 => ?_
    have k3 : Kp [q] H3 (upd H3 q (.lst (pre.map V.str ++ (blkW s).map V.str))) := Kp.lst (e3 _ _ hpc) (by simp)
    refine ⟨r, pre ++ blkW s, _, rfl, ?_, Evl.Ex.mut (ec.trans e3) hq, (hr.ex e3).kp k3, ?_, by omega, er⟩
    · rw [upd_same, List.map_append]
    · rw [hw, hw2, List.append_assoc]
  · rintro σ Hc ⟨b2, pre, y, rfl, hpc, ec, hb2, hw, hd2, he2⟩
    rw [List.drop_length] at hb2
    refine s_ret (ev_var rfl) fun H2 e2 => hQ q H2 hq (ec.trans e2) ?_
    rw [e2 _ _ hpc, hw, blk_nil hb2, List.append_nil]
theorem fn_block_words (T : Txt K mg) (h_expression_words : FnP P w K mg base CX0 11 "expression_words" ["expression"] (spVW 10)) : ∀ n : Nat, FnP P w K mg base CX0 (11 + 2 * n) "block_words" ["block"] (spBW n)
  | 0 => FnP.no T.d_block_words T.g_block_words ba_block_words fun vs H Q E ⟨_, _, _, _, _, _, h, _⟩ => by omega
  | n + 1 => (fn_block_words1 T (fn_statement_words1 T h_expression_words (fn_block_words T h_expression_words n))).mono (by omega)
end
end K4

/-! The program's own text of a game: the whole. -/
namespace K4
open PySem PySem.Spec PyProof.Rows L2 Evl
/-- a game of the program -/
def GmIns (K : PySem.W.Frag) (H : Hp) (g : Gm) (v : V) : Prop := ∃ a dx a1 a2 a3 a4 x1 x2 x3 x4, v = .ref a ∧ H a = some (.ins (He.ga K "Game") dx [("variables", .ref a1), ("tables", .ref a2), ("lots", .ref a3), ("procs", .ref a4)]) ∧
  H a1 = some (.tup x1) ∧ All2 (RowAt H) g.vars x1 ∧ H a2 = some (.tup x2) ∧ All2 (RowAt H) g.tabs x2 ∧ H a3 = some (.tup x3) ∧ All2 (RowAt H) g.lots x3 ∧ H a4 = some (.tup x4) ∧ All2 (PrAt H) g.procs x4
def spGText (K : PySem.W.Frag) : Sp := fun vs H Q _ => ∃ v g, vs = [v] ∧ GmIns K H g v ∧ WdOk g ∧ ((gameW g).map (·.length)).sum ≤ 10000000 ∧ RetV (.str (Txt.join " " (gameW g))) H Q
section
variable {H H' H1 : Hp} {σ : L2.St} {K : PySem.W.Frag} {ta tb te : TE} {x y z v : V} {xs ys vs : List V} {tu : TA} {D : Ends} {tw tz : TS} {g : TG} {r : R2}
theorem g_two {a : Addr} {u1 u2 : V} {i j : Nat} {Q : L2.St → Hp → Prop} (h : H a = some (.tup [u1, u2])) (q : Q ((σ.set i (some u1)).set j (some u2)) H) : gTup K 2 (gCons (gName i) (gCons (gName j) gNil)) (.ref a) σ H Q :=
  ⟨a, _, rfl, st_of h, rfl, _, _, rfl, _, _, rfl, rfl, q⟩
theorem g_six {a : Addr} {u1 u2 u3 u4 u5 u6 : V} {i1 i2 i3 i4 i5 i6 : Nat} {Q : L2.St → Hp → Prop} (h : H a = some (.tup [u1, u2, u3, u4, u5, u6])) (q : Q ((((((σ.set i1 (some u1)).set i2 (some u2)).set i3 (some u3)).set i4 (some u4)).set i5 (some u5)).set i6 (some u6)) H) :
    gTup K 6 (gCons (gName i1) (gCons (gName i2) (gCons (gName i3) (gCons (gName i4) (gCons (gName i5) (gCons (gName i6) gNil)))))) (.ref a) σ H Q :=
  ⟨a, _, rfl, st_of h, rfl, _, _, rfl, _, _, rfl, _, _, rfl, _, _, rfl, _, _, rfl, _, _, rfl, rfl, q⟩
/-- over a new tuple of two new tuples -/
theorem eu_two {t1 t2 : TA} {A B : List V} (h1 : EvA t1 σ H A) (h2 : EvA t2 σ H B) (l1 : A.length ≤ 100000) (l2 : B.length ≤ 100000) {Q : VK} (k : ∀ p a b H1, H p = none → Evl.Ex H H1 → H1 p = some (.tup [.ref a, .ref b]) → H1 a = some (.tup A) → H1 b = some (.tup B) → Q (.ref p) H1) :
    tTup (tCons (tTup t1) (tCons (tTup t2) tNil)) σ H Q := h1 H (Evl.Ex.refl H) _ fun H1 e1 => ⟨sz_of l1, fun a ha => h2 _ (e1.trans (Evl.Ex.new ha)) _ fun H2 e2 => ⟨sz_of l2, fun b hb => ⟨sz (show 2 ≤ 1000000 by decide), fun p hp => by
      have e := ((e1.trans (Evl.Ex.new ha)).trans e2).trans (Evl.Ex.new (o := .tup B) hb)
      exact k p a b _ (fresh_back e hp) (e.trans (Evl.Ex.new hp)) upd_same (get_new hp (get_new hb (e2 _ _ upd_same))) (get_new hp upd_same)⟩⟩⟩
theorem q_forX {tl : TE} (h : tl σ H fun x H1 => ∃ a, x = .ref a ∧ (∃ xs, SqT K H1 a xs) ∧ ∃ W : Nat → Nat → L2.St → Hp → Prop, (∃ m, W 0 m σ H1) ∧ ∀ i m σ H, W i m σ H →
      ((Itt K a).stop i H ∧ tz D σ H) ∨ ((Itt K a).go i H ∧ ∃ N : L2.St → Hp → Prop, (∀ σ' H', N σ' H' → ∃ m', m' < m ∧ W (i + 1) m' σ' H') ∧ ∀ x H', (Itt K a).yld i H x H' → g x σ H' fun σ2 H2 => tw { D with nx := N, ct := N, bk := tz D } σ2 H2)) : tSeq (tFor (iTup K tl) g tw) tz D σ H := h
theorem q_forUU {t1 t2 : TA} {A B : List V} (h1 : EvA t1 σ H A) (h2 : EvA t2 σ H B) (l1 : A.length ≤ 100000) (l2 : B.length ≤ 100000)
    (k : ∀ p a b H1, H p = none → Evl.Ex H H1 → H1 p = some (.tup [.ref a, .ref b]) → H1 a = some (.tup A) → H1 b = some (.tup B) →
      ∃ Pv : Nat → L2.St → Hp → Prop, Pv 0 σ H1 ∧ (∀ i σ' H', Pv i σ' H' → H' p = some (.tup [.ref a, .ref b])) ∧ (∀ i x σ' H', [V.ref a, .ref b][i]? = some x → Pv i σ' H' → g x σ' H' fun σ2 H2 => tw { D with nx := Pv (i + 1), ct := Pv (i + 1), bk := tz D } σ2 H2) ∧ ∀ σ' H', Pv 2 σ' H' → tz D σ' H') :
    tSeq (tFor (iTup K (tTup (tCons (tTup t1) (tCons (tTup t2) tNil)))) g tw) tz D σ H := q_forX (eu_two h1 h2 l1 l2 fun p a b H1 hp e ht ha hb => by
  obtain ⟨Pv, p0, p1, p2, p3⟩ := k p a b H1 hp e ht ha hb
  exact ⟨p, rfl, ⟨_, st_of ht⟩, for_tup (D := { D with nx := tz D }) Pv p0 (fun i σ' H' _ q => st_of (p1 i σ' H' q)) p2 p3⟩)
end
section
variable {P : Program} {w : World} {K : PySem.W.Frag} {mg : Str → Option Value} {base : Heap}
theorem fn_game_text (T : Txt K mg) (h_expression_words : FnP P w K mg base CX0 11 "expression_words" ["expression"] (spVW 10)) (h_block_words : FnP P w K mg base CX0 27 "block_words" ["block"] (spBW 8)) : FnP P w K mg base CX0 28 "game_text" ["game"] (spGText K) := by
  have S : FnScope ["game", "words", "name", "size", "first", "word", "rows", "keys", "values", "answers", "names", "block", "result", "local"] ["game"] (defScope (top 30)) := ⟨rfl, rfl, rfl, by decide +kernel, rfl, by decide +kernel, by decide +kernel⟩
  have nd := S.nd
  refine FnP.of0 T.d_game_text T.g_game_text S ba_game_text (fun vs H Q E h => ?_) (fun cdv A outer s H vs Q E hr h => ?_)
  · obtain ⟨v, g, rfl, _⟩ := h
    rfl
  obtain ⟨v, g, rfl, ⟨a, dx, a1, a2, a3, a4, x1, x2, x3, x4, rfl, ha, h1, r1, h2, r2, h3, r3, h4, r4⟩, ⟨hpr, hlen⟩, hsum, hQ⟩ := h
  refine ⟨_, (pss_cons (ps_set (i := 1) nd rfl (Or.inl rfl) (pe_lst pa_nil))
    (pss_cons (ps_for PassesOwn.never rfl (pi_tup (pe_fld (pv 0) rfl)) (pg_tup rfl (pgs_cons (pg_name (i := 2) nd rfl (Or.inl rfl)) (pgs_cons (pg_name (i := 3) nd rfl (Or.inl rfl)) (pgs_cons (pg_name (i := 4) nd rfl (Or.inl rfl)) pgs_nil)))) (pss_one (ps_expr (pe_bm PySem.F.plainAttrs_list PySem.F.slot_list_extend PySem.F.type_list_extend mt_extend (pv 1) (pa_cons (pe_lst (pa_cons pe_str (pa_cons (pv 2) (pa_cons (pe_callTy call_str_int (by rfl) T.f_str (by decide +kernel) (pa_cons (pv 3) pa_nil)) (pa_cons (pe_callTy call_str_int (by rfl) T.f_str (by decide +kernel) (pa_cons (pv 4) pa_nil)) pa_nil))))) pa_nil)))))
    (pss_cons (ps_for PassesOwn.never rfl (pi_tup (pe_tup (pa_cons (pe_tup (pa_cons pe_str (pa_cons (pe_fld (pv 0) rfl) pa_nil))) (pa_cons (pe_tup (pa_cons pe_str (pa_cons (pe_fld (pv 0) rfl) pa_nil))) pa_nil)))) (pg_tup rfl (pgs_cons (pg_name (i := 5) nd rfl (Or.inl rfl)) (pgs_cons (pg_name (i := 6) nd rfl (Or.inl rfl)) pgs_nil))) (pss_one (ps_for PassesOwn.never rfl (pi_tup (pv 6)) (pg_tup rfl (pgs_cons (pg_name (i := 2) nd rfl (Or.inl rfl)) (pgs_cons (pg_name (i := 7) nd rfl (Or.inl rfl)) (pgs_cons (pg_name (i := 8) nd rfl (Or.inl rfl)) pgs_nil)))) (pss_one (ps_expr (pe_bm PySem.F.plainAttrs_list PySem.F.slot_list_extend PySem.F.type_list_extend mt_extend (pv 1) (pa_cons (pe_lst (pa_cons (pv 5) (pa_cons (pv 2) (pa_cons (pe_callTy call_str_int (by rfl) T.f_str (by decide +kernel) (pa_cons (pv 7) pa_nil)) (pa_cons (pe_callTy call_str_any (by rfl) T.f_str (by decide +kernel) (pa_cons (pv 8) pa_nil)) pa_nil))))) pa_nil)))))))
    (pss_cons (ps_for PassesOwn.never rfl (pi_tup (pe_fld (pv 0) rfl)) (pg_tup rfl (pgs_cons (pg_name (i := 2) nd rfl (Or.inl rfl)) (pgs_cons (pg_name (i := 3) nd rfl (Or.inl rfl)) (pgs_cons (pg_name (i := 9) nd rfl (Or.inl rfl)) (pgs_cons (pg_name (i := 10) nd rfl (Or.inl rfl)) (pgs_cons (pg_name (i := 11) nd rfl (Or.inl rfl)) (pgs_cons (pg_name (i := 12) nd rfl (Or.inl rfl)) pgs_nil))))))) (pss_cons (ps_expr (pe_bm PySem.F.plainAttrs_list PySem.F.slot_list_extend PySem.F.type_list_extend mt_extend (pv 1) (pa_cons (pe_lst (pa_cons pe_str (pa_cons (pv 2) (pa_cons (pe_callTy call_str_int (by rfl) T.f_str (by decide +kernel) (pa_cons (pv 3) pa_nil)) (pa_cons (pe_callTy call_str_int (by rfl) T.f_str (by decide +kernel) (pa_cons (pv 9) pa_nil)) (pa_cons (pe_ix ix_tup (pv 10) pe_int (fun _ _ => rfl)) pa_nil)))))) pa_nil)))
    (pss_cons (ps_for PassesOwn.never rfl (pi_tup (pe_slice sl_tup (pv 10) (po_some pe_int) po_none)) (pg_name (i := 13) nd rfl (Or.inl rfl)) (pss_one (ps_expr (pe_bm PySem.F.plainAttrs_list PySem.F.slot_list_extend PySem.F.type_list_extend mt_extend (pv 1) (pa_cons (pe_lst (pa_cons pe_str (pa_cons (pv 13) pa_nil))) pa_nil)))))
    (pss_one (ps_expr (pe_bm PySem.F.plainAttrs_list PySem.F.slot_list_extend PySem.F.type_list_extend mt_extend (pv 1) (pa_cons (pe_op op_cat (pe_op op_cat (pe_op op_cat (pe_cf h_block_words hr pass0 (pa_cons (pv 11) pa_nil)) (pe_lst (pa_cons pe_str pa_nil))) (pe_cf h_expression_words hr pass0 (pa_cons (pv 12) pa_nil))) (pe_lst (pa_cons pe_str pa_nil))) pa_nil)))))))
    (pss_one (ps_ret (pe_join pe_str (pv 1)))))))), ?_⟩
  have elen : (gameW g).length = (g.vars.flatMap (rowW "var")).length + ((g.tabs.flatMap (rowW "table")).length + ((g.lots.flatMap (rowW "lots")).length + (g.procs.flatMap prW).length)) := by
    unfold gameW
    rw [List.length_append, List.length_append, List.length_append]
  have hlen0 := hlen
  rw [elen] at hlen
  refine q_asgL (xs := []) (el_lst ea_nil (by decide)) fun q H1 hq e1 hq1 => ?_
  -- variables
  refine q_forT (ev_fld (ev_var rfl) (e1 _ _ ha) T.c_Game T.n_Game_variables rfl) (st_of (e1 _ _ h1)) (fun i σ Hc => ∃ y2 y3 y4, σ = [some (.ref a), some (.ref q), y2, y3, y4, none, none, none, none, none, none, none, none, none] ∧ Hc q = some (.lst (((g.vars.take i).flatMap (rowW "var")).map V.str)) ∧ Evl.Ex H Hc) (fun H2 e2 => ?_) (fun i σ Hc _ p => ?_) ?_ ?_
  · exact ⟨none, none, none, rfl, e2 _ _ hq1, e1.trans e2⟩
  · obtain ⟨y2, y3, y4, _, _, ec⟩ := p
    exact st_of (ec _ _ h1)
  · rintro i x σ Hc hx ⟨y2, y3, y4, rfl, hpc, ec⟩
    obtain ⟨r, hr, b, rfl, hb, ⟨n0, n1⟩, m0, m1⟩ := r1.get hx
    have hle := ft_le (f := rowW "var") hr
    refine g_three (ec _ _ hb) ?_
    refine s_extW (ys := (rowW "var" r).map V.str) hpc (ev_var rfl) (ew_lst (ea_cons ev_c (ea_cons (ev_var rfl) (ea_cons (ev_strI (ev_var rfl) n0 n1) (ea_cons (ev_strI (ev_var rfl) m0 m1) ea_nil)))) (show 4 ≤ 100000 by decide)) (by rw [List.length_map, List.length_map]; omega) fun H2 e2 => ?_
    refine ⟨_, _, _, rfl, ?_, Evl.Ex.mut (ec.trans e2) hq⟩
    rw [upd_same, ft_succ hr, List.map_append]
  rintro σ H2 ⟨y2, y3, y4, rfl, hpc, e2⟩
  rw [r1.length, List.take_length] at hpc
  -- tables, lots
  let Bs : Nat → List Str := fun i => match i with
    | 0 => g.vars.flatMap (rowW "var")
    | 1 => g.vars.flatMap (rowW "var") ++ g.tabs.flatMap (rowW "table")
    | _ => g.vars.flatMap (rowW "var") ++ g.tabs.flatMap (rowW "table") ++ g.lots.flatMap (rowW "lots")
  have hfl : ∀ {H3 : Hp} {f : Str} {u : V}, Evl.Ex H H3 → NoAttr K (He.ga K "Game") f → ([("variables", V.ref a1), ("tables", .ref a2), ("lots", .ref a3), ("procs", .ref a4)] : List (Str × V)).lookup f = some u → ∀ {σ : L2.St}, σ[0]? = some (some (.ref a)) → Ev (tFld K (tVar 0) f) σ H3 u := fun {H3 f u} e n hl {σ} hs => ev_fld (ev_var hs) (e _ _ ha) T.c_Game n hl
  refine q_forUU (ea_cons ev_c (ea_cons (hfl e2 T.n_Game_tables rfl rfl) ea_nil)) (ea_cons ev_c (ea_cons (hfl e2 T.n_Game_lots rfl rfl) ea_nil)) (show 2 ≤ 100000 by decide) (show 2 ≤ 100000 by decide) fun t c1 c2 H3 ht e3 ht3 hc1 hc2 => ?_
  have f3 := e2.trans e3
  have hk : ∀ {x : V} {i : Nat}, [V.ref c1, V.ref c2][i]? = some x → ∃ (cj ak : Addr) (xk : List V) (rows : List Row) (ky : Str), x = .ref cj ∧ H3 cj = some (.tup [.str ky, .ref ak]) ∧ H ak = some (.tup xk) ∧ All2 (RowAt H) rows xk ∧ Bs (i + 1) = Bs i ++ rows.flatMap (rowW ky) ∧ (Bs (i + 1)).length ≤ 5000 := by
    intro x i hx
    match i, hx with
    | 0, hx =>
      refine ⟨c1, a2, x2, g.tabs, "table", by simpa using hx.symm, hc1, h2, r2, rfl, ?_⟩
      show (g.vars.flatMap (rowW "var") ++ g.tabs.flatMap (rowW "table")).length ≤ 5000
      rw [List.length_append]
      omega
    | 1, hx =>
      refine ⟨c2, a3, x3, g.lots, "lots", by simpa using hx.symm, hc2, h3, r3, rfl, ?_⟩
      show (g.vars.flatMap (rowW "var") ++ g.tabs.flatMap (rowW "table") ++ g.lots.flatMap (rowW "lots")).length ≤ 5000
      rw [List.length_append, List.length_append]
      omega
    | i + 2, hx => simp at hx
  -- what is there stays, but for the words
  have old : ∀ {b : Addr} {o : HO}, H b = some o → H3 b = some o := fun h => f3 _ _ h
  have hqn : ∀ {b : Addr} {us : List V}, H3 b = some (.tup us) → b ≠ q := fun {b us} h z => by
    rw [z, e3 _ _ hpc] at h
    cases h
  refine ⟨fun i σ Hc => ∃ y2 y3 y4 y5 y6 y7 y8, σ = [some (.ref a), some (.ref q), y2, y3, y4, y5, y6, y7, y8, none, none, none, none, none] ∧ Hc q = some (.lst ((Bs i).map V.str)) ∧ Evl.Ex H Hc ∧ Kp [q] H3 Hc, ?_, fun i σ Hc p => ?_, ?_, ?_⟩
  · exact ⟨y2, y3, y4, none, none, none, none, rfl, e3 _ _ hpc, f3, Kp.refl⟩
  · obtain ⟨y2, y3, y4, y5, y6, y7, y8, _, _, _, kc⟩ := p
    exact kc.2 _ _ ht3
  · rintro i x σ Hc hx ⟨y2, y3, y4, y5, y6, y7, y8, rfl, hpc, ec, kc⟩
    obtain ⟨cj, ak, xk, rows, ky, rfl, hcj, hxk, rk, hbn, hbl⟩ := hk hx
    rw [hbn, List.length_append] at hbl
    refine g_two (kc.2 _ _ hcj) ?_
    refine s_forT (ev_var rfl) (st_of (ec _ _ hxk)) (fun i' σ Hd => ∃ y2 y7 y8, σ = [some (.ref a), some (.ref q), y2, y3, y4, some (.str ky), some (.ref ak), y7, y8, none, none, none, none, none] ∧ Hd q = some (.lst ((Bs i ++ (rows.take i').flatMap (rowW ky)).map V.str)) ∧ Evl.Ex H Hd ∧ Kp [q] H3 Hd) (fun H4 e4 => ?_) (fun i' σ Hd _ p => ?_) ?_ ?_
    · exact ⟨y2, y7, y8, rfl, by rw [e4 _ _ hpc, List.take_zero, List.flatMap_nil, List.append_nil], ec.trans e4, kc.trans (kp_ex e4)⟩
    · obtain ⟨y2, y7, y8, _, _, ed, _⟩ := p
      exact st_of (ed _ _ hxk)
    · rintro i' x σ Hd hx' ⟨y2, y7, y8, rfl, hpc, ed, kd⟩
      obtain ⟨r, hr, b, rfl, hb, ⟨n0, n1⟩, m0, m1⟩ := rk.get hx'
      have hle := ft_le (f := rowW ky) hr
      refine g_three (ed _ _ hb) ?_
      refine s_extW (ys := (rowW ky r).map V.str) hpc (ev_var rfl) (ew_lst (ea_cons (ev_var rfl) (ea_cons (ev_var rfl) (ea_cons (ev_strI (ev_var rfl) n0 n1) (ea_cons (ev_strA (ev_var rfl) m0 m1) ea_nil)))) (show 4 ≤ 100000 by decide)) (by rw [List.length_map, List.length_map, List.length_append]; omega) fun H5 e5 => ?_
      refine ⟨_, _, _, rfl, ?_, Evl.Ex.mut (ed.trans e5) hq, (kd.trans (kp_ex e5)).trans (Kp.lst (e5 _ _ hpc) (by simp))⟩
      rw [upd_same, ft_succ hr]
      simp only [List.map_append, List.append_assoc]
    · rintro σ Hd ⟨y2, y7, y8, rfl, hpc, ed, kd⟩
      rw [rk.length, List.take_length, ← hbn] at hpc
      exact ⟨_, _, _, _, _, _, _, rfl, hpc, ed, kd⟩
  rintro σ H4 ⟨y2, y3, y4, y5, y6, y7, y8, rfl, hpc, e4, _⟩
  have hB2 : Bs 2 = g.vars.flatMap (rowW "var") ++ g.tabs.flatMap (rowW "table") ++ g.lots.flatMap (rowW "lots") := rfl
  have hpc : H4 q = some (.lst ((Bs 2).map V.str)) := hpc
  have hBl : (Bs 2).length + (g.procs.flatMap prW).length ≤ 5000 := by
    rw [hB2, List.length_append, List.length_append]
    omega
  -- procedures
  refine q_forT (hfl e4 T.n_Game_procs rfl rfl) (st_of (e4 _ _ h4)) (fun i σ Hc => ∃ y2 y3 y9 y10 y11 y12 y13, σ = [some (.ref a), some (.ref q), y2, y3, y4, y5, y6, y7, y8, y9, y10, y11, y12, y13] ∧ Hc q = some (.lst ((Bs 2 ++ (g.procs.take i).flatMap prW).map V.str)) ∧ Evl.Ex H Hc) (fun H2 e2 => ?_) (fun i σ Hc _ p => ?_) ?_ ?_
  · exact ⟨y2, y3, none, none, none, none, none, rfl, by rw [e2 _ _ hpc, List.take_zero, List.flatMap_nil, List.append_nil], e4.trans e2⟩
  · obtain ⟨_, _, _, _, _, _, _, _, _, ec⟩ := p
    exact st_of (ec _ _ h4)
  · rintro i x σ Hc hx ⟨y2, y3, y9, y10, y11, y12, y13, rfl, hpc, ec⟩
    obtain ⟨pr, hpr1, b, lo, bb, ve, ss, rfl, hb, hlo, hbb, hblk, hve, ⟨n0, n1⟩, m0, m1⟩ := r4.get hx
    have hle := ft_le (f := prW) hpr1
    obtain ⟨q1, q2, q3⟩ := hpr pr (List.mem_of_getElem? hpr1)
    have epl : (prW pr).length = 5 + (pr.ls.flatMap (fun l => [("local" : Str), l])).length + (blkW pr.blk).length + 1 + (exW pr.res).length + 1 := by
      unfold prW
      simp only [List.length_cons, List.length_append, List.length_nil]
      omega
    rw [epl] at hle
    have htot : (Bs 2 ++ (g.procs.take i).flatMap prW).length + (5 + (pr.ls.flatMap (fun l => [("local" : Str), l])).length + (blkW pr.blk).length + 1 + (exW pr.res).length + 1) ≤ 5000 := by
      rw [List.length_append]
      omega
    have hnext : Bs 2 ++ (g.procs.take (i + 1)).flatMap prW = (Bs 2 ++ (g.procs.take i).flatMap prW) ++ prW pr := by rw [ft_succ hpr1, List.append_assoc]
    generalize Bs 2 ++ (g.procs.take i).flatMap prW = pre at hpc htot hnext
    refine g_six (ec _ _ hb) ?_
    refine (show ∀ {D : Ends} {σ : L2.St} {tw tz : TS}, tw { D with nx := tz D } σ Hc → tSeq tw tz D σ Hc from fun h => h) ?_
    refine s_extW (ys := [V.str "proc", .str pr.name, .str (strI pr.size), .str (strI pr.ans), .str pr.l0]) hpc (ev_var rfl) (ew_lst (ea_cons ev_c (ea_cons (ev_var rfl) (ea_cons (ev_strI (ev_var rfl) n0 n1) (ea_cons (ev_strI (ev_var rfl) m0 m1) (ea_cons (ev_ixT (ev_var rfl) ev_c (st_of (ec _ _ hlo)) (atI_nat (j := 0) rfl)) ea_nil))))) (show 5 ≤ 100000 by decide)) (by rw [List.length_map]; show _ + 5 ≤ _; omega) fun H5 e5 => ?_
    have f5 : Evl.Ex H (upd H5 q (.lst (pre.map V.str ++ [V.str "proc", .str pr.name, .str (strI pr.size), .str (strI pr.ans), .str pr.l0]))) := Evl.Ex.mut (ec.trans e5) hq
    have hcut : cutV ((pr.l0 :: pr.ls).map V.str) (some 1) none = pr.ls.map V.str := cut_tail
    refine q_forU (eu_sl (ev_var rfl) (eo_some ev_c) eo_none (st_of (f5 _ _ hlo)) whole_from) (fun t i' σ Hd => ∃ y13, σ = [some (.ref a), some (.ref q), some (.str pr.name), some (.int pr.size), y4, y5, y6, y7, y8, some (.int pr.ans), some (.ref lo), some (.ref bb), some ve, y13] ∧ Hd q = some (.lst ((pre ++ (("proc" : Str) :: pr.name :: strI pr.size :: strI pr.ans :: pr.l0 :: (pr.ls.take i').flatMap (fun l => [("local" : Str), l]))).map V.str)) ∧ Evl.Ex H Hd ∧ Hd t = some (.tup (cutV ((pr.l0 :: pr.ls).map V.str) (some 1) none))) (fun t H3 ht e3 ht3 => ?_) (fun t i σ Hc p => ?_) ?_ ?_
    · refine ⟨y13, rfl, ?_, f5.trans e3, ht3⟩
      rw [e3 _ _ upd_same, List.take_zero, List.flatMap_nil, List.map_append]
      rfl
    · obtain ⟨_, _, _, _, ht⟩ := p
      exact ht
    · rintro t i' x σ Hd hx' ⟨y13, rfl, hpc, ed, htd⟩
      have hx'' := hx'
      rw [hcut, List.getElem?_map] at hx'
      obtain ⟨l, hl, rfl⟩ : ∃ l, pr.ls[i']? = some l ∧ V.str l = x := by
        cases e : pr.ls[i']? with
        | none => rw [e] at hx'; cases hx'
        | some l => rw [e] at hx'; exact ⟨l, rfl, Option.some.inj hx'⟩
      have hle := ft_le (f := fun l => [("local" : Str), l]) hl
      refine s_extW (ys := [V.str "local", .str l]) hpc (ev_var rfl) (ew_lst (ea_cons ev_c (ea_cons (ev_var rfl) ea_nil)) (show 2 ≤ 100000 by decide)) (by
        rw [List.length_map, List.length_append]
        simp only [List.length_cons]
        show _ + 2 ≤ _
        have e2 : [("local" : Str), l].length = 2 := rfl
        omega) fun H6 e6 => ?_
      have ntq : t ≠ q := fun z => by rw [z, hpc] at htd; cases htd
      refine ⟨_, rfl, ?_, Evl.Ex.mut (ed.trans e6) hq, get_upd (e6 _ _ htd) ntq⟩
      rw [upd_same, ft_succ hl]
      simp only [List.map_append, List.map_cons, List.map_nil, List.append_assoc, List.cons_append, List.nil_append]
    · rintro t σ Hd ⟨y13, rfl, hpc, ed, htd⟩
      have hpc : Hd q = some (.lst ((pre ++ (("proc" : Str) :: pr.name :: strI pr.size :: strI pr.ans :: pr.l0 :: (pr.ls.flatMap (fun l => [("local" : Str), l])))).map V.str)) := by
        rw [hpc, hcut, List.length_map, List.take_length]
      refine s_extW hpc (ev_var rfl) (ew_cat (ew_cat (ew_cat (ew_call (ea_cons (ev_var rfl) ea_nil) (sp_bw (ed _ _ hbb) (hblk.ex ed) q1 q2 (by omega))) (ew_lst (ea_cons ev_c ea_nil) (by decide)) ?_) (ew_call (ea_cons (ev_var rfl) ea_nil) (sp_vw (hve.ex ed) q3 (by omega))) ?_) (ew_lst (ea_cons ev_c ea_nil) (by decide)) ?_) ?_ fun H6 e6 => ?_
      · simp only [List.length_map, List.length_append, List.length_cons, List.length_nil]; omega
      · simp only [List.length_map, List.length_append, List.length_cons, List.length_nil]; omega
      · simp only [List.length_map, List.length_append, List.length_cons, List.length_nil]; omega
      · simp only [List.length_map, List.length_append, List.length_cons, List.length_nil]; omega
      refine ⟨_, _, _, _, _, _, _, rfl, ?_, Evl.Ex.mut (ed.trans e6) hq⟩
      rw [upd_same, hnext]
      unfold prW
      simp only [List.map_append, List.map_cons, List.map_nil, List.append_assoc, List.cons_append, List.nil_append]
  · rintro σ Hc ⟨y2, y3, y9, y10, y11, y12, y13, rfl, hpc, ec⟩
    have hpc : Hc q = some (.lst ((gameW g).map V.str)) := by
      rw [hpc, r4.length, List.take_length, hB2]
      unfold gameW
      simp only [List.append_assoc]
    refine ⟨⟨_, rfl⟩, _, rfl, _, q, gameW g, rfl, rfl, .inl (SqL.of hpc), ?_, hQ Hc ec⟩
    show _ + _ * 1 ≤ 16777216
    omega
end
end K4

/-! The law's recognizer: names and numbers. -/
namespace K4
open PySem PySem.Spec PyProof.Rows L2 Evl
theorem bn_t {b : Bool} (h : (!b) = true) : b = false := by cases b <;> first | rfl | cases h
theorem bn_f {b : Bool} (h : (!b) = false) : b = true := by cases b <;> first | rfl | cases h
def spIsName : Sp := fun vs H Q _ => ∃ w : Str, vs = [.str w] ∧ w.length ≤ 1000000 ∧ RetV (.bl (isName w)) H Q
def spIsNum : Sp := fun vs H Q _ => ∃ (w : Str) (lo hi : Int), vs = [.str w, .int lo, .int hi] ∧ w.length ≤ 1000000 ∧ RetV (.bl (inR w lo hi)) H Q
theorem isName_kw {w : Str} (h : w ∈ kws) : isName w = false := by
  unfold isName
  rw [decide_eq_false (by simpa using h), Bool.false_and]
theorem isName_long {w : Str} (h : ¬ (0 < w.length ∧ w.length < 13)) : isName w = false := by
  unfold isName
  by_cases h0 : 0 < w.length
  · rw [decide_eq_false (p := w.length ≤ 12) (by omega), Bool.false_and, Bool.and_false, Bool.and_false]
  · rw [decide_eq_false h0, Bool.false_and, Bool.and_false]
theorem isName_first {w : Str} {c : Nat} (h : w.cps[0]? = some c) (hc : lowC c = false) : isName w = false := by
  unfold isName
  have e : w.cps.toList[0]? = some c := by rw [Array.getElem?_toList]; exact h
  cases q : w.cps.toList with
  | nil => rw [q] at e; cases e
  | cons a r =>
    rw [q] at e
    have : a = c := by simpa using e
    subst this
    show (_ && (_ && (_ && (lowC a && _)))) = false
    rw [hc, Bool.false_and, Bool.and_false, Bool.and_false, Bool.and_false]
theorem isName_char {w : Str} {c : Nat} {i : Nat} (h : w.cps[i]? = some c) (hc : lowC c = false) (hd : digC c = false) : isName w = false := by
  unfold isName
  have e : c ∈ w.cps.toList := List.mem_of_getElem? (by rw [Array.getElem?_toList]; exact h)
  have : (w.cps.toList.all fun c => lowC c || digC c) = false := by
    rw [Bool.eq_false_iff]
    intro z
    have := List.all_eq_true.mp z c e
    rw [hc, hd] at this
    cases this
  rw [this, Bool.and_false, Bool.and_false, Bool.and_false, Bool.and_false]
theorem isName_yes {w : Str} {c : Nat} (h1 : w ∉ kws) (h2 : 0 < w.length ∧ w.length < 13) (h : w.cps[0]? = some c) (hc : lowC c = true) (ha : ∀ (i : Nat) (c : Nat), w.cps[i]? = some c → (lowC c || digC c) = true) : isName w = true := by
  unfold isName
  have e : w.cps.toList[0]? = some c := by rw [Array.getElem?_toList]; exact h
  have hall : (w.cps.toList.all fun c => lowC c || digC c) = true := List.all_eq_true.mpr fun c hc => by
    obtain ⟨i, hi⟩ := List.mem_iff_getElem?.mp hc
    exact ha i c (by rw [← Array.getElem?_toList]; exact hi)
  rw [hall, decide_eq_true h1, decide_eq_true h2.1, decide_eq_true (show w.length ≤ 12 by omega)]
  cases q : w.cps.toList with
  | nil => rw [q] at e; cases e
  | cons a r =>
    rw [q] at e
    have : a = c := by simpa using e
    subst this
    show (true && (true && (true && (lowC a && true)))) = true
    rw [hc]
    rfl
theorem numL_head : ∀ n : Nat, (TL.numL n).head? = some 48 → n = 0 := by
  intro n
  induction n using Nat.strongRecOn with
  | _ n ih =>
    intro h
    rcases Nat.lt_or_ge n 10 with hn | hn
    · rw [TL.numL_lt hn] at h
      have : 48 + n = 48 := by simpa using h
      omega
    · rw [TL.numL_step hn] at h
      have hne := TL.numL_ne (n / 10)
      have : (TL.numL (n / 10)).head? = some 48 := by
        cases e : TL.numL (n / 10) with
        | nil => exact absurd e hne
        | cons a r => rw [e] at h; simpa using h
      have := ih (n / 10) (by omega) this
      omega
theorem dv_lt : ∀ (k : Nat) (l : List Nat), l.length = k → NumText.AllDigits l → NumText.digitsVal l < 10 ^ k := by
  intro k
  induction k with
  | zero =>
    intro l hl _
    have : l = [] := List.length_eq_zero_iff.mp hl
    subst this
    decide
  | succ k ih =>
    intro l hl hd
    obtain ⟨m, c, rfl⟩ : ∃ m c, l = m ++ [c] := ⟨l.dropLast, l.getLast (fun z => by rw [z] at hl; cases hl), (List.dropLast_concat_getLast _).symm⟩
    have hm : m.length = k := by simpa using hl
    have h1 := ih m hm fun x hx => hd x (List.mem_append_left _ hx)
    have hc : 48 ≤ c ∧ c ≤ 57 := hd c (by simp)
    rw [NumText.digitsVal_snoc, Nat.pow_succ]
    omega
/-- all digits, few: its number, and whether it is written as it should be -/
theorem num_dig {w : Str} (h0 : 0 < w.length) (h1 : w.length ≤ 5) (hd : w.cps.toList.all digC = true) : ∃ n : Int, intText? w = some n ∧ 0 ≤ n ∧ n < 100000 ∧ (strI n = w → numOf w = some n) ∧ (strI n ≠ w → numOf w = none) := by
  have hl := len_toList w
  have had := allDig hd
  have hne : w.cps.toList ≠ [] := fun z => by rw [z] at hl; simp at hl; omega
  have hb := dv_lt _ w.cps.toList rfl had
  have hp : (10 : Nat) ^ w.cps.toList.length ≤ 10 ^ 5 := Nat.pow_le_pow_right (by decide) (by omega)
  refine ⟨((NumText.digitsVal w.cps.toList : Nat) : Int), PySem.intText_digits had hne (by omega), by omega, by omega, fun e => ?_, fun e => ?_⟩
  · unfold numOf
    refine if_pos ⟨h0, h1, hd, fun ⟨z1, z2⟩ => z2 ?_⟩
    have e2 : TL.numL (NumText.digitsVal w.cps.toList) = w.cps.toList := by
      have := congrArg (fun s : Str => s.cps.toList) e
      unfold strI at this
      rw [← TL.tl_num]
      exact this
    have e3 := numL_head _ (by rw [e2]; exact z1)
    rw [e3] at e2
    rw [← e2]
    rw [TL.numL_lt (by decide)]
  · cases q : numOf w with
    | none => rfl
    | some n =>
      exfalso
      have := numOf_str q
      obtain ⟨_, _, _, _, en⟩ := numOf_spec q
      rw [en] at this
      exact e this
theorem first_of {w : Str} (h : 0 < w.length) : ∃ c, w.cps[0]? = some c ∧ atI w.cps.toList 0 = some c := by
  have h' : 0 < w.cps.size := h
  refine ⟨w.cps[0], Array.getElem?_eq_getElem h', ?_⟩
  have e : w.cps.toList[0]? = some w.cps[0] := by rw [Array.getElem?_toList]; exact Array.getElem?_eq_getElem h'
  exact atI_nat e
def keys14 : List Str := ["var", "table", "lots", "proc", "local", "set", "let", "draw", "put", "lot", "ask", "if", "else", "end"]
def keys6 : List Str := ["bad", "after", "answer", "has", "cell", "mod"]
theorem kws_split : kws = keys14 ++ keys6 := by decide +kernel
section
variable {P : Program} {w : World} {K : PySem.W.Frag} {mg : Str → Option Value} {base : Heap}
theorem fn_law_is_name (T : Txt K mg) : FnP P w K mg base CX0 1 "_law_is_name" ["_law_word"] spIsName := by
  have S : FnScope ["_law_word", "_law_keys", "_law_char"] ["_law_word"] (defScope (top 44)) := ⟨rfl, rfl, rfl, by decide +kernel, rfl, by decide +kernel, by decide +kernel⟩
  have nd := S.nd
  refine FnP.of0 T.d_law_is_name T.g_law_is_name S ba_law_is_name (fun vs H Q E h => ?_) (fun cdv A outer s H vs Q E hr h => ?_)
  · obtain ⟨x, rfl, _⟩ := h
    rfl
  obtain ⟨x, rfl, hx, hQ⟩ := h
  refine ⟨_, (pss_cons (ps_set (i := 1) nd rfl (Or.inl rfl) (pe_tup (pa_cons pe_str (pa_cons pe_str (pa_cons pe_str (pa_cons pe_str (pa_cons pe_str (pa_cons pe_str (pa_cons pe_str (pa_cons pe_str (pa_cons pe_str (pa_cons pe_str (pa_cons pe_str (pa_cons pe_str (pa_cons pe_str (pa_cons pe_str pa_nil))))))))))))))))
    (pss_cons (ps_if (PW.pt (pw_or (pt_cmpR op_in_seq (pv 0) (pv 1) (by with_unfolding_all rfl)) (pw_or1 (pt_cmpR op_in_seq (pv 0) (pe_tup (pa_cons pe_str (pa_cons pe_str (pa_cons pe_str (pa_cons pe_str (pa_cons pe_str (pa_cons pe_str pa_nil))))))) (by with_unfolding_all rfl))))) (pss_one (ps_ret pe_bl)) pss_nil)
    (pss_cons (ps_if (PW.pt (pw_or (pt_not (pt_chain op_lt op_lt pe_int (pe_callB call_len (by rfl) T.f_len (by decide +kernel) (pa_cons (pv 0) pa_nil)) pe_int)) (pw_or1 (pt_not (pt_chain op_le_str op_le_str pe_str (pe_ix ix_str (pv 0) pe_int (fun _ _ => rfl)) pe_str))))) (pss_one (ps_ret pe_bl)) pss_nil)
    (pss_cons (ps_for PassesOwn.never rfl (pi_str (pv 0)) (pg_name (i := 2) nd rfl (Or.inl rfl)) (pss_one (ps_if (PW.pt (pw_and (pt_not (pt_chain op_le_str op_le_str pe_str (pv 2) pe_str)) (pw_and1 (pt_not (pt_chain op_le_str op_le_str pe_str (pv 2) pe_str))))) (pss_one (ps_ret pe_bl)) pss_nil)))
    (pss_one (ps_ret pe_bl)))))), ?_⟩
  refine q_asgU (xs := keys14.map V.str) (eu_tup (ea_cons ev_c (ea_cons ev_c (ea_cons ev_c (ea_cons ev_c (ea_cons ev_c (ea_cons ev_c (ea_cons ev_c (ea_cons ev_c (ea_cons ev_c (ea_cons ev_c (ea_cons ev_c (ea_cons ev_c (ea_cons ev_c (ea_cons ev_c ea_nil)))))))))))))) (by decide)) fun a H1 ha e1 h1 => ?_
  refine q_whenS (b := decide (x ∈ keys14) || decide (x ∈ keys6)) (et_or (et_test (ev_inTS (ev_var rfl) (ev_var rfl) (st_of h1))) (fun _ => et_test (ev_inS (ev_var rfl) (eu_tup (ea_cons ev_c (ea_cons ev_c (ea_cons ev_c (ea_cons ev_c (ea_cons ev_c (ea_cons ev_c ea_nil)))))) (by decide))))) (fun hb H2 e2 => ?_) (fun hb H2 e2 => ?_)
  · refine s_ret (v := .bl false) ev_c fun H3 e3 => ?_
    have : isName x = false := isName_kw (by
      rw [kws_split, List.mem_append]
      rw [Bool.or_eq_true, decide_eq_true_eq, decide_eq_true_eq] at hb
      exact hb)
    rw [← this]
    exact hQ H3 ((e1.trans e2).trans e3)
  have hk : x ∉ kws := by
    rw [kws_split, List.mem_append]
    rw [Bool.or_eq_false_iff, decide_eq_false_iff_not, decide_eq_false_iff_not] at hb
    exact fun z => z.elim hb.1 hb.2
  by_cases hlen : 0 < x.length ∧ x.length < 13
  case neg =>
    refine q_whenS (b := true) (et_orT (et_is (et_not (et_test (ev_chain (b := decide ((x.length : Int) < 13)) ev_c (ev_lens (ev_var rfl) hx) rv_I0 (fun _ => ev_c) (fun _ => rv_I0)))) ?_)) (fun _ H3 e3 => ?_) (fun hz => by cases hz)
    · rw [Bool.not_eq_true', Bool.and_eq_false_iff, decide_eq_false_iff_not, decide_eq_false_iff_not]
      omega
    · refine s_ret (v := .bl false) ev_c fun H4 e4 => ?_
      rw [← isName_long hlen]
      exact hQ H4 (((e1.trans e2).trans e3).trans e4)
  obtain ⟨c, hc, hat⟩ := first_of hlen.1
  refine q_whenS (b := !lowC c) (et_is (et_or (et_not (et_test (ev_chain (b := decide ((x.length : Int) < 13)) ev_c (ev_lens (ev_var rfl) hx) rv_I0 (fun _ => ev_c) (fun _ => rv_I0)))) (fun hz => et_not (et_test (ev_between (c := c) (ev_op (ev_var rfl) ev_c (rv_ixS (by omega) hat)))))) ?_) (fun hb H3 e3 => ?_) (fun hb H3 e3 => ?_)
  · rw [decide_eq_true (show (0 : Int) < (x.length : Int) by omega), decide_eq_true (show (x.length : Int) < 13 by omega)]
    rfl
  · refine s_ret (v := .bl false) ev_c fun H4 e4 => ?_
    rw [← isName_first hc (bn_t hb)]
    exact hQ H4 (((e1.trans e2).trans e3).trans e4)
  have hlc : lowC c = true := bn_f hb
  have e13 := (e1.trans e2).trans e3
  refine q_forS (ev_var rfl) (fun i σ Hc => ∃ y, σ = [some (.str x), some (.ref a), y] ∧ Evl.Ex H Hc ∧ ∀ j < i, ∀ d, x.cps[j]? = some d → (lowC d || digC d) = true) (fun H4 e4 => ⟨none, rfl, e13.trans e4, fun j hj => by omega⟩) ?_ ?_
  · rintro i d σ Hc hd ⟨y, rfl, ec, hi⟩
    refine s_when (b := !(lowC d) && !(digC d)) (et_and (et_not (et_test (ev_between (c := d) (ev_var rfl)))) (fun _ => et_not (et_test (ev_between (c := d) (ev_var rfl))))) (fun hb H5 e5 => ?_) (fun hb H5 e5 => ?_)
    · refine s_ret (v := .bl false) ev_c fun H6 e6 => ?_
      rw [Bool.and_eq_true, Bool.not_eq_true', Bool.not_eq_true'] at hb
      rw [← isName_char hd hb.1 hb.2]
      exact hQ H6 ((ec.trans e5).trans e6)
    · refine ⟨_, rfl, ec.trans e5, fun j hj d' hd' => ?_⟩
      rcases Nat.lt_or_eq_of_le (Nat.lt_succ_iff.mp hj) with h | h
      · exact hi j h d' hd'
      · subst h
        rw [hd] at hd'
        obtain rfl : d = d' := Option.some.inj hd'
        cases h1 : lowC d <;> cases h2 : digC d <;> simp_all
  · rintro σ Hc ⟨y, rfl, ec, hi⟩
    refine s_ret (v := .bl true) ev_c fun H6 e6 => ?_
    rw [← isName_yes hk hlen hc hlc fun i c h => hi i (by
      rcases Nat.lt_or_ge i x.cps.size with q | q
      · exact q
      · rw [Array.getElem?_eq_none q] at h; cases h) c h]
    exact hQ H6 (ec.trans e6)
theorem fn_law_is_number (T : Txt K mg) : FnP P w K mg base CX0 1 "_law_is_number" ["_law_word", "_law_least", "_law_most"] spIsNum := by
  have S : FnScope ["_law_word", "_law_least", "_law_most", "_law_char"] ["_law_word", "_law_least", "_law_most"] (defScope (top 45)) := ⟨rfl, rfl, rfl, by decide +kernel, rfl, by decide +kernel, by decide +kernel⟩
  have nd := S.nd
  refine FnP.of0 T.d_law_is_number T.g_law_is_number S ba_law_is_number (fun vs H Q E h => ?_) (fun cdv A outer s H vs Q E hr h => ?_)
  · obtain ⟨x, lo, hi, rfl, _⟩ := h
    rfl
  obtain ⟨x, lo, hi, rfl, hx, hQ⟩ := h
  refine ⟨_, (pss_cons (ps_if (pt_not (pt_chain op_lt op_lt pe_int (pe_callB call_len (by rfl) T.f_len (by decide +kernel) (pa_cons (pv 0) pa_nil)) pe_int)) (pss_one (ps_ret pe_bl)) pss_nil)
    (pss_cons (ps_for PassesOwn.never rfl (pi_str (pv 0)) (pg_name (i := 3) nd rfl (Or.inl rfl)) (pss_one (ps_if (pt_not (pt_chain op_le_str op_le_str pe_str (pv 3) pe_str)) (pss_one (ps_ret pe_bl)) pss_nil)))
    (pss_one (ps_ret (pe_and (pe_cmpR op_eq (pe_callTy call_str_int (by rfl) T.f_str (by decide +kernel) (pa_cons (pe_callTy call_int_str (by rfl) T.f_int (by decide +kernel) (pa_cons (pv 0) pa_nil)) pa_nil)) (pv 0) (nomark _)) (pe_one (pe_chain op_le op_le (pv 1) (pe_callTy call_int_str (by rfl) T.f_int (by decide +kernel) (pa_cons (pv 0) pa_nil)) (pv 2)))))))), ?_⟩
  refine q_whenS (et_not (et_test (ev_chain (b := decide ((x.length : Int) < 6)) ev_c (ev_lens (ev_var rfl) hx) rv_I0 (fun _ => ev_c) (fun _ => rv_I0)))) (fun hb H1 e1 => ?_) (fun hb H1 e1 => ?_)
  · refine s_ret (v := .bl false) ev_c fun H2 e2 => ?_
    have : inR x lo hi = false := inR_no fun n hn => by
      obtain ⟨h1, h2, _⟩ := numOf_spec hn
      rw [Bool.not_eq_true', Bool.and_eq_false_iff, decide_eq_false_iff_not, decide_eq_false_iff_not] at hb
      omega
    rw [← this]
    exact hQ H2 (e1.trans e2)
  have hlen : 0 < x.length ∧ x.length ≤ 5 := by
    have := bn_f hb
    rw [Bool.and_eq_true, decide_eq_true_eq, decide_eq_true_eq] at this
    omega
  refine q_forS (ev_var rfl) (fun i σ Hc => ∃ y, σ = [some (.str x), some (.int lo), some (.int hi), y] ∧ Evl.Ex H Hc ∧ ∀ j < i, ∀ d, x.cps[j]? = some d → digC d = true) (fun H4 e4 => ⟨none, rfl, e1.trans e4, fun j hj => by omega⟩) ?_ ?_
  · rintro i d σ Hc hd ⟨y, rfl, ec, hi'⟩
    refine s_when (b := !(digC d)) (et_not (et_test (ev_between (c := d) (ev_var rfl)))) (fun hb H5 e5 => ?_) (fun hb H5 e5 => ?_)
    · refine s_ret (v := .bl false) ev_c fun H6 e6 => ?_
      have : inR x lo hi = false := inR_no fun n hn => by
        obtain ⟨_, _, h3, _⟩ := numOf_spec hn
        have := List.all_eq_true.mp h3 d (List.mem_of_getElem? (by rw [Array.getElem?_toList]; exact hd))
        rw [bn_t hb] at this
        cases this
      rw [← this]
      exact hQ H6 ((ec.trans e5).trans e6)
    · refine ⟨_, rfl, ec.trans e5, fun j hj d' hd' => ?_⟩
      rcases Nat.lt_or_eq_of_le (Nat.lt_succ_iff.mp hj) with h | h
      · exact hi' j h d' hd'
      · subst h
        rw [hd] at hd'
        obtain rfl : d = d' := Option.some.inj hd'
        exact bn_f hb
  · rintro σ Hc ⟨y, rfl, ec, hi'⟩
    have hall : x.cps.toList.all digC = true := List.all_eq_true.mpr fun c hc => by
      obtain ⟨i, h⟩ := List.mem_iff_getElem?.mp hc
      rw [Array.getElem?_toList] at h
      exact hi' i (by
        rcases Nat.lt_or_ge i x.cps.size with q | q
        · exact q
        · rw [Array.getElem?_eq_none q] at h; cases h) c h
    obtain ⟨n, hn, n0, n1, hy, hno⟩ := num_dig hlen.1 hlen.2 hall
    have eI : Ev (tCB (fun xs H Q => ∃ a n, xs = [.str a] ∧ PySem.intText? a = some n ∧ a.length ≤ 640 ∧ Q (.int n) H) (tCons (tVar 0) tNil)) [some (.str x), some (.int lo), some (.int hi), y] Hc (.int n) :=
      ev_cb (ea_cons (ev_var rfl) ea_nil) fun H1 _ _ q => ⟨x, n, rfl, hn, by omega, q H1 (Evl.Ex.refl H1)⟩
    refine s_ret (v := .bl (inR x lo hi)) (ev_is (ev_andV (a := decide (strI n = x)) (b := decide (lo ≤ n) && decide (n ≤ hi)) (ev_eqS (ev_cb (ea_cons eI ea_nil) fun H1 _ _ q => ⟨n, rfl, log_small n0 n1, q H1 (Evl.Ex.refl H1)⟩) (ev_var rfl)) (fun _ => ev_chain (ev_var rfl) eI rv_I0 (fun _ => ev_var rfl) (fun _ => rv_I0))) ?_) fun H6 e6 => hQ H6 (ec.trans e6)
    congr 1
    by_cases e : strI n = x
    · rw [decide_eq_true e, Bool.true_and]
      unfold inR
      rw [hy e]
    · rw [decide_eq_false e, Bool.false_and]
      unfold inR
      rw [hno e]
end
end K4

/-! The law's recognizer: the stack and the scope in the heap; values, statements' heads, blocks. -/
namespace K4
open PySem PySem.Spec PyProof.Rows L2 Evl
def tbS : Tb → Str
  | .var => "var"
  | .table => "table"
  | .lots => "lots"
  | .proc => "proc"
  | .loc => "local"
  | .asked => "asked"
def kdS : Kd → Str
  | .proc => "proc"
  | .then_ => "then"
  | .else_ => "else"
  | .after => "after"
  | .empty => "empty"
def itT : It → List V
  | .word w => [.str "word", .str w]
  | .one t => [.str "one", .str (tbS t)]
  | .num lo hi => [.str "number", .int lo, .int hi]
  | .value r => [.str "value", .int ((r : Nat) : Int)]
  | .block r k => [.str "block", .int ((r : Nat) : Int), .str (kdS k)]
  | .head => [.str "head"]
  | .locals => [.str "locals"]
  | .size => [.str "size"]
  | .first => [.str "first"]
  | .new t => [.str "new", .str (tbS t)]
theorem itT_small (i : It) : (itT i).length ≤ 1000000 := by
  cases i <;> simp [itT]
def ItAt (H : Hp) (i : It) (v : V) : Prop := ∃ a, v = .ref a ∧ H a = some (.tup (itT i))
def StAt (H : Hp) (s : Addr) (st : List It) : Prop := ∃ xs, H s = some (.lst xs) ∧ All2 (ItAt H) st.reverse xs
def scD (f : Tb → Addr) (sc : Sc) : List (Key × V) :=
  [(.inr "var", .ref (f .var)), (.inr "table", .ref (f .table)), (.inr "lots", .ref (f .lots)), (.inr "proc", .ref (f .proc)), (.inr "local", .ref (f .loc)), (.inr "asked", .ref (f .asked)), (.inr "stage", .int ((sc.stage : Nat) : Int)), (.inr "upper", .int sc.upper)]
structure ScAt (H : Hp) (d : Addr) (f : Tb → Addr) (sc : Sc) : Prop where
  d : H d = some (.dK (scD f sc))
  l : ∀ t, H (f t) = some (.lst ((sc.get t).map V.str))
  inj : ∀ t u, f t = f u → t = u
section
variable {S : List Addr} {H H' : Hp} {s d p : Addr} {f : Tb → Addr} {sc : Sc} {st : List It} {i : It} {v : V}
theorem ItAt.kp (k : Kp S H H') (h : ItAt H i v) : ItAt H' i v := by
  obtain ⟨a, e, h⟩ := h
  exact ⟨a, e, k.2 _ _ h⟩
theorem StAt.kp (k : Kp S H H') (hs : s ∉ S) (h : StAt H s st) : StAt H' s st := by
  obtain ⟨xs, h1, h2⟩ := h
  exact ⟨xs, k.get h1 hs, h2.imp fun _ _ => ItAt.kp k⟩
theorem StAt.ex (e : Evl.Ex H H') (h : StAt H s st) : StAt H' s st := h.kp (kp_ex e : Kp [] H H') (by simp)
theorem ScAt.kp (k : Kp S H H') (hd : d ∉ S) (hf : ∀ t, f t ∉ S) (h : ScAt H d f sc) : ScAt H' d f sc := ⟨k.get h.d hd, fun t => k.get (h.l t) (hf t), h.inj⟩
theorem ScAt.ex (e : Evl.Ex H H') (h : ScAt H d f sc) : ScAt H' d f sc := h.kp (kp_ex e : Kp [] H H') (by simp) (by simp)
theorem ScAt.onst (k : Kp [s] H H') (hd : s ≠ d) (hf : ∀ t, f t ≠ s) (h : ScAt H d f sc) : ScAt H' d f sc := h.kp k (by simp [hd.symm]) (fun t => by simp [hf t])
theorem ScAt.nd (h : ScAt H d f sc) (t : Tb) : f t ≠ d := ne_of (h.l t) h.d (by intro z; cases z)
theorem StAt.nd (h : ScAt H d f sc) (hs : StAt H s st) : s ≠ d := by
  obtain ⟨xs, h1, _⟩ := hs
  exact ne_of h1 h.d (by intro z; cases z)
theorem ScAt.dt (h : ScAt H d f sc) : ∀ t : Tb, ∀ H1, Evl.Ex H H1 → DGet H1 d (.str (tbS t)) (some (.ref (f t)))
  | .var => dget_ex (k := .inr "var") h.d (by kernel_rfl)
  | .table => dget_ex (k := .inr "table") h.d (by kernel_rfl)
  | .lots => dget_ex (k := .inr "lots") h.d (by kernel_rfl)
  | .proc => dget_ex (k := .inr "proc") h.d (by kernel_rfl)
  | .loc => dget_ex (k := .inr "local") h.d (by kernel_rfl)
  | .asked => dget_ex (k := .inr "asked") h.d (by kernel_rfl)
theorem ScAt.ds (h : ScAt H d f sc) : ∀ H1, Evl.Ex H H1 → DGet H1 d (.str "stage") (some (.int ((sc.stage : Nat) : Int))) := dget_ex (k := .inr "stage") h.d (by kernel_rfl)
theorem ScAt.du (h : ScAt H d f sc) : ∀ H1, Evl.Ex H H1 → DGet H1 d (.str "upper") (some (.int sc.upper)) := dget_ex (k := .inr "upper") h.d (by kernel_rfl)
theorem ScAt.sq {K : PySem.W.Frag} (h : ScAt H d f sc) (t : Tb) : SqL K H (f t) ((sc.get t).map V.str) := sq_of (h.l t)
theorem All2.app {α : Type} {R : α → V → Prop} : ∀ {rs qs : List α} {xs ys : List V}, All2 R rs xs → All2 R qs ys → All2 R (rs ++ qs) (xs ++ ys)
  | [], _, _, _, e, h => by cases (show _ = [] from e); exact h
  | _ :: _, _, _, _, ⟨u, ys, e, h1, h2⟩, h => by subst e; exact ⟨u, _, rfl, h1, All2.app h2 h⟩
/-- readings of a few items -/
def EvI (ta : TA) (σ : L2.St) (H : Hp) (its : List It) : Prop := ∀ H1, Evl.Ex H H1 → ∀ Q : List V → Hp → Prop, (∀ vs H2, Evl.Ex H1 H2 → All2 (ItAt H2) its vs → Q vs H2) → ta σ H1 Q
variable {σ : L2.St} {ta tr : TA} {te : TE} {its : List It} {K : PySem.W.Frag} {tz : TS} {D : Ends} {to : TE}
theorem ei_nil : EvI tNil σ H [] := fun H1 _ _ q => q [] H1 (Evl.Ex.refl H1) rfl
theorem ei_tup (h : EvA ta σ H (itT i)) (hr : EvI tr σ H its) : EvI (tCons (tTup ta) tr) σ H (i :: its) := fun H1 e Q q =>
  h H1 e _ fun H2 e2 => ⟨sz (itT_small i), fun p hp => hr _ ((e.trans e2).trans (Evl.Ex.new hp)) _ fun vs H3 e3 h3 => q _ H3 ((e2.trans (Evl.Ex.new hp)).trans e3) ⟨_, _, rfl, ⟨p, rfl, e3 _ _ upd_same⟩, h3⟩⟩
theorem ei_var (h : Ev te σ H v) (hi : ItAt H i v) (hr : EvI tr σ H its) : EvI (tCons te tr) σ H (i :: its) := fun H1 e Q q =>
  h H1 e _ fun H2 e2 => hr H2 (e.trans e2) _ fun vs H3 e3 h3 => q _ H3 (e2.trans e3) ⟨_, _, rfl, hi.kp (kp_ex ((e.trans e2).trans e3) : Kp [] _ _), h3⟩
theorem ex_lst {H1 : Hp} {xs : List V} {o : HO} (e : Evl.Ex H H1) (h : H s = some (.lst xs)) : Kp [s] H (upd H1 s o) := (kp_ex e : Kp [s] H H1).trans (Kp.lst (e _ _ h) (by simp))
theorem s_push (hs : StAt H s st) (ha : Ev to σ H (.ref s)) (h : EvI ta σ H its) (hz : st.length + its.length ≤ 1000000) (k : ∀ H1, Kp [s] H H1 → StAt H1 s (its.reverse ++ st) → D.nx σ H1) :
    tDrop (tBM K "list" rExtend to (tCons (tLst ta) tNil)) D σ H := by
  obtain ⟨xs, h1, h2⟩ := hs
  have hl := h2.length
  rw [List.length_reverse] at hl
  refine ha H (Evl.Ex.refl H) _ fun H1 e1 => ⟨Or.inl ⟨rfl, xs, sq_of (e1 s _ h1)⟩, h H1 e1 _ fun vs H2 e2 hv => ?_⟩
  have hvl := hv.length
  refine ⟨sz (by omega), fun p hp => ⟨s, p, xs, vs, rfl, rfl, get_new hp (e2 _ _ (e1 _ _ h1)), upd_same, sz (by omega), k _ ?_ ⟨_, upd_same, ?_⟩⟩⟩
  · exact ex_lst ((e1.trans e2).trans (Evl.Ex.new hp)) h1
  · rw [List.reverse_append, List.reverse_reverse]
    have e' : Kp [s] H2 (upd (upd H2 p (.lst vs)) s (.lst (xs ++ vs))) := ex_lst (Evl.Ex.new hp) (e2 _ _ (e1 _ _ h1))
    exact ((h2.imp fun _ _ => ItAt.kp (kp_ex (e1.trans e2) : Kp [] _ _)).imp fun _ _ => ItAt.kp e').app (hv.imp fun _ _ => ItAt.kp e')
theorem q_push (hs : StAt H s st) (ha : Ev to σ H (.ref s)) (h : EvI ta σ H its) (hz : st.length + its.length ≤ 1000000) (k : ∀ H1, Kp [s] H H1 → StAt H1 s (its.reverse ++ st) → tz D σ H1) :
    tSeq (tDrop (tBM K "list" rExtend to (tCons (tLst ta) tNil))) tz D σ H := s_push (D := { D with nx := tz D }) hs ha h hz k
theorem s_pushA (hs : StAt H s st) (ha : Ev to σ H (.ref s)) (h : EvA ta σ H (itT i)) (hz : st.length < 1000000) (k : ∀ H1, Kp [s] H H1 → StAt H1 s (i :: st) → D.nx σ H1) :
    tDrop (tBM K "list" rAppend to (tCons (tTup ta) tNil)) D σ H := by
  obtain ⟨xs, h1, h2⟩ := hs
  have hl := h2.length
  rw [List.length_reverse] at hl
  refine ha H (Evl.Ex.refl H) _ fun H1 e1 => ⟨Or.inl ⟨rfl, xs, sq_of (e1 s _ h1)⟩, h H1 e1 _ fun H2 e2 => ⟨sz (itT_small i), fun p hp => ?_⟩⟩
  have e' : Kp [s] H2 (upd (upd H2 p (.tup (itT i))) s (.lst (xs ++ [.ref p]))) := ex_lst (Evl.Ex.new hp) (e2 _ _ (e1 _ _ h1))
  have hp' : ItAt (upd (upd H2 p (.tup (itT i))) s (.lst (xs ++ [.ref p]))) i (.ref p) := ⟨p, rfl, by
    have := (Kp.lst (o := .lst (xs ++ [.ref p])) (get_new hp (e2 _ _ (e1 _ _ h1))) (by simp) : Kp [s] (upd H2 p (.tup (itT i))) _)
    exact this.2 _ _ upd_same⟩
  refine ⟨s, xs, .ref p, rfl, rfl, get_new hp (e2 _ _ (e1 _ _ h1)), szl (by omega), k _ (ex_lst ((e1.trans e2).trans (Evl.Ex.new hp)) h1) ⟨_, upd_same, ?_⟩⟩
  rw [List.reverse_cons]
  exact ((h2.imp fun _ _ => ItAt.kp (kp_ex (e1.trans e2) : Kp [] _ _)).imp fun _ _ => ItAt.kp e').app ⟨_, _, rfl, hp', rfl⟩
theorem q_pushA (hs : StAt H s st) (ha : Ev to σ H (.ref s)) (h : EvA ta σ H (itT i)) (hz : st.length < 1000000) (k : ∀ H1, Kp [s] H H1 → StAt H1 s (i :: st) → tz D σ H1) :
    tSeq (tDrop (tBM K "list" rAppend to (tCons (tTup ta) tNil))) tz D σ H := s_pushA (D := { D with nx := tz D }) hs ha h hz k
theorem nnil_len {l : List Str} : decide (((l.map V.str).length : Int) > 0) = decide (l ≠ []) := by
  cases l with
  | nil => rfl
  | cons a l =>
    rw [decide_eq_true, decide_eq_true]
    · exact fun z => by cases z
    · rw [List.length_map, List.length_cons]
      omega
/-- len(scope['..']) > 0 -/
theorem et_some (h : ScAt H d f sc) (t : Tb) {ta tb : TE} (ha : Ev ta σ H (.ref d)) (hb : Ev tb σ H (.str (tbS t))) :
    EvT (tTest (tOp (rI0 fun i j => V.bl (decide (i > j))) (tCB (fun xs H Q => ∃ x n, xs = [x] ∧ LenV K x H n ∧ Q (.int n) H) (tCons (tDGet ta tb) tNil)) (tC (.int 0)))) σ H (decide (sc.get t ≠ [])) := by
  rw [← nnil_len]
  exact et_test (ev_op (ev_lenl (ev_dget ha hb (h.dt t)) (h.sq t)) ev_c rv_I0)
/-- word in scope['..'] -/
theorem ev_inSc {w : Str} (h : ScAt H d f sc) (t : Tb) {ta tb tw : TE} (hw : Ev tw σ H (.str w)) (ha : Ev ta σ H (.ref d)) (hb : Ev tb σ H (.str (tbS t))) : Ev (tOp (rIn K false) tw (tDGet ta tb)) σ H (.bl (decide (w ∈ sc.get t))) :=
  ev_inLS hw (ev_dget ha hb (h.dt t)) (h.sq t)
end
def spValues : Sp := fun vs H Q _ => ∃ s d f sc st w r, vs = [.ref s, .ref d, .str w, .int ((r : Nat) : Int)] ∧ ScAt H d f sc ∧ StAt H s st ∧ (∀ t, f t ≠ s) ∧ st.length ≤ 900000 ∧ w.length ≤ 1000000 ∧
  (∀ st' H', stValue sc st w r = some st' → Kp [s] H H' → StAt H' s st' → Q (.bl true) H') ∧ ∀ H', stValue sc st w r = none → Kp [s] H H' → Q (.bl false) H'
def spBegins : Sp := fun vs H Q _ => ∃ s d f sc st w r, vs = [.ref s, .ref d, .str w, .int ((r : Nat) : Int)] ∧ ScAt H d f sc ∧ StAt H s st ∧ (∀ t, f t ≠ s) ∧ st.length ≤ 900000 ∧ w.length ≤ 1000000 ∧
  (∀ st' H', stBegins sc st w r = some st' → Kp [s] H H' → StAt H' s st' → Q (.bl true) H') ∧ ∀ H', stBegins sc st w r = none → Kp [s] H H' → Q (.bl false) H'
def spBlocks : Sp := fun vs H Q _ => ∃ s d f sc st w r k, vs = [.ref s, .ref d, .str w, .int ((r : Nat) : Int), .str (kdS k)] ∧ ScAt H d f sc ∧ StAt H s st ∧ (∀ t, f t ≠ s) ∧ st.length ≤ 890000 ∧ w.length ≤ 1000000 ∧
  (∀ st' H', stBlocks sc st w r k = some st' → Kp [s] H H' → StAt H' s st' → Q (.bl true) H') ∧ ∀ H', stBlocks sc st w r k = none → Kp [s] H H' → Q (.bl false) H'
theorem gt1 {r : Nat} : decide (((r : Nat) : Int) > 1) = decide (1 < r) := decide_eq_decide.mpr (by omega)
theorem gt0 {r : Nat} : decide (((r : Nat) : Int) > 0) = decide (0 < r) := decide_eq_decide.mpr (by omega)
theorem and_d {p q : Prop} [Decidable p] [Decidable q] : (decide p && decide q) = true ↔ p ∧ q := by
  rw [Bool.and_eq_true, decide_eq_true_eq, decide_eq_true_eq]
theorem nand_d {p q : Prop} [Decidable p] [Decidable q] (h : (decide p && decide q) = false) : ¬ (p ∧ q) := fun z => by
  rw [and_d.mpr z] at h
  cases h
section
variable {P : Program} {w : World} {K : PySem.W.Frag} {mg : Str → Option Value} {base : Heap}
theorem sp_num {x : Str} {lo hi : Int} {H : Hp} (hx : x.length ≤ 1000000) : SpV spIsNum [.str x, .int lo, .int hi] H (.bl (inR x lo hi)) := fun H1 _ Q q _ => ⟨x, lo, hi, rfl, hx, fun H2 e2 => q H2 e2⟩
theorem sp_name {x : Str} {H : Hp} (hx : x.length ≤ 1000000) : SpV spIsName [.str x] H (.bl (isName x)) := fun H1 _ Q q _ => ⟨x, rfl, hx, fun H2 e2 => q H2 e2⟩
theorem fn_law_values (T : Txt K mg) (h_law_is_number : FnP P w K mg base CX0 1 "_law_is_number" ["_law_word", "_law_least", "_law_most"] spIsNum) : FnP P w K mg base CX0 2 "_law_values" ["_law_stack", "_law_scope", "_law_word", "_law_room"] spValues := by
  have S : FnScope ["_law_stack", "_law_scope", "_law_word", "_law_room"] ["_law_stack", "_law_scope", "_law_word", "_law_room"] (defScope (top 46)) := ⟨rfl, rfl, rfl, by decide +kernel, rfl, by decide +kernel, by decide +kernel⟩
  have nd := S.nd
  refine FnP.of0 T.d_law_values T.g_law_values S ba_law_values (fun vs H Q E h => ?_) (fun cdv A outer s H vs Q E hr h => ?_)
  · obtain ⟨s, d, f, sc, st, x, r, rfl, _⟩ := h
    rfl
  obtain ⟨s, d, f, sc, st, x, r, rfl, hsc, hst, hfs, hlen, hx, hQ1, hQ2⟩ := h
  refine ⟨_, (pss_cons (ps_if (PW.pt (pw_and (pt_cmpR op_in_seq (pv 2) (pe_tup (pa_cons pe_str (pa_cons pe_str (pa_cons pe_str (pa_cons pe_str (pa_cons pe_str (pa_cons pe_str (pa_cons pe_str pa_nil)))))))) (by with_unfolding_all rfl)) (pw_and1 (pt_cmpR op_gt (pv 3) pe_int (nomark _))))) (pss_cons (ps_expr (pe_bm PySem.F.plainAttrs_list PySem.F.slot_list_extend PySem.F.type_list_extend mt_extend (pv 0) (pa_cons (pe_lst (pa_cons (pe_tup (pa_cons pe_str (pa_cons (pe_op op_sub (pv 3) pe_int) pa_nil))) (pa_cons (pe_tup (pa_cons pe_str (pa_cons (pe_op op_sub (pv 3) pe_int) pa_nil))) pa_nil))) pa_nil)))
    (pss_one (ps_ret pe_bl))) pss_nil)
    (pss_cons (ps_if (PW.pt (pw_and (pt_cmpR op_in_seq (pv 2) (pe_tup (pa_cons pe_str (pa_cons pe_str pa_nil))) (by with_unfolding_all rfl)) (pw_and (pt_cmpR op_gt (pv 3) pe_int (nomark _)) (pw_and1 (pt_cmpR op_gt (pe_callB call_len (by rfl) T.f_len (by decide +kernel) (pa_cons (pe_dget (hu_of hr) (pv 1) pe_str (fun _ _ => rfl)) pa_nil)) pe_int (nomark _)))))) (pss_cons (ps_expr (pe_bm PySem.F.plainAttrs_list PySem.F.slot_list_extend PySem.F.type_list_extend mt_extend (pv 0) (pa_cons (pe_lst (pa_cons (pe_tup (pa_cons pe_str (pa_cons (pe_op op_sub (pv 3) pe_int) pa_nil))) (pa_cons (pe_tup (pa_cons pe_str (pa_cons pe_str pa_nil))) pa_nil))) pa_nil)))
    (pss_one (ps_ret pe_bl))) pss_nil)
    (pss_one (ps_ret (pe_or (pe_cmpR op_in_seq (pv 2) (pe_dget (hu_of hr) (pv 1) pe_str (fun _ _ => rfl)) (by with_unfolding_all rfl)) (pe_or (pe_cmpR op_in_seq (pv 2) (pe_dget (hu_of hr) (pv 1) pe_str (fun _ _ => rfl)) (by with_unfolding_all rfl)) (pe_one (pe_cf h_law_is_number hr pass0 (pa_cons (pv 2) (pa_cons pe_int (pa_cons pe_int pa_nil))))))))))), ?_⟩
  have hsd := StAt.nd hsc hst
  have er : ∀ H : Hp, 1 < r → Ev (tOp (rI0 fun i j => V.int (i - j)) (tVar 3) (tC (.int 1))) [some (.ref s), some (.ref d), some (.str x), some (.int ((r : Nat) : Int))] H (.int (((r - 1 : Nat)) : Int)) := fun H hr =>
    ev_is (ev_op (ev_var rfl) ev_c rv_I0) (congrArg V.int (by omega))
  refine q_whenS (b := decide (x ∈ signs) && decide (1 < r)) (et_and (et_test (ev_inS (l := signs) (ev_var rfl) (eu_tup (ea_cons ev_c (ea_cons ev_c (ea_cons ev_c (ea_cons ev_c (ea_cons ev_c (ea_cons ev_c (ea_cons ev_c ea_nil))))))) (by decide)))) (fun _ => et_is (et_test (ev_op (ev_var rfl) ev_c rv_I0)) gt1)) (fun hb H1 e1 => ?_) (fun hb H1 e1 => ?_)
  · obtain ⟨h1, h2⟩ := and_d.mp hb
    refine q_push (hst.ex e1) (ev_var rfl) (ei_tup (i := .value (r - 1)) (ea_cons ev_c (ea_cons (er _ h2) ea_nil)) (ei_tup (i := .value (r - 1)) (ea_cons ev_c (ea_cons (er _ h2) ea_nil)) ei_nil)) (by show _ + 2 ≤ _; omega) fun H2 k2 s2 => ?_
    exact s_ret (v := .bl true) ev_c fun H3 e3 => hQ1 _ H3 (if_pos ⟨h1, h2⟩) (((kp_ex e1).trans k2).trans (kp_ex e3)) (s2.ex e3)
  have n1 := nand_d hb
  refine q_whenS (b := decide (x ∈ [("has" : Str), "cell"]) && (decide (1 < r) && decide (sc.get .table ≠ []))) (et_and (et_test (ev_inS (l := [("has" : Str), "cell"]) (ev_var rfl) (eu_tup (ea_cons ev_c (ea_cons ev_c ea_nil)) (by decide)))) (fun _ => et_and (et_is (et_test (ev_op (ev_var rfl) ev_c rv_I0)) gt1) (fun _ => et_some (hsc.ex e1) .table (ev_var rfl) ev_c))) (fun hb H2 e2 => ?_) (fun hb H2 e2 => ?_)
  · obtain ⟨h1, h2⟩ := Bool.and_eq_true_iff.mp hb
    obtain ⟨h2, h3⟩ := and_d.mp h2
    have h1 := dec_t h1
    refine q_push (hst.ex (e1.trans e2)) (ev_var rfl) (ei_tup (i := .value (r - 1)) (ea_cons ev_c (ea_cons (er _ h2) ea_nil)) (ei_tup (i := .one .table) (ea_cons ev_c (ea_cons ev_c ea_nil)) ei_nil)) (by show _ + 2 ≤ _; omega) fun H3 k3 s3 => ?_
    refine s_ret (v := .bl true) ev_c fun H4 e4 => hQ1 _ H4 ?_ (((kp_ex (e1.trans e2)).trans k3).trans (kp_ex e4)) (s3.ex e4)
    unfold stValue
    rw [if_neg n1, if_pos ⟨by simpa using h1, h2, h3⟩]
    rfl
  have hn2 : ¬ ((x = "has" ∨ x = "cell") ∧ 1 < r ∧ sc.table ≠ []) := fun ⟨z1, z2, z3⟩ => by
    rw [decide_eq_true (show x ∈ [("has" : Str), "cell"] by simpa using z1), decide_eq_true z2, decide_eq_true (show sc.get .table ≠ [] from z3)] at hb
    cases hb
  have hs2 := hsc.ex (e1.trans e2)
  refine s_ret (v := .bl (decide (x ∈ sc.get .loc) || (decide (x ∈ sc.get .var) || inR x 0 65535))) (ev_orV (ev_inSc hs2 .loc (ev_var rfl) (ev_var rfl) ev_c) (fun _ => ev_orV (ev_inSc hs2 .var (ev_var rfl) (ev_var rfl) ev_c) (fun _ => ev_call (ea_cons (ev_var rfl) (ea_cons ev_c (ea_cons ev_c ea_nil))) (sp_num hx)))) fun H3 e3 => ?_
  have k3 : Kp [s] H H3 := kp_ex ((e1.trans e2).trans e3)
  cases hb : (decide (x ∈ sc.get .loc) || (decide (x ∈ sc.get .var) || inR x 0 65535)) with
  | true =>
    refine hQ1 st H3 ?_ k3 (hst.ex ((e1.trans e2).trans e3))
    unfold stValue
    rw [if_neg n1, if_neg hn2, if_pos]
    rw [Bool.or_eq_true, Bool.or_eq_true, decide_eq_true_eq, decide_eq_true_eq] at hb
    exact hb
  | false =>
    refine hQ2 H3 ?_ k3
    unfold stValue
    rw [if_neg n1, if_neg hn2, if_neg]
    rw [Bool.or_eq_false_iff, Bool.or_eq_false_iff, decide_eq_false_iff_not, decide_eq_false_iff_not] at hb
    rintro (z | z | z)
    · exact hb.1 z
    · exact hb.2.1 z
    · rw [hb.2.2] at z; cases z
end
end K4

/-! The law's recognizer: heads of statements, blocks. -/
namespace K4
open PySem PySem.Spec PyProof.Rows L2 Evl
theorem kd_inj {a b : Kd} (h : kdS a = kdS b) : a = b := by
  revert h
  cases a <;> cases b <;> first | exact fun _ => rfl | exact fun h => absurd h (by decide)
section
variable {P : Program} {w : World} {K : PySem.W.Frag} {mg : Str → Option Value} {base : Heap}
theorem fn_law_begins (T : Txt K mg) : FnP P w K mg base CX0 1 "_law_begins" ["_law_stack", "_law_scope", "_law_word", "_law_room"] spBegins := by
  have S : FnScope ["_law_stack", "_law_scope", "_law_word", "_law_room", "_law_value"] ["_law_stack", "_law_scope", "_law_word", "_law_room"] (defScope (top 47)) := ⟨rfl, rfl, rfl, by decide +kernel, rfl, by decide +kernel, by decide +kernel⟩
  have nd := S.nd
  refine FnP.of0 T.d_law_begins T.g_law_begins S ba_law_begins (fun vs H Q E h => ?_) (fun cdv A outer s H vs Q E hr h => ?_)
  · obtain ⟨s, d, f, sc, st, x, r, rfl, _⟩ := h
    rfl
  obtain ⟨s, d, f, sc, st, x, r, rfl, hsc, hst, hfs, hlen, hx, hQ1, hQ2⟩ := h
  refine ⟨_, (pss_cons (ps_set (i := 4) nd rfl (Or.inl rfl) (pe_tup (pa_cons pe_str (pa_cons pe_int pa_nil))))
    (C8.pss_cut (ps_if (PW.pt (pw_and (pt_cmpR op_eq (pv 2) pe_str (nomark _)) (pw_and1 (pt_cmpR op_gt (pe_callB call_len (by rfl) T.f_len (by decide +kernel) (pa_cons (pe_dget (hu_of hr) (pv 1) pe_str (fun _ _ => rfl)) pa_nil)) pe_int (nomark _))))) (pss_one (ps_expr (pe_bm PySem.F.plainAttrs_list PySem.F.slot_list_extend PySem.F.type_list_extend mt_extend (pv 0) (pa_cons (pe_lst (pa_cons (pv 4) (pa_cons (pe_tup (pa_cons pe_str (pa_cons pe_str pa_nil))) pa_nil))) pa_nil)))) (pss_one (ps_if (pt_cmpR op_eq (pv 2) pe_str (nomark _)) (pss_one (ps_expr (pe_bm PySem.F.plainAttrs_list PySem.F.slot_list_extend PySem.F.type_list_extend mt_extend (pv 0) (pa_cons (pe_lst (pa_cons (pv 4) (pa_cons (pe_tup (pa_cons pe_str (pa_cons pe_str pa_nil))) pa_nil))) pa_nil)))) (pss_one (ps_if (pt_cmpR op_eq (pv 2) pe_str (nomark _)) (pss_one (ps_expr (pe_bm PySem.F.plainAttrs_list PySem.F.slot_list_extend PySem.F.type_list_extend mt_extend (pv 0) (pa_cons (pe_lst (pa_cons (pe_tup (pa_cons pe_str (pa_cons pe_int (pa_cons pe_int pa_nil)))) (pa_cons (pe_tup (pa_cons pe_str (pa_cons pe_str pa_nil))) pa_nil))) pa_nil)))) (pss_one (ps_if (PW.pt (pw_and (pt_cmpR op_eq (pv 2) pe_str (nomark _)) (pw_and1 (pt_cmpR op_gt (pe_callB call_len (by rfl) T.f_len (by decide +kernel) (pa_cons (pe_dget (hu_of hr) (pv 1) pe_str (fun _ _ => rfl)) pa_nil)) pe_int (nomark _))))) (pss_one (ps_expr (pe_bm PySem.F.plainAttrs_list PySem.F.slot_list_extend PySem.F.type_list_extend mt_extend (pv 0) (pa_cons (pe_lst (pa_cons (pv 4) (pa_cons (pv 4) (pa_cons (pe_tup (pa_cons pe_str (pa_cons pe_str pa_nil))) pa_nil)))) pa_nil)))) (pss_one (ps_if (PW.pt (pw_and (pt_cmpR op_eq (pv 2) pe_str (nomark _)) (pw_and1 (pt_cmpR op_gt (pe_callB call_len (by rfl) T.f_len (by decide +kernel) (pa_cons (pe_dget (hu_of hr) (pv 1) pe_str (fun _ _ => rfl)) pa_nil)) pe_int (nomark _))))) (pss_one (ps_expr (pe_bm PySem.F.plainAttrs_list PySem.F.slot_list_extend PySem.F.type_list_extend mt_extend (pv 0) (pa_cons (pe_lst (pa_cons (pv 4) (pa_cons (pe_tup (pa_cons pe_str (pa_cons pe_str pa_nil))) (pa_cons (pe_tup (pa_cons pe_str (pa_cons pe_str pa_nil))) pa_nil)))) pa_nil)))) (pss_one (ps_if (PW.pt (pw_and (pt_cmpR op_eq (pv 2) pe_str (nomark _)) (pw_and1 (pt_cmpR op_gt (pe_callB call_len (by rfl) T.f_len (by decide +kernel) (pa_cons (pe_dget (hu_of hr) (pv 1) pe_str (fun _ _ => rfl)) pa_nil)) pe_int (nomark _))))) (pss_one (ps_expr (pe_bm PySem.F.plainAttrs_list PySem.F.slot_list_extend PySem.F.type_list_extend mt_extend (pv 0) (pa_cons (pe_lst (pa_cons (pv 4) (pa_cons (pe_tup (pa_cons pe_str (pa_cons pe_str pa_nil))) (pa_cons (pe_tup (pa_cons pe_str (pa_cons pe_str pa_nil))) pa_nil)))) pa_nil)))) (pss_one (ps_if (PW.pt (pw_and (pt_cmpR op_eq (pv 2) pe_str (nomark _)) (pw_and1 (pt_cmpR op_gt (pv 3) pe_int (nomark _))))) (pss_one (ps_expr (pe_bm PySem.F.plainAttrs_list PySem.F.slot_list_extend PySem.F.type_list_extend mt_extend (pv 0) (pa_cons (pe_lst (pa_cons (pe_tup (pa_cons pe_str (pa_cons (pe_op op_sub (pv 3) pe_int) (pa_cons pe_str pa_nil)))) (pa_cons (pv 4) pa_nil))) pa_nil)))) (pss_one (ps_if (PW.pt (pw_and (pt_cmpR op_eq (pv 2) pe_str (nomark _)) (pw_and1 (pt_cmpR op_gt (pv 3) pe_int (nomark _))))) (pss_one (ps_expr (pe_bm PySem.F.plainAttrs_list PySem.F.slot_list_append PySem.F.type_list_append mt_append (pv 0) (pa_cons (pe_tup (pa_cons pe_str (pa_cons (pe_op op_sub (pv 3) pe_int) (pa_cons pe_str pa_nil)))) pa_nil)))) (pss_one (ps_ret (pe_cmpR op_eq (pv 2) pe_str (nomark _)))))))))))))))))))
    (pss_one (ps_ret pe_bl)))), ?_⟩
  have hsd := StAt.nd hsc hst
  refine q_asgU (eu_tup (ea_cons ev_c (ea_cons ev_c ea_nil)) (by decide)) fun a H1 _ e1 ha => ?_
  have hv : ∀ {H2 : Hp}, Evl.Ex H1 H2 → ItAt H2 (.value 8) (.ref a) := fun e => ⟨a, rfl, e _ _ ha⟩
  have er : ∀ {σ : L2.St} {H : Hp}, σ[3]? = some (some (.int ((r : Nat) : Int))) → 0 < r → Ev (tOp (rI0 fun i j => V.int (i - j)) (tVar 3) (tC (.int 1))) σ H (.int (((r - 1 : Nat)) : Int)) := fun {σ H} hs hr =>
    ev_is (ev_op (ev_var hs) ev_c rv_I0) (congrArg V.int (by omega))
  refine ⟨fun σ' H' => ∃ st', stBegins sc st x r = some st' ∧ Kp [s] H H' ∧ StAt H' s st', ?_, ?_⟩
  case refine_2 =>
    rintro σ' H' ⟨st', h1, h2, h3⟩
    exact s_ret (v := .bl true) ev_c fun H3 e3 => hQ1 _ H3 h1 (h2.trans (kp_ex e3)) (h3.ex e3)
  refine s_if (b := decide (x = "set") && decide (sc.get .var ≠ [])) (et_and (et_eqS (ev_var rfl) ev_c) (fun _ => et_some (hsc.ex e1) .var (ev_var rfl) ev_c)) (fun hb H2 e2 => ?_) (fun n1 H2 e2 => ?_)
  · refine s_push (hst.ex (e1.trans e2)) (ev_var rfl) (ei_var (ev_var rfl) (hv e2) (ei_tup (i := .one .var) (ea_cons ev_c (ea_cons ev_c ea_nil)) ei_nil)) (by show _ + 2 ≤ _; omega) fun H3 k3 s3 => ?_
    exact ⟨_, by unfold stBegins; rw [if_pos (show x = "set" ∧ sc.var ≠ [] from and_d.mp hb)]; rfl, (kp_ex (e1.trans e2)).trans k3, s3⟩
  have n1 : ¬ (x = "set" ∧ sc.var ≠ []) := nand_d n1
  refine s_if (b := decide (x = "let")) (et_eqS (ev_var rfl) ev_c) (fun hb H3 e3 => ?_) (fun n2 H3 e3 => ?_)
  · refine s_push (hst.ex ((e1.trans e2).trans e3)) (ev_var rfl) (ei_var (ev_var rfl) (hv (e2.trans e3)) (ei_tup (i := .one .loc) (ea_cons ev_c (ea_cons ev_c ea_nil)) ei_nil)) (by show _ + 2 ≤ _; omega) fun H3 k3 s3 => ?_
    exact ⟨_, by unfold stBegins; rw [if_neg n1, if_pos (dec_t hb)]; rfl, (kp_ex ((e1.trans e2).trans e3)).trans k3, s3⟩
  have n2 := dec_f n2
  refine s_if (b := decide (x = "draw")) (et_eqS (ev_var rfl) ev_c) (fun hb H4 e4 => ?_) (fun n3 H4 e4 => ?_)
  · refine s_push (hst.ex (((e1.trans e2).trans e3).trans e4)) (ev_var rfl) (ei_tup (i := .num 1 64) (ea_cons ev_c (ea_cons ev_c (ea_cons ev_c ea_nil))) (ei_tup (i := .one .loc) (ea_cons ev_c (ea_cons ev_c ea_nil)) ei_nil)) (by show _ + 2 ≤ _; omega) fun H3 k3 s3 => ?_
    exact ⟨_, by unfold stBegins; rw [if_neg n1, if_neg n2, if_pos (dec_t hb)]; rfl, (kp_ex (((e1.trans e2).trans e3).trans e4)).trans k3, s3⟩
  have n3 := dec_f n3
  have f1 := ((e1.trans e2).trans e3).trans e4
  refine s_if (b := decide (x = "put") && decide (sc.get .table ≠ [])) (et_and (et_eqS (ev_var rfl) ev_c) (fun _ => et_some (hsc.ex f1) .table (ev_var rfl) ev_c)) (fun hb H5 e5 => ?_) (fun n4 H5 e5 => ?_)
  · refine s_push (hst.ex (f1.trans e5)) (ev_var rfl) (ei_var (ev_var rfl) (hv (((e2.trans e3).trans e4).trans e5)) (ei_var (ev_var rfl) (hv (((e2.trans e3).trans e4).trans e5)) (ei_tup (i := .one .table) (ea_cons ev_c (ea_cons ev_c ea_nil)) ei_nil))) (by show _ + 3 ≤ _; omega) fun H3 k3 s3 => ?_
    exact ⟨_, by unfold stBegins; rw [if_neg n1, if_neg n2, if_neg n3, if_pos (show x = "put" ∧ sc.table ≠ [] from and_d.mp hb)]; rfl, (kp_ex (f1.trans e5)).trans k3, s3⟩
  have n4 : ¬ (x = "put" ∧ sc.table ≠ []) := nand_d n4
  have f2 := f1.trans e5
  have f1' := ((e2.trans e3).trans e4).trans e5
  refine s_if (b := decide (x = "lot") && decide (sc.get .lots ≠ [])) (et_and (et_eqS (ev_var rfl) ev_c) (fun _ => et_some (hsc.ex f2) .lots (ev_var rfl) ev_c)) (fun hb H6 e6 => ?_) (fun n5 H6 e6 => ?_)
  · refine s_push (hst.ex (f2.trans e6)) (ev_var rfl) (ei_var (ev_var rfl) (hv (f1'.trans e6)) (ei_tup (i := .one .lots) (ea_cons ev_c (ea_cons ev_c ea_nil)) (ei_tup (i := .one .loc) (ea_cons ev_c (ea_cons ev_c ea_nil)) ei_nil))) (by show _ + 3 ≤ _; omega) fun H3 k3 s3 => ?_
    exact ⟨_, by unfold stBegins; rw [if_neg n1, if_neg n2, if_neg n3, if_neg n4, if_pos (show x = "lot" ∧ sc.lots ≠ [] from and_d.mp hb)]; rfl, (kp_ex (f2.trans e6)).trans k3, s3⟩
  have n5 : ¬ (x = "lot" ∧ sc.lots ≠ []) := nand_d n5
  have f3 := f2.trans e6
  refine s_if (b := decide (x = "ask") && decide (sc.get .asked ≠ [])) (et_and (et_eqS (ev_var rfl) ev_c) (fun _ => et_some (hsc.ex f3) .asked (ev_var rfl) ev_c)) (fun hb H7 e7 => ?_) (fun n6 H7 e7 => ?_)
  · refine s_push (hst.ex (f3.trans e7)) (ev_var rfl) (ei_var (ev_var rfl) (hv ((f1'.trans e6).trans e7)) (ei_tup (i := .one .asked) (ea_cons ev_c (ea_cons ev_c ea_nil)) (ei_tup (i := .one .loc) (ea_cons ev_c (ea_cons ev_c ea_nil)) ei_nil))) (by show _ + 3 ≤ _; omega) fun H3 k3 s3 => ?_
    exact ⟨_, by unfold stBegins; rw [if_neg n1, if_neg n2, if_neg n3, if_neg n4, if_neg n5, if_pos (show x = "ask" ∧ sc.asked ≠ [] from and_d.mp hb)]; rfl, (kp_ex (f3.trans e7)).trans k3, s3⟩
  have n6 : ¬ (x = "ask" ∧ sc.asked ≠ []) := nand_d n6
  have f4 := f3.trans e7
  have f4' := (f1'.trans e6).trans e7
  refine s_if (b := decide (x = "if") && decide (0 < r)) (et_and (et_eqS (ev_var rfl) ev_c) (fun _ => et_is (et_test (ev_op (ev_var rfl) ev_c rv_I0)) gt0)) (fun hb H8 e8 => ?_) (fun n7 H8 e8 => ?_)
  · refine s_push (hst.ex (f4.trans e8)) (ev_var rfl) (ei_tup (i := .block (r - 1) .then_) (ea_cons ev_c (ea_cons (er rfl (and_d.mp hb).2) (ea_cons ev_c ea_nil))) (ei_var (ev_var rfl) (hv (f4'.trans e8)) ei_nil)) (by show _ + 2 ≤ _; omega) fun H3 k3 s3 => ?_
    exact ⟨_, by unfold stBegins; rw [if_neg n1, if_neg n2, if_neg n3, if_neg n4, if_neg n5, if_neg n6, if_pos (and_d.mp hb)]; rfl, (kp_ex (f4.trans e8)).trans k3, s3⟩
  have n7 := nand_d n7
  have f5 := f4.trans e8
  refine s_if (b := decide (x = "after") && decide (0 < r)) (et_and (et_eqS (ev_var rfl) ev_c) (fun _ => et_is (et_test (ev_op (ev_var rfl) ev_c rv_I0)) gt0)) (fun hb H9 e9 => ?_) (fun n8 H9 e9 => ?_)
  · refine s_pushA (i := .block (r - 1) .after) (hst.ex (f5.trans e9)) (ev_var rfl) (ea_cons ev_c (ea_cons (er rfl (and_d.mp hb).2) (ea_cons ev_c ea_nil))) (by omega) fun H3 k3 s3 => ?_
    exact ⟨_, by unfold stBegins; rw [if_neg n1, if_neg n2, if_neg n3, if_neg n4, if_neg n5, if_neg n6, if_neg n7, if_pos (and_d.mp hb)], (kp_ex (f5.trans e9)).trans k3, s3⟩
  have n8 := nand_d n8
  have f6 := f5.trans e9
  refine s_ret (v := .bl (decide (x = "bad"))) (ev_eqS (ev_var rfl) ev_c) fun H10 e10 => ?_
  have k3 : Kp [s] H H10 := kp_ex (f6.trans e10)
  by_cases hb : x = "bad"
  · rw [decide_eq_true hb]
    refine hQ1 st H10 ?_ k3 (hst.ex (f6.trans e10))
    unfold stBegins
    rw [if_neg n1, if_neg n2, if_neg n3, if_neg n4, if_neg n5, if_neg n6, if_neg n7, if_neg n8, if_pos hb]
  · rw [decide_eq_false hb]
    refine hQ2 H10 ?_ k3
    unfold stBegins
    rw [if_neg n1, if_neg n2, if_neg n3, if_neg n4, if_neg n5, if_neg n6, if_neg n7, if_neg n8, if_neg hb]
theorem fn_law_blocks (T : Txt K mg) (h_law_begins : FnP P w K mg base CX0 1 "_law_begins" ["_law_stack", "_law_scope", "_law_word", "_law_room"] spBegins) : FnP P w K mg base CX0 2 "_law_blocks" ["_law_stack", "_law_scope", "_law_word", "_law_room", "_law_kind"] spBlocks := by
  have S : FnScope ["_law_stack", "_law_scope", "_law_word", "_law_room", "_law_kind"] ["_law_stack", "_law_scope", "_law_word", "_law_room", "_law_kind"] (defScope (top 48)) := ⟨rfl, rfl, rfl, by decide +kernel, rfl, by decide +kernel, by decide +kernel⟩
  have nd := S.nd
  refine FnP.of0 T.d_law_blocks T.g_law_blocks S ba_law_blocks (fun vs H Q E h => ?_) (fun cdv A outer s H vs Q E hr h => ?_)
  · obtain ⟨s, d, f, sc, st, x, r, k, rfl, _⟩ := h
    rfl
  obtain ⟨s, d, f, sc, st, x, r, k, rfl, hsc, hst, hfs, hlen, hx, hQ1, hQ2⟩ := h
  refine ⟨_, (pss_cons (ps_if (PW.pt (pw_and (pt_cmpR op_eq (pv 2) pe_str (nomark _)) (pw_and1 (pt_cmpR op_eq (pv 4) pe_str (nomark _))))) (pss_cons (ps_expr (pe_bm PySem.F.plainAttrs_list PySem.F.slot_list_extend PySem.F.type_list_extend mt_extend (pv 0) (pa_cons (pe_lst (pa_cons (pe_tup (pa_cons pe_str (pa_cons pe_str pa_nil))) (pa_cons (pe_tup (pa_cons pe_str (pa_cons pe_int pa_nil))) pa_nil))) pa_nil)))
    (pss_one (ps_ret pe_bl))) pss_nil)
    (pss_cons (ps_if (PW.pt (pw_and (pt_cmpR op_eq (pv 2) pe_str (nomark _)) (pw_and1 (pt_cmpR op_in_seq (pv 4) (pe_tup (pa_cons pe_str (pa_cons pe_str (pa_cons pe_str pa_nil)))) (by with_unfolding_all rfl))))) (pss_one (ps_ret pe_bl)) pss_nil)
    (pss_cons (ps_if (PW.pt (pw_and (pt_cmpR op_eq (pv 2) pe_str (nomark _)) (pw_and1 (pt_cmpR op_eq (pv 4) pe_str (nomark _))))) (pss_cons (ps_expr (pe_bm PySem.F.plainAttrs_list PySem.F.slot_list_append PySem.F.type_list_append mt_append (pv 0) (pa_cons (pe_tup (pa_cons pe_str (pa_cons (pv 3) (pa_cons pe_str pa_nil)))) pa_nil)))
    (pss_one (ps_ret pe_bl))) pss_nil)
    (C8.pss_cut (ps_if (pt_cmpR op_eq (pv 4) pe_str (nomark _)) (pss_one (ps_set (i := 4) nd rfl (Or.inl rfl) pe_str)) pss_nil)
    (pss_cons (ps_expr (pe_bm PySem.F.plainAttrs_list PySem.F.slot_list_append PySem.F.type_list_append mt_append (pv 0) (pa_cons (pe_tup (pa_cons pe_str (pa_cons (pv 3) (pa_cons (pv 4) pa_nil)))) pa_nil)))
    (pss_one (ps_ret (pe_cf h_law_begins hr pass0 (pa_cons (pv 0) (pa_cons (pv 1) (pa_cons (pv 2) (pa_cons (pv 3) pa_nil)))))))))))), ?_⟩
  have hsd := StAt.nd hsc hst
  have hk : ∀ {k' : Kd}, decide (kdS k = kdS k') = decide (k = k') := decide_eq_decide.mpr ⟨kd_inj, congrArg kdS⟩
  refine q_whenS (b := decide (x = "answer") && decide (k = .proc)) (et_and (et_eqS (ev_var rfl) ev_c) (fun _ => et_is (et_eqS (ev_var rfl) ev_c) (hk (k' := .proc)))) (fun hb H1 e1 => ?_) (fun n1 H1 e1 => ?_)
  · refine q_push (hst.ex e1) (ev_var rfl) (ei_tup (i := .word "end") (ea_cons ev_c (ea_cons ev_c ea_nil)) (ei_tup (i := .value 8) (ea_cons ev_c (ea_cons ev_c ea_nil)) ei_nil)) (by show _ + 2 ≤ _; omega) fun H2 k2 s2 => ?_
    exact s_ret (v := .bl true) ev_c fun H3 e3 => hQ1 _ H3 (if_pos (and_d.mp hb)) (((kp_ex e1).trans k2).trans (kp_ex e3)) (s2.ex e3)
  have n1 := nand_d n1
  have e345 : decide (kdS k ∈ [("then" : Str), "else", "after"]) = decide (k = .then_ ∨ k = .else_ ∨ k = .after) := by cases k <;> decide +kernel
  refine q_whenS (b := decide (x = "end") && decide (k = .then_ ∨ k = .else_ ∨ k = .after)) (et_and (et_eqS (ev_var rfl) ev_c) (fun _ => et_is (et_test (ev_inS (l := [("then" : Str), "else", "after"]) (ev_var rfl) (eu_tup (ea_cons ev_c (ea_cons ev_c (ea_cons ev_c ea_nil))) (by decide)))) e345)) (fun hb H2 e2 => ?_) (fun n2 H2 e2 => ?_)
  · refine s_ret (v := .bl true) ev_c fun H3 e3 => hQ1 st H3 ?_ (kp_ex ((e1.trans e2).trans e3)) (hst.ex ((e1.trans e2).trans e3))
    unfold stBlocks
    rw [if_neg n1, if_pos (and_d.mp hb)]
  have n2 := nand_d n2
  have f2 := e1.trans e2
  refine q_whenS (b := decide (x = "else") && decide (k = .then_)) (et_and (et_eqS (ev_var rfl) ev_c) (fun _ => et_is (et_eqS (ev_var rfl) ev_c) (hk (k' := .then_)))) (fun hb H3 e3 => ?_) (fun n3 H3 e3 => ?_)
  · refine q_pushA (i := .block r .empty) (hst.ex (f2.trans e3)) (ev_var rfl) (ea_cons ev_c (ea_cons (ev_var rfl) (ea_cons ev_c ea_nil))) (by omega) fun H4 k4 s4 => ?_
    refine s_ret (v := .bl true) ev_c fun H5 e5 => hQ1 _ H5 ?_ (((kp_ex (f2.trans e3)).trans k4).trans (kp_ex e5)) (s4.ex e5)
    unfold stBlocks
    rw [if_neg n1, if_neg n2, if_pos (and_d.mp hb)]
  have n3 := nand_d n3
  have f3 := f2.trans e3
  refine ⟨fun σ' H' => σ' = [some (.ref s), some (.ref d), some (.str x), some (.int ((r : Nat) : Int)), some (.str (kdS (kdE k)))] ∧ Evl.Ex H H', ?_, ?_⟩
  · refine s_when (b := decide (k = .empty)) (et_is (et_eqS (ev_var rfl) ev_c) (hk (k' := .empty))) (fun hb H4 e4 => ?_) (fun hb H4 e4 => ?_)
    · have hb := dec_t hb
      subst hb
      exact s_asg (v := .str "else") ev_c fun H5 e5 => ⟨rfl, (f3.trans e4).trans e5⟩
    · refine ⟨?_, f3.trans e4⟩
      cases k <;> first | rfl | exact absurd rfl (dec_f hb)
  rintro σ' H4 ⟨rfl, e4⟩
  refine q_pushA (i := .block r (kdE k)) (hst.ex e4) (ev_var rfl) (ea_cons ev_c (ea_cons (ev_var rfl) (ea_cons (ev_var rfl) ea_nil))) (by omega) fun H5 k5 s5 => ?_
  have hS : stBlocks sc st x r k = stBegins sc (.block r (kdE k) :: st) x r := by
    unfold stBlocks
    rw [if_neg n1, if_neg n2, if_neg n3]
  have k5' : Kp [s] H H5 := (kp_ex e4).trans k5
  refine ⟨_, rfl, _, rfl, _, rfl, _, rfl, s, d, f, sc, .block r (kdE k) :: st, x, r, rfl, hsc.onst k5' hsd hfs, s5, hfs, by rw [List.length_cons]; omega, hx, fun st' H' h1 k6 s6 => hQ1 st' H' (hS.trans h1) (k5'.trans k6) s6, fun H' h1 k6 => hQ2 H' (hS.trans h1) (k5'.trans k6)⟩
end
end K4

/-! The law's recognizer: the heads of declarations. -/
namespace K4
open PySem PySem.Spec PyProof.Rows L2 Evl
def hdI : Tb → Nat
  | .var => 0
  | .table => 1
  | .lots => 2
  | _ => 3
def isHd : Tb → Prop
  | .loc => False
  | .asked => False
  | _ => True
def hdSc (sc : Sc) : Tb → Sc
  | .proc => { sc with stage := 3, loc := [] }
  | t => { sc with stage := hdI t }
def hdSt (st : List It) : Tb → List It
  | .var => .new .var :: .size :: .first :: .head :: st
  | .proc => .new .proc :: .num 1 64 :: .num 1 64 :: .new .loc :: .locals :: .head :: st
  | t => .new t :: .num 1 64 :: .num 1 64 :: .head :: st
def ord4 : List Str := ["var", "table", "lots", "proc"]
theorem ord_at {t : Tb} (h : isHd t) : ord4[hdI t]? = some (tbS t) := by
  cases t <;> first | rfl | exact h.elim
theorem ord_of {w : Str} (h : w ∈ ord4) : ∃ t, isHd t ∧ w = tbS t := by
  simp only [ord4, List.mem_cons, List.not_mem_nil, or_false] at h
  rcases h with rfl | rfl | rfl | rfl
  · exact ⟨.var, trivial, rfl⟩
  · exact ⟨.table, trivial, rfl⟩
  · exact ⟨.lots, trivial, rfl⟩
  · exact ⟨.proc, trivial, rfl⟩
theorem heads_no {sc : Sc} {st : List It} {w : Str} (h : w ∉ ord4) : stHeads sc st w = none := by
  simp only [ord4, List.mem_cons, List.not_mem_nil, or_false, not_or] at h
  unfold stHeads
  rw [if_neg fun z => h.1 z.1, if_neg fun z => h.2.1 z.1, if_neg fun z => h.2.2.1 z.1, if_neg fun z => h.2.2.2 z.1]
theorem heads_yes {sc : Sc} {st : List It} {t : Tb} (h : isHd t) (h1 : sc.stage ≤ hdI t) (h2 : (sc.get t).length ≤ 5) : stHeads sc st (tbS t) = some (hdSc sc t, hdSt st t) := by
  unfold stHeads
  cases t with
  | var => rw [if_pos ⟨rfl, h1, h2⟩]; rfl
  | table =>
    rw [if_neg fun z => absurd z.1 (by decide), if_pos ⟨rfl, h1, h2⟩]; rfl
  | lots =>
    rw [if_neg fun z => absurd z.1 (by decide), if_neg fun z => absurd z.1 (by decide), if_pos ⟨rfl, h1, h2⟩]; rfl
  | proc =>
    rw [if_neg fun z => absurd z.1 (by decide), if_neg fun z => absurd z.1 (by decide), if_neg fun z => absurd z.1 (by decide), if_pos ⟨rfl, h1, h2⟩]; rfl
  | loc => exact h.elim
  | asked => exact h.elim
theorem heads_not {sc : Sc} {st : List It} {t : Tb} (h : isHd t) (h1 : ¬ (sc.stage ≤ hdI t ∧ (sc.get t).length ≤ 5)) : stHeads sc st (tbS t) = none := by
  unfold stHeads
  cases t with
  | var => rw [if_neg fun z => h1 z.2, if_neg fun z => absurd z.1 (by decide), if_neg fun z => absurd z.1 (by decide), if_neg fun z => absurd z.1 (by decide)]
  | table => rw [if_neg fun z => absurd z.1 (by decide), if_neg fun z => h1 z.2, if_neg fun z => absurd z.1 (by decide), if_neg fun z => absurd z.1 (by decide)]
  | lots => rw [if_neg fun z => absurd z.1 (by decide), if_neg fun z => absurd z.1 (by decide), if_neg fun z => h1 z.2, if_neg fun z => absurd z.1 (by decide)]
  | proc => rw [if_neg fun z => absurd z.1 (by decide), if_neg fun z => absurd z.1 (by decide), if_neg fun z => absurd z.1 (by decide), if_neg fun z => h1 z.2]
  | loc => exact h.elim
  | asked => exact h.elim
section
variable {S : List Addr} {H H' : Hp} {s d p : Addr} {f : Tb → Addr} {sc : Sc} {st : List It} {i : It} {v x y : V} {σ : L2.St} {ta tb te tx : TE} {K : PySem.W.Frag} {tz : TS} {D : Ends}
theorem ScAt.putS {j : Nat} (h : ScAt H d f sc) : ∃ H', DPut H d (.str "stage") (.int ((j : Nat) : Int)) H' ∧ Kp [d] H H' ∧ ScAt H' d f { sc with stage := j } := by
  have e : putK (scD f sc) (.inr "stage") (.int ((j : Nat) : Int)) = scD f { sc with stage := j } := by
    unfold scD
    kernel_rfl
  have k : Kp [d] H (upd H d (.dK (scD f { sc with stage := j }))) := Kp.dK h.d (by simp)
  refine ⟨_, DPut.k (k := .inr "stage") h.d (szl (show 8 < 1000000 by decide)), ?_, ?_⟩
  · rw [e]; exact k
  · rw [e]
    exact ⟨upd_same, fun t => by cases t <;> exact k.get1 (h.l _) (h.nd _), h.inj⟩
theorem ScAt.putU {u : Int} (h : ScAt H d f sc) : ∃ H', DPut H d (.str "upper") (.int u) H' ∧ Kp [d] H H' ∧ ScAt H' d f { sc with upper := u } := by
  have e : putK (scD f sc) (.inr "upper") (.int u) = scD f { sc with upper := u } := by
    unfold scD
    kernel_rfl
  have k : Kp [d] H (upd H d (.dK (scD f { sc with upper := u }))) := Kp.dK h.d (by simp)
  refine ⟨_, DPut.k (k := .inr "upper") h.d (szl (show 8 < 1000000 by decide)), ?_, ?_⟩
  · rw [e]; exact k
  · rw [e]
    exact ⟨upd_same, fun t => by cases t <;> exact k.get1 (h.l _) (h.nd _), h.inj⟩
def fL (f : Tb → Addr) (q : Addr) : Tb → Addr
  | .loc => q
  | t => f t
theorem ScAt.putL {q : Addr} (h : ScAt H d f sc) (hq : H q = some (.lst [])) (hn : ∀ t, f t ≠ q) : ∃ H', DPut H d (.str "local") (.ref q) H' ∧ Kp [d] H H' ∧ ScAt H' d (fL f q) { sc with loc := [] } := by
  have e : putK (scD f sc) (.inr "local") (.ref q) = scD (fL f q) { sc with loc := [] } := by
    unfold scD
    kernel_rfl
  have k : Kp [d] H (upd H d (.dK (scD (fL f q) { sc with loc := [] }))) := Kp.dK h.d (by simp)
  have nq : q ≠ d := ne_of hq h.d (by intro z; cases z)
  refine ⟨_, DPut.k (k := .inr "local") h.d (szl (show 8 < 1000000 by decide)), ?_, ?_⟩
  · rw [e]; exact k
  · rw [e]
    refine ⟨upd_same, fun t => by cases t <;> first | exact k.get1 (h.l _) (h.nd _) | exact k.get1 hq nq, fun t u z => ?_⟩
    have hi := h.inj t u
    cases t <;> cases u <;> first | rfl | exact absurd z (hn _) | exact absurd z.symm (hn _) | exact hi z
theorem q_dput (hv : Ev tx σ H v) (ha : Ev ta σ H (.ref d)) (hb : Ev tb σ H y) (k : ∀ H1, Evl.Ex H H1 → ∃ H4, DPut H1 d y v H4 ∧ tz D σ H4) : tSeq (sDPut ta tb tx) tz D σ H :=
  hv H (Evl.Ex.refl H) _ fun H1 e1 => ha H1 e1 _ fun H2 e2 => hb H2 (e1.trans e2) _ fun H3 e3 => by
    obtain ⟨H4, h1, h2⟩ := k H3 ((e1.trans e2).trans e3)
    exact ⟨d, H4, rfl, h1, h2⟩
theorem q_dputL {xs : List V} (hv : EvL tx σ H xs) (ha : Ev ta σ H (.ref d)) (hb : Ev tb σ H y) (k : ∀ p H1, H p = none → Evl.Ex H H1 → H1 p = some (.lst xs) → ∃ H4, DPut H1 d y (.ref p) H4 ∧ tz D σ H4) : tSeq (sDPut ta tb tx) tz D σ H :=
  hv H (Evl.Ex.refl H) _ fun p H1 hp e1 h1 => ha H1 e1 _ fun H2 e2 => hb H2 (e1.trans e2) _ fun H3 e3 => by
    obtain ⟨H4, h2, h3⟩ := k p H3 hp ((e1.trans e2).trans e3) (e3 _ _ (e2 _ _ h1))
    exact ⟨d, H4, rfl, h2, h3⟩
/-- order.index(word) -/
theorem ev_index {t : Tb} {o : Addr} (ht : isHd t) (ha : Ev ta σ H (.ref o)) (hb : Ev tb σ H (.str (tbS t))) (ho : SqL K H o (ord4.map V.str)) : Ev (tBM K "list" (rIndex K) ta (tCons tb tNil)) σ H (.int ((hdI t : Nat) : Int)) := fun H1 e Q q =>
  ha H1 e _ fun H2 e2 => ⟨Or.inl ⟨rfl, _, ex_l (e.trans e2) ho⟩, hb H2 (e.trans e2) _ fun H3 e3 => ⟨o, _, _, hdI t, .str (tbS t), rfl, rfl, ex_l ((e.trans e2).trans e3) ho, rfl, flat_str, by rw [List.getElem?_map, ord_at ht]; rfl, by
    show ((tbS t) == (tbS t)) = true
    exact beq_self_eq_true _, by
      intro m z' hm hz
      cases t with
      | var => exact absurd hm (Nat.not_lt_zero m)
      | table =>
        obtain rfl : m = 0 := by have : m < 1 := hm; omega
        cases hz
        decide +kernel
      | lots =>
        have : m < 2 := hm
        obtain rfl | rfl : m = 0 ∨ m = 1 := by omega
        · cases hz; decide +kernel
        · cases hz; decide +kernel
      | proc =>
        have : m < 3 := hm
        obtain rfl | rfl | rfl : m = 0 ∨ m = 1 ∨ m = 2 := by omega
        · cases hz; decide +kernel
        · cases hz; decide +kernel
        · cases hz; decide +kernel
      | loc => exact ht.elim
      | asked => exact ht.elim, q H3 (e2.trans e3)⟩⟩
end
def spHeads : Sp := fun vs H Q _ => ∃ s d f sc st w, vs = [.ref s, .ref d, .str w] ∧ ScAt H d f sc ∧ StAt H s st ∧ (∀ t, f t ≠ s) ∧ st.length ≤ 890000 ∧
  (∀ f' sc' st' H', stHeads sc st w = some (sc', st') → Kp [s, d] H H' → ScAt H' d f' sc' → StAt H' s st' → (∀ t, f' t ≠ s) → (∀ t, f' t = f t ∨ (t = .loc ∧ H (f' t) = none)) → Q (.bl true) H') ∧ ∀ H', stHeads sc st w = none → Kp [s, d] H H' → Q (.bl false) H'
section
variable {P : Program} {w : World} {K : PySem.W.Frag} {mg : Str → Option Value} {base : Heap}
theorem fn_law_heads (T : Txt K mg) : FnP P w K mg base CX0 1 "_law_heads" ["_law_stack", "_law_scope", "_law_word"] spHeads := by
  have S : FnScope ["_law_stack", "_law_scope", "_law_word", "_law_order"] ["_law_stack", "_law_scope", "_law_word"] (defScope (top 49)) := ⟨rfl, rfl, rfl, by decide +kernel, rfl, by decide +kernel, by decide +kernel⟩
  have nd := S.nd
  refine FnP.of0 T.d_law_heads T.g_law_heads S ba_law_heads (fun vs H Q E h => ?_) (fun cdv A outer s H vs Q E hr h => ?_)
  · obtain ⟨s, d, f, sc, st, x, rfl, _⟩ := h
    rfl
  obtain ⟨s, d, f, sc, st, x, rfl, hsc, hst, hfs, hlen, hQ1, hQ2⟩ := h
  refine ⟨_, (pss_cons (ps_set (i := 3) nd rfl (Or.inl rfl) (pe_lst (pa_cons pe_str (pa_cons pe_str (pa_cons pe_str (pa_cons pe_str pa_nil))))))
    (pss_cons (ps_if (PW.pt (pw_or (pt_cmpR op_notIn_seq (pv 2) (pv 3) (by with_unfolding_all rfl)) (pw_or (pt_cmpR op_lt (pe_bm PySem.F.plainAttrs_list PySem.F.slot_list_index PySem.F.type_list_index mt_index (pv 3) (pa_cons (pv 2) pa_nil)) (pe_dget (hu_of hr) (pv 1) pe_str (fun _ _ => rfl)) (nomark _)) (pw_or1 (pt_cmpR op_gt (pe_callB call_len (by rfl) T.f_len (by decide +kernel) (pa_cons (pe_dget (hu_of hr) (pv 1) (pv 2) (fun _ _ => rfl)) pa_nil)) pe_int (nomark _)))))) (pss_one (ps_ret pe_bl)) pss_nil)
    (pss_cons (ps_dput (hu_of hr) (pv 1) pe_str (pe_bm PySem.F.plainAttrs_list PySem.F.slot_list_index PySem.F.type_list_index mt_index (pv 3) (pa_cons (pv 2) pa_nil)) rfl)
    (pss_cons (ps_expr (pe_bm PySem.F.plainAttrs_list PySem.F.slot_list_append PySem.F.type_list_append mt_append (pv 0) (pa_cons (pe_tup (pa_cons pe_str pa_nil)) pa_nil)))
    (C8.pss_cut (ps_if (pt_cmpR op_eq (pv 2) pe_str (nomark _)) (pss_one (ps_expr (pe_bm PySem.F.plainAttrs_list PySem.F.slot_list_extend PySem.F.type_list_extend mt_extend (pv 0) (pa_cons (pe_lst (pa_cons (pe_tup (pa_cons pe_str pa_nil)) (pa_cons (pe_tup (pa_cons pe_str pa_nil)) (pa_cons (pe_tup (pa_cons pe_str (pa_cons pe_str pa_nil))) pa_nil)))) pa_nil)))) (pss_one (ps_if (pt_cmpR op_eq (pv 2) pe_str (nomark _)) (pss_cons (ps_dput (hu_of hr) (pv 1) pe_str (pe_lst pa_nil) rfl)
    (pss_one (ps_expr (pe_bm PySem.F.plainAttrs_list PySem.F.slot_list_extend PySem.F.type_list_extend mt_extend (pv 0) (pa_cons (pe_lst (pa_cons (pe_tup (pa_cons pe_str pa_nil)) (pa_cons (pe_tup (pa_cons pe_str (pa_cons pe_str pa_nil))) (pa_cons (pe_tup (pa_cons pe_str (pa_cons pe_int (pa_cons pe_int pa_nil)))) (pa_cons (pe_tup (pa_cons pe_str (pa_cons pe_int (pa_cons pe_int pa_nil)))) (pa_cons (pe_tup (pa_cons pe_str (pa_cons pe_str pa_nil))) pa_nil)))))) pa_nil))))) (pss_one (ps_expr (pe_bm PySem.F.plainAttrs_list PySem.F.slot_list_extend PySem.F.type_list_extend mt_extend (pv 0) (pa_cons (pe_lst (pa_cons (pe_tup (pa_cons pe_str (pa_cons pe_int (pa_cons pe_int pa_nil)))) (pa_cons (pe_tup (pa_cons pe_str (pa_cons pe_int (pa_cons pe_int pa_nil)))) (pa_cons (pe_tup (pa_cons pe_str (pa_cons (pv 2) pa_nil))) pa_nil)))) pa_nil)))))))
    (pss_one (ps_ret pe_bl))))))), ?_⟩
  have hsd := StAt.nd hsc hst
  refine q_asgL (xs := ord4.map V.str) (el_lst (ea_cons ev_c (ea_cons ev_c (ea_cons ev_c (ea_cons ev_c ea_nil)))) (by decide)) fun o H1 ho e1 h1 => ?_
  have hso : s ≠ o := fun z => by obtain ⟨xs, h, _⟩ := hst; rw [z, ho] at h; cases h
  have hdo : d ≠ o := fun z => by have h := hsc.d; rw [z, ho] at h; cases h
  have hfo : ∀ t, f t ≠ o := fun t z => by have h := hsc.l t; rw [z, ho] at h; cases h
  have k12 : ∀ {H H' : Hp}, Kp [s] H H' → Kp [s, d] H H' := fun k => k.mono (by simp)
  have k13 : ∀ {H H' : Hp}, Kp [d] H H' → Kp [s, d] H H' := fun k => k.mono (by simp)
  by_cases hw : x ∈ ord4
  case neg =>
    refine q_whenS (b := true) (et_orT (et_is (et_test (ev_niLS (ev_var rfl) (ev_var rfl) (sq_of h1))) (by rw [decide_eq_false hw]; rfl))) (fun _ H2 e2 => ?_) (fun z => by cases z)
    exact s_ret (v := .bl false) ev_c fun H3 e3 => hQ2 H3 (heads_no hw) (kp_ex ((e1.trans e2).trans e3))
  obtain ⟨t, ht, rfl⟩ := ord_of hw
  refine q_whenS (b := decide (hdI t < sc.stage) || decide (5 < (sc.get t).length)) (et_orF (et_is (et_test (ev_niLS (ev_var rfl) (ev_var rfl) (sq_of h1))) (by rw [decide_eq_true hw]; rfl)) (et_or (et_is (et_test (ev_op (ev_index ht (ev_var rfl) (ev_var rfl) (sq_of h1)) (ev_dget (ev_var rfl) ev_c (hsc.ex e1).ds) rv_I0)) (decide_eq_decide.mpr (by omega)))
    (fun _ => et_is (et_test (ev_op (ev_lenl (ev_dget (ev_var rfl) (ev_var rfl) ((hsc.ex e1).dt t)) ((hsc.ex e1).sq t)) ev_c rv_I0)) (by rw [List.length_map]; exact decide_eq_decide.mpr (by omega))))) (fun hb H2 e2 => ?_) (fun hb H2 e2 => ?_)
  · refine s_ret (v := .bl false) ev_c fun H3 e3 => hQ2 H3 (heads_not ht ?_) (kp_ex ((e1.trans e2).trans e3))
    rw [Bool.or_eq_true, decide_eq_true_eq, decide_eq_true_eq] at hb
    omega
  have hyes : stHeads sc st (tbS t) = some (hdSc sc t, hdSt st t) := by
    rw [Bool.or_eq_false_iff, decide_eq_false_iff_not, decide_eq_false_iff_not] at hb
    exact heads_yes ht (by omega) (by omega)
  have f2 := e1.trans e2
  -- the stage
  refine q_dput (ev_index ht (ev_var rfl) (ev_var rfl) (sq_of (e2 _ _ h1))) (ev_var rfl) ev_c fun H3 e3 => ?_
  obtain ⟨H4, p4, k4, sc4⟩ := (hsc.ex (f2.trans e3)).putS (j := hdI t)
  refine ⟨H4, p4, ?_⟩
  have k4' : Kp [s, d] H H4 := (kp_ex (f2.trans e3)).trans (k13 k4)
  have st4 : StAt H4 s st := (hst.ex (f2.trans e3)).kp k4 (by simp [hsd])
  refine q_pushA (i := .head) st4 (ev_var rfl) (ea_cons ev_c ea_nil) (by omega) fun H5 k5 st5 => ?_
  have sc5 := sc4.onst k5 hsd hfs
  have k5' := k4'.trans (k12 k5)
  have tv : ∀ {k : Tb}, decide (tbS t = tbS k) = decide (t = k) := fun {k} => decide_eq_decide.mpr ⟨fun z => by
    revert z
    cases t <;> cases k <;> first | exact fun _ => rfl | exact fun z => absurd z (by decide), congrArg tbS⟩
  refine ⟨fun σ' H' => ∃ f', Kp [s, d] H H' ∧ ScAt H' d f' (hdSc sc t) ∧ StAt H' s (hdSt st t) ∧ (∀ t, f' t ≠ s) ∧ ∀ u, f' u = f u ∨ (u = .loc ∧ H (f' u) = none), ?_, ?_⟩
  case refine_2 =>
    rintro σ' H' ⟨f', k6, sc6, st6, hf1, hf2⟩
    exact s_ret (v := .bl true) ev_c fun H7 e7 => hQ1 f' _ _ H7 hyes (k6.trans (kp_ex e7)) (sc6.ex e7) (st6.ex e7) hf1 hf2
  refine s_if (et_is (et_eqS (ev_var rfl) ev_c) (tv (k := .var))) (fun hb H6 e6 => ?_) (fun hb H6 e6 => ?_)
  · have hb := dec_t hb
    subst hb
    refine s_push (st5.ex e6) (ev_var rfl) (ei_tup (i := .first) (ea_cons ev_c ea_nil) (ei_tup (i := .size) (ea_cons ev_c ea_nil) (ei_tup (i := .new .var) (ea_cons ev_c (ea_cons ev_c ea_nil)) ei_nil))) (by show (st.length + 1) + 3 ≤ _; omega) fun H7 k7 st7 => ?_
    exact ⟨f, (k5'.trans (kp_ex e6)).trans (k12 k7), (sc5.ex e6).onst k7 hsd hfs, st7, hfs, fun _ => .inl rfl⟩
  have n1 := dec_f hb
  refine s_if (et_is (et_eqS (ev_var rfl) ev_c) (tv (k := .proc))) (fun hb H7 e7 => ?_) (fun hb H7 e7 => ?_)
  · have hb := dec_t hb
    subst hb
    refine q_dputL (el_lst ea_nil (by decide)) (ev_var rfl) ev_c fun q H8 hq e8 h8 => ?_
    have hqn : ∀ b o, H5 b = some o → b ≠ q := fun b o h z => by
      rw [z] at h
      rw [(e7 _ _ (e6 _ _ h))] at hq
      cases hq
    have e58 := (e6.trans e7).trans e8
    obtain ⟨H9, p9, k9, sc9⟩ := (sc5.ex e58).putL h8 (fun u => hqn _ _ (sc5.l u))
    refine ⟨H9, p9, ?_⟩
    have hqs : s ≠ q := by
      obtain ⟨xs, h, _⟩ := st5
      exact hqn _ _ h
    refine s_push ((st5.ex e58).kp k9 (by simp [hsd])) (ev_var rfl) (ei_tup (i := .locals) (ea_cons ev_c ea_nil) (ei_tup (i := .new .loc) (ea_cons ev_c (ea_cons ev_c ea_nil)) (ei_tup (i := .num 1 64) (ea_cons ev_c (ea_cons ev_c (ea_cons ev_c ea_nil))) (ei_tup (i := .num 1 64) (ea_cons ev_c (ea_cons ev_c (ea_cons ev_c ea_nil))) (ei_tup (i := .new .proc) (ea_cons ev_c (ea_cons ev_c ea_nil)) ei_nil))))) (by show (st.length + 1) + 5 ≤ _; omega) fun H10 k10 st10 => ?_
    have hfs' : ∀ u, fL f q u ≠ s := fun u => by cases u <;> first | exact hfs _ | exact hqs.symm
    have hqH : H q = none := by
      cases z : H q with
      | none => rfl
      | some o =>
        by_cases e : q ∈ [s, d]
        · simp only [List.mem_cons, List.not_mem_nil, or_false] at e
          rcases e with e | e
          · exact absurd e.symm hqs
          · exact absurd e.symm (hqn _ _ sc5.d)
        · exact absurd rfl (hqn _ _ (k5'.get z e))
    exact ⟨fL f q, ((k5'.trans (kp_ex e58)).trans (k13 k9)).trans (k12 k10), sc9.onst k10 hsd hfs', st10, hfs', fun u => by cases u <;> first | exact .inl rfl | exact .inr ⟨rfl, hqH⟩⟩
  · have n2 := dec_f hb
    refine s_push (st5.ex (e6.trans e7)) (ev_var rfl) (ei_tup (i := .num 1 64) (ea_cons ev_c (ea_cons ev_c (ea_cons ev_c ea_nil))) (ei_tup (i := .num 1 64) (ea_cons ev_c (ea_cons ev_c (ea_cons ev_c ea_nil))) (ei_tup (i := .new t) (ea_cons ev_c (ea_cons (ev_var rfl) ea_nil)) ei_nil))) (by show (st.length + 1) + 3 ≤ _; omega) fun H8 k8 st8 => ?_
    refine ⟨f, (k5'.trans (kp_ex (e6.trans e7))).trans (k12 k8), ?_, ?_, hfs, fun _ => .inl rfl⟩
    · have := (sc5.ex (e6.trans e7)).onst k8 hsd hfs
      cases t <;> first | exact this | exact absurd rfl n2
    · cases t <;> first | exact st8 | exact absurd rfl n1 | exact absurd rfl n2 | exact ht.elim
end
end K4

/-! The law's recognizer: one step. -/
namespace K4
open PySem PySem.Spec PyProof.Rows L2 Evl
def nxS (s d : Addr) (f : Tb → Addr) : List Addr := [s, d, f .var, f .table, f .lots, f .proc, f .loc]
def NoAsk (st : List It) : Prop := ∀ i ∈ st, i ≠ .new .asked
def spNext : Sp := fun vs H Q _ => ∃ s d f sc it st w, vs = [.ref s, .ref d, .str w] ∧ ScAt H d f sc ∧ StAt H s (it :: st) ∧ (∀ t, f t ≠ s) ∧ st.length ≤ 800000 ∧ (∀ t, (sc.get t).length ≤ 80000) ∧ w.length ≤ 1000000 ∧ it ≠ .new .asked ∧
  (∀ f' sc' st' H', step sc (it :: st) w = some (sc', st') → Kp (nxS s d f) H H' → ScAt H' d f' sc' → StAt H' s st' → (∀ t, f' t ≠ s) → (∀ t, f' t = f t ∨ (t = .loc ∧ H (f' t) = none)) → Q (.bl true) H') ∧
  ∀ H', step sc (it :: st) w = none → Kp (nxS s d f) H H' → Q (.bl false) H'
theorem All2.unsnoc {α : Type} {R : α → V → Prop} {r : α} : ∀ {rs : List α} {xs : List V}, All2 R (rs ++ [r]) xs → ∃ ys v, xs = ys ++ [v] ∧ All2 R rs ys ∧ R r v
  | [], xs, ⟨v, ys, e, h1, h2⟩ => by
    cases (show ys = [] from h2)
    exact ⟨[], v, e, rfl, h1⟩
  | _ :: rs, xs, ⟨v, ys, e, h1, h2⟩ => by
    obtain ⟨zs, u, e2, h3, h4⟩ := All2.unsnoc (rs := rs) h2
    exact ⟨v :: zs, u, by rw [e, e2]; rfl, ⟨v, zs, rfl, h1, h3⟩, h4⟩
theorem map_some {α β : Type} {o : Option α} {g : α → β} {a : α} (h : o = some a) : o.map g = some (g a) := by rw [h]; rfl
theorem map_none {α β : Type} {o : Option α} {g : α → β} (h : o = none) : o.map g = none := by rw [h]; rfl
theorem ScAt.push {H : Hp} {d : Addr} {f : Tb → Addr} {sc : Sc} {w : Str} {t : Tb} (h : ScAt H d f sc) : ScAt (upd H (f t) (.lst ((sc.get t).map V.str ++ [.str w]))) d f (sc.push w t) := by
  refine ⟨?_, fun u => ?_, h.inj⟩
  · have e : scD f (sc.push w t) = scD f sc := by cases t <;> rfl
    rw [e]
    exact get_upd h.d (h.nd t).symm
  · by_cases e : u = t
    · subst e
      rw [upd_same]
      cases u <;> (show _ = some (HO.lst (List.map V.str (_ ++ [w]))); rw [List.map_append]; rfl)
    · rw [get_upd (h.l u) fun z => e (h.inj _ _ z)]
      cases u <;> cases t <;> first | rfl | exact absurd rfl e
section
variable {P : Program} {w : World} {K : PySem.W.Frag} {mg : Str → Option Value} {base : Heap}
theorem fn_law_next (T : Txt K mg) (h_law_is_number : FnP P w K mg base CX0 1 "_law_is_number" ["_law_word", "_law_least", "_law_most"] spIsNum) (h_law_is_name : FnP P w K mg base CX0 1 "_law_is_name" ["_law_word"] spIsName) (h_law_values : FnP P w K mg base CX0 2 "_law_values" ["_law_stack", "_law_scope", "_law_word", "_law_room"] spValues)
    (h_law_blocks : FnP P w K mg base CX0 2 "_law_blocks" ["_law_stack", "_law_scope", "_law_word", "_law_room", "_law_kind"] spBlocks) (h_law_heads : FnP P w K mg base CX0 1 "_law_heads" ["_law_stack", "_law_scope", "_law_word"] spHeads) : FnP P w K mg base CX0 3 "_law_next" ["_law_stack", "_law_scope", "_law_word"] spNext := by
  have S : FnScope ["_law_stack", "_law_scope", "_law_word", "_law_top", "_law_names"] ["_law_stack", "_law_scope", "_law_word"] (defScope (top 50)) := ⟨rfl, rfl, rfl, by decide +kernel, rfl, by decide +kernel, by decide +kernel⟩
  have nd := S.nd
  refine FnP.of0 T.d_law_next T.g_law_next S ba_law_next (fun vs H Q E h => ?_) (fun cdv A outer s H vs Q E hr h => ?_)
  · obtain ⟨s, d, f, sc, it, st, x, rfl, _⟩ := h
    rfl
  obtain ⟨s, d, f, sc, it, st, x, rfl, hsc, hst, hfs, hlen, hls, hx, hna, hQ1, hQ2⟩ := h
  refine ⟨_, (pss_cons (ps_set (i := 3) nd rfl (Or.inl rfl) (pe_bm0 PySem.F.plainAttrs_list PySem.F.slot_list_pop PySem.F.type_list_pop mt_pop (pv 0)))
    (pss_cons (ps_if (pt_cmpR op_eq (pe_ix ix_tup (pv 3) pe_int (fun _ _ => rfl)) pe_str (nomark _)) (pss_one (ps_ret (pe_cmpR op_eq (pv 2) (pe_ix ix_tup (pv 3) pe_int (fun _ _ => rfl)) (nomark _)))) pss_nil)
    (pss_cons (ps_if (pt_cmpR op_eq (pe_ix ix_tup (pv 3) pe_int (fun _ _ => rfl)) pe_str (nomark _)) (pss_one (ps_ret (pe_cmpR op_in_seq (pv 2) (pe_dget (hu_of hr) (pv 1) (pe_ix ix_tup (pv 3) pe_int (fun _ _ => rfl)) (fun _ _ => rfl)) (by with_unfolding_all rfl)))) pss_nil)
    (pss_cons (ps_if (pt_cmpR op_eq (pe_ix ix_tup (pv 3) pe_int (fun _ _ => rfl)) pe_str (nomark _)) (pss_one (ps_ret (pe_cf h_law_is_number hr pass0 (pa_cons (pv 2) (pa_cons (pe_ix ix_tup (pv 3) pe_int (fun _ _ => rfl)) (pa_cons (pe_ix ix_tup (pv 3) pe_int (fun _ _ => rfl)) pa_nil)))))) pss_nil)
    (pss_cons (ps_if (pt_cmpR op_eq (pe_ix ix_tup (pv 3) pe_int (fun _ _ => rfl)) pe_str (nomark _)) (pss_one (ps_ret (pe_cf h_law_values hr pass0 (pa_cons (pv 0) (pa_cons (pv 1) (pa_cons (pv 2) (pa_cons (pe_ix ix_tup (pv 3) pe_int (fun _ _ => rfl)) pa_nil))))))) pss_nil)
    (pss_cons (ps_if (pt_cmpR op_eq (pe_ix ix_tup (pv 3) pe_int (fun _ _ => rfl)) pe_str (nomark _)) (pss_one (ps_ret (pe_cf h_law_blocks hr pass0 (pa_cons (pv 0) (pa_cons (pv 1) (pa_cons (pv 2) (pa_cons (pe_ix ix_tup (pv 3) pe_int (fun _ _ => rfl)) (pa_cons (pe_ix ix_tup (pv 3) pe_int (fun _ _ => rfl)) pa_nil)))))))) pss_nil)
    (pss_cons (ps_if (pt_cmpR op_eq (pe_ix ix_tup (pv 3) pe_int (fun _ _ => rfl)) pe_str (nomark _)) (pss_one (ps_ret (pe_cf h_law_heads hr pass0 (pa_cons (pv 0) (pa_cons (pv 1) (pa_cons (pv 2) pa_nil)))))) pss_nil)
    (pss_cons (ps_if (pt_cmpR op_eq (pe_ix ix_tup (pv 3) pe_int (fun _ _ => rfl)) pe_str (nomark _)) (pss_cons (ps_if (PW.pt (pw_and (pt_cmpR op_eq (pv 2) pe_str (nomark _)) (pw_and1 (pt_cmpR op_lt (pe_callB call_len (by rfl) T.f_len (by decide +kernel) (pa_cons (pe_dget (hu_of hr) (pv 1) pe_str (fun _ _ => rfl)) pa_nil)) pe_int (nomark _))))) (pss_cons (ps_expr (pe_bm PySem.F.plainAttrs_list PySem.F.slot_list_extend PySem.F.type_list_extend mt_extend (pv 0) (pa_cons (pe_lst (pa_cons (pe_tup (pa_cons pe_str pa_nil)) (pa_cons (pe_tup (pa_cons pe_str (pa_cons pe_str pa_nil))) pa_nil))) pa_nil)))
    (pss_one (ps_ret pe_bl))) pss_nil)
    (pss_one (ps_ret (pe_cf h_law_blocks hr pass0 (pa_cons (pv 0) (pa_cons (pv 1) (pa_cons (pv 2) (pa_cons pe_int (pa_cons pe_str pa_nil))))))))) pss_nil)
    (pss_cons (ps_if (pt_cmpR op_eq (pe_ix ix_tup (pv 3) pe_int (fun _ _ => rfl)) pe_str (nomark _)) (pss_cons (ps_if (pt_not (pt_val (pe_cf h_law_is_number hr pass0 (pa_cons (pv 2) (pa_cons pe_int (pa_cons pe_int pa_nil)))))) (pss_one (ps_ret pe_bl)) pss_nil)
    (pss_cons (ps_dput (hu_of hr) (pv 1) pe_str (pe_op op_sub (pe_callTy call_int_str (by rfl) T.f_int (by decide +kernel) (pa_cons (pv 2) pa_nil)) pe_int) rfl)
    (pss_one (ps_ret pe_bl)))) pss_nil)
    (pss_cons (ps_if (pt_cmpR op_eq (pe_ix ix_tup (pv 3) pe_int (fun _ _ => rfl)) pe_str (nomark _)) (pss_one (ps_ret (pe_cf h_law_is_number hr pass0 (pa_cons (pv 2) (pa_cons pe_int (pa_cons (pe_dget (hu_of hr) (pv 1) pe_str (fun _ _ => rfl)) pa_nil)))))) pss_nil)
    (pss_cons (ps_set (i := 4) nd rfl (Or.inl rfl) (pe_dget (hu_of hr) (pv 1) (pe_ix ix_tup (pv 3) pe_int (fun _ _ => rfl)) (fun _ _ => rfl)))
    (pss_cons (ps_if (PW.pt (pw_or (pt_cmpR op_in_seq (pv 2) (pv 4) (by with_unfolding_all rfl)) (pw_or (PW.pt (pw_and (pt_cmpR op_eq (pe_ix ix_tup (pv 3) pe_int (fun _ _ => rfl)) pe_str (nomark _)) (pw_and1 (pt_cmpR op_in_seq (pv 2) (pe_dget (hu_of hr) (pv 1) pe_str (fun _ _ => rfl)) (by with_unfolding_all rfl))))) (pw_or1 (pt_not (pt_val (pe_cf h_law_is_name hr pass0 (pa_cons (pv 2) pa_nil)))))))) (pss_one (ps_ret pe_bl)) pss_nil)
    (pss_cons (ps_expr (pe_bm PySem.F.plainAttrs_list PySem.F.slot_list_append PySem.F.type_list_append mt_append (pv 4) (pa_cons (pv 2) pa_nil)))
    (pss_one (ps_ret pe_bl))))))))))))))), ?_⟩
  have hsd := StAt.nd hsc hst
  obtain ⟨xs, h1, h2⟩ := hst
  rw [List.reverse_cons] at h2
  obtain ⟨ys, v, rfl, h3, a, rfl, hat⟩ := h2.unsnoc
  refine sq_set ⟨_, rfl, Or.inl ⟨rfl, _, sq_of h1⟩, s, ys ++ [.ref a], .ref a, rfl, rfl, h1, by rw [List.length_append, List.length_singleton, Nat.add_sub_cancel, List.getElem?_append_right (Nat.le_refl _), Nat.sub_self]; rfl, ?_⟩
  rw [List.dropLast_concat]
  have k0 : Kp [s] H (upd H s (.lst ys)) := Kp.lst h1 (by simp)
  have hsc := hsc.onst k0 hsd hfs
  have hst : StAt (upd H s (.lst ys)) s st := ⟨ys, upd_same, h3.imp fun _ _ => ItAt.kp k0⟩
  have hat := k0.2 _ _ hat
  have k1 : ∀ {H H' : Hp}, Kp [s] H H' → Kp (nxS s d f) H H' := fun k => k.mono (by simp [nxS])
  have kf : ∀ {H'}, Kp (nxS s d f) (upd H s (.lst ys)) H' → Kp (nxS s d f) H H' := fun k => (k1 k0).trans k
  have hfr : ∀ {q : Addr}, (upd H s (.lst ys)) q = none → H q = none := fun {q} z => by
    by_cases e : q = s
    · rw [e, upd_same] at z
      cases z
    · rw [upd_ne e] at z
      exact z
  generalize upd H s (.lst ys) = H0 at hsc hst hat kf hfr ⊢
  have finT : ∀ {H' st'}, step sc (it :: st) x = some (sc, st') → Kp (nxS s d f) H0 H' → ScAt H' d f sc → StAt H' s st' → Q (.bl true) H' := fun h1 k h2 h3 => hQ1 f sc _ _ h1 (kf k) h2 h3 hfs fun _ => .inl rfl
  have finF : ∀ {H'}, step sc (it :: st) x = none → Kp (nxS s d f) H0 H' → Q (.bl false) H' := fun h1 k => hQ2 _ h1 (kf k)
  have finB : ∀ {H'} {b : Bool}, (b = true → step sc (it :: st) x = some (sc, st)) → (b = false → step sc (it :: st) x = none) → Evl.Ex H0 H' → Q (.bl b) H' := fun {H' b} h1 h2 e => by
    cases b with
    | true => exact finT (h1 rfl) (kp_ex e) (hsc.ex e) (hst.ex e)
    | false => exact finF (h2 rfl) (kp_ex e)
  cases it with
  | word x' =>
    refine q_whenS (b := true) (et_is (et_eqS (ev_op (ev_var rfl) ev_c (rv_ixT (st_of (hat)) rfl)) ev_c) (by decide)) (fun _ G1 g1 => ?_) (fun z => by cases z)
    have f1 : Evl.Ex H0 G1 := g1
    have fx : Evl.Ex H0 G1 := f1
    have hat := fx _ _ hat
    refine s_ret (ev_eqS (ev_var rfl) (ev_op (ev_var rfl) ev_c (rv_ixT (st_of hat) rfl))) fun G e => finB (b := decide (x = x')) (fun z => ?_) (fun z => ?_) (fx.trans e)
    · exact if_pos (dec_t z)
    · exact if_neg (dec_f z)
  | one t =>
    refine q_whenS (b := false) (et_is (et_eqS (ev_op (ev_var rfl) ev_c (rv_ixT (st_of (hat)) rfl)) ev_c) (by decide)) (fun z => by cases z) (fun _ G1 g1 => ?_)
    have f1 : Evl.Ex H0 G1 := g1
    refine q_whenS (b := true) (et_is (et_eqS (ev_op (ev_var rfl) ev_c (rv_ixT (st_of (f1 _ _ hat)) rfl)) ev_c) (by decide)) (fun _ G2 g2 => ?_) (fun z => by cases z)
    have f2 : Evl.Ex H0 G2 := f1.trans g2
    have fx : Evl.Ex H0 G2 := f2
    have hat := fx _ _ hat
    refine s_ret (ev_inLS (ev_var rfl) (ev_dget (ev_var rfl) (ev_op (ev_var rfl) ev_c (rv_ixT (st_of hat) rfl)) ((hsc.ex fx).dt t)) ((hsc.ex fx).sq t)) fun G e => finB (b := decide (x ∈ sc.get t)) (fun z => ?_) (fun z => ?_) (fx.trans e)
    · exact if_pos (dec_t z)
    · exact if_neg (dec_f z)
  | num lo hi =>
    refine q_whenS (b := false) (et_is (et_eqS (ev_op (ev_var rfl) ev_c (rv_ixT (st_of (hat)) rfl)) ev_c) (by decide)) (fun z => by cases z) (fun _ G1 g1 => ?_)
    have f1 : Evl.Ex H0 G1 := g1
    refine q_whenS (b := false) (et_is (et_eqS (ev_op (ev_var rfl) ev_c (rv_ixT (st_of (f1 _ _ hat)) rfl)) ev_c) (by decide)) (fun z => by cases z) (fun _ G2 g2 => ?_)
    have f2 : Evl.Ex H0 G2 := f1.trans g2
    refine q_whenS (b := true) (et_is (et_eqS (ev_op (ev_var rfl) ev_c (rv_ixT (st_of (f2 _ _ hat)) rfl)) ev_c) (by decide)) (fun _ G3 g3 => ?_) (fun z => by cases z)
    have f3 : Evl.Ex H0 G3 := f2.trans g3
    have fx : Evl.Ex H0 G3 := f3
    have hat := fx _ _ hat
    refine s_ret (ev_call (ea_cons (ev_var rfl) (ea_cons (ev_op (ev_var rfl) ev_c (rv_ixT (st_of hat) rfl)) (ea_cons (ev_op (ev_var rfl) ev_c (rv_ixT (st_of hat) rfl)) ea_nil))) (sp_num hx)) fun G e => finB (b := inR x lo hi) (fun z => ?_) (fun z => ?_) (fx.trans e)
    · exact if_pos z
    · exact if_neg (by rw [z]; decide)
  | value r =>
    refine q_whenS (b := false) (et_is (et_eqS (ev_op (ev_var rfl) ev_c (rv_ixT (st_of (hat)) rfl)) ev_c) (by decide)) (fun z => by cases z) (fun _ G1 g1 => ?_)
    have f1 : Evl.Ex H0 G1 := g1
    refine q_whenS (b := false) (et_is (et_eqS (ev_op (ev_var rfl) ev_c (rv_ixT (st_of (f1 _ _ hat)) rfl)) ev_c) (by decide)) (fun z => by cases z) (fun _ G2 g2 => ?_)
    have f2 : Evl.Ex H0 G2 := f1.trans g2
    refine q_whenS (b := false) (et_is (et_eqS (ev_op (ev_var rfl) ev_c (rv_ixT (st_of (f2 _ _ hat)) rfl)) ev_c) (by decide)) (fun z => by cases z) (fun _ G3 g3 => ?_)
    have f3 : Evl.Ex H0 G3 := f2.trans g3
    refine q_whenS (b := true) (et_is (et_eqS (ev_op (ev_var rfl) ev_c (rv_ixT (st_of (f3 _ _ hat)) rfl)) ev_c) (by decide)) (fun _ G4 g4 => ?_) (fun z => by cases z)
    have f4 : Evl.Ex H0 G4 := f3.trans g4
    have fx : Evl.Ex H0 G4 := f4
    have hat := fx _ _ hat
    refine ⟨_, rfl, _, rfl, _, rfl, _, rfl, a, _, _, _, rfl, rfl, SqT.of hat, rfl, s, d, _, sc, st, x, r, rfl, hsc.ex fx, hst.ex fx, hfs, by omega, hx, fun st' H' h1 k h3 => ?_, fun H' h1 k => ?_⟩
    · exact finT (map_some h1) ((kp_ex fx).trans (k1 k)) ((hsc.ex fx).onst k hsd hfs) h3
    · exact finF (map_none h1) ((kp_ex fx).trans (k1 k))
  | block r k =>
    refine q_whenS (b := false) (et_is (et_eqS (ev_op (ev_var rfl) ev_c (rv_ixT (st_of (hat)) rfl)) ev_c) (by decide)) (fun z => by cases z) (fun _ G1 g1 => ?_)
    have f1 : Evl.Ex H0 G1 := g1
    refine q_whenS (b := false) (et_is (et_eqS (ev_op (ev_var rfl) ev_c (rv_ixT (st_of (f1 _ _ hat)) rfl)) ev_c) (by decide)) (fun z => by cases z) (fun _ G2 g2 => ?_)
    have f2 : Evl.Ex H0 G2 := f1.trans g2
    refine q_whenS (b := false) (et_is (et_eqS (ev_op (ev_var rfl) ev_c (rv_ixT (st_of (f2 _ _ hat)) rfl)) ev_c) (by decide)) (fun z => by cases z) (fun _ G3 g3 => ?_)
    have f3 : Evl.Ex H0 G3 := f2.trans g3
    refine q_whenS (b := false) (et_is (et_eqS (ev_op (ev_var rfl) ev_c (rv_ixT (st_of (f3 _ _ hat)) rfl)) ev_c) (by decide)) (fun z => by cases z) (fun _ G4 g4 => ?_)
    have f4 : Evl.Ex H0 G4 := f3.trans g4
    refine q_whenS (b := true) (et_is (et_eqS (ev_op (ev_var rfl) ev_c (rv_ixT (st_of (f4 _ _ hat)) rfl)) ev_c) (by decide)) (fun _ G5 g5 => ?_) (fun z => by cases z)
    have f5 : Evl.Ex H0 G5 := f4.trans g5
    have fx : Evl.Ex H0 G5 := f5
    have hat := fx _ _ hat
    refine ⟨_, rfl, _, rfl, _, rfl, _, rfl, a, _, _, _, rfl, rfl, SqT.of hat, rfl, _, rfl, a, _, _, _, rfl, rfl, SqT.of hat, rfl, s, d, _, sc, st, x, r, k, rfl, hsc.ex fx, hst.ex fx, hfs, by omega, hx, fun st' H' h1 k h3 => ?_, fun H' h1 k => ?_⟩
    · exact finT (map_some h1) ((kp_ex fx).trans (k1 k)) ((hsc.ex fx).onst k hsd hfs) h3
    · exact finF (map_none h1) ((kp_ex fx).trans (k1 k))
  | head =>
    refine q_whenS (b := false) (et_is (et_eqS (ev_op (ev_var rfl) ev_c (rv_ixT (st_of (hat)) rfl)) ev_c) (by decide)) (fun z => by cases z) (fun _ G1 g1 => ?_)
    have f1 : Evl.Ex H0 G1 := g1
    refine q_whenS (b := false) (et_is (et_eqS (ev_op (ev_var rfl) ev_c (rv_ixT (st_of (f1 _ _ hat)) rfl)) ev_c) (by decide)) (fun z => by cases z) (fun _ G2 g2 => ?_)
    have f2 : Evl.Ex H0 G2 := f1.trans g2
    refine q_whenS (b := false) (et_is (et_eqS (ev_op (ev_var rfl) ev_c (rv_ixT (st_of (f2 _ _ hat)) rfl)) ev_c) (by decide)) (fun z => by cases z) (fun _ G3 g3 => ?_)
    have f3 : Evl.Ex H0 G3 := f2.trans g3
    refine q_whenS (b := false) (et_is (et_eqS (ev_op (ev_var rfl) ev_c (rv_ixT (st_of (f3 _ _ hat)) rfl)) ev_c) (by decide)) (fun z => by cases z) (fun _ G4 g4 => ?_)
    have f4 : Evl.Ex H0 G4 := f3.trans g4
    refine q_whenS (b := false) (et_is (et_eqS (ev_op (ev_var rfl) ev_c (rv_ixT (st_of (f4 _ _ hat)) rfl)) ev_c) (by decide)) (fun z => by cases z) (fun _ G5 g5 => ?_)
    have f5 : Evl.Ex H0 G5 := f4.trans g5
    refine q_whenS (b := true) (et_is (et_eqS (ev_op (ev_var rfl) ev_c (rv_ixT (st_of (f5 _ _ hat)) rfl)) ev_c) (by decide)) (fun _ G6 g6 => ?_) (fun z => by cases z)
    have f6 : Evl.Ex H0 G6 := f5.trans g6
    have fx : Evl.Ex H0 G6 := f6
    have hat := fx _ _ hat
    refine ⟨_, rfl, _, rfl, _, rfl, s, d, _, sc, st, x, rfl, hsc.ex fx, hst.ex fx, hfs, by omega, fun f' sc' st' H' h1 k h3 h4 h5 h6 => ?_, fun H' h1 k => ?_⟩
    · exact hQ1 f' sc' st' H' h1 (kf ((kp_ex fx).trans (k.mono (by simp [nxS])))) h3 h4 h5 fun t => (h6 t).imp_right fun z => ⟨z.1, hfr (by
        cases q : H0 (f' t) with
        | none => rfl
        | some o => have := fx _ _ q; rw [z.2] at this; cases this)⟩
    · exact finF h1 ((kp_ex fx).trans (k.mono (by simp [nxS])))
  | locals =>
    refine q_whenS (b := false) (et_is (et_eqS (ev_op (ev_var rfl) ev_c (rv_ixT (st_of (hat)) rfl)) ev_c) (by decide)) (fun z => by cases z) (fun _ G1 g1 => ?_)
    have f1 : Evl.Ex H0 G1 := g1
    refine q_whenS (b := false) (et_is (et_eqS (ev_op (ev_var rfl) ev_c (rv_ixT (st_of (f1 _ _ hat)) rfl)) ev_c) (by decide)) (fun z => by cases z) (fun _ G2 g2 => ?_)
    have f2 : Evl.Ex H0 G2 := f1.trans g2
    refine q_whenS (b := false) (et_is (et_eqS (ev_op (ev_var rfl) ev_c (rv_ixT (st_of (f2 _ _ hat)) rfl)) ev_c) (by decide)) (fun z => by cases z) (fun _ G3 g3 => ?_)
    have f3 : Evl.Ex H0 G3 := f2.trans g3
    refine q_whenS (b := false) (et_is (et_eqS (ev_op (ev_var rfl) ev_c (rv_ixT (st_of (f3 _ _ hat)) rfl)) ev_c) (by decide)) (fun z => by cases z) (fun _ G4 g4 => ?_)
    have f4 : Evl.Ex H0 G4 := f3.trans g4
    refine q_whenS (b := false) (et_is (et_eqS (ev_op (ev_var rfl) ev_c (rv_ixT (st_of (f4 _ _ hat)) rfl)) ev_c) (by decide)) (fun z => by cases z) (fun _ G5 g5 => ?_)
    have f5 : Evl.Ex H0 G5 := f4.trans g5
    refine q_whenS (b := false) (et_is (et_eqS (ev_op (ev_var rfl) ev_c (rv_ixT (st_of (f5 _ _ hat)) rfl)) ev_c) (by decide)) (fun z => by cases z) (fun _ G6 g6 => ?_)
    have f6 : Evl.Ex H0 G6 := f5.trans g6
    refine q_whenS (b := true) (et_is (et_eqS (ev_op (ev_var rfl) ev_c (rv_ixT (st_of (f6 _ _ hat)) rfl)) ev_c) (by decide)) (fun _ G7 g7 => ?_) (fun z => by cases z)
    have f7 : Evl.Ex H0 G7 := f6.trans g7
    have fx : Evl.Ex H0 G7 := f7
    have hat := fx _ _ hat
    refine q_whenS (b := decide (x = "local") && decide (sc.loc.length < 6)) (et_and (et_eqS (ev_var rfl) ev_c) (fun _ => et_is (et_test (ev_op (ev_lenl (ev_dget (ev_var rfl) ev_c ((hsc.ex fx).dt .loc)) ((hsc.ex fx).sq .loc)) ev_c rv_I0)) (by rw [List.length_map]; exact decide_eq_decide.mpr (by show _ ↔ (sc.get .loc).length < 6; omega)))) (fun hb J1 j1 => ?_) (fun hb J1 j1 => ?_)
    · refine q_push (hst.ex (fx.trans j1)) (ev_var rfl) (ei_tup (i := .locals) (ea_cons ev_c ea_nil) (ei_tup (i := .new .loc) (ea_cons ev_c (ea_cons ev_c ea_nil)) ei_nil)) (by show _ + 2 ≤ _; omega) fun J2 k2 s2 => ?_
      refine s_ret (v := .bl true) ev_c fun J3 j3 => finT (if_pos (and_d.mp hb)) (((kp_ex (fx.trans j1)).trans (k1 k2)).trans (kp_ex j3)) (((hsc.ex (fx.trans j1)).onst k2 hsd hfs).ex j3) (s2.ex j3)
    · have n1 := nand_d hb
      refine ⟨_, rfl, _, rfl, _, rfl, s, d, _, sc, st, x, 6, .proc, rfl, hsc.ex (fx.trans j1), hst.ex (fx.trans j1), hfs, by omega, hx, fun st' H' h1 k h3 => ?_, fun H' h1 k => ?_⟩
      · exact finT ((if_neg n1).trans (map_some h1)) ((kp_ex (fx.trans j1)).trans (k1 k)) ((hsc.ex (fx.trans j1)).onst k hsd hfs) h3
      · exact finF ((if_neg n1).trans (map_none h1)) ((kp_ex (fx.trans j1)).trans (k1 k))
  | size =>
    refine q_whenS (b := false) (et_is (et_eqS (ev_op (ev_var rfl) ev_c (rv_ixT (st_of (hat)) rfl)) ev_c) (by decide)) (fun z => by cases z) (fun _ G1 g1 => ?_)
    have f1 : Evl.Ex H0 G1 := g1
    refine q_whenS (b := false) (et_is (et_eqS (ev_op (ev_var rfl) ev_c (rv_ixT (st_of (f1 _ _ hat)) rfl)) ev_c) (by decide)) (fun z => by cases z) (fun _ G2 g2 => ?_)
    have f2 : Evl.Ex H0 G2 := f1.trans g2
    refine q_whenS (b := false) (et_is (et_eqS (ev_op (ev_var rfl) ev_c (rv_ixT (st_of (f2 _ _ hat)) rfl)) ev_c) (by decide)) (fun z => by cases z) (fun _ G3 g3 => ?_)
    have f3 : Evl.Ex H0 G3 := f2.trans g3
    refine q_whenS (b := false) (et_is (et_eqS (ev_op (ev_var rfl) ev_c (rv_ixT (st_of (f3 _ _ hat)) rfl)) ev_c) (by decide)) (fun z => by cases z) (fun _ G4 g4 => ?_)
    have f4 : Evl.Ex H0 G4 := f3.trans g4
    refine q_whenS (b := false) (et_is (et_eqS (ev_op (ev_var rfl) ev_c (rv_ixT (st_of (f4 _ _ hat)) rfl)) ev_c) (by decide)) (fun z => by cases z) (fun _ G5 g5 => ?_)
    have f5 : Evl.Ex H0 G5 := f4.trans g5
    refine q_whenS (b := false) (et_is (et_eqS (ev_op (ev_var rfl) ev_c (rv_ixT (st_of (f5 _ _ hat)) rfl)) ev_c) (by decide)) (fun z => by cases z) (fun _ G6 g6 => ?_)
    have f6 : Evl.Ex H0 G6 := f5.trans g6
    refine q_whenS (b := false) (et_is (et_eqS (ev_op (ev_var rfl) ev_c (rv_ixT (st_of (f6 _ _ hat)) rfl)) ev_c) (by decide)) (fun z => by cases z) (fun _ G7 g7 => ?_)
    have f7 : Evl.Ex H0 G7 := f6.trans g7
    refine q_whenS (b := true) (et_is (et_eqS (ev_op (ev_var rfl) ev_c (rv_ixT (st_of (f7 _ _ hat)) rfl)) ev_c) (by decide)) (fun _ G8 g8 => ?_) (fun z => by cases z)
    have f8 : Evl.Ex H0 G8 := f7.trans g8
    have fx : Evl.Ex H0 G8 := f8
    have hat := fx _ _ hat
    refine q_whenS (et_not (et_B (ev_call (ea_cons (ev_var rfl) (ea_cons ev_c (ea_cons ev_c ea_nil))) (sp_num hx)))) (fun hb J1 j1 => ?_) (fun hb J1 j1 => ?_)
    · refine s_ret (v := .bl false) ev_c fun J3 j3 => finF ?_ (kp_ex ((fx.trans j1).trans j3))
      show (match numOf x with
        | some n => if 1 ≤ n ∧ n ≤ 65535 then some ({ sc with upper := n - 1 }, st) else none
        | none => none) = none
      cases e : numOf x with
      | none => rfl
      | some n =>
        refine if_neg fun z => ?_
        rw [inR_of e z.1 z.2] at hb
        cases hb
    · obtain ⟨n, hn, n1, n2⟩ := inR_spec (bn_f hb)
      obtain ⟨l1, l2, l3, _, l4⟩ := numOf_spec hn
      have hit : intText? x = some n := by
        rw [l4]
        refine PySem.intText_digits (allDig l3) (fun z => ?_) (by omega)
        have := len_toList x
        rw [z] at this
        simp at this
        omega
      refine q_dput (ev_op (ev_cb (ea_cons (ev_var rfl) ea_nil) fun H1 _ _ q => ⟨x, n, rfl, hit, by omega, q H1 (Evl.Ex.refl H1)⟩) ev_c rv_I0) (ev_var rfl) ev_c fun J2 j2 => ?_
      obtain ⟨J3, p3, k3, sc3⟩ := (hsc.ex ((fx.trans j1).trans j2)).putU (u := n - 1)
      refine ⟨J3, p3, s_ret (v := .bl true) ev_c fun J4 j4 => hQ1 _ { sc with upper := n - 1 } st J4 ?_ (kf (((kp_ex ((fx.trans j1).trans j2)).trans (k3.mono (by simp [nxS]))).trans (kp_ex j4))) (sc3.ex j4) (((hst.ex ((fx.trans j1).trans j2)).kp k3 (by simp [hsd])).ex j4) hfs fun _ => .inl rfl⟩
      show (match numOf x with
        | some n => if 1 ≤ n ∧ n ≤ 65535 then some ({ sc with upper := n - 1 }, st) else none
        | none => none) = _
      rw [hn]
      exact if_pos ⟨n1, n2⟩
  | first =>
    refine q_whenS (b := false) (et_is (et_eqS (ev_op (ev_var rfl) ev_c (rv_ixT (st_of (hat)) rfl)) ev_c) (by decide)) (fun z => by cases z) (fun _ G1 g1 => ?_)
    have f1 : Evl.Ex H0 G1 := g1
    refine q_whenS (b := false) (et_is (et_eqS (ev_op (ev_var rfl) ev_c (rv_ixT (st_of (f1 _ _ hat)) rfl)) ev_c) (by decide)) (fun z => by cases z) (fun _ G2 g2 => ?_)
    have f2 : Evl.Ex H0 G2 := f1.trans g2
    refine q_whenS (b := false) (et_is (et_eqS (ev_op (ev_var rfl) ev_c (rv_ixT (st_of (f2 _ _ hat)) rfl)) ev_c) (by decide)) (fun z => by cases z) (fun _ G3 g3 => ?_)
    have f3 : Evl.Ex H0 G3 := f2.trans g3
    refine q_whenS (b := false) (et_is (et_eqS (ev_op (ev_var rfl) ev_c (rv_ixT (st_of (f3 _ _ hat)) rfl)) ev_c) (by decide)) (fun z => by cases z) (fun _ G4 g4 => ?_)
    have f4 : Evl.Ex H0 G4 := f3.trans g4
    refine q_whenS (b := false) (et_is (et_eqS (ev_op (ev_var rfl) ev_c (rv_ixT (st_of (f4 _ _ hat)) rfl)) ev_c) (by decide)) (fun z => by cases z) (fun _ G5 g5 => ?_)
    have f5 : Evl.Ex H0 G5 := f4.trans g5
    refine q_whenS (b := false) (et_is (et_eqS (ev_op (ev_var rfl) ev_c (rv_ixT (st_of (f5 _ _ hat)) rfl)) ev_c) (by decide)) (fun z => by cases z) (fun _ G6 g6 => ?_)
    have f6 : Evl.Ex H0 G6 := f5.trans g6
    refine q_whenS (b := false) (et_is (et_eqS (ev_op (ev_var rfl) ev_c (rv_ixT (st_of (f6 _ _ hat)) rfl)) ev_c) (by decide)) (fun z => by cases z) (fun _ G7 g7 => ?_)
    have f7 : Evl.Ex H0 G7 := f6.trans g7
    refine q_whenS (b := false) (et_is (et_eqS (ev_op (ev_var rfl) ev_c (rv_ixT (st_of (f7 _ _ hat)) rfl)) ev_c) (by decide)) (fun z => by cases z) (fun _ G8 g8 => ?_)
    have f8 : Evl.Ex H0 G8 := f7.trans g8
    refine q_whenS (b := true) (et_is (et_eqS (ev_op (ev_var rfl) ev_c (rv_ixT (st_of (f8 _ _ hat)) rfl)) ev_c) (by decide)) (fun _ G9 g9 => ?_) (fun z => by cases z)
    have f9 : Evl.Ex H0 G9 := f8.trans g9
    have fx : Evl.Ex H0 G9 := f9
    have hat := fx _ _ hat
    refine s_ret (ev_call (ea_cons (ev_var rfl) (ea_cons ev_c (ea_cons (ev_dget (ev_var rfl) ev_c (hsc.ex fx).du) ea_nil))) (sp_num hx)) fun G e => finB (b := inR x 0 sc.upper) (fun z => ?_) (fun z => ?_) (fx.trans e)
    · exact if_pos z
    · exact if_neg (by rw [z]; decide)
  | new t =>
    refine q_whenS (b := false) (et_is (et_eqS (ev_op (ev_var rfl) ev_c (rv_ixT (st_of (hat)) rfl)) ev_c) (by decide)) (fun z => by cases z) (fun _ G1 g1 => ?_)
    have f1 : Evl.Ex H0 G1 := g1
    refine q_whenS (b := false) (et_is (et_eqS (ev_op (ev_var rfl) ev_c (rv_ixT (st_of (f1 _ _ hat)) rfl)) ev_c) (by decide)) (fun z => by cases z) (fun _ G2 g2 => ?_)
    have f2 : Evl.Ex H0 G2 := f1.trans g2
    refine q_whenS (b := false) (et_is (et_eqS (ev_op (ev_var rfl) ev_c (rv_ixT (st_of (f2 _ _ hat)) rfl)) ev_c) (by decide)) (fun z => by cases z) (fun _ G3 g3 => ?_)
    have f3 : Evl.Ex H0 G3 := f2.trans g3
    refine q_whenS (b := false) (et_is (et_eqS (ev_op (ev_var rfl) ev_c (rv_ixT (st_of (f3 _ _ hat)) rfl)) ev_c) (by decide)) (fun z => by cases z) (fun _ G4 g4 => ?_)
    have f4 : Evl.Ex H0 G4 := f3.trans g4
    refine q_whenS (b := false) (et_is (et_eqS (ev_op (ev_var rfl) ev_c (rv_ixT (st_of (f4 _ _ hat)) rfl)) ev_c) (by decide)) (fun z => by cases z) (fun _ G5 g5 => ?_)
    have f5 : Evl.Ex H0 G5 := f4.trans g5
    refine q_whenS (b := false) (et_is (et_eqS (ev_op (ev_var rfl) ev_c (rv_ixT (st_of (f5 _ _ hat)) rfl)) ev_c) (by decide)) (fun z => by cases z) (fun _ G6 g6 => ?_)
    have f6 : Evl.Ex H0 G6 := f5.trans g6
    refine q_whenS (b := false) (et_is (et_eqS (ev_op (ev_var rfl) ev_c (rv_ixT (st_of (f6 _ _ hat)) rfl)) ev_c) (by decide)) (fun z => by cases z) (fun _ G7 g7 => ?_)
    have f7 : Evl.Ex H0 G7 := f6.trans g7
    refine q_whenS (b := false) (et_is (et_eqS (ev_op (ev_var rfl) ev_c (rv_ixT (st_of (f7 _ _ hat)) rfl)) ev_c) (by decide)) (fun z => by cases z) (fun _ G8 g8 => ?_)
    have f8 : Evl.Ex H0 G8 := f7.trans g8
    refine q_whenS (b := false) (et_is (et_eqS (ev_op (ev_var rfl) ev_c (rv_ixT (st_of (f8 _ _ hat)) rfl)) ev_c) (by decide)) (fun z => by cases z) (fun _ G9 g9 => ?_)
    have f9 : Evl.Ex H0 G9 := f8.trans g9
    have fx : Evl.Ex H0 G9 := f9
    have hat := fx _ _ hat
    refine q_asg (ev_dget (ev_var rfl) (ev_op (ev_var rfl) ev_c (rv_ixT (st_of hat) rfl)) ((hsc.ex fx).dt t)) fun J1 j1 => ?_
    have f1 := fx.trans j1
    have eloc : decide (tbS t = "local") = decide (t = .loc) := by cases t <;> decide +kernel
    have hat1 := j1 _ _ hat
    refine q_whenS (b := decide (x ∈ sc.get t) || ((decide (t = .loc) && decide (x ∈ sc.get .var)) || !isName x)) (et_or (et_test (ev_inLS (ev_var rfl) (ev_var rfl) ((hsc.ex f1).sq t))) (fun _ => et_or (et_and (et_is (et_eqS (ev_op (ev_var rfl) ev_c (rv_ixT (st_of hat1) rfl)) ev_c) eloc) (fun _ => et_test (ev_inSc (hsc.ex f1) .var (ev_var rfl) (ev_var rfl) ev_c))) (fun _ => et_not (et_B (ev_call (ea_cons (ev_var rfl) ea_nil) (sp_name hx)))))) (fun hb J2 j2 => ?_) (fun hb J2 j2 => ?_)
    · refine s_ret (v := .bl false) ev_c fun J3 j3 => finF (if_pos ?_) (kp_ex ((f1.trans j2).trans j3))
      rw [Bool.or_eq_true, Bool.or_eq_true, and_d, decide_eq_true_eq, Bool.not_eq_true'] at hb
      exact hb
    · refine q_app ((hsc.ex (f1.trans j2)).l t) (ev_var rfl) (ev_var rfl) (by rw [List.length_map]; have := hls t; omega) fun J3 j3 => ?_
      have f3 := (f1.trans j2).trans j3
      have sc3 := (hsc.ex f3).push (w := x) (t := t)
      have km : Kp (nxS s d f) J3 (upd J3 (f t) (.lst ((sc.get t).map V.str ++ [.str x]))) := Kp.lst ((hsc.ex f3).l t) (by cases t <;> first | exact absurd rfl hna | simp [nxS])
      have ks : Kp [f t] J3 (upd J3 (f t) (.lst ((sc.get t).map V.str ++ [.str x]))) := Kp.lst ((hsc.ex f3).l t) (by simp)
      refine s_ret (v := .bl true) ev_c fun J4 j4 => hQ1 _ (sc.push x t) st J4 (if_neg ?_) (kf (((kp_ex f3).trans km).trans (kp_ex j4))) (sc3.ex j4) (((hst.ex f3).kp ks (by simp [(hfs t).symm])).ex j4) hfs fun _ => .inl rfl
      rw [Bool.or_eq_false_iff, Bool.or_eq_false_iff, decide_eq_false_iff_not] at hb
      rintro (z | z | z)
      · exact hb.1 z
      · exact nand_d hb.2.1 z
      · rw [z] at hb
        exact absurd hb.2.2 (by decide)
end
end K4

/-! The law's recognizer: the whole text. -/
namespace K4
open PySem PySem.Spec PyProof.Rows L2 Evl
def OkIt : It → Prop
  | .word x => x = "end"
  | .new t => t ≠ .asked
  | _ => True
def OkSt (st : List It) : Prop := ∀ i ∈ st, OkIt i
theorem OkSt.cons {i : It} {st : List It} (h : OkSt st) (hi : OkIt i) : OkSt (i :: st) := fun j hj => by
  rcases List.mem_cons.mp hj with e | hj
  · rw [e]; exact hi
  · exact h j hj
theorem okc {i : It} {st : List It} : OkSt (i :: st) ↔ OkIt i ∧ OkSt st := ⟨fun h => ⟨h i (by simp), fun j hj => h j (List.mem_cons_of_mem _ hj)⟩, fun h => OkSt.cons h.2 h.1⟩
theorem OkSt.tail {i : It} {st : List It} (h : OkSt (i :: st)) : OkSt st := fun j hj => h j (List.mem_cons_of_mem _ hj)
def Grow (st st' : List It) : Prop := st'.length ≤ st.length + 6 ∧ (OkSt st → OkSt st')
theorem stValue_grow {sc : Sc} {st st' : List It} {w : Str} {r : Nat} (h : stValue sc st w r = some st') : st'.length ≤ st.length + 2 ∧ (OkSt st → OkSt st') := by
  unfold stValue at h
  repeat' split at h
  · cases h; exact ⟨by simp, fun g => by simp [okc, OkIt, g]⟩
  · cases h; exact ⟨by simp, fun g => by simp [okc, OkIt, g]⟩
  · cases h; exact ⟨by omega, fun g => g⟩
  · cases h
theorem stBegins_grow {sc : Sc} {st st' : List It} {w : Str} {r : Nat} (h : stBegins sc st w r = some st') : st'.length ≤ st.length + 3 ∧ (OkSt st → OkSt st') := by
  unfold stBegins at h
  repeat' split at h
  all_goals first
    | (cases h; exact ⟨by simp, fun g => by simp [okc, OkIt, g]⟩)
    | (cases h; exact ⟨by simp, fun g => g⟩)
    | cases h
theorem stBlocks_grow {sc : Sc} {st st' : List It} {w : Str} {r : Nat} {k : Kd} (h : stBlocks sc st w r k = some st') : st'.length ≤ st.length + 4 ∧ (OkSt st → OkSt st') := by
  unfold stBlocks at h
  split at h
  · cases h; exact ⟨by simp, fun g => by simp [okc, OkIt, g]⟩
  · split at h
    · cases h; exact ⟨by omega, fun g => g⟩
    · split at h
      · cases h; exact ⟨by simp, fun g => by simp [okc, OkIt, g]⟩
      · obtain ⟨h1, h2⟩ := stBegins_grow h
        rw [List.length_cons] at h1
        exact ⟨by omega, fun g => h2 (g.cons trivial)⟩
theorem push_len {sc : Sc} {w : Str} {t u : Tb} : ((sc.push w t).get u).length ≤ (sc.get u).length + 1 := by
  cases t <;> cases u <;> simp [Sc.push, Sc.get]
theorem step_grow {sc sc' : Sc} {i : It} {st st' : List It} {w : Str} (h : step sc (i :: st) w = some (sc', st')) : st'.length ≤ st.length + 6 ∧ (∀ t, (sc'.get t).length ≤ (sc.get t).length + 1) ∧ (OkSt st → OkSt st') := by
  have same : ∀ t, (sc.get t).length ≤ (sc.get t).length + 1 := fun _ => Nat.le_succ _
  cases i with
  | word x =>
    have h : (if w = x then some (sc, st) else none) = some (sc', st') := h
    split at h
    · cases h; exact ⟨by omega, same, fun g => g⟩
    · cases h
  | one t =>
    have h : (if w ∈ sc.get t then some (sc, st) else none) = some (sc', st') := h
    split at h
    · cases h; exact ⟨by omega, same, fun g => g⟩
    · cases h
  | num lo hi =>
    have h : (if inR w lo hi = true then some (sc, st) else none) = some (sc', st') := h
    split at h
    · cases h; exact ⟨by omega, same, fun g => g⟩
    · cases h
  | value r =>
    have h : ((stValue sc st w r).map fun s => (sc, s)) = some (sc', st') := h
    cases e : stValue sc st w r with
    | none => rw [e] at h; cases h
    | some s =>
      rw [e] at h
      cases h
      obtain ⟨h1, h2⟩ := stValue_grow e
      exact ⟨by omega, same, h2⟩
  | block r k =>
    have h : ((stBlocks sc st w r k).map fun s => (sc, s)) = some (sc', st') := h
    cases e : stBlocks sc st w r k with
    | none => rw [e] at h; cases h
    | some s =>
      rw [e] at h
      cases h
      obtain ⟨h1, h2⟩ := stBlocks_grow e
      exact ⟨by omega, same, h2⟩
  | head =>
    have h : stHeads sc st w = some (sc', st') := h
    unfold stHeads at h
    repeat' split at h
    · cases h; exact ⟨by simp, fun t => by cases t <;> exact Nat.le_succ _, fun g => by simp [okc, OkIt, g]⟩
    · cases h; exact ⟨by simp, fun t => by cases t <;> exact Nat.le_succ _, fun g => by simp [okc, OkIt, g]⟩
    · cases h; exact ⟨by simp, fun t => by cases t <;> exact Nat.le_succ _, fun g => by simp [okc, OkIt, g]⟩
    · cases h; exact ⟨by simp, fun t => by cases t <;> first | exact Nat.le_succ _ | exact Nat.zero_le _, fun g => by simp [okc, OkIt, g]⟩
    · cases h
  | locals =>
    have h : (if w = "local" ∧ sc.loc.length < 6 then some (sc, It.new .loc :: .locals :: st) else (stBlocks sc st w 6 .proc).map fun s => (sc, s)) = some (sc', st') := h
    split at h
    · cases h; exact ⟨by simp, same, fun g => by simp [okc, OkIt, g]⟩
    · cases e : stBlocks sc st w 6 .proc with
      | none => rw [e] at h; cases h
      | some s =>
        rw [e] at h
        cases h
        obtain ⟨h1, h2⟩ := stBlocks_grow e
        exact ⟨by omega, same, h2⟩
  | size =>
    have h : (match numOf w with
      | some n => if 1 ≤ n ∧ n ≤ 65535 then some ({ sc with upper := n - 1 }, st) else none
      | none => none) = some (sc', st') := h
    split at h
    · split at h
      · cases h; exact ⟨by omega, fun t => by cases t <;> exact Nat.le_succ _, fun g => g⟩
      · cases h
    · cases h
  | first =>
    have h : (if inR w 0 sc.upper = true then some (sc, st) else none) = some (sc', st') := h
    split at h
    · cases h; exact ⟨by omega, same, fun g => g⟩
    · cases h
  | new t =>
    have h : (if w ∈ sc.get t ∨ (t = .loc ∧ w ∈ sc.var) ∨ isName w = false then none else some (sc.push w t, st)) = some (sc', st') := h
    split at h
    · cases h
    · cases h
      exact ⟨by omega, fun u => push_len, fun g => g⟩
def itD : It → PyData
  | .word w => .tuple [.str "word", .str w]
  | .one t => .tuple [.str "one", .str (tbS t)]
  | .num lo hi => .tuple [.str "number", .int lo, .int hi]
  | .value r => .tuple [.str "value", .int ((r : Nat) : Int)]
  | .block r k => .tuple [.str "block", .int ((r : Nat) : Int), .str (kdS k)]
  | .head => .tuple [.str "head"]
  | .locals => .tuple [.str "locals"]
  | .size => .tuple [.str "size"]
  | .first => .tuple [.str "first"]
  | .new t => .tuple [.str "new", .str (tbS t)]
theorem itD_dp {K : PySem.W.Frag} {H : Hp} {i : It} {v : V} (h : ItAt H i v) : Dp K H v (itD i) := by
  obtain ⟨a, rfl, h⟩ := h
  cases i with
  | word w => exact .tup (st_of h) (.cons (.str _) (.cons (.str _) .nil))
  | one t => exact .tup (st_of h) (.cons (.str _) (.cons (.str _) .nil))
  | num lo hi => exact .tup (st_of h) (.cons (.str _) (.cons (.int _) (.cons (.int _) .nil)))
  | value r => exact .tup (st_of h) (.cons (.str _) (.cons (.int _) .nil))
  | block r k => exact .tup (st_of h) (.cons (.str _) (.cons (.int _) (.cons (.str _) .nil)))
  | head => exact .tup (st_of h) (.cons (.str _) .nil)
  | locals => exact .tup (st_of h) (.cons (.str _) .nil)
  | size => exact .tup (st_of h) (.cons (.str _) .nil)
  | first => exact .tup (st_of h) (.cons (.str _) .nil)
  | new t => exact .tup (st_of h) (.cons (.str _) (.cons (.str _) .nil))
theorem itD_all {K : PySem.W.Frag} {H : Hp} : ∀ {l : List It} {xs : List V}, All2 (ItAt H) l xs → DpAll K H xs (l.map itD)
  | [], _, e => by cases (show _ = [] from e); exact .nil
  | _ :: _, _, ⟨v, ys, e, h1, h2⟩ => by subst e; exact .cons (itD_dp h1) (itD_all h2)
theorem itD_lay {i : It} (h : OkIt i) : PyData.canLay0 (itD i) = true ∧ (itD i).depth ≤ 1 := by
  cases i with
  | word w => obtain rfl : w = "end" := h; decide +kernel
  | one t => cases t <;> decide +kernel
  | num lo hi => exact ⟨show (PySem.PyData.strOk "number" && (true && (true && true))) = true by decide +kernel, show max 0 (max 0 (max 0 0)) + 1 ≤ 1 by decide⟩
  | value r => exact ⟨show (PySem.PyData.strOk "value" && (true && true)) = true by decide +kernel, show max 0 (max 0 0) + 1 ≤ 1 by decide⟩
  | block r k => exact ⟨show (PySem.PyData.strOk "block" && (true && (PySem.PyData.strOk (kdS k) && true))) = true by cases k <;> decide +kernel, show max 0 (max 0 (max 0 0)) + 1 ≤ 1 by decide⟩
  | new t => cases t <;> decide +kernel
  | _ => decide +kernel
theorem itDs_lay : ∀ {l : List It}, (∀ i ∈ l, OkIt i) → PyData.canLayAll0 (l.map itD) = true ∧ PyData.depthAll (l.map itD) ≤ 1
  | [], _ => ⟨rfl, Nat.zero_le _⟩
  | i :: l, h => by
    obtain ⟨h1, h2⟩ := itD_lay (h i (by simp))
    obtain ⟨h3, h4⟩ := itDs_lay (l := l) fun j hj => h j (List.mem_cons_of_mem _ hj)
    refine ⟨?_, ?_⟩
    · show (PyData.canLay0 (itD i) && PyData.canLayAll0 (l.map itD)) = true
      rw [h1, h3]; rfl
    · show max (itD i).depth (PyData.depthAll (l.map itD)) ≤ 1
      omega
theorem shaped_stk {l : List It} (h : ∀ i ∈ l, OkIt i) : SeqAt.shaped (.list (l.map itD)) = true := by
  obtain ⟨h1, h2⟩ := itDs_lay h
  unfold SeqAt.shaped
  rw [show PyData.canLay0 (.list (l.map itD)) = PyData.canLayAll0 (l.map itD) from rfl, h1]
  show (true && decide ((PyData.list (l.map itD)).depth ≤ 64)) = true
  rw [show (PyData.list (l.map itD)).depth = PyData.depthAll (l.map itD) + 1 from rfl, decide_eq_true (by omega)]
  rfl
theorem itD_head (i : It) : PyData.eqv (itD i) (itD .head) = decide (i = .head) := by
  cases i with
  | head => decide +kernel
  | word w =>
    show (("word" : Str) == "head" && false) = _
    rw [show (("word" : Str) == "head") = false by decide +kernel]
    rfl
  | one t => cases t <;> decide +kernel
  | new t => cases t <;> decide +kernel
  | num lo hi =>
    show (("number" : Str) == "head" && false) = _
    rw [show (("number" : Str) == "head") = false by decide +kernel]
    rfl
  | value r =>
    show (("value" : Str) == "head" && false) = _
    rw [show (("value" : Str) == "head") = false by decide +kernel]
    rfl
  | block r k =>
    show (("block" : Str) == "head" && false) = _
    rw [show (("block" : Str) == "head") = false by decide +kernel]
    rfl
  | _ => decide +kernel
theorem stk_eqv {st : List It} : PyData.eqv (.list (st.reverse.map itD)) (.list ([It.head].map itD)) = decide (st = [.head]) := by
  show PyData.eqvAll (st.reverse.map itD) ([It.head].map itD) = _
  cases e : st.reverse with
  | nil =>
    have : st = [] := by simpa using e
    subst this
    rfl
  | cons i l =>
    show (PyData.eqv (itD i) (itD .head) && PyData.eqvAll (l.map itD) []) = _
    rw [itD_head]
    have es : st = (i :: l).reverse := by rw [← e, List.reverse_reverse]
    cases l with
    | nil =>
      rw [es]
      show (decide (i = .head) && true) = decide ([i] = [.head])
      rw [Bool.and_true]
      exact decide_eq_decide.mpr (by simp)
    | cons j l =>
      show (decide (i = .head) && false) = _
      rw [Bool.and_false, es]
      refine (decide_eq_false fun z => ?_).symm
      have := congrArg List.length z
      simp at this
theorem Kp.offs {S : List Addr} {H H1 H2 : Hp} (a : Kp [] H H1) (b : Kp S H1 H2) (hS : ∀ q ∈ S, H q = none) : Kp [] H H2 :=
  ⟨fun c o _ h => b.get (a.get0 h) (fun z => by rw [hS c z] at h; cases h), fun c xs h => b.2 c xs (a.2 c xs h)⟩
def optV : Option Nat → V
  | none => .non
  | some n => .int ((n : Nat) : Int)
def spWrong (K : PySem.W.Frag) : Sp := fun vs H Q _ => ∃ wl al ws asked, vs = [.ref wl, .ref al] ∧ SqL K H wl (ws.map V.str) ∧ H al = some (.lst (asked.map V.str)) ∧ asked.length ≤ 100 ∧ ws.length ≤ 50000 ∧ (∀ x ∈ ws, x.length ≤ 1000000) ∧ RetV (optV (wrong asked ws)) H Q
section
variable {P : Program} {w : World} {K : PySem.W.Frag} {mg : Str → Option Value} {base : Heap}
theorem fn_law_wrong (T : Txt K mg) (h_law_next : FnP P w K mg base CX0 3 "_law_next" ["_law_stack", "_law_scope", "_law_word"] spNext) : FnP P w K mg base CX0 4 "_law_wrong" ["_law_words_here", "_law_asked"] (spWrong K) := by
  have S : FnScope ["_law_words_here", "_law_asked", "_law_scope", "_law_stack", "_law_at"] ["_law_words_here", "_law_asked"] (defScope (top 51)) := ⟨rfl, rfl, rfl, by decide +kernel, rfl, by decide +kernel, by decide +kernel⟩
  have nd := S.nd
  refine FnP.of0 T.d_law_wrong T.g_law_wrong S ba_law_wrong (fun vs H Q E h => ?_) (fun cdv A outer s H vs Q E hr h => ?_)
  · obtain ⟨wl, al, ws, asked, rfl, _⟩ := h
    rfl
  obtain ⟨wl, al, ws, asked, rfl, hwl, hal, hask, hlen, hx, hQ⟩ := h
  refine ⟨_, (pss_cons (ps_set (i := 2) nd rfl (Or.inl rfl) (pe_disp (pps_cons pe_str (pe_lst pa_nil) (pps_cons pe_str (pe_lst pa_nil) (pps_cons pe_str (pe_lst pa_nil) (pps_cons pe_str (pe_lst pa_nil) (pps_cons pe_str (pe_lst pa_nil) (pps_cons pe_str (pv 1) (pps_cons pe_str pe_int (pps_cons pe_str pe_int pps_nil)))))))) (by rfl) (by rfl) (fun z => by cases z) (by decide)))
    (pss_cons (ps_set (i := 3) nd rfl (Or.inl rfl) (pe_lst (pa_cons (pe_tup (pa_cons pe_str pa_nil)) pa_nil)))
    (pss_cons (ps_for PassesOwn.never rfl (pi_range1 (by rfl) T.f_range (pa_cons (pe_callB call_len (by rfl) T.f_len (by decide +kernel) (pa_cons (pv 0) pa_nil)) pa_nil)) (pg_name (i := 4) nd rfl (Or.inl rfl)) (pss_one (ps_if (pt_not (pt_val (pe_cf h_law_next hr pass0 (pa_cons (pv 3) (pa_cons (pv 2) (pa_cons (pe_ix ix_list (pv 0) (pv 4) (fun _ _ => rfl)) pa_nil)))))) (pss_one (ps_ret (pv 4))) pss_nil)))
    (pss_cons (ps_if (pt_cmpR (op_neD hr.units) (pv 3) (pe_lst (pa_cons (pe_tup (pa_cons pe_str pa_nil)) pa_nil)) (nomark _)) (pss_one (ps_ret (pe_callB call_len (by rfl) T.f_len (by decide +kernel) (pa_cons (pv 0) pa_nil)))) pss_nil)
    (pss_one (ps_ret pe_non)))))), ?_⟩
  -- the scope
  refine sq_set fun sd hsd => ⟨sz (show 0 ≤ 1000000 by decide), fun v hv => ⟨sz (show 0 ≤ 1000000 by decide), fun t ht => ⟨sz (show 0 ≤ 1000000 by decide), fun l hl => ⟨sz (show 0 ≤ 1000000 by decide), fun pr hpr => ⟨sz (show 0 ≤ 1000000 by decide), fun lo hlo => ⟨_, rfl, ?_, [(.inr "var", .ref v), (.inr "table", .ref t), (.inr "lots", .ref l), (.inr "proc", .ref pr), (.inr "local", .ref lo), (.inr "asked", .ref al), (.inr "stage", .int 0), (.inr "upper", .int 0)], rfl, (show 8 ≤ 15 by decide), ?_⟩⟩⟩⟩⟩⟩
  · exact get_new hlo (get_new hpr (get_new hl (get_new ht (get_new hv upd_same))))
  have em : mergeK [] [((.inr "var" : Key), V.ref v), (.inr "table", .ref t), (.inr "lots", .ref l), (.inr "proc", .ref pr), (.inr "local", .ref lo), (.inr "asked", .ref al), (.inr "stage", .int 0), (.inr "upper", .int 0)] = [((.inr "var" : Key), V.ref v), (.inr "table", .ref t), (.inr "lots", .ref l), (.inr "proc", .ref pr), (.inr "local", .ref lo), (.inr "asked", .ref al), (.inr "stage", .int 0), (.inr "upper", .int 0)] := by kernel_rfl
  rw [em]
  -- all apart
  have vsd := (ne_of_none (upd_same) hv).symm
  have tsd := (ne_of_none (get_new hv upd_same) ht).symm
  have lsd := (ne_of_none (get_new ht (get_new hv upd_same)) hl).symm
  have psd := (ne_of_none (get_new hl (get_new ht (get_new hv upd_same))) hpr).symm
  have osd := (ne_of_none (get_new hpr (get_new hl (get_new ht (get_new hv upd_same)))) hlo).symm
  have nvt := ne_of_none (upd_same) ht
  have nvl := ne_of_none (get_new ht upd_same) hl
  have nvp := ne_of_none (get_new hl (get_new ht upd_same)) hpr
  have nvo := ne_of_none (get_new hpr (get_new hl (get_new ht upd_same))) hlo
  have ntl := ne_of_none (upd_same) hl
  have ntp := ne_of_none (get_new hl upd_same) hpr
  have nto := ne_of_none (get_new hpr (get_new hl upd_same)) hlo
  have nlp := ne_of_none (upd_same) hpr
  have nlo := ne_of_none (get_new hpr upd_same) hlo
  have npo := ne_of_none (upd_same) hlo
  have kA : Kp [] H _ := ((((((Kp.new hsd).trans (Kp.new hv)).trans (Kp.new ht)).trans (Kp.new hl)).trans (Kp.new hpr)).trans (Kp.new (o := .lst []) hlo)).newer (o := .dK [((.inr "var" : Key), V.ref v), (.inr "table", .ref t), (.inr "lots", .ref l), (.inr "proc", .ref pr), (.inr "local", .ref lo), (.inr "asked", .ref al), (.inr "stage", .int 0), (.inr "upper", .int 0)]) hsd
  have fr : ∀ {q : Addr} {H1 : Hp}, Kp [] H H1 → H1 q = none → H q = none := fun k h => k.free h
  have hvn : H v = none := fr (Kp.new hsd) hv
  have htn : H t = none := fr ((Kp.new hsd).trans (Kp.new hv)) ht
  have hln : H l = none := fr (((Kp.new hsd).trans (Kp.new hv)).trans (Kp.new ht)) hl
  have hpn : H pr = none := fr ((((Kp.new hsd).trans (Kp.new hv)).trans (Kp.new ht)).trans (Kp.new hl)) hpr
  have hon : H lo = none := fr (((((Kp.new hsd).trans (Kp.new hv)).trans (Kp.new ht)).trans (Kp.new hl)).trans (Kp.new hpr)) hlo
  have av := ne_of_none hal hvn
  have at_ := ne_of_none hal htn
  have al_ := ne_of_none hal hln
  have ap := ne_of_none hal hpn
  have ao := ne_of_none hal hon
  let f : Tb → Addr := fun u => match u with
    | .var => v
    | .table => t
    | .lots => l
    | .proc => pr
    | .loc => lo
    | .asked => al
  generalize hH0 : upd (upd (upd (upd (upd (upd (upd H sd (.dK [])) v (.lst [])) t (.lst [])) l (.lst [])) pr (.lst [])) lo (.lst [])) sd (.dK [((.inr "var" : Key), V.ref v), (.inr "table", .ref t), (.inr "lots", .ref l), (.inr "proc", .ref pr), (.inr "local", .ref lo), (.inr "asked", .ref al), (.inr "stage", .int 0), (.inr "upper", .int 0)]) = H0 at kA ⊢
  have sc0' : ScAt H0 sd f (sc0 asked) := by
    refine ⟨?_, fun u => ?_, fun a b z => ?_⟩
    · rw [← hH0]; exact upd_same
    · cases u
      · rw [← hH0]; exact get_upd (get_new hlo (get_new hpr (get_new hl (get_new ht upd_same)))) vsd
      · rw [← hH0]; exact get_upd (get_new hlo (get_new hpr (get_new hl upd_same))) tsd
      · rw [← hH0]; exact get_upd (get_new hlo (get_new hpr upd_same)) lsd
      · rw [← hH0]; exact get_upd (get_new hlo upd_same) psd
      · rw [← hH0]; exact get_upd upd_same osd
      · exact kA.get0 hal
    · cases a <;> cases b <;> first | rfl | exact absurd z nvt | exact absurd z nvl | exact absurd z nvp | exact absurd z nvo | exact absurd z ntl | exact absurd z ntp | exact absurd z nto | exact absurd z nlp | exact absurd z nlo | exact absurd z npo | exact absurd z.symm nvt | exact absurd z.symm nvl | exact absurd z.symm nvp | exact absurd z.symm nvo | exact absurd z.symm ntl | exact absurd z.symm ntp | exact absurd z.symm nto | exact absurd z.symm nlp | exact absurd z.symm nlo | exact absurd z.symm npo | exact absurd z av | exact absurd z at_ | exact absurd z al_ | exact absurd z ap | exact absurd z ao | exact absurd z.symm av | exact absurd z.symm at_ | exact absurd z.symm al_ | exact absurd z.symm ap | exact absurd z.symm ao
  have hf0 : ∀ u, u ≠ .asked → H (f u) = none := fun u hu => by
    cases u <;> first | exact hvn | exact htn | exact hln | exact hpn | exact hon | exact absurd rfl hu
  -- the stack
  refine sq_set ⟨sz (show 1 ≤ 1000000 by decide), fun hd hhd => ⟨sz (show 1 ≤ 1000000 by decide), fun s hs => ?_⟩⟩
  have kB : Kp [] H0 (upd (upd H0 hd (.tup [.str "head"])) s (.lst [.ref hd])) := (Kp.new hhd).trans (Kp.new hs)
  have sc1 := sc0'.kp kB (by simp) (by simp)
  have st1 : StAt (upd (upd H0 hd (.tup [.str "head"])) s (.lst [.ref hd])) s [.head] := ⟨[.ref hd], upd_same, _, _, rfl, ⟨hd, rfl, get_new hs upd_same⟩, rfl⟩
  have hsn : H s = none := fr (kA.trans (Kp.new hhd)) hs
  have hfs : ∀ u, f u ≠ s := fun u => by
    by_cases e : u = .asked
    · subst e; exact ne_of_none hal hsn
    · intro z
      have hl0 := sc0'.l u
      rw [z] at hl0
      have := get_new hhd hl0 (u := .tup [.str "head"])
      rw [hs] at this
      cases this
  have kC := kA.trans kB
  generalize upd (upd H0 hd (.tup [.str "head"])) s (.lst [.ref hd]) = H1 at sc1 st1 kC ⊢
  have hw1 := hwl
  have exq : ∀ {H' : Hp}, Kp [] H H' → SqL K H' wl (ws.map V.str) := fun k => ex_l (ex_kp k) hwl
  refine q_forR1 (n := (ws.length : Int)) (ea_cons (ev_is (ev_lenl (ev_var rfl) (exq kC)) (by rw [List.length_map])) ea_nil) (by omega) (fun i σ Hc => ∃ y g sc st, σ = [some (.ref wl), some (.ref al), some (.ref sd), some (.ref s), y] ∧ Kp [] H Hc ∧ ScAt Hc sd g sc ∧ StAt Hc s st ∧ (∀ u, g u ≠ s) ∧ g .asked = al ∧ (∀ u, u ≠ .asked → H (g u) = none) ∧
    steps (sc0 asked) [.head] (ws.take i) = some (sc, st) ∧ st.length ≤ 1 + 6 * i ∧ (∀ t, (sc.get t).length ≤ 100 + i) ∧ OkSt st) (fun H2 e2 => ?_) ?_ ?_
  · refine ⟨none, f, sc0 asked, [.head], rfl, kC.trans (kp_ex e2), sc1.ex e2, st1.ex e2, hfs, rfl, hf0, rfl, Nat.le_refl _, fun t => by cases t <;> first | exact Nat.zero_le _ | exact Nat.le_trans hask (Nat.le_add_right _ _), fun i hi => ?_⟩
    rw [List.mem_singleton.mp hi]
    trivial
  · rintro i σ Hc hi ⟨y, g, sc, st, rfl, kc, scc, stc, hgs, hga, hgf, hst, hb1, hb2, hok⟩
    have hi : i < ws.length := by omega
    have hg : Grd st := steps_grd hst ⟨[], rfl⟩
    cases st with
    | nil => exact absurd rfl hg.ne
    | cons it st =>
    have eat : ws[i]? = some ws[i] := List.getElem?_eq_getElem hi
    have hatw : atI (ws.map V.str) ((i : Nat) : Int) = some (.str ws[i]) := atI_nat (by rw [List.getElem?_map, eat]; rfl)
    have etake : ws.take (i + 1) = ws.take i ++ [ws[i]] := by rw [List.take_succ, eat]; rfl
    have hoff : ∀ q ∈ nxS s sd g, H q = none := fun q hq => by
      simp only [nxS, List.mem_cons, List.not_mem_nil, or_false] at hq
      rcases hq with rfl | rfl | rfl | rfl | rfl | rfl | rfl
      · exact hsn
      · exact hsd
      · exact hgf _ (by intro z; cases z)
      · exact hgf _ (by intro z; cases z)
      · exact hgf _ (by intro z; cases z)
      · exact hgf _ (by intro z; cases z)
      · exact hgf _ (by intro z; cases z)
    refine ⟨_, rfl, _, rfl, _, rfl, _, rfl, wl, _, _, _, rfl, rfl, exq kc, hatw, s, sd, g, sc, it, st, ws[i], rfl, scc, stc, hgs, by rw [List.length_cons] at hb1; omega, fun t => by have := hb2 t; omega, hx _ (List.getElem_mem hi), ?_, fun g' sc' st' H' h1 k h2 h3 h4 h5 => ?_, fun H' h1 k => ?_⟩
    · intro z
      have := hok it (by simp)
      rw [z] at this
      exact this rfl
    · refine ⟨true, rfl, iteF ?_⟩
      obtain ⟨g1, g2, g3⟩ := step_grow h1
      have g3 := g3 hok.tail
      rw [List.length_cons] at hb1
      refine ⟨_, g', sc', st', rfl, kc.offs k hoff, h2, h3, h4, ?_, fun u hu => ?_, by rw [etake]; exact steps_snoc hst h1, by omega, fun t => by have := g2 t; have := hb2 t; omega, g3⟩
      · rcases h5 .asked with z | ⟨z, _⟩
        · rw [z]; exact hga
        · cases z
      · rcases h5 u with z | ⟨_, z⟩
        · rw [z]; exact hgf u hu
        · exact kc.free z
    · refine ⟨false, rfl, iteT ?_⟩
      refine s_ret (v := .int ((i : Nat) : Int)) (ev_var rfl) fun H2 e2 => ?_
      have ew : wrong asked ws = some i := by
        have e := wrong_at (ws := ws.drop (i + 1)) hst h1
        have e3 : ws.take i ++ ws[i] :: ws.drop (i + 1) = ws := by rw [List.getElem_cons_drop, List.take_append_drop]
        rw [e3, List.length_take, Nat.min_eq_left (by omega)] at e
        exact e
      have := hQ H2 (ex_kp ((kc.offs k hoff).trans (kp_ex e2)))
      rw [ew] at this
      exact this
  · rintro σ Hc ⟨y, g, sc, st, rfl, kc, scc, stc, hgs, hga, hgf, hst, hb1, hb2, hok⟩
    have etake : ws.take ((ws.length : Int).toNat) = ws := by rw [Int.toNat_natCast, List.take_length]
    rw [etake] at hst
    have ew := wrong_end hst
    obtain ⟨zs, z1, z2⟩ := stc
    refine q_whenS (b := !decide (st = [.head])) (fun H3 e3 Q3 q3 => ?_) (fun hb H4 e4 => ?_) (fun hb H4 e4 => ?_)
    · refine ⟨_, rfl, sz (show 1 ≤ 1000000 by decide), fun p hp => ⟨sz (show 1 ≤ 1000000 by decide), fun p2 hp2 => ?_⟩⟩
      have kp : Kp [] Hc (upd (upd H3 p (.tup [.str "head"])) p2 (.lst [.ref p])) := ((kp_ex e3).trans (Kp.new hp)).trans (Kp.new hp2)
      refine ⟨.list (st.reverse.map itD), .list ([It.head].map itD), .lst (sq_of (kp.get0 z1)) (itD_all (z2.imp fun _ _ => ItAt.kp kp)), .lst (sq_of upd_same) (itD_all (l := [It.head]) ⟨_, _, rfl, ⟨p, rfl, get_new hp2 upd_same⟩, rfl⟩), shaped_stk fun j hj => hok j (by simpa using hj), by decide +kernel, !decide (st = [.head]), ?_, ?_⟩
      · rw [stk_eqv]
      · exact q3 _ (ex_kp ((Kp.new hp).trans (Kp.new hp2)))
    · refine s_ret (v := .int (ws.length : Int)) (ev_is (ev_lenl (ev_var rfl) (exq (kc.trans (kp_ex e4)))) (by rw [List.length_map])) fun H5 e5 => ?_
      rw [if_neg (dec_f (bn_t hb))] at ew
      have := hQ H5 (ex_kp ((kc.trans (kp_ex e4)).trans (kp_ex e5)))
      rw [ew] at this
      exact this
    · refine s_ret (v := .non) ev_c fun H5 e5 => ?_
      rw [if_pos (dec_t (bn_f hb))] at ew
      have := hQ H5 (ex_kp ((kc.trans (kp_ex e4)).trans (kp_ex e5)))
      rw [ew] at this
      exact this
end
end K4

/-! The law's other words: readings that draw from the pool. -/
namespace K4
open PySem PySem.Spec PyProof.Rows L2 Evl
/-- evaluates to such a value; only the pool may change -/
def EvP (p a : Addr) (b : Int) (te : TE) (σ : L2.St) (H : Hp) (R : V → Hp → Prop) : Prop := ∀ H1, Kp [p] H H1 → Pool H1 p a b → ∀ Q : VK, (∀ v H2, Kp [p] H1 H2 → Pool H2 p a b → R v H2 → Q v H2) → te σ H1 Q
def isI (i : Int) : V → Hp → Prop := fun v _ => v = .int i
def isU (n : Int) : V → Hp → Prop := fun v _ => ∃ r, v = .int r ∧ 0 ≤ r ∧ r < n
def isS (n : Nat) : V → Hp → Prop := fun v _ => ∃ x, v = .str x ∧ OkW n x
def isW (p : Addr) (n m : Nat) : V → Hp → Prop := fun v H => ∃ l ws, v = .ref l ∧ l ≠ p ∧ H l = some (.lst ((ws : List Str).map V.str)) ∧ (∀ x ∈ ws, OkW n x) ∧ ws.length ≤ m
theorem isW_kp {p : Addr} {n m : Nat} {v : V} {H H' : Hp} (k : Kp [p] H H') (h : isW p n m v H) : isW p n m v H' := by
  obtain ⟨l, ws, e, hl, h1, h2⟩ := h
  exact ⟨l, ws, e, hl, k.get1 h1 hl, h2⟩
theorem isW_mono {p : Addr} {n n' m m' : Nat} {v : V} {H : Hp} (h : isW p n m v H) (hn : n ≤ n') (hm : m ≤ m') : isW p n' m' v H := by
  obtain ⟨l, ws, e, hl, h1, h2, h3⟩ := h
  exact ⟨l, ws, e, hl, h1, fun x hx => (h2 x hx).mono hn, by omega⟩
def spMenu : Sp := fun vs H Q _ => ∃ p a b, vs = [.ref p] ∧ Pool H p a b ∧ ∀ x H', OkW 12 x → Kp [p] H H' → Pool H' p a b → Q (.str x) H'
def spSigned : Sp := fun vs H Q _ => ∃ p a b x n, vs = [.ref p, .str x] ∧ Pool H p a b ∧ OkW n x ∧ n ≤ 1000 ∧ ∀ y H', OkW (2 * n + 1) y → Kp [p] H H' → Pool H' p a b → Q (.str y) H'
theorem cut_map {ws : List Str} {lo hi : Option Int} : ∃ ws' : List Str, cutV (ws.map V.str) lo hi = ws'.map V.str ∧ (∀ x ∈ ws', x ∈ ws) ∧ ws'.length = (cutV (ws.map V.str) lo hi).length := by
  refine ⟨(ws.drop (HT.sIx (ws.map V.str).length 0 lo)).take (HT.sIx (ws.map V.str).length (ws.map V.str).length hi - HT.sIx (ws.map V.str).length 0 lo), ?_, fun x hx => List.mem_of_mem_drop (List.mem_of_mem_take hx), ?_⟩
  · unfold cutV
    rw [List.map_take, List.map_drop]
  · unfold cutV
    rw [← List.map_drop, ← List.map_take]
    simp
theorem cut_len_to {xs : List V} {i : Int} (h0 : 0 ≤ i) : (cutV xs none (some i)).length ≤ i.toNat := by
  obtain ⟨k, rfl⟩ : ∃ k : Nat, i = (k : Int) := ⟨i.toNat, by omega⟩
  unfold cutV
  rw [List.length_take, HT.sIx_nat, HT.sIx_none]
  omega
theorem cut_len_from {xs : List V} {i : Int} (h0 : 0 ≤ i) : (cutV xs (some i) none).length ≤ xs.length - i.toNat := by
  obtain ⟨k, rfl⟩ : ∃ k : Nat, i = (k : Int) := ⟨i.toNat, by omega⟩
  unfold cutV
  rw [List.length_take, List.length_drop, HT.sIx_nat, HT.sIx_none]
  omega
theorem cut_len_mid {xs : List V} {i j : Int} (h0 : 0 ≤ i) (h1 : i ≤ j) : (cutV xs (some i) (some j)).length ≤ (j - i).toNat := by
  obtain ⟨k, rfl⟩ : ∃ k : Nat, i = (k : Int) := ⟨i.toNat, by omega⟩
  obtain ⟨m, rfl⟩ : ∃ m : Nat, j = (m : Int) := ⟨j.toNat, by omega⟩
  unfold cutV
  rw [List.length_take, HT.sIx_nat, HT.sIx_nat]
  omega
theorem ok_cut {n : Nat} {z : Str} {lo hi : Option Int} (h : OkW n z) : OkW n (cutS z lo hi) := by
  refine ⟨Nat.le_trans (cutS_length z lo hi) h.1, fun hm => h.2 ?_⟩
  have : (cutS z lo hi).cps.toList = (z.cps.toList.drop (HT.sIx z.length 0 lo)).take (HT.sIx z.length z.length hi - HT.sIx z.length 0 lo) := by
    unfold cutS
    simp
  rw [this] at hm
  exact List.mem_of_mem_drop (List.mem_of_mem_take hm)
theorem ok_app {m n : Nat} {x y : Str} (h : OkW m x) (h' : OkW n y) : OkW (m + n) (x ++ y) := by
  have e : (x ++ y).cps.toList = x.cps.toList ++ y.cps.toList := by
    show (x.cps ++ y.cps).toList = _
    rw [Array.toList_append]
  refine ⟨?_, fun z => ?_⟩
  · have h1 := len_toList (x ++ y)
    rw [e, List.length_append, len_toList, len_toList] at h1
    have := h.1
    have := h'.1
    omega
  · rw [e] at z
    rcases List.mem_append.mp z with z | z
    · exact h.2 z
    · exact h'.2 z
section
variable {p a : Addr} {b : Int} {H H' H1 : Hp} {σ : L2.St} {K : PySem.W.Frag} {ta tb tc te tk : TE} {v : V} {R R' : V → Hp → Prop} {m m1 m2 n : Nat} {D : Ends} {tw tz : TS}
theorem EvP.mono (h : EvP p a b te σ H R) (k : Kp [p] H H') : EvP p a b te σ H' R := fun H1 k1 hp Q q => h H1 (k.trans k1) hp Q q
theorem EvP.imp (h : EvP p a b te σ H R) (hr : ∀ v H, R v H → R' v H) : EvP p a b te σ H R' := fun H1 k1 hp Q q => h H1 k1 hp Q fun v H2 k2 p2 r => q v H2 k2 p2 (hr v H2 r)
theorem ep_var {i : Nat} (h : σ[i]? = some (some v)) (hr : ∀ H1, Kp [p] H H1 → R v H1) : EvP p a b (tVar i) σ H R := fun H1 k hp Q q => ⟨v, h, q v H1 Kp.refl hp (hr H1 k)⟩
theorem ep_c (hr : ∀ H1, R v H1) : EvP p a b (tC v) σ H R := fun H1 k hp Q q => q v H1 Kp.refl hp (hr H1)
theorem ep_int {i : Int} : EvP p a b (tC (.int i)) σ H (isI i) := ep_c fun _ => rfl
theorem ep_vint {i : Int} {j : Nat} (h : σ[j]? = some (some (.int i))) : EvP p a b (tVar j) σ H (isI i) := ep_var h fun _ _ => rfl
theorem ep_add {i j : Int} (ha : EvP p a b ta σ H (isI i)) (hb : EvP p a b tb σ H (isI j)) : EvP p a b (tOp (rI0 fun i j => V.int (i + j)) ta tb) σ H (isI (i + j)) := fun H1 k hp Q q =>
  ha H1 k hp _ fun v H2 k2 p2 e => hb H2 (k.trans k2) p2 _ fun u H3 k3 p3 e' => ⟨i, j, e, e', q _ H3 (k2.trans k3) p3 rfl⟩
theorem ep_len {j : Nat} {l : Addr} {xs : List V} (h : σ[j]? = some (some (.ref l))) (hl : H l = some (.lst xs)) (hn : l ≠ p) : EvP p a b (tCB (fun xs H Q => ∃ x n, xs = [x] ∧ LenV K x H n ∧ Q (.int n) H) (tCons (tVar j) tNil)) σ H (isI (xs.length : Int)) := fun H1 k hp Q q =>
  ⟨_, h, _, _, rfl, .inl ⟨xs, SqL.of (k.get1 hl hn), rfl⟩, q _ H1 Kp.refl hp rfl⟩
theorem ep_lenS {j : Nat} {x : Str} (h : σ[j]? = some (some (.str x))) (hl : x.length ≤ 1000000) : EvP p a b (tCB (fun xs H Q => ∃ x n, xs = [x] ∧ LenV K x H n ∧ Q (.int n) H) (tCons (tVar j) tNil)) σ H (isI (x.length : Int)) := fun H1 k hp Q q =>
  ⟨_, h, _, _, rfl, ⟨sz hl, rfl⟩, q _ H1 Kp.refl hp rfl⟩
theorem ep_draw {n : Int} {i : Nat} {E : XK} (h0 : σ[i]? = some (some (.ref p))) (hn : EvP p a b te σ H (isI n)) (h1 : 1 ≤ n) (h2 : n < 1073741824) : EvP p a b (tCall spDraw [] E (tCons (tVar i) (tCons te tNil))) σ H (isU n) := fun H1 k hp Q q =>
  ⟨_, h0, hn H1 k hp _ fun v H2 k2 p2 e => by
    cases (show v = .int n from e)
    exact ⟨p, a, b, n, rfl, h1, h2, p2, fun r H3 r0 r1 k3 p3 => q _ H3 (k2.trans k3) p3 ⟨r, rfl, r0, r1⟩⟩⟩
theorem ep_menu {i : Nat} {E : XK} (h0 : σ[i]? = some (some (.ref p))) : EvP p a b (tCall spMenu [] E (tCons (tVar i) tNil)) σ H (isS 12) := fun H1 k hp Q q =>
  ⟨_, h0, p, a, b, rfl, hp, fun x H2 hx k2 p2 => q _ H2 k2 p2 ⟨x, rfl, hx⟩⟩
theorem kp_newp (h : Kp [p] H H1) {q : Addr} {o : HO} (hq : H1 q = none) : Kp [p] H (upd H1 q o) := h.trans (Kp.new hq)
theorem pool_new {q : Addr} {o : HO} (h : Pool H p a b) (hq : H q = none) : Pool (upd H q o) p a b := h.kp (Kp.new hq : Kp [] H _) (by simp) (by simp)
theorem pool_ne {q : Addr} (h : Pool H p a b) (hq : H q = none) : q ≠ p := fun z => by
  obtain ⟨xs, h1⟩ := h.at_
  rw [z, h1] at hq
  cases hq
theorem ep_one (h : EvP p a b te σ H (isS n)) : EvP p a b (tLst (tCons te tNil)) σ H (isW p n 1) := fun H1 k hp Q q =>
  h H1 k hp _ fun v H2 k2 p2 ⟨x, e, hx⟩ => ⟨sz (show 1 ≤ 1000000 by decide), fun l hl => q _ _ (kp_newp k2 hl) (pool_new p2 hl) ⟨l, [x], rfl, pool_ne p2 hl, by rw [upd_same, e]; rfl, fun y hy => by rw [List.mem_singleton.mp hy]; exact hx, Nat.le_refl _⟩⟩
theorem ep_lit {ws : List Str} {ta : TA} (h : ∀ H, EvA ta σ H (ws.map V.str)) (hok : ∀ x ∈ ws, OkW n x) (hl : ws.length ≤ 1000) : EvP p a b (tLst ta) σ H (isW p n ws.length) := fun H1 k hp Q q =>
  h H1 H1 (Evl.Ex.refl _) _ fun H2 e2 => ⟨sz (by rw [List.length_map]; omega), fun l hl => by
    have p2 : Pool H2 p a b := hp.kp (kp_ex e2 : Kp [] H1 H2) (by simp) (by simp)
    exact q _ _ (kp_newp (kp_ex e2) hl) (pool_new p2 hl) ⟨l, ws, rfl, pool_ne p2 hl, upd_same, hok, Nat.le_refl _⟩⟩
theorem ep_cat (ha : EvP p a b ta σ H (isW p n m1)) (hb : EvP p a b tb σ H (isW p n m2)) (hz : m1 + m2 ≤ 1000000) : EvP p a b (tOp rCat ta tb) σ H (isW p n (m1 + m2)) := fun H1 k hp Q q =>
  ha H1 k hp _ fun v H2 k2 p2 r2 => hb H2 (k.trans k2) p2 _ fun u H3 k3 p3 r3 => by
    obtain ⟨l, ws, rfl, hl, h1, h2, h3⟩ := isW_kp k3 r2
    obtain ⟨l', ws', rfl, hl', h1', h2', h3'⟩ := r3
    refine ⟨l, l', _, _, rfl, rfl, h1, h1', sz (by rw [List.length_map, List.length_map]; omega), fun r hr => q _ _ (kp_newp (k2.trans k3) hr) (pool_new p3 hr) ⟨r, ws ++ ws', rfl, pool_ne p3 hr, by rw [upd_same, List.map_append], fun x hx => ?_, by rw [List.length_append]; omega⟩⟩
    rcases List.mem_append.mp hx with hx | hx
    · exact h2 x hx
    · exact h2' x hx
theorem ep_rep (ha : EvP p a b ta σ H (isW p n m)) (hb : EvP p a b tb σ H (isU 2)) (hz : m ≤ 1000) : EvP p a b (tOp rRep ta tb) σ H (isW p n m) := fun H1 k hp Q q =>
  ha H1 k hp _ fun v H2 k2 p2 r2 => hb H2 (k.trans k2) p2 _ fun u H3 k3 p3 ⟨r, e, r0, r1⟩ => by
    obtain ⟨l, ws, rfl, hl, h1, h2, h3⟩ := isW_kp k3 r2
    subst e
    have hr : r = 0 ∨ r = 1 := by omega
    refine ⟨l, r, _, rfl, rfl, h1, by omega, by omega, ?_, fun s hs => q _ _ (kp_newp (k2.trans k3) hs) (pool_new p3 hs) ?_⟩
    · rw [List.length_map]
      rcases hr with rfl | rfl
      · exact sz (by show ws.length * 0 ≤ _; omega)
      · exact sz (by show ws.length * 1 ≤ _; omega)
    · rcases hr with rfl | rfl
      · exact ⟨s, [], rfl, pool_ne p3 hs, upd_same, (fun x hx => by cases hx), Nat.zero_le _⟩
      · refine ⟨s, ws, rfl, pool_ne p3 hs, ?_, h2, h3⟩
        rw [upd_same]
        show some (HO.lst (List.replicate 1 (ws.map V.str)).flatten) = _
        simp
theorem epo_none : ∀ H1 Q, Q none H1 → tNoPart σ H1 Q := fun _ _ q => q
theorem ep_sl {tl th : TO} {i : Nat} {l : Addr} {ws : List Str} {lo hi : Option Int} (h : σ[i]? = some (some (.ref l))) (hl : H l = some (.lst (ws.map V.str))) (hn : l ≠ p) (hok : ∀ x ∈ ws, OkW n x)
    (h1 : ∀ H1, EvO tl σ H1 lo) (h2 : ∀ H1, EvO th σ H1 hi) (hlen : (cutV (ws.map V.str) lo hi).length ≤ m) : EvP p a b (tSl (rSlL K) (tVar i) tl th) σ H (isW p n m) := fun H1 k hp Q q =>
  ⟨_, h, h1 H1 H1 (Evl.Ex.refl _) _ fun H2 e2 => h2 H2 H2 (Evl.Ex.refl _) _ fun H3 e3 => ⟨l, _, rfl, SqL.of (e3 _ _ (e2 _ _ (k.get1 hl hn))), fun r hr => by
    obtain ⟨ws', e, hm, hl'⟩ := cut_map (ws := ws) (lo := lo) (hi := hi)
    have p3 : Pool H3 p a b := hp.kp (kp_ex (e2.trans e3) : Kp [] H1 H3) (by simp) (by simp)
    exact q _ _ (kp_newp (kp_ex (e2.trans e3)) hr) (pool_new p3 hr) ⟨r, ws', rfl, pool_ne p3 hr, by rw [upd_same, e], fun x hx => hok x (hm x hx), by omega⟩⟩⟩
theorem s_asgP {i : Nat} (h : EvP p a b te σ H R) (hp : Pool H p a b) (k : ∀ v H1, Kp [p] H H1 → Pool H1 p a b → R v H1 → D.nx (σ.set i (some v)) H1) : tAsg te (gName i) D σ H := h H Kp.refl hp _ fun v H1 k1 p1 r => k v H1 k1 p1 r
theorem q_asgP {i : Nat} (h : EvP p a b te σ H R) (hp : Pool H p a b) (k : ∀ v H1, Kp [p] H H1 → Pool H1 p a b → R v H1 → tz D (σ.set i (some v)) H1) : tSeq (tAsg te (gName i)) tz D σ H := s_asgP (D := { D with nx := tz D }) h hp k
end
def menu1 : List Str := ["end", "else", "if", "after", "set", "put", "lot", "let", "draw", "bad", "ask", "answer", "local", "proc", "var"]
def menu2 : List Str := ["table", "lots", "has", "cell", "+", "mod", "<", "x", "t", "o", "g", "a", "p", "0", "1", "7", "64", "65535"]
def menu3 : List Str := ["", "?", "01", "n", "00", "007", "100000", ">", "a_b", "aB", "a\nb", "\n", "x\t"]
def theSigns : Str := "!\"#$&'()*+,-./0123456789:;<=>?@ABYZ[]^_`abcxyz{|}~\n\t"
section
variable {P : Program} {w : World} {K : PySem.W.Frag} {mg : Str → Option Value} {base : Heap}
theorem fn_law_menu (T : Txt K mg) (h_law_draw : FnP P w K mg base CX0 1 "_law_draw" ["_law_pool_here", "_law_size"] spDraw) : FnP P w K mg base CX0 2 "_law_menu" ["_law_pool_here"] spMenu := by
  have S : FnScope ["_law_pool_here", "_law_words_here"] ["_law_pool_here"] (defScope (top 52)) := ⟨rfl, rfl, rfl, by decide +kernel, rfl, by decide +kernel, by decide +kernel⟩
  have nd := S.nd
  refine FnP.of0 T.d_law_menu T.g_law_menu S ba_law_menu (fun vs H Q E h => ?_) (fun cdv A outer s H vs Q E hr h => ?_)
  · obtain ⟨p, a, b, rfl, _⟩ := h
    rfl
  obtain ⟨p, a, b, rfl, hp, hQ⟩ := h
  refine ⟨_, (pss_cons (ps_set (i := 1) nd rfl (Or.inl rfl) (pe_lst (pa_cons pe_str (pa_cons pe_str (pa_cons pe_str (pa_cons pe_str (pa_cons pe_str (pa_cons pe_str (pa_cons pe_str (pa_cons pe_str (pa_cons pe_str (pa_cons pe_str (pa_cons pe_str (pa_cons pe_str (pa_cons pe_str (pa_cons pe_str (pa_cons pe_str pa_nil)))))))))))))))))
    (pss_cons (ps_set (i := 1) nd rfl (Or.inl rfl) (pe_op op_cat (pv 1) (pe_lst (pa_cons pe_str (pa_cons pe_str (pa_cons pe_str (pa_cons pe_str (pa_cons pe_str (pa_cons pe_str (pa_cons pe_str (pa_cons pe_str (pa_cons pe_str (pa_cons pe_str (pa_cons pe_str (pa_cons pe_str (pa_cons pe_str (pa_cons pe_str (pa_cons pe_str (pa_cons pe_str (pa_cons pe_str (pa_cons pe_str pa_nil)))))))))))))))))))))
    (pss_cons (ps_set (i := 1) nd rfl (Or.inl rfl) (pe_op op_cat (pv 1) (pe_lst (pa_cons pe_str (pa_cons pe_str (pa_cons pe_str (pa_cons pe_str (pa_cons pe_str (pa_cons pe_str (pa_cons pe_str (pa_cons pe_str (pa_cons pe_str (pa_cons pe_str (pa_cons pe_str (pa_cons pe_str (pa_cons pe_str pa_nil))))))))))))))))
    (pss_one (ps_ret (pe_ix ix_list (pv 1) (pe_cf h_law_draw hr pass0 (pa_cons (pv 0) (pa_cons (pe_callB call_len (by rfl) T.f_len (by decide +kernel) (pa_cons (pv 1) pa_nil)) pa_nil))) (fun _ _ => rfl))))))), ?_⟩
  refine q_asgL (xs := menu1.map V.str) (el_lst (ea_cons ev_c (ea_cons ev_c (ea_cons ev_c (ea_cons ev_c (ea_cons ev_c (ea_cons ev_c (ea_cons ev_c (ea_cons ev_c (ea_cons ev_c (ea_cons ev_c (ea_cons ev_c (ea_cons ev_c (ea_cons ev_c (ea_cons ev_c (ea_cons ev_c ea_nil))))))))))))))) (by decide)) fun l1 H1 hl1 e1 h1 => ?_
  refine q_asgL (xs := menu1.map V.str ++ menu2.map V.str) (el_cat (ew_R (ev_var rfl) h1) (ew_lst (vs := menu2.map V.str) (ea_cons ev_c (ea_cons ev_c (ea_cons ev_c (ea_cons ev_c (ea_cons ev_c (ea_cons ev_c (ea_cons ev_c (ea_cons ev_c (ea_cons ev_c (ea_cons ev_c (ea_cons ev_c (ea_cons ev_c (ea_cons ev_c (ea_cons ev_c (ea_cons ev_c (ea_cons ev_c (ea_cons ev_c (ea_cons ev_c ea_nil)))))))))))))))))) (by decide)) (by decide)) fun l2 H2 hl2 e2 h2 => ?_
  refine q_asgL (xs := menu1.map V.str ++ menu2.map V.str ++ menu3.map V.str) (el_cat (ew_R (ev_var rfl) h2) (ew_lst (vs := menu3.map V.str) (ea_cons ev_c (ea_cons ev_c (ea_cons ev_c (ea_cons ev_c (ea_cons ev_c (ea_cons ev_c (ea_cons ev_c (ea_cons ev_c (ea_cons ev_c (ea_cons ev_c (ea_cons ev_c (ea_cons ev_c (ea_cons ev_c ea_nil))))))))))))) (by decide)) (by decide)) fun l3 H3 hl3 e3 h3 => ?_
  have e := (e1.trans e2).trans e3
  have p3 : Pool H3 p a b := hp.kp (kp_ex e : Kp [] H H3) (by simp) (by simp)
  have n3 : l3 ≠ p := by
    have := fresh_back (e1.trans e2) hl3
    exact pool_ne hp this
  have em : menu1.map V.str ++ menu2.map V.str ++ menu3.map V.str = (menu1 ++ menu2 ++ menu3).map V.str := by rw [List.map_append, List.map_append]
  rw [em] at h3
  have hlen : ((menu1 ++ menu2 ++ menu3).map V.str).length = 46 := by decide
  refine ⟨_, rfl, ep_draw (n := 46) rfl (ep_len rfl h3 n3) (by decide) (by decide) H3 Kp.refl p3 _ fun v H4 k4 p4 ⟨r, er, r0, r1⟩ => ?_⟩
  subst er
  obtain ⟨x, hat, hx⟩ := at_map (f := V.str) (ns := menu1 ++ menu2 ++ menu3) r0 r1
  exact ⟨l3, _, _, _, rfl, rfl, SqL.of (k4.get1 h3 n3), hat, hQ x H4 ((by decide +kernel : ∀ x ∈ menu1 ++ menu2 ++ menu3, OkW 12 x) x hx) ((kp_ex e).trans k4) p4⟩
theorem fn_law_signed (T : Txt K mg) (h_law_draw : FnP P w K mg base CX0 1 "_law_draw" ["_law_pool_here", "_law_size"] spDraw) : FnP P w K mg base CX0 2 "_law_signed" ["_law_pool_here", "_law_word"] spSigned := by
  have S : FnScope ["_law_pool_here", "_law_word", "_law_signs", "_law_at", "_law_sign"] ["_law_pool_here", "_law_word"] (defScope (top 53)) := ⟨rfl, rfl, rfl, by decide +kernel, rfl, by decide +kernel, by decide +kernel⟩
  have nd := S.nd
  refine FnP.of0 T.d_law_signed T.g_law_signed S ba_law_signed (fun vs H Q E h => ?_) (fun cdv A outer s H vs Q E hr h => ?_)
  · obtain ⟨p, a, b, x, n, rfl, _⟩ := h
    rfl
  obtain ⟨p, a, b, x, n, rfl, hp, hx, hn, hQ⟩ := h
  refine ⟨_, (pss_cons (ps_set (i := 2) nd rfl (Or.inl rfl) pe_str)
    (pss_cons (ps_set (i := 3) nd rfl (Or.inl rfl) (pe_cf h_law_draw hr pass0 (pa_cons (pv 0) (pa_cons (pe_op op_add (pe_callB call_len (by rfl) T.f_len (by decide +kernel) (pa_cons (pv 1) pa_nil)) pe_int) pa_nil))))
    (pss_cons (ps_set (i := 4) nd rfl (Or.inl rfl) (pe_ix ix_str (pv 2) (pe_cf h_law_draw hr pass0 (pa_cons (pv 0) (pa_cons (pe_callB call_len (by rfl) T.f_len (by decide +kernel) (pa_cons (pv 2) pa_nil)) pa_nil))) (fun _ _ => rfl)))
    (pss_one (ps_ret (pe_op op_add_str (pe_op op_add_str (pe_slice sl_str (pv 1) po_none (po_some (pv 3))) (pe_ix ix_tup (pe_tup (pa_cons (pv 4) (pa_cons pe_str (pa_cons (pv 4) pa_nil)))) (pe_cf h_law_draw hr pass0 (pa_cons (pv 0) (pa_cons pe_int pa_nil))) (fun _ _ => rfl))) (pe_slice sl_str (pv 1) (po_some (pe_op op_add (pv 3) (pe_cf h_law_draw hr pass0 (pa_cons (pv 0) (pa_cons pe_int pa_nil))))) po_none))))))), ?_⟩
  have hxl := hx.1
  refine q_asg (v := .str theSigns) ev_c fun H1 e1 => ?_
  have p1 : Pool H1 p a b := hp.kp (kp_ex e1 : Kp [] H H1) (by simp) (by simp)
  refine q_asgP (ep_draw rfl (ep_add (ep_lenS rfl (by omega)) ep_int) (by omega) (by omega)) p1 fun v H2 k2 p2 ⟨at_, e2, a0, a1⟩ => ?_
  subst e2
  have hsl : theSigns.length = 52 := by decide +kernel
  refine ⟨_, rfl, ep_draw (n := (theSigns.length : Int)) rfl (ep_lenS rfl (by rw [hsl]; decide)) (by rw [hsl]; decide) (by rw [hsl]; decide) H2 Kp.refl p2 _ fun v H3 k3 p3 ⟨r, er, r0, r1⟩ => ?_⟩
  subst er
  obtain ⟨ch, hch, hcm⟩ := at_str (z := theSigns) r0 r1
  have hc32 : ch ≠ 32 := fun z => (by decide +kernel : (32 : Nat) ∉ theSigns.cps.toList) (z ▸ hcm)
  refine ⟨_, _, ch, rfl, rfl, sz (by rw [hsl]; decide), hch, ?_⟩
  have hok1 : OkW 1 (⟨#[ch]⟩ : Str) := ⟨(by decide : (1 : Nat) ≤ 1), (ok_sign hc32).2⟩
  -- the parts
  refine ⟨_, rfl, _, rfl, at_, rfl, x, rfl, sz (by omega), ?_⟩
  refine ⟨_, rfl, _, rfl, sz (show 3 ≤ 1000000 by decide), fun t ht => ?_⟩
  have kt : Kp [p] H3 (upd H3 t (.tup [.str ⟨#[ch]⟩, .str "", .str ⟨#[ch]⟩])) := Kp.new ht
  refine ep_draw (n := 3) rfl ep_int (by decide) (by decide) _ Kp.refl (pool_new p3 ht) _ fun v H4 k4 p4 ⟨r2, er, r20, r21⟩ => ?_
  subst er
  obtain ⟨sx, hat, hsx⟩ := at_map (f := V.str) (ns := [(⟨#[ch]⟩ : Str), "", ⟨#[ch]⟩]) r20 r21
  have hsxo : OkW 1 sx := by
    simp only [List.mem_cons, List.not_mem_nil, or_false] at hsx
    rcases hsx with rfl | rfl | rfl
    · exact hok1
    · decide +kernel
    · exact hok1
  refine ⟨t, _, _, _, rfl, rfl, SqT.of (k4.2 _ _ upd_same), hat, ?_⟩
  have o1 := ok_app (ok_cut (lo := none) (hi := some at_) hx) hsxo
  refine ⟨_, _, rfl, rfl, sz (by have := (ok_cut (lo := none) (hi := some at_) hx).1; have := hsxo.1; omega), ?_⟩
  refine ⟨_, rfl, _, rfl, ?_⟩
  refine ep_draw (n := 2) rfl ep_int (by decide) (by decide) _ Kp.refl p4 _ fun v H5 k5 p5 ⟨r3, er, r30, r31⟩ => ?_
  subst er
  refine ⟨_, _, rfl, rfl, _, rfl, x, rfl, sz (by omega), ?_⟩
  have o2 := ok_cut (lo := some (at_ + r3)) (hi := none) hx
  refine ⟨_, _, rfl, rfl, sz (by have := o1.1; have := o2.1; omega), hQ _ H5 ((ok_app o1 o2).mono (by omega)) (((((kp_ex e1).trans k2).trans k3).trans (kt.trans k4)).trans k5) p5⟩
end
end K4

/-! The law's other words: changed, walked. -/
namespace K4
open PySem PySem.Spec PyProof.Rows L2 Evl
def okn : Nat → Nat
  | 0 => 12
  | i + 1 => 2 * okn i + 1
theorem okn_le : ∀ {i : Nat}, i ≤ 4 → okn i ≤ 207
  | 0, _ => by decide
  | 1, _ => by decide
  | 2, _ => by decide
  | 3, _ => by decide
  | 4, _ => by decide
  | _ + 5, h => by omega
theorem okn_succ {i : Nat} : okn i ≤ okn (i + 1) := by
  show okn i ≤ 2 * okn i + 1
  omega
theorem okn_12 : ∀ {i : Nat}, 12 ≤ okn i
  | 0 => Nat.le_refl _
  | i + 1 => Nat.le_trans okn_12 okn_succ
def spChanged : Sp := fun vs H Q _ => ∃ p a b wl ws, vs = [.ref p, .ref wl] ∧ Pool H p a b ∧ wl ≠ p ∧ H wl = some (.lst ((ws : List Str).map V.str)) ∧ (∀ x ∈ ws, OkW 12 x) ∧ ws.length ≤ 3000 ∧
  ∀ r ws' H', Kp [p] H H' → Pool H' p a b → r ≠ p → H' r = some (.lst ((ws' : List Str).map V.str)) → (∀ x ∈ ws', OkW 207 x) → ws'.length ≤ 3012 → Q (.ref r) H'
def spWalked : Sp := fun vs H Q _ => ∃ p a b al asked, vs = [.ref p, .ref al] ∧ Pool H p a b ∧ al ≠ p ∧ H al = some (.lst ((asked : List Str).map V.str)) ∧ asked.length ≤ 100 ∧
  ∀ r ws' H', Kp [p] H H' → Pool H' p a b → r ≠ p → H' r = some (.lst ((ws' : List Str).map V.str)) → (∀ x ∈ ws', OkW 12 x) → ws'.length ≤ 100 → Q (.ref r) H'
section
variable {p a : Addr} {b : Int} {H H' H1 : Hp} {σ : L2.St} {K : PySem.W.Frag} {ta tb tc te tk : TE} {v : V} {R R' : V → Hp → Prop} {m m1 m2 n : Nat} {D : Ends} {tw tz : TS}
theorem ep_wk {n' m' : Nat} (h : EvP p a b te σ H (isW p n m)) (hn : n ≤ n') (hm : m ≤ m') : EvP p a b te σ H (isW p n' m') := h.imp fun _ _ r => isW_mono r hn hm
theorem ep_signed {i : Nat} {E : XK} (h0 : σ[i]? = some (some (.ref p))) (hw : EvP p a b te σ H (isS n)) (hn : n ≤ 1000) : EvP p a b (tCall spSigned [] E (tCons (tVar i) (tCons te tNil))) σ H (isS (2 * n + 1)) := fun H1 k hp Q q =>
  ⟨_, h0, hw H1 k hp _ fun v H2 k2 p2 ⟨x, e, hx⟩ => ⟨p, a, b, x, n, by rw [e]; rfl, p2, hx, hn, fun y H3 hy k3 p3 => q _ H3 (k2.trans k3) p3 ⟨y, rfl, hy⟩⟩⟩
theorem ep_ixW {i j : Nat} {l : Addr} {ws : List Str} {k : Int} (h : σ[i]? = some (some (.ref l))) (hj : σ[j]? = some (some (.int k))) (hl : H l = some (.lst (ws.map V.str))) (hn : l ≠ p) (hok : ∀ x ∈ ws, OkW n x) (h0 : 0 ≤ k) (h1 : k < (ws.length : Int)) : EvP p a b (tOp (rIxL K) (tVar i) (tVar j)) σ H (isS n) := fun H1 kk hp Q q => by
  obtain ⟨x, hat, hx⟩ := at_map (f := V.str) (ns := ws) h0 h1
  exact ⟨_, h, _, hj, l, _, _, _, rfl, rfl, SqL.of (kk.get1 hl hn), hat, q _ H1 Kp.refl hp ⟨x, rfl, hok x hx⟩⟩
theorem ep_catN (ha : EvP p a b ta σ H (isW p n m1)) (hb : EvP p a b tb σ H (isW p n m2)) (hz : m1 + m2 ≤ 1000000) : EvP p a b (tOp rCat ta tb) σ H (fun v H' => isW p n (m1 + m2) v H' ∧ ∃ l, v = .ref l ∧ H l = none) := fun H1 k hp Q q =>
  ha H1 k hp _ fun v H2 k2 p2 r2 => hb H2 (k.trans k2) p2 _ fun u H3 k3 p3 r3 => by
    obtain ⟨l, ws, rfl, hl, h1, h2, h3⟩ := isW_kp k3 r2
    obtain ⟨l', ws', rfl, hl', h1', h2', h3'⟩ := r3
    refine ⟨l, l', _, _, rfl, rfl, h1, h1', sz (by rw [List.length_map, List.length_map]; omega), fun r hr => q _ _ (kp_newp (k2.trans k3) hr) (pool_new p3 hr) ⟨⟨r, ws ++ ws', rfl, pool_ne p3 hr, by rw [upd_same, List.map_append], fun x hx => ?_, by rw [List.length_append]; omega⟩, r, rfl, ?_⟩⟩
    · rcases List.mem_append.mp hx with hx | hx
      · exact h2 x hx
      · exact h2' x hx
    · cases z : H r with
      | none => rfl
      | some o =>
        rw [((k.trans k2).trans k3).get1 z (pool_ne p3 hr)] at hr
        cases hr
end
section
variable {P : Program} {w : World} {K : PySem.W.Frag} {mg : Str → Option Value} {base : Heap}
theorem fn_law_changed (T : Txt K mg) (h_law_draw : FnP P w K mg base CX0 1 "_law_draw" ["_law_pool_here", "_law_size"] spDraw) (h_law_menu : FnP P w K mg base CX0 2 "_law_menu" ["_law_pool_here"] spMenu) (h_law_signed : FnP P w K mg base CX0 2 "_law_signed" ["_law_pool_here", "_law_word"] spSigned) : FnP P w K mg base CX0 3 "_law_changed" ["_law_pool_here", "_law_words_here"] spChanged := by
  have S : FnScope ["_law_pool_here", "_law_words_here", "_law_k", "_law_way", "_law_place", "_law_other"] ["_law_pool_here", "_law_words_here"] (defScope (top 54)) := ⟨rfl, rfl, rfl, by decide +kernel, rfl, by decide +kernel, by decide +kernel⟩
  have nd := S.nd
  refine FnP.of0 T.d_law_changed T.g_law_changed S ba_law_changed (fun vs H Q E h => ?_) (fun cdv A outer s H vs Q E hr h => ?_)
  · obtain ⟨p, a, b, wl, ws, rfl, _⟩ := h
    rfl
  obtain ⟨p, a, b, wl, ws, rfl, hp, hwp, hwl, hok, hlen, hQ⟩ := h
  refine ⟨_, (pss_cons (ps_for PassesOwn.never rfl (pi_range1 (by rfl) T.f_range (pa_cons (pe_cf h_law_draw hr pass0 (pa_cons (pv 0) (pa_cons pe_int pa_nil))) pa_nil)) (pg_name (i := 2) nd rfl (Or.inl rfl)) (pss_cons (ps_set (i := 3) nd rfl (Or.inl rfl) (pe_cf h_law_draw hr pass0 (pa_cons (pv 0) (pa_cons pe_int pa_nil))))
    (pss_cons (ps_set (i := 4) nd rfl (Or.inl rfl) (pe_cf h_law_draw hr pass0 (pa_cons (pv 0) (pa_cons (pe_op op_add (pe_callB call_len (by rfl) T.f_len (by decide +kernel) (pa_cons (pv 1) pa_nil)) pe_int) pa_nil))))
    (pss_cons (ps_set (i := 5) nd rfl (Or.inl rfl) (pe_cf h_law_draw hr pass0 (pa_cons (pv 0) (pa_cons (pe_op op_add (pe_callB call_len (by rfl) T.f_len (by decide +kernel) (pa_cons (pv 1) pa_nil)) pe_int) pa_nil))))
    (pss_one (ps_if (pt_cmpR op_eq (pv 3) pe_int (nomark _)) (pss_one (ps_set (i := 1) nd rfl (Or.inl rfl) (pe_op op_cat (pe_slice sl_list (pv 1) po_none (po_some (pv 4))) (pe_slice sl_list (pv 1) (po_some (pe_op op_add (pv 4) pe_int)) po_none)))) (pss_one (ps_if (pt_cmpR op_eq (pv 3) pe_int (nomark _)) (pss_one (ps_set (i := 1) nd rfl (Or.inl rfl) (pe_op op_cat (pe_op op_cat (pe_slice sl_list (pv 1) po_none (po_some (pv 4))) (pe_lst (pa_cons (pe_cf h_law_menu hr pass0 (pa_cons (pv 0) pa_nil)) pa_nil))) (pe_slice sl_list (pv 1) (po_some (pv 4)) po_none)))) (pss_one (ps_if (pt_cmpR op_eq (pv 3) pe_int (nomark _)) (pss_one (ps_set (i := 1) nd rfl (Or.inl rfl) (pe_op op_cat (pe_op op_cat (pe_slice sl_list (pv 1) po_none (po_some (pv 4))) (pe_lst (pa_cons (pe_cf h_law_menu hr pass0 (pa_cons (pv 0) pa_nil)) pa_nil))) (pe_slice sl_list (pv 1) (po_some (pe_op op_add (pv 4) pe_int)) po_none)))) (pss_one (ps_if (pt_cmpR op_eq (pv 3) pe_int (nomark _)) (pss_one (ps_set (i := 1) nd rfl (Or.inl rfl) (pe_op op_cat (pe_op op_cat (pe_slice sl_list (pv 1) po_none (po_some (pv 4))) (pe_slice sl_list (pv 1) (po_some (pv 5)) (po_some (pe_op op_add (pv 5) pe_int)))) (pe_slice sl_list (pv 1) (po_some (pe_op op_add (pv 4) pe_int)) po_none)))) (pss_one (ps_if (pt_cmpR op_eq (pv 3) pe_int (nomark _)) (pss_one (ps_set (i := 1) nd rfl (Or.inl rfl) (pe_op op_cat (pe_op op_cat (pe_slice sl_list (pv 1) po_none (po_some (pv 4))) (pe_slice sl_list (pv 1) (po_some (pv 5)) (po_some (pe_op op_add (pv 5) pe_int)))) (pe_slice sl_list (pv 1) (po_some (pv 4)) po_none)))) (pss_one (ps_if (PW.pt (pw_and (pt_cmpR op_eq (pv 3) pe_int (nomark _)) (pw_and1 (pt_cmpR op_lt (pv 4) (pe_callB call_len (by rfl) T.f_len (by decide +kernel) (pa_cons (pv 1) pa_nil)) (nomark _))))) (pss_one (ps_set (i := 1) nd rfl (Or.inl rfl) (pe_op op_cat (pe_op op_cat (pe_slice sl_list (pv 1) po_none (po_some (pv 4))) (pe_lst (pa_cons (pe_cf h_law_signed hr pass0 (pa_cons (pv 0) (pa_cons (pe_ix ix_list (pv 1) (pv 4) (fun _ _ => rfl)) pa_nil))) pa_nil))) (pe_slice sl_list (pv 1) (po_some (pe_op op_add (pv 4) pe_int)) po_none)))) (pss_one (ps_set (i := 1) nd rfl (Or.inl rfl) (pe_op op_cat (pe_op op_cat (pe_op op_cat (pe_slice sl_list (pv 1) po_none (po_some (pv 4))) (pe_slice sl_list (pv 1) (po_some (pe_op op_add (pv 4) pe_int)) (po_some (pe_op op_add (pv 4) pe_int)))) (pe_slice sl_list (pv 1) (po_some (pv 4)) (po_some (pe_op op_add (pv 4) pe_int)))) (pe_slice sl_list (pv 1) (po_some (pe_op op_add (pv 4) pe_int)) po_none))))))))))))))))))))
    (pss_one (ps_ret (pv 1)))), ?_⟩
  refine ep_draw (n := 5) rfl ep_int (by decide) (by decide) H Kp.refl hp _ fun v H1 k1 p1 ⟨n, en, n0, n1⟩ => ?_
  subst en
  refine ⟨n, rfl, by omega, by omega, for_range (lo := 0) (n := n.toNat) (fun i σ Hc => ∃ v y2 y3 y4 y5, σ = [some (.ref p), some v, y2, y3, y4, y5] ∧ Kp [p] H Hc ∧ Pool Hc p a b ∧ isW p (okn i) (ws.length + 3 * i) v Hc) ?_ ?_ ?_⟩
  · exact ⟨.ref wl, none, none, none, none, rfl, k1, p1, wl, ws, rfl, hwp, k1.get1 hwl hwp, hok, Nat.le_refl _⟩
  · rintro i σ Hc hi ⟨v, y2, y3, y4, y5, rfl, kc, pc, l, us, rfl, hlp, hl, hus, hul⟩
    have hi4 : i ≤ 4 := by omega
    have hg := okn_le hi4
    refine q_asgP (ep_draw (n := 7) rfl ep_int (by decide) (by decide)) pc fun v H2 k2 p2 ⟨way, ew, w0, w1⟩ => ?_
    subst ew
    have hl2 := k2.get1 hl hlp
    have el2 : ((us.map V.str).length : Int) = us.length := by rw [List.length_map]
    refine q_asgP (ep_draw (n := (us.length : Int) + 1) rfl (by rw [← el2]; exact ep_add (ep_len rfl hl2 hlp) ep_int) (by omega) (by omega)) p2 fun v H3 k3 p3 ⟨pl, ew, pl0, pl1⟩ => ?_
    subst ew
    have hl3 := k3.get1 hl2 hlp
    refine q_asgP (ep_draw (n := (us.length : Int) + 1) rfl (by rw [← el2]; exact ep_add (ep_len rfl hl3 hlp) ep_int) (by omega) (by omega)) p3 fun v H4 k4 p4 ⟨ot, ew, ot0, ot1⟩ => ?_
    subst ew
    have hl4 := k4.get1 hl3 hlp
    have k14 := ((kc.trans k2).trans k3).trans k4
    have fin : ∀ {v : V} {H5 : Hp} {n' m' : Nat} {σ' : L2.St} {y2 y3 y4 y5 : Option V}, σ' = [some (.ref p), some v, y2, y3, y4, y5] → Kp [p] H4 H5 → Pool H5 p a b → isW p n' m' v H5 → n' ≤ okn (i + 1) → m' ≤ us.length + 3 →
        ∃ v y2 y3 y4 y5, σ' = [some (.ref p), some v, y2, y3, y4, y5] ∧ Kp [p] H H5 ∧ Pool H5 p a b ∧ isW p (okn (i + 1)) (ws.length + 3 * (i + 1)) v H5 := fun {v H5 n' m' σ' y2 y3 y4 y5} e k p5 h5 hn hm => ⟨v, y2, y3, y4, y5, e, k14.trans k, p5, isW_mono h5 hn (by omega)⟩
    have hs : okn i ≤ okn (i + 1) := okn_succ
    have h12 : 12 ≤ okn i := okn_12
    have e1 : ∀ {H : Hp} {k : Int}, EvO (tPart (tVar 4)) [some (.ref p), some (.ref l), some (.int (0 + (i : Int))), some (.int way), some (.int pl), some (.int ot)] H (some pl) := fun {H k} => eo_some (ev_var rfl)
    have e2 : ∀ {H : Hp} {k : Int}, EvO (tPart (tOp (rI0 fun i j => V.int (i + j)) (tVar 4) (tC (.int k)))) [some (.ref p), some (.ref l), some (.int (0 + (i : Int))), some (.int way), some (.int pl), some (.int ot)] H (some (pl + k)) := fun {H k} => eo_some (ev_op (ev_var rfl) ev_c rv_I0)
    have e3 : ∀ {H : Hp} {k : Int}, EvO (tPart (tVar 5)) [some (.ref p), some (.ref l), some (.int (0 + (i : Int))), some (.int way), some (.int pl), some (.int ot)] H (some ot) := fun {H k} => eo_some (ev_var rfl)
    have e4 : ∀ {H : Hp} {k : Int}, EvO (tPart (tOp (rI0 fun i j => V.int (i + j)) (tVar 5) (tC (.int k)))) [some (.ref p), some (.ref l), some (.int (0 + (i : Int))), some (.int way), some (.int pl), some (.int ot)] H (some (ot + k)) := fun {H k} => eo_some (ev_op (ev_var rfl) ev_c rv_I0)
    have lto : (cutV (us.map V.str) none (some pl)).length ≤ pl.toNat := cut_len_to pl0
    have lfr : ∀ {k : Int}, 0 ≤ k → (cutV (us.map V.str) (some (pl + k)) none).length ≤ us.length - pl.toNat := fun {k} hk => by
      have h := cut_len_from (xs := us.map V.str) (i := pl + k) (by omega)
      rw [List.length_map] at h
      omega
    have lfr0 : (cutV (us.map V.str) (some pl) none).length ≤ us.length - pl.toNat := by
      have h := cut_len_from (xs := us.map V.str) (i := pl) pl0
      rw [List.length_map] at h
      exact h
    have lm1 : ∀ {i j : Int} {c : Nat}, 0 ≤ i → i ≤ j → j - i = (c : Int) → (cutV (us.map V.str) (some i) (some j)).length ≤ c := fun {i j c} h0 h1 hc => Nat.le_trans (cut_len_mid h0 h1) (by omega)
    have hTo : ∀ {H5 : Hp}, Kp [p] H4 H5 → EvP p a b (tSl (rSlL K) (tVar 1) tNoPart (tPart (tVar 4))) [some (.ref p), some (.ref l), some (.int (0 + (i : Int))), some (.int way), some (.int pl), some (.int ot)] H5 (isW p (okn i) pl.toNat) := fun k => ep_sl rfl (k.get1 hl4 hlp) hlp hus (fun _ => eo_none) (fun _ => e1 (k := 0)) lto
    have hFr : ∀ {H5 : Hp} {k : Int}, Kp [p] H4 H5 → 0 ≤ k → EvP p a b (tSl (rSlL K) (tVar 1) (tPart (tOp (rI0 fun i j => V.int (i + j)) (tVar 4) (tC (.int k)))) tNoPart) [some (.ref p), some (.ref l), some (.int (0 + (i : Int))), some (.int way), some (.int pl), some (.int ot)] H5 (isW p (okn i) (us.length - pl.toNat)) := fun k hk => ep_sl rfl (k.get1 hl4 hlp) hlp hus (fun _ => e2) (fun _ => eo_none) (lfr hk)
    have hFr0 : ∀ {H5 : Hp}, Kp [p] H4 H5 → EvP p a b (tSl (rSlL K) (tVar 1) (tPart (tVar 4)) tNoPart) [some (.ref p), some (.ref l), some (.int (0 + (i : Int))), some (.int way), some (.int pl), some (.int ot)] H5 (isW p (okn i) (us.length - pl.toNat)) := fun k => ep_sl rfl (k.get1 hl4 hlp) hlp hus (fun _ => e1 (k := 0)) (fun _ => eo_none) lfr0
    have hw : ∀ {H5 : Hp} {c : Int}, EvT (tTest (tOp rEq (tVar 3) (tC (.int c)))) [some (.ref p), some (.ref l), some (.int (0 + (i : Int))), some (.int way), some (.int pl), some (.int ot)] H5 (decide (V.int way = V.int c)) := fun {H5 c} => et_eq (ev_var rfl) ev_c rfl
    refine s_if hw (fun _ H5 x5 => ?_) (fun _ H5 x5 => ?_)
    · refine s_asgP (ep_cat (hTo (kp_ex x5)) (hFr (kp_ex x5) (by decide)) (by omega)) (p4.kp (kp_ex x5 : Kp [] _ _) (by simp) (by simp)) fun v H6 k6 p6 r6 => fin rfl ((kp_ex x5).trans k6) p6 r6 hs (by omega)
    refine s_if hw (fun _ H6 x6 => ?_) (fun _ H6 x6 => ?_)
    · have y := x5.trans x6
      refine s_asgP (ep_cat (ep_cat (hTo (kp_ex y)) (ep_wk (ep_one (ep_menu rfl)) h12 (Nat.le_refl _)) (by omega)) (hFr0 (kp_ex y)) (by omega)) (p4.kp (kp_ex y : Kp [] _ _) (by simp) (by simp)) fun v H6 k6 p6 r6 => fin rfl ((kp_ex y).trans k6) p6 r6 hs (by omega)
    refine s_if hw (fun _ H7 x7 => ?_) (fun _ H7 x7 => ?_)
    · have y := (x5.trans x6).trans x7
      refine s_asgP (ep_cat (ep_cat (hTo (kp_ex y)) (ep_wk (ep_one (ep_menu rfl)) h12 (Nat.le_refl _)) (by omega)) (hFr (kp_ex y) (by decide)) (by omega)) (p4.kp (kp_ex y : Kp [] _ _) (by simp) (by simp)) fun v H6 k6 p6 r6 => fin rfl ((kp_ex y).trans k6) p6 r6 hs (by omega)
    refine s_if hw (fun _ H8 x8 => ?_) (fun _ H8 x8 => ?_)
    · have y := ((x5.trans x6).trans x7).trans x8
      refine s_asgP (ep_cat (ep_cat (hTo (kp_ex y)) (ep_sl (m := 1) rfl ((kp_ex y : Kp [p] _ _).get1 hl4 hlp) hlp hus (fun _ => e3 (k := 0)) (fun _ => e4) (lm1 ot0 (by omega) (by omega))) (by omega)) (hFr (kp_ex y) (by decide)) (by omega)) (p4.kp (kp_ex y : Kp [] _ _) (by simp) (by simp)) fun v H6 k6 p6 r6 => fin rfl ((kp_ex y).trans k6) p6 r6 hs (by omega)
    refine s_if hw (fun _ H9 x9 => ?_) (fun _ H9 x9 => ?_)
    · have y := (((x5.trans x6).trans x7).trans x8).trans x9
      refine s_asgP (ep_cat (ep_cat (hTo (kp_ex y)) (ep_sl (m := 3) rfl ((kp_ex y : Kp [p] _ _).get1 hl4 hlp) hlp hus (fun _ => e3 (k := 0)) (fun _ => e4) (lm1 ot0 (by omega) (by omega))) (by omega)) (hFr0 (kp_ex y)) (by omega)) (p4.kp (kp_ex y : Kp [] _ _) (by simp) (by simp)) fun v H6 k6 p6 r6 => fin rfl ((kp_ex y).trans k6) p6 r6 hs (by omega)
    have x59 := (((x5.trans x6).trans x7).trans x8).trans x9
    refine s_if (b := decide (V.int way = V.int 6) && decide (pl < (us.length : Int))) (et_and hw (fun _ => et_is (et_test (ev_op (ev_var rfl) (ev_lenl (ev_var rfl) (sq_of (x59 _ _ hl4))) rv_I0)) (by rw [List.length_map]))) (fun hb H10 x10 => ?_) (fun _ H10 x10 => ?_)
    · have y := x59.trans x10
      have hlt : pl < (us.length : Int) := dec_t (and_t hb).2
      refine s_asgP (ep_cat (ep_cat (ep_wk (hTo (kp_ex y)) hs (Nat.le_refl _)) (ep_one (n := okn (i + 1)) (ep_signed rfl (ep_ixW rfl rfl ((kp_ex y : Kp [p] _ _).get1 hl4 hlp) hlp hus pl0 hlt) (by omega))) (by omega)) (ep_wk (hFr (kp_ex y) (by decide)) hs (Nat.le_refl _)) (by omega)) (p4.kp (kp_ex y : Kp [] _ _) (by simp) (by simp)) fun v H6 k6 p6 r6 => fin rfl ((kp_ex y).trans k6) p6 r6 (Nat.le_refl _) (by omega)
    · have y := x59.trans x10
      refine s_asgP (ep_cat (ep_cat (ep_cat (hTo (kp_ex y)) (ep_sl (m := 1) rfl ((kp_ex y : Kp [p] _ _).get1 hl4 hlp) hlp hus (fun _ => e2) (fun _ => e2) (lm1 (by omega) (by omega) (by omega))) (by omega)) (ep_sl (m := 1) rfl ((kp_ex y : Kp [p] _ _).get1 hl4 hlp) hlp hus (fun _ => e1 (k := 0)) (fun _ => e2) (lm1 (by omega) (by omega) (by omega))) (by omega)) (hFr (kp_ex y) (by decide)) (by omega)) (p4.kp (kp_ex y : Kp [] _ _) (by simp) (by simp)) fun v H6 k6 p6 r6 => fin rfl ((kp_ex y).trans k6) p6 r6 hs (by omega)
  · rintro σ Hc ⟨v, y2, y3, y4, y5, rfl, kc, pc, l, us, rfl, hlp, hl, hus, hul⟩
    have hn4 : n.toNat ≤ 4 := by omega
    exact ⟨_, rfl, hQ l us Hc kc pc hlp hl (fun x hx => (hus x hx).mono (okn_le hn4)) (by omega)⟩
theorem opt_scal {o : Option Nat} {n : Int} : scal (optV o) (.int n) = true := by cases o <;> rfl
theorem fn_law_walked (T : Txt K mg) (h_law_draw : FnP P w K mg base CX0 1 "_law_draw" ["_law_pool_here", "_law_size"] spDraw) (h_law_menu : FnP P w K mg base CX0 2 "_law_menu" ["_law_pool_here"] spMenu) (h_law_wrong : FnP P w K mg base CX0 4 "_law_wrong" ["_law_words_here", "_law_asked"] (spWrong K)) : FnP P w K mg base CX0 5 "_law_walked" ["_law_pool_here", "_law_asked"] spWalked := by
  have S : FnScope ["_law_pool_here", "_law_asked", "_law_words_here", "_law_k", "_law_word", "_law_turn"] ["_law_pool_here", "_law_asked"] (defScope (top 55)) := ⟨rfl, rfl, rfl, by decide +kernel, rfl, by decide +kernel, by decide +kernel⟩
  have nd := S.nd
  refine FnP.of0 T.d_law_walked T.g_law_walked S ba_law_walked (fun vs H Q E h => ?_) (fun cdv A outer s H vs Q E hr h => ?_)
  · obtain ⟨p, a, b, al, asked, rfl, _⟩ := h
    rfl
  obtain ⟨p, a, b, al, asked, rfl, hp, hap, hal, hask, hQ⟩ := h
  refine ⟨_, (pss_cons (ps_set (i := 2) nd rfl (Or.inl rfl) (pe_op op_cat (pe_op op_rep (pe_lst (pa_cons pe_str (pa_cons pe_str (pa_cons pe_str (pa_cons pe_str pa_nil))))) (pe_cf h_law_draw hr pass0 (pa_cons (pv 0) (pa_cons pe_int pa_nil)))) (pe_op op_rep (pe_lst (pa_cons pe_str (pa_cons pe_str (pa_cons pe_str (pa_cons pe_str pa_nil))))) (pe_cf h_law_draw hr pass0 (pa_cons (pv 0) (pa_cons pe_int pa_nil))))))
    (pss_cons (ps_set (i := 2) nd rfl (Or.inl rfl) (pe_op op_cat (pe_op op_cat (pv 2) (pe_op op_rep (pe_lst (pa_cons pe_str (pa_cons pe_str (pa_cons pe_str (pa_cons pe_str pa_nil))))) (pe_cf h_law_draw hr pass0 (pa_cons (pv 0) (pa_cons pe_int pa_nil))))) (pe_lst (pa_cons pe_str (pa_cons pe_str (pa_cons pe_str (pa_cons pe_str (pa_cons pe_str pa_nil))))))))
    (pss_cons (ps_for PassesOwn.never rfl (pi_range1 (by rfl) T.f_range (pa_cons (pe_cf h_law_draw hr pass0 (pa_cons (pv 0) (pa_cons pe_int pa_nil))) pa_nil)) (pg_name (i := 3) nd rfl (Or.inl rfl)) (pss_cons (ps_set (i := 4) nd rfl (Or.inl rfl) (pe_cf h_law_menu hr pass0 (pa_cons (pv 0) pa_nil)))
    (pss_cons (ps_for PassesOwn.never rfl (pi_range1 (by rfl) T.f_range (pa_cons pe_int pa_nil)) (pg_name (i := 5) nd rfl (Or.inl rfl)) (pss_one (ps_if (pt_cmpR op_eq (pe_cf h_law_wrong hr pass0 (pa_cons (pe_op op_cat (pv 2) (pe_lst (pa_cons (pv 4) pa_nil))) (pa_cons (pv 1) pa_nil))) (pe_callB call_len (by rfl) T.f_len (by decide +kernel) (pa_cons (pv 2) pa_nil)) (nomark _)) (pss_one (ps_set (i := 4) nd rfl (Or.inl rfl) (pe_cf h_law_menu hr pass0 (pa_cons (pv 0) pa_nil)))) pss_nil)))
    (pss_one (ps_expr (pe_bm PySem.F.plainAttrs_list PySem.F.slot_list_append PySem.F.type_list_append mt_append (pv 2) (pa_cons (pv 4) pa_nil)))))))
    (pss_one (ps_ret (pv 2)))))), ?_⟩
  refine q_asgP (ep_cat (ep_rep (ep_lit (ws := ["var", "x", "7", "0"]) (n := 12) (fun _ => (ea_cons ev_c (ea_cons ev_c (ea_cons ev_c (ea_cons ev_c ea_nil))))) (by decide +kernel) (by decide)) (ep_draw (n := 2) rfl ep_int (by decide) (by decide)) (by decide)) (ep_rep (ep_lit (ws := ["table", "t", "3", "2"]) (n := 12) (fun _ => (ea_cons ev_c (ea_cons ev_c (ea_cons ev_c (ea_cons ev_c ea_nil))))) (by decide +kernel) (by decide)) (ep_draw (n := 2) rfl ep_int (by decide) (by decide)) (by decide)) (by decide)) hp fun v H1 k1 p1 r1 => ?_
  refine q_asgP (ep_catN (m1 := 12) (m2 := 5) (ep_wk (ep_cat (ep_var rfl fun _ k => isW_kp k r1) (ep_rep (ep_lit (ws := ["lots", "o", "2", "2"]) (n := 12) (fun _ => (ea_cons ev_c (ea_cons ev_c (ea_cons ev_c (ea_cons ev_c ea_nil))))) (by decide +kernel) (by decide)) (ep_draw (n := 2) rfl ep_int (by decide) (by decide)) (by decide)) (by decide)) (Nat.le_refl _) (by decide)) (ep_lit (ws := ["proc", "p", "2", "2", "g"]) (n := 12) (fun _ => (ea_cons ev_c (ea_cons ev_c (ea_cons ev_c (ea_cons ev_c (ea_cons ev_c ea_nil)))))) (by decide +kernel) (by decide)) (by decide)) p1 fun v H2 k2 p2 ⟨r2, l, el, hln⟩ => ?_
  subst el
  have hlH : H l = none := by
    cases z : H l with
    | none => rfl
    | some o =>
      have hlp : l ≠ p := pool_ne p1 hln
      rw [k1.get1 z hlp] at hln
      cases hln
  have hlp : l ≠ p := pool_ne hp hlH
  refine ep_draw (n := 26) rfl ep_int (by decide) (by decide) H2 Kp.refl p2 _ fun v H3 k3 p3 ⟨n, en, n0, n1⟩ => ?_
  subst en
  refine ⟨n, rfl, by omega, by omega, for_range (lo := 0) (n := n.toNat) (fun i σ Hc => ∃ y3 y4 y5, σ = [some (.ref p), some (.ref al), some (.ref l), y3, y4, y5] ∧ Kp [p] H Hc ∧ Pool Hc p a b ∧ isW p 12 (17 + i) (.ref l) Hc) ?_ ?_ ?_⟩
  · exact ⟨none, none, none, rfl, (k1.trans k2).trans k3, p3, isW_kp k3 r2⟩
  · rintro i σ Hc hi ⟨y3, y4, y5, rfl, kc, pc, l', us, el, _, hl, hus, hul⟩
    cases el
    refine q_asgP (ep_menu rfl) pc fun v H4 k4 p4 ⟨x, ex, hx⟩ => ?_
    subst ex
    refine ⟨8, rfl, by omega, by omega, for_range (lo := 0) (n := (8 : Int).toNat) (fun j σ Hd => ∃ y5 x, σ = [some (.ref p), some (.ref al), some (.ref l), some (.int (0 + (i : Int))), some (.str x), y5] ∧ OkW 12 x ∧ Kp [p] Hc Hd ∧ Pool Hd p a b) ?_ ?_ ?_⟩
    · exact ⟨y5, x, rfl, hx, k4, p4⟩
    · rintro j σ Hd hj ⟨y5, x, rfl, hx, kd, pd⟩
      have hld := kd.get1 hl hlp
      have hald := (kc.trans kd).get1 hal hap
      refine s_when (b := decide (optV (wrong asked (us ++ [x])) = V.int ((us.map V.str).length : Int))) (fun H1 e1 Q1 q1 => ?_) (fun _ H5 e5 => ?_) (fun _ H5 e5 => ?_)
      · refine el_cat (ew_R (ev_var rfl) hld) (ew_lst (ea_cons (ev_var rfl) ea_nil) (show 1 ≤ 100000 by decide)) (by rw [List.length_map]; show _ + 1 ≤ _; omega) H1 e1 _ fun r H6 hr e6 h6 => ⟨_, rfl, r, al, us ++ [x], asked, rfl, SqL.of (by rw [h6, List.map_append]; rfl), e6 _ _ (e1 _ _ hald), hask, by rw [List.length_append, List.length_singleton]; omega, fun y hy => ?_, fun H7 e7 => ?_⟩
        · rcases List.mem_append.mp hy with hy | hy
          · have := (hus y hy).1; omega
          · rw [List.mem_singleton.mp hy]; have := hx.1; omega
        · exact ⟨_, rfl, _, _, rfl, .inl ⟨_, SqL.of (e7 _ _ (e6 _ _ (e1 _ _ hld))), rfl⟩, opt_scal, _, rfl, q1 H7 (e6.trans e7)⟩
      · refine s_asgP (ep_menu rfl) (pd.kp (kp_ex e5 : Kp [] _ _) (by simp) (by simp)) fun v H6 k6 p6 ⟨x', ex, hx'⟩ => ?_
        subst ex
        exact ⟨_, x', rfl, hx', (kd.trans (kp_ex e5)).trans k6, p6⟩
      · exact ⟨_, x, rfl, hx, kd.trans (kp_ex e5), pd.kp (kp_ex e5 : Kp [] _ _) (by simp) (by simp)⟩
    · rintro σ Hd ⟨y5, x, rfl, hx, kd, pd⟩
      have hld := kd.get1 hl hlp
      refine s_app hld (ev_var rfl) (ev_var rfl) (by rw [List.length_map]; omega) fun H5 e5 => ?_
      have k5 : Kp [l] H5 (upd H5 l (.lst (us.map V.str ++ [.str x]))) := Kp.lst (e5 _ _ hld) (by simp)
      have hla : a ∉ [l] := fun z => by
        obtain ⟨_, _, _, _, ns, h1, h2, _⟩ := id hp
        rw [List.mem_singleton.mp z, hlH] at h2
        cases h2
      refine ⟨_, _, _, rfl, ?_, (pd.kp (kp_ex e5 : Kp [] _ _) (by simp) (by simp)).kp k5 (by simp [hlp.symm]) hla, l, us ++ [x], rfl, hlp, by rw [upd_same, List.map_append]; rfl, fun y hy => ?_, by rw [List.length_append, List.length_singleton]; omega⟩
      · exact ((kc.trans kd).trans (kp_ex e5)).newer hlH
      · rcases List.mem_append.mp hy with hy | hy
        · exact hus y hy
        · rw [List.mem_singleton.mp hy]; exact hx
  · rintro σ Hc ⟨y3, y4, y5, rfl, kc, pc, l', us, el, _, hl, hus, hul⟩
    cases el
    exact ⟨_, rfl, hQ l us Hc kc pc hlp hl hus (by omega)⟩
end
end K4

/-! The program: words and the cursor. -/
namespace K4
open PySem PySem.Spec PyProof.Rows L2 Evl
section
variable {H H' H1 : Hp} {σ : L2.St} {K : PySem.W.Frag} {ta tb tc te tl : TE} {x y z v : V} {xs ys vs : List V} {tu : TA} {D : Ends} {tw tz : TS} {g : TG} {r : R2}
theorem lc_str {s : Str} {g : TG} {tt : TT} {te : TE} {vs : List Nat} {σ : L2.St} {H1 : Hp} {D : Addr} {Qd : Hp → Prop} (Pv : Nat → Hp → Prop) (h0 : Pv 0 (upd H1 D (.lst [])))
    (hs : ∀ i c H, s.cps[i]? = some c → Pv i H → g (.str ⟨#[c]⟩) (wipe σ vs) H fun σ2 H2 => wipe σ2 vs = wipe σ vs ∧ tt σ2 H2 fun b H3 =>
      if b = true then te σ2 H3 fun y H4 => ∃ acc, H4 D = some (.lst acc) ∧ acc.length < sizeLine ∧ Pv (i + 1) (upd H4 D (.lst (acc ++ [y]))) else Pv (i + 1) H3) (hd : ∀ H, Pv s.cps.size H → Qd H) :
    ∃ W : Nat → Nat → Hp → Prop, (∃ m, W 0 m (upd H1 D (.lst []))) ∧ ∀ i m H, W i m H →
      ((Its s).stop i H ∧ Qd H) ∨ ((Its s).go i H ∧ ∃ Nx : Hp → Prop, (∀ H', Nx H' → ∃ m', m' < m ∧ W (i + 1) m' H') ∧ ∀ x H', (Its s).yld i H x H' → g x (wipe σ vs) H' fun σ2 H2 => wipe σ2 vs = wipe σ vs ∧ tt σ2 H2 fun b H3 =>
        if b = true then te σ2 H3 fun y H4 => ∃ acc, H4 D = some (.lst acc) ∧ acc.length < sizeLine ∧ Nx (upd H4 D (.lst (acc ++ [y]))) else Nx H3) := by
  refine ⟨fun i m H => m = s.cps.size - i ∧ i ≤ s.cps.size ∧ Pv i H, ⟨s.cps.size, by simp, Nat.zero_le _, h0⟩, ?_⟩
  rintro i m H ⟨rfl, hi, p⟩
  by_cases hlt : i < s.cps.size
  · refine .inr ⟨hlt, Pv (i + 1), fun H' p' => ⟨s.cps.size - (i + 1), by omega, rfl, hlt, p'⟩, fun x H' y => ?_⟩
    obtain ⟨e, c, hc, y⟩ := y
    subst e y
    exact hs i c _ hc p
  · have e : i = s.cps.size := by omega
    subst e
    exact .inl ⟨Nat.le_refl _, hd H p⟩
theorem yes_if {A B : Hp → Prop} (h : A H) : tYes σ H (fun b H3 => if b = true then A H3 else B H3) := by
  show (if true = true then A H else B H)
  rw [if_pos rfl]
  exact h
/-- [f(char) for char in text] -/
theorem el_lcS {s : Str} {j : Nat} {vs : List Nat} (f : Nat → Bool) (h : Ev tl σ H (.str s)) (hz : s.length ≤ 1000000) (hw : ∀ x, wipe ((wipe σ vs).set j (some x)) vs = wipe σ vs)
    (he : ∀ c H1, Evl.Ex H H1 → Ev te ((wipe σ vs).set j (some (.str ⟨#[c]⟩))) H1 (.bl (f c))) : EvL (tLc (iStr tl) (gName j) tYes te vs) σ H ((s.cps.toList.map f).map V.bl) := fun H0 e Q q => h H0 e _ fun H1 e1 => ⟨s, rfl, fun Dl hD =>
  lc_str (fun i H' => H1 Dl = none ∧ Evl.Ex H1 H' ∧ H' Dl = some (.lst (((s.cps.toList.take i).map f).map V.bl))) ⟨hD, Evl.Ex.new hD, upd_same⟩ (fun i c H' hc ⟨p1, p2, p3⟩ => ⟨hw _, by
    refine yes_if ?_
    refine he c H1 (e.trans e1) H' p2 _ fun H4 e4 => ?_
    have hcl : s.cps.toList[i]? = some c := by rw [Array.getElem?_toList]; exact hc
    have hi : i < s.cps.size := by
      rcases Nat.lt_or_ge i s.cps.size with q | q
      · exact q
      · rw [Array.getElem?_eq_none q] at hc; cases hc
    refine ⟨_, e4 _ _ p3, ?_, p1, Evl.Ex.mut (p2.trans e4) p1, ?_⟩
    · rw [List.length_map, List.length_map]
      refine szl ?_
      have : (s.cps.toList.take i).length ≤ i := by rw [List.length_take]; omega
      have hz' : s.cps.size ≤ 1000000 := hz
      omega
    · rw [upd_same, List.take_succ, hcl]
      simp⟩)
    (fun H' ⟨p1, p2, p3⟩ => q Dl H' (fresh_back e1 p1) (e1.trans p2) (by
      rw [p3]
      have : s.cps.toList.take s.cps.size = s.cps.toList := List.take_of_length_le (by simp)
      rw [this]))⟩
theorem ev_all {bs : List Bool} (h : EvL te σ H (bs.map V.bl)) : Ev (tCB (rAll K) (tCons te tNil)) σ H (.bl (bs.all id)) := fun H1 e Q q => h H1 e _ fun p H2 _ e2 h2 => ⟨p, bs, rfl, SqL.of h2, q H2 e2⟩
abbrev rInS : R2 := fun x y H Q => ∃ (c : Nat) (z : Str), x = .str ⟨#[c]⟩ ∧ y = .str z ∧ Q (.bl (decide (c ∈ z.cps.toList))) H
abbrev rNiS : R2 := fun x y H Q => ∃ (c : Nat) (z : Str), x = .str ⟨#[c]⟩ ∧ y = .str z ∧ Q (.bl (!decide (c ∈ z.cps.toList))) H
theorem ev_inC {c : Nat} {z : Str} (ha : Ev ta σ H (.str ⟨#[c]⟩)) (hb : Ev tb σ H (.str z)) : Ev (tOp rInS ta tb) σ H (.bl (decide (c ∈ z.cps.toList))) := ev_op ha hb fun H1 _ _ q => ⟨c, z, rfl, rfl, q H1 (Evl.Ex.refl H1)⟩
theorem ev_niC {c : Nat} {z : Str} (ha : Ev ta σ H (.str ⟨#[c]⟩)) (hb : Ev tb σ H (.str z)) : Ev (tOp rNiS ta tb) σ H (.bl (!decide (c ∈ z.cps.toList))) := ev_op ha hb fun H1 _ _ q => ⟨c, z, rfl, rfl, q H1 (Evl.Ex.refl H1)⟩
end
theorem low_in (c : Nat) : decide (c ∈ ("abcdefghijklmnopqrstuvwxyz" : Str).cps.toList) = lowC c := by
  have e : ("abcdefghijklmnopqrstuvwxyz" : Str).cps.toList = [97, 98, 99, 100, 101, 102, 103, 104, 105, 106, 107, 108, 109, 110, 111, 112, 113, 114, 115, 116, 117, 118, 119, 120, 121, 122] := by decide +kernel
  rw [e, Bool.eq_iff_iff, decide_eq_true_eq]
  unfold lowC
  rw [Bool.and_eq_true, decide_eq_true_eq, decide_eq_true_eq]
  simp only [List.mem_cons, List.not_mem_nil, or_false]
  omega
theorem dig_in (c : Nat) : decide (c ∈ ("0123456789" : Str).cps.toList) = digC c := by
  have e : ("0123456789" : Str).cps.toList = [48, 49, 50, 51, 52, 53, 54, 55, 56, 57] := by decide +kernel
  rw [e, Bool.eq_iff_iff, decide_eq_true_eq]
  unfold digC
  rw [Bool.and_eq_true, decide_eq_true_eq, decide_eq_true_eq]
  simp only [List.mem_cons, List.not_mem_nil, or_false]
  omega
theorem all_map {f : Nat → Bool} : ∀ {l : List Nat}, (l.map f).all id = l.all f
  | [] => rfl
  | a :: l => by
    show (f a && (l.map f).all id) = (f a && l.all f)
    rw [all_map]
def numV (w : Str) : V := match numOf w with
  | some n => if n ≤ 65535 then .int n else .non
  | none => .non
def spNumOf : Sp := fun vs H Q _ => ∃ w : Str, vs = [.str w] ∧ w.length ≤ 1000000 ∧ RetV (numV w) H Q
theorem zero_head {w : Str} {c : Nat} (h : w.cps[0]? = some c) : (decide ((⟨#[c]⟩ : Str) = "0") && !decide (w = "0")) = decide (w.cps.toList.head? = some 48 ∧ w.cps.toList ≠ [48]) := by
  have hl : w.cps.toList[0]? = some c := by rw [Array.getElem?_toList]; exact h
  have e1 : decide ((⟨#[c]⟩ : Str) = "0") = decide (w.cps.toList.head? = some 48) := by
    refine decide_eq_decide.mpr ?_
    rw [List.head?_eq_getElem?, hl]
    constructor
    · intro z
      have := congrArg (fun s : Str => s.cps.toList) z
      have e0 : ("0" : Str).cps.toList = [48] := by decide +kernel
      rw [e0] at this
      have : [c] = [48] := this
      injection this with this
      rw [this]
    · intro z
      have : c = 48 := by simpa using z
      rw [this]
      decide +kernel
  have e2 : decide (w = "0") = decide (w.cps.toList = [48]) := by
    refine decide_eq_decide.mpr ⟨fun z => by rw [z]; decide +kernel, fun z => str_ext (by rw [z]; decide +kernel)⟩
  rw [e1, e2, Bool.eq_iff_iff, Bool.and_eq_true, Bool.not_eq_true', decide_eq_false_iff_not, decide_eq_true_eq, decide_eq_true_eq]
section
variable {P : Program} {w : World} {K : PySem.W.Frag} {mg : Str → Option Value} {base : Heap}
theorem fn_is_name (T : Txt K mg) : FnP P w K mg base CX0 1 "is_name" ["word"] spIsName := by
  have S : FnScope ["word", "char"] ["word"] (defScope (top 8)) := ⟨rfl, rfl, rfl, by decide +kernel, rfl, by decide +kernel, by decide +kernel⟩
  have nd := S.nd
  refine FnP.of0 T.d_is_name T.g_is_name S ba_is_name (fun vs H Q E h => ?_) (fun cdv A outer s H vs Q E hr h => ?_)
  · obtain ⟨x, rfl, _⟩ := h
    rfl
  obtain ⟨x, rfl, hx, hQ⟩ := h
  refine ⟨_, (pss_cons (ps_if (PW.pt (pw_or (pt_not (pt_chain op_lt op_le pe_int (pe_callB call_len (by rfl) T.f_len (by decide +kernel) (pa_cons (pv 0) pa_nil)) pe_int)) (pw_or (pt_cmpR op_notIn_sign (pe_ix ix_str (pv 0) pe_int (fun _ _ => rfl)) (pe_gk T.k_LETTERS) rfl) (pw_or1 (pt_cmpR op_in_seq (pv 0) (pe_gk T.k_KEYWORDS) (by with_unfolding_all rfl)))))) (pss_one (ps_ret pe_bl)) pss_nil)
    (pss_one (ps_ret (pe_callB (cr_all rfl) (by rfl) T.f_all (by decide +kernel) (pa_cons (pe_lc (own := [("char", 1)]) (g := gName 1) (tt := tYes) rfl nd (pi_str (pv 0)) (blkOk_by (by kernel_rfl)) (fun _ _ _ _ _ => pg_name (i := 1) nd rfl (Or.inl rfl)) (fun _ _ _ _ _ => pts_nil) (fun _ _ _ _ _ => (pe_or (pe_cmpR op_in_sign (pv 1) (pe_gk T.k_LETTERS) rfl) (pe_one (pe_cmpR op_in_sign (pv 1) (pe_gk T.k_DIGITS) rfl))))) pa_nil))))), ?_⟩
  by_cases hlen : 0 < x.length ∧ x.length ≤ 12
  case neg =>
    refine q_whenS (b := true) (et_orT (et_is (et_not (et_test (ev_chain (b := decide ((x.length : Int) ≤ 12)) ev_c (ev_lens (ev_var rfl) hx) rv_I0 (fun _ => ev_c) (fun _ => rv_I0)))) ?_)) (fun _ H3 e3 => ?_) (fun hz => by cases hz)
    · rw [Bool.not_eq_true', Bool.and_eq_false_iff, decide_eq_false_iff_not, decide_eq_false_iff_not]
      omega
    · refine s_ret (v := .bl false) ev_c fun H4 e4 => ?_
      rw [← isName_long (w := x) (by omega)]
      exact hQ H4 (e3.trans e4)
  obtain ⟨c, hc, hat⟩ := first_of hlen.1
  refine q_whenS (b := (!lowC c) || decide (x ∈ kws)) (et_orF (et_is (et_not (et_test (ev_chain (b := decide ((x.length : Int) ≤ 12)) ev_c (ev_lens (ev_var rfl) hx) rv_I0 (fun _ => ev_c) (fun _ => rv_I0)))) (by
      rw [decide_eq_true (show (0 : Int) < (x.length : Int) by omega), decide_eq_true (show (x.length : Int) ≤ 12 by omega)]
      rfl)) (et_or (et_is (et_test (ev_niC (c := c) (ev_op (ev_var rfl) ev_c (rv_ixS (by omega) hat)) ev_c)) (by rw [low_in])) (fun _ => et_test (ev_inTS (l := kws) (ev_var rfl) ev_c (T.kw _))))) (fun hb H3 e3 => ?_) (fun hb H3 e3 => ?_)
  · refine s_ret (v := .bl false) ev_c fun H4 e4 => ?_
    have : isName x = false := by
      rw [Bool.or_eq_true, decide_eq_true_eq] at hb
      rcases hb with hb | hb
      · exact isName_first hc (bn_t hb)
      · exact isName_kw hb
    rw [← this]
    exact hQ H4 (e3.trans e4)
  · rw [Bool.or_eq_false_iff, decide_eq_false_iff_not] at hb
    refine s_ret (v := .bl (isName x)) (ev_is (ev_all (el_lcS (fun c => lowC c || digC c) (ev_var rfl) hx (fun _ => rfl) (fun c H1 _ => ev_is (ev_orV (ev_inC (ev_var rfl) ev_c) (fun _ => ev_inC (ev_var rfl) ev_c)) (by rw [low_in, dig_in])))) ?_) fun H4 e4 => hQ H4 (e3.trans e4)
    rw [all_map]
    congr 1
    unfold isName
    rw [decide_eq_true hb.2, decide_eq_true hlen.1, decide_eq_true hlen.2]
    have hl : x.cps.toList[0]? = some c := by rw [Array.getElem?_toList]; exact hc
    cases q : x.cps.toList with
    | nil => rw [q] at hl; cases hl
    | cons a r =>
      rw [q] at hl
      have : a = c := by simpa using hl
      subst this
      show _ = (true && (true && (true && (lowC a && _))))
      rw [bn_f hb.1]
      rfl
theorem fn_number_of (T : Txt K mg) : FnP P w K mg base CX0 1 "number_of" ["word"] spNumOf := by
  have S : FnScope ["word", "number", "char"] ["word"] (defScope (top 9)) := ⟨rfl, rfl, rfl, by decide +kernel, rfl, by decide +kernel, by decide +kernel⟩
  have nd := S.nd
  refine FnP.of0 T.d_number_of T.g_number_of S ba_number_of (fun vs H Q E h => ?_) (fun cdv A outer s H vs Q E hr h => ?_)
  · obtain ⟨x, rfl, _⟩ := h
    rfl
  obtain ⟨x, rfl, hx, hQ⟩ := h
  refine ⟨_, (pss_cons (ps_if (PW.pt (pw_or (pt_not (pt_chain op_lt op_le pe_int (pe_callB call_len (by rfl) T.f_len (by decide +kernel) (pa_cons (pv 0) pa_nil)) pe_int)) (pw_or (pt_not (pt_val (pe_callB (cr_all rfl) (by rfl) T.f_all (by decide +kernel) (pa_cons (pe_lc (own := [("char", 2)]) (g := gName 2) (tt := tYes) rfl nd (pi_str (pv 0)) (blkOk_by (by kernel_rfl)) (fun _ _ _ _ _ => pg_name (i := 2) nd rfl (Or.inl rfl)) (fun _ _ _ _ _ => pts_nil) (fun _ _ _ _ _ => (pe_cmpR op_in_sign (pv 2) (pe_gk T.k_DIGITS) rfl))) pa_nil)))) (pw_or1 (PW.pt (pw_and (pt_cmpR op_eq (pe_ix ix_str (pv 0) pe_int (fun _ _ => rfl)) pe_str (nomark _)) (pw_and1 (pt_cmpR op_ne (pv 0) pe_str (nomark _))))))))) (pss_one (ps_ret pe_non)) pss_nil)
    (pss_cons (ps_set (i := 1) nd rfl (Or.inl rfl) (pe_callTy call_int_str (by rfl) T.f_int (by decide +kernel) (pa_cons (pv 0) pa_nil)))
    (pss_cons (ps_if (pt_cmpR op_gt (pv 1) (pe_gk T.k_GREATEST) (nomark _)) (pss_one (ps_ret pe_non)) pss_nil)
    (pss_one (ps_ret (pv 1)))))), ?_⟩
  by_cases hlen : 0 < x.length ∧ x.length ≤ 5
  case neg =>
    refine q_whenS (b := true) (et_orT (et_is (et_not (et_test (ev_chain (b := decide ((x.length : Int) ≤ 5)) ev_c (ev_lens (ev_var rfl) hx) rv_I0 (fun _ => ev_c) (fun _ => rv_I0)))) ?_)) (fun _ H3 e3 => ?_) (fun hz => by cases hz)
    · rw [Bool.not_eq_true', Bool.and_eq_false_iff, decide_eq_false_iff_not, decide_eq_false_iff_not]
      omega
    · refine s_ret (v := .non) ev_c fun H4 e4 => ?_
      have : numV x = .non := by
        unfold numV numOf
        rw [if_neg fun z => hlen ⟨z.1, z.2.1⟩]
      rw [← this]
      exact hQ H4 (e3.trans e4)
  obtain ⟨c, hc, hat⟩ := first_of hlen.1
  refine q_whenS (b := (!(x.cps.toList.all digC)) || decide (x.cps.toList.head? = some 48 ∧ x.cps.toList ≠ [48])) (et_orF (et_is (et_not (et_test (ev_chain (b := decide ((x.length : Int) ≤ 5)) ev_c (ev_lens (ev_var rfl) hx) rv_I0 (fun _ => ev_c) (fun _ => rv_I0)))) (by
      rw [decide_eq_true (show (0 : Int) < (x.length : Int) by omega), decide_eq_true (show (x.length : Int) ≤ 5 by omega)]
      rfl)) (et_or (et_not (et_B (ev_is (ev_all (el_lcS digC (ev_var rfl) hx (fun _ => rfl) (fun c H1 _ => ev_is (ev_inC (ev_var rfl) ev_c) (by rw [dig_in])))) (by rw [all_map]))))
        (fun _ => et_is (et_and (et_eqS (ev_op (ev_var rfl) ev_c (rv_ixS (by omega) hat)) ev_c) (fun _ => et_neS (ev_var rfl) ev_c)) (zero_head hc)))) (fun hb H3 e3 => ?_) (fun hb H3 e3 => ?_)
  · refine s_ret (v := .non) ev_c fun H4 e4 => ?_
    have : numV x = .non := by
      unfold numV numOf
      rw [if_neg fun z => ?_]
      rw [Bool.or_eq_true, decide_eq_true_eq, Bool.not_eq_true'] at hb
      rcases hb with hb | hb
      · rw [z.2.2.1] at hb; cases hb
      · exact z.2.2.2 hb
    rw [← this]
    exact hQ H4 (e3.trans e4)
  · rw [Bool.or_eq_false_iff, decide_eq_false_iff_not] at hb
    have hd := bn_f hb.1
    obtain ⟨n, hn, n0, n1, hy, hno⟩ := num_dig hlen.1 hlen.2 hd
    have hnum : numOf x = some n := by
      have : numOf x = some ((NumText.digitsVal x.cps.toList : Nat) : Int) := if_pos ⟨hlen.1, hlen.2, hd, hb.2⟩
      rw [this]
      have h2 := PySem.intText_digits (x := x) (allDig hd) (fun z => by have h3 := len_toList x; rw [z] at h3; simp at h3; omega) (by omega)
      rw [hn] at h2
      exact h2.symm
    refine q_asg (v := .int n) (ev_cb (ea_cons (ev_var rfl) ea_nil) fun H1 _ _ q => ⟨x, n, rfl, hn, by omega, q H1 (Evl.Ex.refl H1)⟩) fun H4 e4 => ?_
    refine q_whenS (et_test (ev_op (ev_var rfl) ev_c rv_I0)) (fun hg H5 e5 => ?_) (fun hg H5 e5 => ?_)
    · refine s_ret (v := .non) ev_c fun H6 e6 => ?_
      have : numV x = .non := by
        unfold numV
        rw [hnum]
        exact if_neg (by have := dec_t hg; omega)
      rw [← this]
      exact hQ H6 (((e3.trans e4).trans e5).trans e6)
    · refine s_ret (v := .int n) (ev_var rfl) fun H6 e6 => ?_
      have : numV x = .int n := by
        unfold numV
        rw [hnum]
        exact if_pos (by have := dec_f hg; omega)
      rw [← this]
      exact hQ H6 (((e3.trans e4).trans e5).trans e6)
end
end K4

/-! The program: the cursor's methods. -/
namespace K4
open PySem PySem.Spec PyProof.Rows L2 Evl
/-- what is wanted of a text that fails at n -/
def ErrE (K : PySem.W.Frag) (E : XK) (n : Nat) : Prop := ∀ (d : Addr) (H : Hp), H d = some (.xd [(("at" : Str), V.int ((n : Nat) : Int))]) → E (.ref (He.ga K "BadText")) (some d) H
/-- the cursor at cu stands at the k-th word -/
structure CuAt (K : PySem.W.Frag) (H : Hp) (cu wl : Addr) (all : List Str) (k : Nat) : Prop where
  ins : ∃ dx, H cu = some (.ins (He.ga K "Cursor") dx [("words", .ref wl), ("at", .int ((k : Nat) : Int))])
  ws : H wl = some (.lst (all.map V.str))
  le : k ≤ all.length
  few : all.length ≤ 10000
  short : ∀ x ∈ all, x.length ≤ 1000
section
variable {K : PySem.W.Frag} {S : List Addr} {H H' : Hp} {cu wl : Addr} {all : List Str} {k : Nat}
theorem CuAt.kp (h : CuAt K H cu wl all k) (c : Kp S H H') (h1 : cu ∉ S) (h2 : wl ∉ S) : CuAt K H' cu wl all k := by
  obtain ⟨dx, h0⟩ := h.ins
  exact ⟨⟨dx, c.get h0 h1⟩, c.get h.ws h2, h.le, h.few, h.short⟩
theorem CuAt.ex (h : CuAt K H cu wl all k) (c : Evl.Ex H H') : CuAt K H' cu wl all k := h.kp (kp_ex c : Kp [] H H') (by simp) (by simp)
theorem CuAt.ne (h : CuAt K H cu wl all k) : wl ≠ cu := by
  obtain ⟨dx, h0⟩ := h.ins
  exact ne_of h.ws h0 (by intro z; cases z)
theorem CuAt.next (h : CuAt K H cu wl all k) (hk : k < all.length) : ∃ dx, H cu = some (.ins (He.ga K "Cursor") dx [("words", .ref wl), ("at", .int ((k : Nat) : Int))]) ∧ CuAt K (upd H cu (.ins (He.ga K "Cursor") dx [("words", .ref wl), ("at", .int ((k + 1 : Nat) : Int))])) cu wl all (k + 1) ∧
    Kp [cu] H (upd H cu (.ins (He.ga K "Cursor") dx [("words", .ref wl), ("at", .int ((k + 1 : Nat) : Int))])) := by
  obtain ⟨dx, h0⟩ := h.ins
  exact ⟨dx, h0, ⟨⟨dx, upd_same⟩, get_upd h.ws h.ne, hk, h.few, h.short⟩, Kp.ins h0 (by simp)⟩
theorem hd_drop : hdW (all.drop k) = (match all[k]? with | some w => w | none => Str.empty) := by
  unfold hdW
  cases e : all[k]? with
  | none =>
    rw [List.drop_eq_nil_of_le (List.getElem?_eq_none_iff.mp e)]
    rfl
  | some w =>
    rw [drop_cons e]
    rfl
theorem hd_lt (h : hdW (all.drop k) ≠ Str.empty) : k < all.length := by
  rcases Nat.lt_or_ge k all.length with q | q
  · exact q
  · rw [List.drop_eq_nil_of_le q] at h
    exact absurd rfl h
theorem CuAt.hd (h : CuAt K H cu wl all k) : (hdW (all.drop k)).length ≤ 1000 := by
  rw [hd_drop]
  cases e : all[k]? with
  | none => exact Nat.zero_le _
  | some w => exact h.short w (List.mem_of_getElem? e)
end
def spWord (K : PySem.W.Frag) : Sp := fun vs H Q _ => ∃ cu wl all k, vs = [.ref cu] ∧ CuAt K H cu wl all k ∧ RetV (.str (hdW (all.drop k))) H Q
def spFail (K : PySem.W.Frag) : Sp := fun vs H _ E => ∃ cu wl all k, vs = [.ref cu] ∧ CuAt K H cu wl all k ∧ ErrE K E k
def Went (K : PySem.W.Frag) (H : Hp) (cu wl : Addr) (all : List Str) (k : Nat) (v : V) (Q : VK) : Prop := ∀ H', Kp [cu] H H' → CuAt K H' cu wl all (k + 1) → Q v H'
def spTake (K : PySem.W.Frag) : Sp := fun vs H Q E => ∃ cu wl all k x, vs = [.ref cu, .str x] ∧ CuAt K H cu wl all k ∧ x ≠ Str.empty ∧ (hdW (all.drop k) = x → Went K H cu wl all k .non Q) ∧ (hdW (all.drop k) ≠ x → ErrE K E k)
def spOne (K : PySem.W.Frag) : Sp := fun vs H Q E => ∃ cu wl all k l ns, vs = [.ref cu, .ref l] ∧ CuAt K H cu wl all k ∧ SqL K H l ((ns : List Str).map V.str) ∧ (∀ x ∈ ns, x ≠ Str.empty) ∧ (hdW (all.drop k) ∈ ns → Went K H cu wl all k (.str (hdW (all.drop k))) Q) ∧ (hdW (all.drop k) ∉ ns → ErrE K E k)
def spNew (K : PySem.W.Frag) : Sp := fun vs H Q E => ∃ cu wl all k l ns, vs = [.ref cu, .ref l] ∧ CuAt K H cu wl all k ∧ SqL K H l ((ns : List Str).map V.str) ∧ (isName (hdW (all.drop k)) = true → hdW (all.drop k) ∉ ns → Went K H cu wl all k (.str (hdW (all.drop k))) Q) ∧ (isName (hdW (all.drop k)) = false ∨ hdW (all.drop k) ∈ ns → ErrE K E k)
def spTNum (K : PySem.W.Frag) : Sp := fun vs H Q E => ∃ cu wl all k lo hi, vs = [.ref cu, .int lo, .int hi] ∧ CuAt K H cu wl all k ∧ hi ≤ 65535 ∧ (∀ n, numOf (hdW (all.drop k)) = some n → lo ≤ n → n ≤ hi → Went K H cu wl all k (.int n) Q) ∧ (inR (hdW (all.drop k)) lo hi = false → ErrE K E k)
section
variable {K : PySem.W.Frag} {H H' : Hp} {σ : L2.St} {cu wl C dx : Addr} {all : List Str} {k i : Nat} {sp : Sp} {E : XK} {m : Str} {fs : List (Str × V)} {v : V} {te : TE} {D : Ends} {tz : TS}
theorem ev_meth0 (ha : Ev te σ H (.ref cu)) (h : H cu = some (.ins C dx fs)) (hl : fs.lookup m = none) (hs : SpV sp [.ref cu] H v) : Ev (tMeth C m sp [] E te tNil) σ H v := fun H1 e Q q =>
  ha H1 e _ fun H2 e2 => ⟨cu, dx, fs, rfl, e2 _ _ (e _ _ h), hl, hs H2 (e.trans e2) Q (fun H3 e3 => q H3 (e2.trans e3)) E⟩
theorem ev_word (ha : Ev te σ H (.ref cu)) (h : CuAt K H cu wl all k) : Ev (tMeth (He.ga K "Cursor") "word" (spWord K) [] E te tNil) σ H (.str (hdW (all.drop k))) := by
  obtain ⟨dx, h0⟩ := h.ins
  exact ev_meth0 ha h0 rfl fun H1 e1 Q q _ => ⟨cu, wl, all, k, rfl, h.ex e1, fun H2 e2 => q H2 e2⟩
theorem s_fail (ha : Ev te σ H (.ref cu)) (h : CuAt K H cu wl all k) (he : ErrE K E k) : tDrop (tMeth (He.ga K "Cursor") "fail" (spFail K) [] E te tNil) D σ H := ha H (Evl.Ex.refl H) _ fun H1 e1 => by
  obtain ⟨dx, h0⟩ := h.ins
  exact ⟨cu, dx, _, rfl, e1 _ _ h0, rfl, cu, wl, all, k, rfl, h.ex e1, he⟩
/-- self.at = self.at + 1 -/
theorem s_step (T : Cls K (He.ga K "Cursor")) (n : NoAttr K (He.ga K "Cursor") "at") (hs : σ[i]? = some (some (.ref cu))) (h : CuAt K H cu wl all k) (hk : k < all.length) (q : ∀ H', Kp [cu] H H' → CuAt K H' cu wl all (k + 1) → D.nx σ H') :
    sFld K (tVar i) (tOp (rI0 fun i j => V.int (i + j)) (tFld K (tVar i) "at") (tC (.int 1))) "at" D σ H := by
  obtain ⟨dx, h0, h1, h2⟩ := h.next hk
  refine ⟨_, hs, cu, _, dx, _, _, rfl, h0, T, n, rfl, _, _, rfl, rfl, _, hs, cu, _, dx, _, rfl, h0, T, n, (show 2 < 1000 by decide), ?_⟩
  exact q _ h2 h1
theorem q_step (T : Cls K (He.ga K "Cursor")) (n : NoAttr K (He.ga K "Cursor") "at") (hs : σ[i]? = some (some (.ref cu))) (h : CuAt K H cu wl all k) (hk : k < all.length) (q : ∀ H', Kp [cu] H H' → CuAt K H' cu wl all (k + 1) → tz D σ H') :
    tSeq (sFld K (tVar i) (tOp (rI0 fun i j => V.int (i + j)) (tFld K (tVar i) "at") (tC (.int 1))) "at") tz D σ H := s_step (D := { D with nx := tz D }) T n hs h hk q
end
section
variable {P : Program} {w : World} {K : PySem.W.Frag} {mg : Str → Option Value} {base : Heap}
theorem fn_word (T : Txt K mg) : MtP P w K mg base CX0 1 (He.ga K "Cursor") "word" ["self"] (spWord K) := by
  have S : FnScope ["self"] ["self"] (defScope (meth 10 1)) := ⟨rfl, rfl, rfl, by decide +kernel, rfl, by decide +kernel, by decide +kernel⟩
  have nd := S.nd
  refine MtP.of0 T.d_Cursor_word T.t_Cursor_word S ba_Cursor_word (fun vs H Q E h => ?_) (fun cdv A outer s H vs Q E hr h => ?_)
  · obtain ⟨cu, wl, all, k, rfl, _⟩ := h
    rfl
  obtain ⟨cu, wl, all, k, rfl, hc, hQ⟩ := h
  obtain ⟨dx, h0⟩ := hc.ins
  have hfew := hc.few
  refine ⟨_, (pss_cons (ps_if (pt_cmpR op_lt (pe_fld (pv 0) rfl) (pe_callB call_len (by rfl) T.f_len (by decide +kernel) (pa_cons (pe_fld (pv 0) rfl) pa_nil)) (nomark _)) (pss_one (ps_ret (pe_ix ix_list (pe_fld (pv 0) rfl) (pe_fld (pv 0) rfl) (fun _ _ => rfl)))) pss_nil)
    (pss_one (ps_ret pe_str))), ?_⟩
  have eat : ∀ {H1 : Hp}, Evl.Ex H H1 → Ev (tFld K (tVar 0) "at") [some (.ref cu)] H1 (.int ((k : Nat) : Int)) := fun e => ev_fld (ev_var rfl) (e _ _ h0) T.c_Cursor T.n_Cursor_at rfl
  have ews : ∀ {H1 : Hp}, Evl.Ex H H1 → Ev (tFld K (tVar 0) "words") [some (.ref cu)] H1 (.ref wl) := fun e => ev_fld (ev_var rfl) (e _ _ h0) T.c_Cursor T.n_Cursor_words rfl
  refine q_whenS (b := decide (k < all.length)) (et_is (et_test (ev_op (eat (Evl.Ex.refl _)) (ev_lenl (ews (Evl.Ex.refl _)) (sq_of hc.ws)) rv_I0)) (by rw [List.length_map]; exact decide_eq_decide.mpr (by omega))) (fun hb H1 e1 => ?_) (fun hb H1 e1 => ?_)
  · have hk := dec_t hb
    have e : all[k]? = some all[k] := List.getElem?_eq_getElem hk
    have hv : hdW (all.drop k) = all[k] := by rw [hd_drop, e]
    refine s_ret (v := .str (hdW (all.drop k))) (ev_op (ews e1) (eat e1) (rv_ixL (sq_of (e1 _ _ hc.ws)) ?_)) fun H2 e2 => hQ H2 (e1.trans e2)
    rw [hv]
    exact atI_nat (by rw [List.getElem?_map, e]; rfl)
  · have hk := dec_f hb
    refine s_ret (v := .str (hdW (all.drop k))) (ev_is ev_c ?_) fun H2 e2 => hQ H2 (e1.trans e2)
    rw [List.drop_eq_nil_of_le (by omega)]
    rfl
theorem fn_take (T : Txt K mg) (h_word : MtP P w K mg base CX0 1 (He.ga K "Cursor") "word" ["self"] (spWord K)) (h_fail : MtP P w K mg base (L2N.CX P w) 4 (He.ga K "Cursor") "fail" ["self"] (spFail K)) :
    MtP P w K mg base (L2N.CX P w) 5 (He.ga K "Cursor") "take" ["self", "word"] (spTake K) := by
  have S : FnScope ["self", "word"] ["self", "word"] (defScope (meth 10 3)) := ⟨rfl, rfl, rfl, by decide +kernel, rfl, by decide +kernel, by decide +kernel⟩
  have nd := S.nd
  refine MtP.ofX T.d_Cursor_take T.t_Cursor_take S ba_Cursor_take (fun vs H Q E h => ?_) (fun cdv A outer s H vs Q E hr h => ?_)
  · obtain ⟨cu, wl, all, k, x, rfl, _⟩ := h
    rfl
  obtain ⟨cu, wl, all, k, x, rfl, hc, hne, hQ, hE⟩ := h
  refine ⟨_, (C8.pss_cut (ps_if (pt_cmpR op_ne (pe_cm0 T.c_Cursor h_word hr pass0 (pv 0)) (pv 1) (nomark _)) (pss_one (ps_expr (pe_cm0 T.c_Cursor h_fail hr passX (pv 0)))) pss_nil)
    (pss_one (ps_fld (pv 0) (pe_op op_add (pe_fld (pv 0) rfl) pe_int) rfl))), ?_⟩
  refine ⟨fun σ' H' => σ' = [some (.ref cu), some (.str x)] ∧ Evl.Ex H H' ∧ hdW (all.drop k) = x, ?_, ?_⟩
  · refine s_when (et_neS (ev_word (ev_var rfl) hc) (ev_var rfl)) (fun hb H1 e1 => ?_) (fun hb H1 e1 => ?_)
    · exact s_fail (ev_var rfl) (hc.ex e1) (hE (dec_f (bn_t hb)))
    · exact ⟨rfl, e1, dec_t (bn_f hb)⟩
  · rintro σ' H1 ⟨rfl, e1, hx⟩
    refine s_step T.c_Cursor T.n_Cursor_at rfl (hc.ex e1) (hd_lt (by rw [hx]; exact hne)) fun H2 k2 c2 => ?_
    exact hQ hx H2 ((kp_ex e1).trans k2) c2
theorem fn_take_one (T : Txt K mg) (h_word : MtP P w K mg base CX0 1 (He.ga K "Cursor") "word" ["self"] (spWord K)) (h_fail : MtP P w K mg base (L2N.CX P w) 4 (He.ga K "Cursor") "fail" ["self"] (spFail K)) :
    MtP P w K mg base (L2N.CX P w) 5 (He.ga K "Cursor") "take_one" ["self", "words"] (spOne K) := by
  have S : FnScope ["self", "words", "word"] ["self", "words"] (defScope (meth 10 4)) := ⟨rfl, rfl, rfl, by decide +kernel, rfl, by decide +kernel, by decide +kernel⟩
  have nd := S.nd
  refine MtP.ofX T.d_Cursor_take_one T.t_Cursor_take_one S ba_Cursor_take_one (fun vs H Q E h => ?_) (fun cdv A outer s H vs Q E hr h => ?_)
  · obtain ⟨cu, wl, all, k, l, ns, rfl, _⟩ := h
    rfl
  obtain ⟨cu, wl, all, k, l, ns, rfl, hc, hl, hne, hQ, hE⟩ := h
  refine ⟨_, (pss_cons (ps_set (i := 2) nd rfl (Or.inl rfl) (pe_cm0 T.c_Cursor h_word hr pass0 (pv 0)))
    (C8.pss_cut (ps_if (pt_cmpR op_notIn_seq (pv 2) (pv 1) (by with_unfolding_all rfl)) (pss_one (ps_expr (pe_cm0 T.c_Cursor h_fail hr passX (pv 0)))) pss_nil)
    (pss_cons (ps_fld (pv 0) (pe_op op_add (pe_fld (pv 0) rfl) pe_int) rfl)
    (pss_one (ps_ret (pv 2)))))), ?_⟩
  refine q_asg (ev_word (ev_var rfl) hc) fun H1 e1 => ?_
  refine ⟨fun σ' H' => σ' = [some (.ref cu), some (.ref l), some (.str (hdW (all.drop k)))] ∧ Evl.Ex H H' ∧ hdW (all.drop k) ∈ ns, ?_, ?_⟩
  · refine s_when (et_test (ev_niLS (ev_var rfl) (ev_var rfl) (ex_l e1 hl))) (fun hb H2 e2 => ?_) (fun hb H2 e2 => ?_)
    · exact s_fail (ev_var rfl) (hc.ex (e1.trans e2)) (hE (dec_f (bn_t hb)))
    · exact ⟨rfl, e1.trans e2, dec_t (bn_f hb)⟩
  · rintro σ' H2 ⟨rfl, e2, hx⟩
    refine q_step T.c_Cursor T.n_Cursor_at rfl (hc.ex e2) (hd_lt (hne _ hx)) fun H3 k3 c3 => ?_
    exact s_ret (ev_var rfl) fun H4 e4 => hQ hx H4 (((kp_ex e2).trans k3).trans (kp_ex e4)) (c3.ex e4)
theorem fn_take_new (T : Txt K mg) (h_is_name : FnP P w K mg base CX0 1 "is_name" ["word"] spIsName) (h_word : MtP P w K mg base CX0 1 (He.ga K "Cursor") "word" ["self"] (spWord K)) (h_fail : MtP P w K mg base (L2N.CX P w) 4 (He.ga K "Cursor") "fail" ["self"] (spFail K)) :
    MtP P w K mg base (L2N.CX P w) 5 (He.ga K "Cursor") "take_new" ["self", "names"] (spNew K) := by
  have S : FnScope ["self", "names", "word"] ["self", "names"] (defScope (meth 10 5)) := ⟨rfl, rfl, rfl, by decide +kernel, rfl, by decide +kernel, by decide +kernel⟩
  have nd := S.nd
  refine MtP.ofX T.d_Cursor_take_new T.t_Cursor_take_new S ba_Cursor_take_new (fun vs H Q E h => ?_) (fun cdv A outer s H vs Q E hr h => ?_)
  · obtain ⟨cu, wl, all, k, l, ns, rfl, _⟩ := h
    rfl
  obtain ⟨cu, wl, all, k, l, ns, rfl, hc, hl, hQ, hE⟩ := h
  have hhd := hc.hd
  refine ⟨_, (pss_cons (ps_set (i := 2) nd rfl (Or.inl rfl) (pe_cm0 T.c_Cursor h_word hr pass0 (pv 0)))
    (C8.pss_cut (ps_if (PW.pt (pw_or (pt_not (pt_val (pe_cf h_is_name hr pass0 (pa_cons (pv 2) pa_nil)))) (pw_or1 (pt_cmpR op_in_seq (pv 2) (pv 1) (by with_unfolding_all rfl))))) (pss_one (ps_expr (pe_cm0 T.c_Cursor h_fail hr passX (pv 0)))) pss_nil)
    (pss_cons (ps_fld (pv 0) (pe_op op_add (pe_fld (pv 0) rfl) pe_int) rfl)
    (pss_one (ps_ret (pv 2)))))), ?_⟩
  refine q_asg (ev_word (ev_var rfl) hc) fun H1 e1 => ?_
  refine ⟨fun σ' H' => σ' = [some (.ref cu), some (.ref l), some (.str (hdW (all.drop k)))] ∧ Evl.Ex H H' ∧ isName (hdW (all.drop k)) = true ∧ hdW (all.drop k) ∉ ns, ?_, ?_⟩
  · refine s_when (b := !isName (hdW (all.drop k)) || decide (hdW (all.drop k) ∈ ns)) (et_or (et_not (et_B (ev_call (ea_cons (ev_var rfl) ea_nil) (sp_name (by omega))))) (fun _ => et_test (ev_inLS (ev_var rfl) (ev_var rfl) (ex_l e1 hl)))) (fun hb H2 e2 => ?_) (fun hb H2 e2 => ?_)
    · refine s_fail (ev_var rfl) (hc.ex (e1.trans e2)) (hE ?_)
      rw [Bool.or_eq_true, Bool.not_eq_true', decide_eq_true_eq] at hb
      exact hb
    · rw [Bool.or_eq_false_iff, decide_eq_false_iff_not] at hb
      exact ⟨rfl, e1.trans e2, bn_f hb.1, hb.2⟩
  · rintro σ' H2 ⟨rfl, e2, hx1, hx2⟩
    refine q_step T.c_Cursor T.n_Cursor_at rfl (hc.ex e2) (hd_lt fun z => ?_) fun H3 k3 c3 => ?_
    · rw [z, isName_empty] at hx1
      cases hx1
    · exact s_ret (ev_var rfl) fun H4 e4 => hQ hx1 hx2 H4 (((kp_ex e2).trans k3).trans (kp_ex e4)) (c3.ex e4)
theorem fn_take_number (T : Txt K mg) (h_number_of : FnP P w K mg base CX0 1 "number_of" ["word"] spNumOf) (h_word : MtP P w K mg base CX0 1 (He.ga K "Cursor") "word" ["self"] (spWord K)) (h_fail : MtP P w K mg base (L2N.CX P w) 4 (He.ga K "Cursor") "fail" ["self"] (spFail K)) :
    MtP P w K mg base (L2N.CX P w) 5 (He.ga K "Cursor") "take_number" ["self", "least", "most"] (spTNum K) := by
  have S : FnScope ["self", "least", "most", "number"] ["self", "least", "most"] (defScope (meth 10 6)) := ⟨rfl, rfl, rfl, by decide +kernel, rfl, by decide +kernel, by decide +kernel⟩
  have nd := S.nd
  refine MtP.ofX T.d_Cursor_take_number T.t_Cursor_take_number S ba_Cursor_take_number (fun vs H Q E h => ?_) (fun cdv A outer s H vs Q E hr h => ?_)
  · obtain ⟨cu, wl, all, k, lo, hi, rfl, _⟩ := h
    rfl
  obtain ⟨cu, wl, all, k, lo, hi, rfl, hc, hhi, hQ, hE⟩ := h
  have hhd := hc.hd
  refine ⟨_, (pss_cons (ps_set (i := 3) nd rfl (Or.inl rfl) (pe_cf h_number_of hr pass0 (pa_cons (pe_cm0 T.c_Cursor h_word hr pass0 (pv 0)) pa_nil)))
    (C8.pss_cut (ps_if (PW.pt (pw_or (pt_cmpR op_isN (pv 3) pe_non (nomark _)) (pw_or1 (pt_not (pt_chain op_le op_le (pv 1) (pv 3) (pv 2)))))) (pss_one (ps_expr (pe_cm0 T.c_Cursor h_fail hr passX (pv 0)))) pss_nil)
    (pss_cons (ps_fld (pv 0) (pe_op op_add (pe_fld (pv 0) rfl) pe_int) rfl)
    (pss_one (ps_ret (pv 3)))))), ?_⟩
  refine q_asg (v := numV (hdW (all.drop k))) (ev_call (ea_cons (ev_word (ev_var rfl) hc) ea_nil) fun H1 _ Q q _ => ⟨_, rfl, by omega, fun H2 e2 => q H2 e2⟩) fun H1 e1 => ?_
  refine ⟨fun σ' H' => ∃ n, σ' = [some (.ref cu), some (.int lo), some (.int hi), some (.int n)] ∧ Evl.Ex H H' ∧ numOf (hdW (all.drop k)) = some n ∧ lo ≤ n ∧ n ≤ hi, ?_, ?_⟩
  · cases hn : numOf (hdW (all.drop k)) with
    | none =>
      have ev : numV (hdW (all.drop k)) = .non := by unfold numV; rw [hn]
      rw [ev]
      refine s_when (b := true) (et_orT (et_test (ev_op (ev_var rfl) ev_c fun H1 _ _ q => ⟨rfl, q H1 (Evl.Ex.refl H1)⟩))) (fun _ H2 e2 => ?_) (fun z => by cases z)
      refine s_fail (ev_var rfl) (hc.ex (e1.trans e2)) (hE (inR_no fun n h => ?_))
      rw [hn] at h
      cases h
    | some n =>
      by_cases hle : n ≤ 65535
      · have ev : numV (hdW (all.drop k)) = .int n := by unfold numV; rw [hn]; exact if_pos hle
        rw [ev]
        refine s_when (b := !(decide (lo ≤ n) && decide (n ≤ hi))) (et_orF (et_test (ev_op (ev_var rfl) ev_c fun H1 _ _ q => ⟨rfl, q H1 (Evl.Ex.refl H1)⟩)) (et_not (et_test (ev_chain (ev_var rfl) (ev_var rfl) rv_I0 (fun _ => ev_var rfl) (fun _ => rv_I0))))) (fun hb H2 e2 => ?_) (fun hb H2 e2 => ?_)
        · refine s_fail (ev_var rfl) (hc.ex (e1.trans e2)) (hE ?_)
          unfold inR
          rw [hn]
          exact bn_t hb
        · obtain ⟨h1, h2⟩ := and_d.mp (bn_f hb)
          exact ⟨n, rfl, e1.trans e2, rfl, h1, h2⟩
      · have ev : numV (hdW (all.drop k)) = .non := by unfold numV; rw [hn]; exact if_neg hle
        rw [ev]
        refine s_when (b := true) (et_orT (et_test (ev_op (ev_var rfl) ev_c fun H1 _ _ q => ⟨rfl, q H1 (Evl.Ex.refl H1)⟩))) (fun _ H2 e2 => ?_) (fun z => by cases z)
        refine s_fail (ev_var rfl) (hc.ex (e1.trans e2)) (hE (inR_no fun n' h => ?_))
        rw [hn] at h
        cases h
        omega
  · rintro σ' H2 ⟨n, rfl, e2, hn, h1, h2⟩
    refine q_step T.c_Cursor T.n_Cursor_at rfl (hc.ex e2) (hd_lt fun z => ?_) fun H3 k3 c3 => ?_
    · rw [z, numOf_empty] at hn
      cases hn
    · exact s_ret (ev_var rfl) fun H4 e4 => hQ n hn h1 h2 H4 (((kp_ex e2).trans k3).trans (kp_ex e4)) (c3.ex e4)
end
end K4

/-! The program: expressions are read. -/
namespace K4
open PySem PySem.Spec PyProof.Rows L2 Evl
def fldS : Tb → Str
  | .var => "variables"
  | .table => "tables"
  | .lots => "lots"
  | .loc => "locals"
  | _ => "asked"
/-- the scope at so, its lists at f -/
structure PSc (K : PySem.W.Frag) (H : Hp) (so : Addr) (f : Tb → Addr) (sc : Sc) : Prop where
  ins : ∃ dx, H so = some (.ins (He.ga K "Scope") dx [("asked", .ref (f .asked)), ("variables", .ref (f .var)), ("tables", .ref (f .table)), ("lots", .ref (f .lots)), ("locals", .ref (f .loc))])
  l : ∀ t, t ≠ .proc → H (f t) = some (.lst ((sc.get t).map V.str))
section
variable {K : PySem.W.Frag} {S : List Addr} {H H' : Hp} {cu wl so : Addr} {all : List Str} {k : Nat} {f : Tb → Addr} {sc : Sc}
theorem PSc.kp (h : PSc K H so f sc) (c : Kp S H H') (h1 : so ∉ S) (h2 : ∀ t, t ≠ .proc → f t ∉ S) : PSc K H' so f sc := by
  obtain ⟨dx, h0⟩ := h.ins
  exact ⟨⟨dx, c.get h0 h1⟩, fun t ht => c.get (h.l t ht) (h2 t ht)⟩
theorem PSc.ex (h : PSc K H so f sc) (c : Evl.Ex H H') : PSc K H' so f sc := h.kp (kp_ex c : Kp [] H H') (by simp) (by simp)
theorem PSc.ncu (h : PSc K H so f sc) (hc : CuAt K H cu wl all k) : so ≠ cu ∧ ∀ t, t ≠ .proc → f t ≠ cu := by
  obtain ⟨dx, h0⟩ := h.ins
  obtain ⟨dx', h1⟩ := hc.ins
  refine ⟨fun z => ?_, fun t ht => ne_of (h.l t ht) h1 (by intro z; cases z)⟩
  rw [z, h1] at h0
  injection h0 with h0
  injection h0 with _ _ h0
  injection h0 with h0
  injection h0 with h0 _
  exact absurd h0 (by decide)
theorem PSc.onc (h : PSc K H so f sc) (hc : CuAt K H cu wl all k) (c : Kp [cu] H H') : PSc K H' so f sc := by
  obtain ⟨h1, h2⟩ := h.ncu hc
  exact h.kp c (by simp [h1]) fun t ht => by simp [h2 t ht]
end
section
variable {K : PySem.W.Frag} {mg : Str → Option Value} {H H' : Hp} {σ : L2.St} {cu wl so : Addr} {all : List Str} {k i : Nat} {E : XK} {f : Tb → Addr} {sc : Sc} {te tl ta tb : TE} {Q : VK}
theorem ev_scf (T : Txt K mg) (h : PSc K H so f sc) (hs : σ[i]? = some (some (.ref so))) : ∀ t : Tb, Ev (tFld K (tVar i) (fldS t)) σ H (.ref (match t with | .proc => f .asked | t => f t))
  | .var => by obtain ⟨dx, h0⟩ := h.ins; exact ev_fld (ev_var hs) h0 T.c_Scope T.n_Scope_variables rfl
  | .table => by obtain ⟨dx, h0⟩ := h.ins; exact ev_fld (ev_var hs) h0 T.c_Scope T.n_Scope_tables rfl
  | .lots => by obtain ⟨dx, h0⟩ := h.ins; exact ev_fld (ev_var hs) h0 T.c_Scope T.n_Scope_lots rfl
  | .loc => by obtain ⟨dx, h0⟩ := h.ins; exact ev_fld (ev_var hs) h0 T.c_Scope T.n_Scope_locals rfl
  | .asked => by obtain ⟨dx, h0⟩ := h.ins; exact ev_fld (ev_var hs) h0 T.c_Scope T.n_Scope_asked rfl
  | .proc => by obtain ⟨dx, h0⟩ := h.ins; exact ev_fld (ev_var hs) h0 T.c_Scope T.n_Scope_asked rfl
theorem t_take {x : Str} (hs : σ[i]? = some (some (.ref cu))) (hx : Ev te σ H (.str x)) (h : CuAt K H cu wl all k) (hne : x ≠ Str.empty) (ok : hdW (all.drop k) = x → ∀ H', Kp [cu] H H' → CuAt K H' cu wl all (k + 1) → Q .non H') (err : hdW (all.drop k) ≠ x → ErrE K E k) :
    tMeth (He.ga K "Cursor") "take" (spTake K) [] E (tVar i) (tCons te tNil) σ H Q := by
  obtain ⟨dx, h0⟩ := h.ins
  exact ⟨_, hs, cu, dx, _, rfl, h0, rfl, hx H (Evl.Ex.refl H) _ fun H1 e1 => ⟨cu, wl, all, k, x, rfl, h.ex e1, hne, fun z H' k' c' => ok z H' ((kp_ex e1).trans k') c', err⟩⟩
theorem t_one {l : Addr} {ns : List Str} (hs : σ[i]? = some (some (.ref cu))) (hl : Ev tl σ H (.ref l)) (h : CuAt K H cu wl all k) (hq : SqL K H l (ns.map V.str)) (hne : Str.empty ∉ ns) (ok : hdW (all.drop k) ∈ ns → ∀ H', Kp [cu] H H' → CuAt K H' cu wl all (k + 1) → Q (.str (hdW (all.drop k))) H') (err : hdW (all.drop k) ∉ ns → ErrE K E k) :
    tMeth (He.ga K "Cursor") "take_one" (spOne K) [] E (tVar i) (tCons tl tNil) σ H Q := by
  obtain ⟨dx, h0⟩ := h.ins
  exact ⟨_, hs, cu, dx, _, rfl, h0, rfl, hl H (Evl.Ex.refl H) _ fun H1 e1 => ⟨cu, wl, all, k, l, ns, rfl, h.ex e1, ex_l e1 hq, fun x hx z => hne (z ▸ hx), fun z H' k' c' => ok z H' ((kp_ex e1).trans k') c', err⟩⟩
theorem t_new {l : Addr} {ns : List Str} (hs : σ[i]? = some (some (.ref cu))) (hl : Ev tl σ H (.ref l)) (h : CuAt K H cu wl all k) (hq : SqL K H l (ns.map V.str)) (ok : isName (hdW (all.drop k)) = true → hdW (all.drop k) ∉ ns → ∀ H', Kp [cu] H H' → CuAt K H' cu wl all (k + 1) → Q (.str (hdW (all.drop k))) H')
    (err : isName (hdW (all.drop k)) = false ∨ hdW (all.drop k) ∈ ns → ErrE K E k) : tMeth (He.ga K "Cursor") "take_new" (spNew K) [] E (tVar i) (tCons tl tNil) σ H Q := by
  obtain ⟨dx, h0⟩ := h.ins
  exact ⟨_, hs, cu, dx, _, rfl, h0, rfl, hl H (Evl.Ex.refl H) _ fun H1 e1 => ⟨cu, wl, all, k, l, ns, rfl, h.ex e1, ex_l e1 hq, fun z z' H' k' c' => ok z z' H' ((kp_ex e1).trans k') c', err⟩⟩
theorem t_num {lo hi : Int} (hs : σ[i]? = some (some (.ref cu))) (ha : Ev ta σ H (.int lo)) (hb : Ev tb σ H (.int hi)) (h : CuAt K H cu wl all k) (hhi : hi ≤ 65535) (ok : ∀ n, numOf (hdW (all.drop k)) = some n → lo ≤ n → n ≤ hi → ∀ H', Kp [cu] H H' → CuAt K H' cu wl all (k + 1) → Q (.int n) H')
    (err : inR (hdW (all.drop k)) lo hi = false → ErrE K E k) : tMeth (He.ga K "Cursor") "take_number" (spTNum K) [] E (tVar i) (tCons ta (tCons tb tNil)) σ H Q := by
  obtain ⟨dx, h0⟩ := h.ins
  exact ⟨_, hs, cu, dx, _, rfl, h0, rfl, ha H (Evl.Ex.refl H) _ fun H1 e1 => hb H1 e1 _ fun H2 e2 => ⟨cu, wl, all, k, lo, hi, rfl, h.ex (e1.trans e2), hhi, fun n z1 z2 z3 H' k' c' => ok n z1 z2 z3 H' ((kp_ex (e1.trans e2)).trans k') c', err⟩⟩
theorem dtail : (all.drop k).tail = all.drop (k + 1) := by rw [List.tail_drop]
theorem dlen (h : CuAt K H cu wl all k) : all.length - (all.drop k).length = k := by
  rw [List.length_drop]
  have := h.le
  omega
end
def spRE (K : PySem.W.Frag) (n : Nat) : Sp := fun vs H Q E => ∃ cu wl all k so f sc r, vs = [.ref cu, .ref so, .int ((r : Nat) : Int)] ∧ r < n ∧ CuAt K H cu wl all k ∧ PSc K H so f sc ∧ NoE sc ∧
  (∀ e v H' k', EOk sc r (all.drop k) e (all.drop k') → exD e ≤ r → Kp [cu] H H' → CuAt K H' cu wl all k' → ExAt H' e v → Q v H') ∧ ∀ n, EErr sc r (all.drop k) n → ErrE K E (all.length - n)
section
variable {K : PySem.W.Frag} {H : Hp} {σ : L2.St} {cu wl so : Addr} {all : List Str} {k i j n r : Nat} {E : XK} {f : Tb → Addr} {sc : Sc} {te : TE} {Q : VK}
theorem t_re (hs : σ[i]? = some (some (.ref cu))) (ho : σ[j]? = some (some (.ref so))) (hr : Ev te σ H (.int ((r : Nat) : Int))) (hn : r < n) (h : CuAt K H cu wl all k) (hp : PSc K H so f sc) (N : NoE sc)
    (ok : ∀ e v H' k', EOk sc r (all.drop k) e (all.drop k') → exD e ≤ r → Kp [cu] H H' → CuAt K H' cu wl all k' → ExAt H' e v → Q v H') (err : ∀ n, EErr sc r (all.drop k) n → ErrE K E (all.length - n)) :
    tCall (spRE K n) [] E (tCons (tVar i) (tCons (tVar j) (tCons te tNil))) σ H Q :=
  ⟨_, hs, _, ho, hr H (Evl.Ex.refl H) _ fun H1 e1 => ⟨cu, wl, all, k, so, f, sc, r, rfl, hn, h.ex e1, hp.ex e1, N, fun e v H' k' h1 h2 h3 h4 h5 => ok e v H' k' h1 h2 ((kp_ex e1).trans h3) h4 h5, err⟩⟩
end
section
variable {P : Program} {w : World} {K : PySem.W.Frag} {mg : Str → Option Value} {base : Heap}
theorem fn_read_expression1 (T : Txt K mg) (h_word : MtP P w K mg base CX0 1 (He.ga K "Cursor") "word" ["self"] (spWord K)) (h_take : MtP P w K mg base (L2N.CX P w) 5 (He.ga K "Cursor") "take" ["self", "word"] (spTake K))
    (h_take_one : MtP P w K mg base (L2N.CX P w) 5 (He.ga K "Cursor") "take_one" ["self", "words"] (spOne K)) (h_take_number : MtP P w K mg base (L2N.CX P w) 5 (He.ga K "Cursor") "take_number" ["self", "least", "most"] (spTNum K)) {n : Nat}
    (h_read_expression : FnP P w K mg base (L2N.CX P w) (5 + n) "read_expression" ["cursor", "scope", "room"] (spRE K n)) : FnP P w K mg base (L2N.CX P w) (5 + n + 1) "read_expression" ["cursor", "scope", "room"] (spRE K (n + 1)) := by
  have S : FnScope ["cursor", "scope", "room", "word", "left", "name"] ["cursor", "scope", "room"] (defScope (top 26)) := ⟨rfl, rfl, rfl, by decide +kernel, rfl, by decide +kernel, by decide +kernel⟩
  have nd := S.nd
  refine FnP.ofX T.d_read_expression T.g_read_expression S ba_read_expression (fun vs H Q E h => ?_) (fun cdv A outer s H vs Q E hr h => ?_)
  · obtain ⟨cu, wl, all, k, so, f, sc, r, rfl, _⟩ := h
    rfl
  obtain ⟨cu, wl, all, k, so, f, sc, r, rfl, hrn, hc, hp, N, hQ, hE⟩ := h
  refine ⟨_, (pss_cons (ps_set (i := 3) nd rfl (Or.inl rfl) (pe_cm0 T.c_Cursor h_word hr pass0 (pv 0)))
    (pss_cons (ps_if (PW.pt (pw_and (pt_cmpR op_in_seq (pv 3) (pe_gk T.k_SIGNS) (by with_unfolding_all rfl)) (pw_and1 (pt_cmpR op_gt (pv 2) pe_int (nomark _))))) (pss_cons (ps_expr (pe_cm T.c_Cursor h_take hr passX (pv 0) (pa_cons (pv 3) pa_nil)))
    (pss_cons (ps_set (i := 4) nd rfl (Or.inl rfl) (pe_cf h_read_expression hr passX (pa_cons (pv 0) (pa_cons (pv 1) (pa_cons (pe_op op_sub (pv 2) pe_int) pa_nil)))))
    (pss_one (ps_ret (pe_tup (pa_cons (pv 3) (pa_cons (pv 4) (pa_cons (pe_cf h_read_expression hr passX (pa_cons (pv 0) (pa_cons (pv 1) (pa_cons (pe_op op_sub (pv 2) pe_int) pa_nil)))) pa_nil)))))))) pss_nil)
    (pss_cons (ps_if (PW.pt (pw_and (PW.pt (pw_or (pt_cmpR op_eq (pv 3) pe_str (nomark _)) (pw_or1 (pt_cmpR op_eq (pv 3) pe_str (nomark _))))) (pw_and (pt_cmpR op_gt (pv 2) pe_int (nomark _)) (pw_and1 (pt_truth (pe_fld (pv 1) rfl) (by intro _; rfl)))))) (pss_cons (ps_expr (pe_cm T.c_Cursor h_take hr passX (pv 0) (pa_cons (pv 3) pa_nil)))
    (pss_cons (ps_set (i := 5) nd rfl (Or.inl rfl) (pe_cm T.c_Cursor h_take_one hr passX (pv 0) (pa_cons (pe_fld (pv 1) rfl) pa_nil)))
    (pss_one (ps_ret (pe_tup (pa_cons (pv 3) (pa_cons (pv 5) (pa_cons (pe_cf h_read_expression hr passX (pa_cons (pv 0) (pa_cons (pv 1) (pa_cons (pe_op op_sub (pv 2) pe_int) pa_nil)))) pa_nil)))))))) pss_nil)
    (pss_cons (ps_if (pt_cmpR op_in_seq (pv 3) (pe_fld (pv 1) rfl) (by with_unfolding_all rfl)) (pss_cons (ps_expr (pe_cm T.c_Cursor h_take hr passX (pv 0) (pa_cons (pv 3) pa_nil)))
    (pss_one (ps_ret (pe_tup (pa_cons pe_str (pa_cons (pv 3) pa_nil)))))) pss_nil)
    (pss_cons (ps_if (pt_cmpR op_in_seq (pv 3) (pe_fld (pv 1) rfl) (by with_unfolding_all rfl)) (pss_cons (ps_expr (pe_cm T.c_Cursor h_take hr passX (pv 0) (pa_cons (pv 3) pa_nil)))
    (pss_one (ps_ret (pe_tup (pa_cons pe_str (pa_cons (pv 3) pa_nil)))))) pss_nil)
    (pss_one (ps_ret (pe_tup (pa_cons pe_str (pa_cons (pe_cm T.c_Cursor h_take_number hr passX (pv 0) (pa_cons pe_int (pa_cons (pe_gk T.k_GREATEST) pa_nil))) pa_nil)))))))))), ?_⟩
  refine q_asg (ev_word (ev_var rfl) hc) fun H1 e1 => ?_
  have hc1 := hc.ex e1
  have hp1 := hp.ex e1
  have tl := dtail (all := all) (k := k)
  refine q_whenS (b := decide (hdW (all.drop k) ∈ signs) && decide (1 < r)) (et_and (et_test (ev_inTS (ev_var rfl) ev_c (T.sg _))) (fun _ => et_is (et_test (ev_op (ev_var rfl) ev_c rv_I0)) gt1)) (fun hb H2 e2 => ?_) (fun hb H2 e2 => ?_)
  · obtain ⟨hsg, hr1⟩ := and_d.mp hb
    have er : ∀ {σ : L2.St} {H : Hp}, σ[2]? = some (some (.int ((r : Nat) : Int))) → Ev (tOp (rI0 fun i j => V.int (i - j)) (tVar 2) (tC (.int 1))) σ H (.int (((r - 1 : Nat)) : Int)) := fun hs => ev_is (ev_op (ev_var hs) ev_c rv_I0) (congrArg V.int (by omega))
    refine sq_drop (t_take rfl (ev_var rfl) (hc1.ex e2) (signs_ne hsg) (fun _ H3 k3 c3 => ?_) (fun z => absurd rfl z))
    have k13 : Kp [cu] H H3 := (kp_ex (e1.trans e2)).trans k3
    have p3 := hp.onc hc k13
    refine sq_set (t_re rfl rfl (er rfl) (by omega) c3 p3 N (fun e v H4 k4 h4 d4 kk4 c4 x4 => ?_) (fun m hm => hE m (ex_op1 hsg hr1 (by rw [tl]; exact hm))))
    refine ⟨_, rfl, _, rfl, t_re rfl rfl (er rfl) (by omega) c4 (p3.onc c3 kk4) N (fun e' v' H5 k5 h5 d5 kk5 c5 x5 => ⟨sz (show 3 ≤ 1000000 by decide), fun p hp5 => ?_⟩) (fun m hm => hE m (ex_op2 hsg hr1 (by rw [tl]; exact h4) hm))⟩
    have kn : Kp [] H5 (upd H5 p (.tup [.str (hdW (all.drop k)), v, v'])) := Kp.new hp5
    refine hQ (.op (hdW (all.drop k)) e e') _ _ k5 (ex_op hsg hr1 (by rw [tl]; exact h4) h5) (by show max _ _ + 1 ≤ r; omega) ((k13.trans kk4).trans (kk5.trans kn.nil)) (c5.kp kn (by simp) (by simp)) ⟨hsg, p, v, v', rfl, upd_same, (x4.kp kk5).kp kn, x5.kp kn⟩
  have n1 := nand_d hb
  have f2 := e1.trans e2
  refine q_whenS (b := decide (hdW (all.drop k) = "has" ∨ hdW (all.drop k) = "cell") && (decide (1 < r) && decide (sc.table ≠ []))) (et_and (et_is (et_or (et_eqS (ev_var rfl) ev_c) (fun _ => et_eqS (ev_var rfl) ev_c)) (by rw [Bool.eq_iff_iff, Bool.or_eq_true, decide_eq_true_eq, decide_eq_true_eq, decide_eq_true_eq]))
    (fun _ => et_and (et_is (et_test (ev_op (ev_var rfl) ev_c rv_I0)) gt1) (fun _ => fun Hx ex Qx qx => ?_))) (fun hb H3 e3 => ?_) (fun hb H3 e3 => ?_)
  · refine ev_scf T (hp.ex (f2.trans ex)) rfl .table Hx (Evl.Ex.refl Hx) _ fun Hy ey => ⟨_, .inl ⟨_, SqL.of (((hp.ex (f2.trans ex)).ex ey).l .table (by decide)), ?_⟩, qx Hy ey⟩
    show decide (sc.table ≠ []) = !(sc.table.map V.str).isEmpty
    cases sc.table <;> rfl
  · obtain ⟨hk, hb⟩ := Bool.and_eq_true_iff.mp hb
    obtain ⟨hr1, ht⟩ := and_d.mp hb
    have hk := dec_t hk
    have er : ∀ {σ : L2.St} {H : Hp}, σ[2]? = some (some (.int ((r : Nat) : Int))) → Ev (tOp (rI0 fun i j => V.int (i - j)) (tVar 2) (tC (.int 1))) σ H (.int (((r - 1 : Nat)) : Int)) := fun hs => ev_is (ev_op (ev_var hs) ev_c rv_I0) (congrArg V.int (by omega))
    refine sq_drop (t_take rfl (ev_var rfl) (hc.ex (f2.trans e3)) (tabk_ne hk) (fun _ H4 k4 c4 => ?_) (fun z => absurd rfl z))
    have k14 : Kp [cu] H H4 := (kp_ex (f2.trans e3)).trans k4
    have p4 := hp.onc hc k14
    refine sq_set (t_one rfl (ev_scf T p4 rfl .table) c4 (SqL.of (p4.l .table (by decide))) (N .table) (fun hm H5 k5 c5 => ?_) (fun hm => ?_))
    · have p5 := p4.onc c4 k5
      have tl2 := dtail (all := all) (k := k + 1)
      refine ⟨_, rfl, _, rfl, t_re rfl rfl (er rfl) (by omega) c5 p5 N (fun e v H6 k6 h6 d6 kk6 c6 x6 => ⟨sz (show 3 ≤ 1000000 by decide), fun p hp6 => ?_⟩) (fun m hm' => hE m (ex_tab1 N hk hr1 ht (by rw [tl]; exact hm) (by rw [tl, tl2]; exact hm')))⟩
      have kn : Kp [] H6 (upd H6 p (.tup [.str (hdW (all.drop k)), .str (hdW (all.drop (k + 1))), v])) := Kp.new hp6
      have hx := ex_tab N hk hr1 ht (by rw [tl]; exact hm) (by rw [tl, tl2]; exact h6)
      rw [tl] at hx
      exact hQ _ _ _ k6 hx (by show _ + 1 ≤ r; omega) ((k14.trans k5).trans (kk6.trans kn.nil)) (c6.kp kn (by simp) (by simp)) ⟨hk, p, v, rfl, upd_same, x6.kp kn⟩
    · have he := ex_tab0 (sc := sc) (r := r) hk hr1 ht (by rw [tl]; exact hm)
      have := hE _ he
      rw [tl, dlen c4] at this
      exact this
  have n2 : ¬ ((hdW (all.drop k) = "has" ∨ hdW (all.drop k) = "cell") ∧ 1 < r ∧ sc.table ≠ []) := fun ⟨z1, z2, z3⟩ => by
    rw [decide_eq_true z1, decide_eq_true z2, decide_eq_true z3] at hb
    cases hb
  have f3 := f2.trans e3
  refine q_whenS (b := decide (hdW (all.drop k) ∈ sc.get .loc)) (et_test (ev_inLS (ev_var rfl) (ev_scf T (hp.ex f3) rfl .loc) (SqL.of ((hp.ex f3).l .loc (by decide))))) (fun hb H4 e4 => ?_) (fun hb3 H4 e4 => ?_)
  · have hm := dec_t hb
    refine sq_drop (t_take rfl (ev_var rfl) (hc.ex (f3.trans e4)) (hd_mem_ne (t := .loc) N hm) (fun _ H5 k5 c5 => ?_) (fun z => absurd rfl z))
    refine ⟨_, rfl, sz (show 2 ≤ 1000000 by decide), fun p hp5 => ?_⟩
    have kn : Kp [] H5 (upd H5 p (.tup [.str "local", .str (hdW (all.drop k))])) := Kp.new hp5
    have hx := ex_loc (r := r) N n1 n2 hm
    rw [tl] at hx
    exact hQ _ _ _ (k + 1) hx (Nat.zero_le _) (((kp_ex (f3.trans e4)).trans k5).trans kn.nil) (c5.kp kn (by simp) (by simp)) ⟨p, rfl, upd_same⟩
  have f4 := f3.trans e4
  refine q_whenS (b := decide (hdW (all.drop k) ∈ sc.get .var)) (et_test (ev_inLS (ev_var rfl) (ev_scf T (hp.ex f4) rfl .var) (SqL.of ((hp.ex f4).l .var (by decide))))) (fun hb H5 e5 => ?_) (fun hb4 H5 e5 => ?_)
  · have hm := dec_t hb
    refine sq_drop (t_take rfl (ev_var rfl) (hc.ex (f4.trans e5)) (hd_mem_ne (t := .var) N hm) (fun _ H6 k6 c6 => ?_) (fun z => absurd rfl z))
    refine ⟨_, rfl, sz (show 2 ≤ 1000000 by decide), fun p hp6 => ?_⟩
    have kn : Kp [] H6 (upd H6 p (.tup [.str "variable", .str (hdW (all.drop k))])) := Kp.new hp6
    have hx := ex_var (r := r) N n1 n2 hm
    rw [tl] at hx
    exact hQ _ _ _ (k + 1) hx (Nat.zero_le _) (((kp_ex (f4.trans e5)).trans k6).trans kn.nil) (c6.kp kn (by simp) (by simp)) ⟨p, rfl, upd_same⟩
  have f5 := f4.trans e5
  refine t_num rfl ev_c ev_c (hc.ex f5) (by decide) (fun m hm h0 h1 H6 k6 c6 => ⟨sz (show 2 ≤ 1000000 by decide), fun p hp6 => ?_⟩) (fun hno => ?_)
  · have kn : Kp [] H6 (upd H6 p (.tup [.str "number", .int m])) := Kp.new hp6
    have hx := ex_num (sc := sc) (r := r) n1 n2 hm h1
    rw [tl] at hx
    exact hQ _ _ _ (k + 1) hx (Nat.zero_le _) (((kp_ex f5).trans k6).trans kn.nil) (c6.kp kn (by simp) (by simp)) ⟨p, rfl, upd_same, h0, by omega⟩
  · have := hE _ (ex_no (r := r) n1 n2 (dec_f hb3) (dec_f hb4) hno)
    rw [dlen hc] at this
    exact this
theorem fn_read_expression (T : Txt K mg) (h_word : MtP P w K mg base CX0 1 (He.ga K "Cursor") "word" ["self"] (spWord K)) (h_take : MtP P w K mg base (L2N.CX P w) 5 (He.ga K "Cursor") "take" ["self", "word"] (spTake K))
    (h_take_one : MtP P w K mg base (L2N.CX P w) 5 (He.ga K "Cursor") "take_one" ["self", "words"] (spOne K)) (h_take_number : MtP P w K mg base (L2N.CX P w) 5 (He.ga K "Cursor") "take_number" ["self", "least", "most"] (spTNum K)) :
    ∀ n : Nat, FnP P w K mg base (L2N.CX P w) (5 + n) "read_expression" ["cursor", "scope", "room"] (spRE K n)
  | 0 => FnP.no T.d_read_expression T.g_read_expression ba_read_expression fun vs H Q E ⟨_, _, _, _, _, _, _, _, _, h, _⟩ => by omega
  | n + 1 => fn_read_expression1 T h_word h_take h_take_one h_take_number (fn_read_expression T h_word h_take h_take_one h_take_number n)
end
end K4

/-! The program: statements and blocks are read. -/
namespace K4
open PySem PySem.Spec PyProof.Rows L2 Evl
def spBeg (K : PySem.W.Frag) : Sp := fun vs H Q _ => ∃ x so f sc r, vs = [.str x, .ref so, .int ((r : Nat) : Int)] ∧ PSc K H so f sc ∧ RetV (.bl (begins sc r x)) H Q
def SPost (H : Hp) (cu wl : Addr) (K : PySem.W.Frag) (all : List Str) (k : Nat) (sc : Sc) (r : Nat) (Q : VK) : Prop := ∀ b v H' k', SOk sc r (all.drop k) b (all.drop k') → blkD b ≤ r → EDB 9 b → Kp [cu] H H' → CuAt K H' cu wl all k' → BlkAt H' b [v] → Q v H'
def BPost (H : Hp) (cu wl : Addr) (K : PySem.W.Frag) (all : List Str) (k : Nat) (sc : Sc) (r : Nat) (Q : VK) : Prop := ∀ b c ss H' k', BOk sc r (all.drop k) b (all.drop k') → blkD b ≤ r → EDB 9 b → Kp [cu] H H' → CuAt K H' cu wl all k' → H' c = some (.tup ss) → BlkAt H' b ss → Q (.ref c) H'
def spRP (K : PySem.W.Frag) : Sp := fun vs H Q E => ∃ cu wl all k so f sc r, vs = [.ref cu, .ref so, .str (hdW (all.drop k))] ∧ CuAt K H cu wl all (k + 1) ∧ PSc K H so f sc ∧ NoE sc ∧ begins sc r (hdW (all.drop k)) = true ∧ hdW (all.drop k) ≠ "bad" ∧ hdW (all.drop k) ≠ "after" ∧ hdW (all.drop k) ≠ "if" ∧
  SPost H cu wl K all k sc r Q ∧ ∀ n, SErr sc r (all.drop k) n → ErrE K E (all.length - n)
def spRS (K : PySem.W.Frag) (n : Nat) : Sp := fun vs H Q E => ∃ cu wl all k so f sc r, vs = [.ref cu, .ref so, .int ((r : Nat) : Int)] ∧ r < n ∧ CuAt K H cu wl all k ∧ PSc K H so f sc ∧ NoE sc ∧ begins sc r (hdW (all.drop k)) = true ∧
  SPost H cu wl K all k sc r Q ∧ ∀ n, SErr sc r (all.drop k) n → ErrE K E (all.length - n)
def spRB (K : PySem.W.Frag) (n : Nat) : Sp := fun vs H Q E => ∃ cu wl all k so f sc r, vs = [.ref cu, .ref so, .int ((r : Nat) : Int)] ∧ r < n ∧ CuAt K H cu wl all k ∧ PSc K H so f sc ∧ NoE sc ∧
  BPost H cu wl K all k sc r Q ∧ ∀ n, BErr sc r (all.drop k) n → ErrE K E (all.length - n)
section
variable {K : PySem.W.Frag} {mg : Str → Option Value} {H : Hp} {σ : L2.St} {cu wl so : Addr} {all : List Str} {k i j n r : Nat} {E : XK} {f : Tb → Addr} {sc : Sc} {te : TE} {Q : VK} {t : Tb}
theorem ev_bool (T : Txt K mg) (hp : PSc K H so f sc) (hs : σ[i]? = some (some (.ref so))) (ht : t ≠ .proc) : Ev (tCB (fun xs H Q => ∃ (a : Addr) (zs : List V), xs = [.ref a] ∧ SqL K H a zs ∧ Q (.bl (!zs.isEmpty)) H) (tCons (tFld K (tVar i) (fldS t)) tNil)) σ H (.bl (!(sc.get t).isEmpty)) := by
  have h : Ev (tFld K (tVar i) (fldS t)) σ H (.ref (f t)) := by
    cases t with
    | proc => exact absurd rfl ht
    | var => exact ev_scf T hp hs .var
    | table => exact ev_scf T hp hs .table
    | lots => exact ev_scf T hp hs .lots
    | loc => exact ev_scf T hp hs .loc
    | asked => exact ev_scf T hp hs .asked
  refine ev_cb (ea_cons h ea_nil) fun H1 e1 Q q => ⟨_, _, rfl, SqL.of ((hp.ex e1).l t ht), ?_⟩
  have : (!(List.map V.str (sc.get t)).isEmpty) = !(sc.get t).isEmpty := by cases sc.get t <;> rfl
  rw [this]
  exact q H1 (Evl.Ex.refl H1)
theorem t_rb (hs : σ[i]? = some (some (.ref cu))) (ho : σ[j]? = some (some (.ref so))) (hr : Ev te σ H (.int ((r : Nat) : Int))) (hn : r < n) (h : CuAt K H cu wl all k) (hp : PSc K H so f sc) (N : NoE sc)
    (ok : BPost H cu wl K all k sc r Q) (err : ∀ n, BErr sc r (all.drop k) n → ErrE K E (all.length - n)) : tCall (spRB K n) [] E (tCons (tVar i) (tCons (tVar j) (tCons te tNil))) σ H Q :=
  ⟨_, hs, _, ho, hr H (Evl.Ex.refl H) _ fun H1 e1 => ⟨cu, wl, all, k, so, f, sc, r, rfl, hn, h.ex e1, hp.ex e1, N, fun b c ss H' k' h1 h2 h3 h4 h5 h6 h7 => ok b c ss H' k' h1 h2 h3 ((kp_ex e1).trans h4) h5 h6 h7, err⟩⟩
end
section
variable {P : Program} {w : World} {K : PySem.W.Frag} {mg : Str → Option Value} {base : Heap}
theorem fn_begins (T : Txt K mg) : FnP P w K mg base CX0 1 "begins" ["word", "scope", "room"] (spBeg K) := by
  have S : FnScope ["word", "scope", "room"] ["word", "scope", "room"] (defScope (top 23)) := ⟨rfl, rfl, rfl, by decide +kernel, rfl, by decide +kernel, by decide +kernel⟩
  have nd := S.nd
  refine FnP.of0 T.d_begins T.g_begins S ba_begins (fun vs H Q E h => ?_) (fun cdv A outer s H vs Q E hr h => ?_)
  · obtain ⟨x, so, f, sc, r, rfl, _⟩ := h
    rfl
  obtain ⟨x, so, f, sc, r, rfl, hp, hQ⟩ := h
  refine ⟨_, (pss_cons (ps_if (pt_cmpR op_eq (pv 0) pe_str (nomark _)) (pss_one (ps_ret (pe_callTy call_boolL (by rfl) T.f_bool (by decide +kernel) (pa_cons (pe_fld (pv 1) rfl) pa_nil)))) pss_nil)
    (pss_cons (ps_if (pt_cmpR op_eq (pv 0) pe_str (nomark _)) (pss_one (ps_ret (pe_callTy call_boolL (by rfl) T.f_bool (by decide +kernel) (pa_cons (pe_fld (pv 1) rfl) pa_nil)))) pss_nil)
    (pss_cons (ps_if (pt_cmpR op_eq (pv 0) pe_str (nomark _)) (pss_one (ps_ret (pe_callTy call_boolL (by rfl) T.f_bool (by decide +kernel) (pa_cons (pe_fld (pv 1) rfl) pa_nil)))) pss_nil)
    (pss_cons (ps_if (pt_cmpR op_eq (pv 0) pe_str (nomark _)) (pss_one (ps_ret (pe_callTy call_boolL (by rfl) T.f_bool (by decide +kernel) (pa_cons (pe_fld (pv 1) rfl) pa_nil)))) pss_nil)
    (pss_cons (ps_if (PW.pt (pw_or (pt_cmpR op_eq (pv 0) pe_str (nomark _)) (pw_or1 (pt_cmpR op_eq (pv 0) pe_str (nomark _))))) (pss_one (ps_ret (pe_cmpR op_gt (pv 2) pe_int (nomark _)))) pss_nil)
    (pss_one (ps_ret (pe_cmpR op_in_seq (pv 0) (pe_tup (pa_cons pe_str (pa_cons pe_str (pa_cons pe_str pa_nil)))) (by with_unfolding_all rfl))))))))), ?_⟩
  have fin : ∀ {te : TE} {b : Bool} {D : Ends} {H1 : Hp}, Evl.Ex H H1 → D.rt = Q → begins sc r x = b → Ev te [some (.str x), some (.ref so), some (.int ((r : Nat) : Int))] H1 (.bl b) → tRet te D [some (.str x), some (.ref so), some (.int ((r : Nat) : Int))] H1 := fun {te b D H1} e hD hb h => s_ret h fun H2 e2 => by
    rw [hD, ← hb]
    exact hQ H2 (e.trans e2)
  refine q_whenS (et_eqS (ev_var rfl) ev_c) (fun hb H1 e1 => fin e1 rfl (by unfold begins; rw [if_pos (dec_t hb)]; rfl) (ev_bool T (hp.ex e1) rfl (t := .var) (by decide))) (fun n1 H1 e1 => ?_)
  have n1 := dec_f n1
  refine q_whenS (et_eqS (ev_var rfl) ev_c) (fun hb H2 e2 => fin (e1.trans e2) rfl (by unfold begins; rw [if_neg n1, if_pos (dec_t hb)]; rfl) (ev_bool T (hp.ex (e1.trans e2)) rfl (t := .table) (by decide))) (fun n2 H2 e2 => ?_)
  have n2 := dec_f n2
  have f2 := e1.trans e2
  refine q_whenS (et_eqS (ev_var rfl) ev_c) (fun hb H3 e3 => fin (f2.trans e3) rfl (by unfold begins; rw [if_neg n1, if_neg n2, if_pos (dec_t hb)]; rfl) (ev_bool T (hp.ex (f2.trans e3)) rfl (t := .lots) (by decide))) (fun n3 H3 e3 => ?_)
  have n3 := dec_f n3
  have f3 := f2.trans e3
  refine q_whenS (et_eqS (ev_var rfl) ev_c) (fun hb H4 e4 => fin (f3.trans e4) rfl (by unfold begins; rw [if_neg n1, if_neg n2, if_neg n3, if_pos (dec_t hb)]; rfl) (ev_bool T (hp.ex (f3.trans e4)) rfl (t := .asked) (by decide))) (fun n4 H4 e4 => ?_)
  have n4 := dec_f n4
  have f4 := f3.trans e4
  refine q_whenS (b := decide (x = "if" ∨ x = "after")) (et_is (et_or (et_eqS (ev_var rfl) ev_c) (fun _ => et_eqS (ev_var rfl) ev_c)) (by rw [Bool.eq_iff_iff, Bool.or_eq_true, decide_eq_true_eq, decide_eq_true_eq, decide_eq_true_eq])) (fun hb H5 e5 => fin (f4.trans e5) rfl (by unfold begins; rw [if_neg n1, if_neg n2, if_neg n3, if_neg n4, if_pos (dec_t hb)]) (ev_is (ev_op (ev_var rfl) ev_c rv_I0) (congrArg V.bl gt0))) (fun n5 H5 e5 => ?_)
  refine fin (f4.trans e5) rfl ?_ (ev_inS (l := [("let" : Str), "draw", "bad"]) (ev_var rfl) (eu_tup (ea_cons ev_c (ea_cons ev_c (ea_cons ev_c ea_nil))) (by decide)))
  unfold begins
  rw [if_neg n1, if_neg n2, if_neg n3, if_neg n4, if_neg (dec_f n5)]
  refine decide_eq_decide.mpr ?_
  simp
theorem fn_read_plain (T : Txt K mg) (h_take_one : MtP P w K mg base (L2N.CX P w) 5 (He.ga K "Cursor") "take_one" ["self", "words"] (spOne K)) (h_take_number : MtP P w K mg base (L2N.CX P w) 5 (He.ga K "Cursor") "take_number" ["self", "least", "most"] (spTNum K))
    (h_read_expression : FnP P w K mg base (L2N.CX P w) 14 "read_expression" ["cursor", "scope", "room"] (spRE K 9)) : FnP P w K mg base (L2N.CX P w) 15 "read_plain" ["cursor", "scope", "word"] (spRP K) := by
  have S : FnScope ["cursor", "scope", "word", "name", "key", "local"] ["cursor", "scope", "word"] (defScope (top 25)) := ⟨rfl, rfl, rfl, by decide +kernel, rfl, by decide +kernel, by decide +kernel⟩
  have nd := S.nd
  refine FnP.ofX T.d_read_plain T.g_read_plain S ba_read_plain (fun vs H Q E h => ?_) (fun cdv A outer s H vs Q E hr h => ?_)
  · obtain ⟨cu, wl, all, k, so, f, sc, r, rfl, _⟩ := h
    rfl
  obtain ⟨cu, wl, all, k, so, f, sc, r, rfl, hc, hp, N, hb, m1, m2, m3, hQ, hE⟩ := h
  refine ⟨_, (pss_cons (ps_if (pt_cmpR op_eq (pv 2) pe_str (nomark _)) (pss_cons (ps_set (i := 3) nd rfl (Or.inl rfl) (pe_cm T.c_Cursor h_take_one hr passX (pv 0) (pa_cons (pe_fld (pv 1) rfl) pa_nil)))
    (pss_one (ps_ret (pe_tup (pa_cons pe_str (pa_cons (pv 3) (pa_cons (pe_cf h_read_expression hr passX (pa_cons (pv 0) (pa_cons (pv 1) (pa_cons (pe_gk T.k_DEEPEST) pa_nil)))) pa_nil))))))) pss_nil)
    (pss_cons (ps_if (pt_cmpR op_eq (pv 2) pe_str (nomark _)) (pss_cons (ps_set (i := 3) nd rfl (Or.inl rfl) (pe_cm T.c_Cursor h_take_one hr passX (pv 0) (pa_cons (pe_fld (pv 1) rfl) pa_nil)))
    (pss_cons (ps_set (i := 4) nd rfl (Or.inl rfl) (pe_cf h_read_expression hr passX (pa_cons (pv 0) (pa_cons (pv 1) (pa_cons (pe_gk T.k_DEEPEST) pa_nil)))))
    (pss_one (ps_ret (pe_tup (pa_cons pe_str (pa_cons (pv 3) (pa_cons (pv 4) (pa_cons (pe_cf h_read_expression hr passX (pa_cons (pv 0) (pa_cons (pv 1) (pa_cons (pe_gk T.k_DEEPEST) pa_nil)))) pa_nil))))))))) pss_nil)
    (pss_cons (ps_set (i := 5) nd rfl (Or.inl rfl) (pe_cm T.c_Cursor h_take_one hr passX (pv 0) (pa_cons (pe_fld (pv 1) rfl) pa_nil)))
    (pss_cons (ps_if (pt_cmpR op_eq (pv 2) pe_str (nomark _)) (pss_one (ps_ret (pe_tup (pa_cons pe_str (pa_cons (pv 5) (pa_cons (pe_cm T.c_Cursor h_take_number hr passX (pv 0) (pa_cons pe_int (pa_cons (pe_gk T.k_MOST_DRAW) pa_nil))) pa_nil)))))) pss_nil)
    (pss_cons (ps_if (pt_cmpR op_eq (pv 2) pe_str (nomark _)) (pss_one (ps_ret (pe_tup (pa_cons pe_str (pa_cons (pv 5) (pa_cons (pe_cf h_read_expression hr passX (pa_cons (pv 0) (pa_cons (pv 1) (pa_cons (pe_gk T.k_DEEPEST) pa_nil)))) pa_nil)))))) pss_nil)
    (pss_cons (ps_set (i := 3) nd rfl (Or.inl rfl) (pe_cm T.c_Cursor h_take_one hr passX (pv 0) (pa_cons (pe_ifExp (pt_cmpR op_eq (pv 2) pe_str (nomark _)) (pe_fld (pv 1) rfl) (pe_fld (pv 1) rfl)) pa_nil)))
    (pss_one (ps_ret (pe_tup (pa_cons (pv 2) (pa_cons (pv 5) (pa_cons (pv 3) (pa_cons (pe_cf h_read_expression hr passX (pa_cons (pv 0) (pa_cons (pv 1) (pa_cons (pe_gk T.k_DEEPEST) pa_nil)))) pa_nil))))))))))))), ?_⟩
  have tl := dtail (all := all) (k := k)
  have tl2 : (all.drop k).tail.tail = all.drop (k + 1 + 1) := by rw [tl, dtail]
  have tl3 : (all.drop k).tail.tail.tail = all.drop (k + 1 + 1 + 1) := by rw [tl2, dtail]
  have hl1 := dlen hc
  refine q_whenS (et_eqS (ev_var rfl) ev_c) (fun hw H1 e1 => ?_) (fun n1 H1 e1 => ?_)
  · have hw := dec_t hw
    have hv : sc.var ≠ [] := ne_of_isEmpty (by rw [← bg_set (room := r), ← hw]; exact hb)
    have p1 := hp.ex e1
    refine sq_set (t_one rfl (ev_scf T p1 rfl .var) (hc.ex e1) (SqL.of (p1.l .var (by decide))) (N .var) (fun hm H2 k2 c2 => ?_) (fun hm => ?_))
    · have p2 := p1.onc (hc.ex e1) k2
      refine ⟨_, rfl, t_re rfl rfl ev_c (r := 8) (by decide) c2 p2 N (fun e v H3 k' h3 d3 kk3 c3 x3 => ⟨sz (show 3 ≤ 1000000 by decide), fun p hp3 => ?_⟩) (fun m hm' => hE m (st_set2 N hw hv (by rw [tl]; exact hm) (by rw [tl2]; exact hm')))⟩
      have kn : Kp [] H3 (upd H3 p (.tup [.str "set", .str (hdW (all.drop (k + 1))), v])) := Kp.new hp3
      have hs := st_set (room := r) N hw hv (by rw [tl]; exact hm) (by rw [tl2]; exact h3)
      rw [tl] at hs
      exact hQ _ _ _ k' hs (Nat.zero_le _) ⟨by omega, trivial⟩ ((kp_ex e1).trans ((k2.trans kk3).trans kn.nil)) (c3.kp kn (by simp) (by simp)) ⟨by decide, p, v, [], rfl, upd_same, x3.kp kn, rfl⟩
    · have he := hE _ (st_set1 hw hv (by rw [tl]; exact hm))
      rw [tl, hl1] at he
      exact he
  have n1 := dec_f n1
  refine q_whenS (et_eqS (ev_var rfl) ev_c) (fun hw H2 e2 => ?_) (fun n2 H2 e2 => ?_)
  · have hw := dec_t hw
    have hv : sc.table ≠ [] := ne_of_isEmpty (by rw [← bg_put (room := r), ← hw]; exact hb)
    have p1 := hp.ex (e1.trans e2)
    refine sq_set (t_one rfl (ev_scf T p1 rfl .table) (hc.ex (e1.trans e2)) (SqL.of (p1.l .table (by decide))) (N .table) (fun hm H3 k3 c3 => ?_) (fun hm => ?_))
    · have p3 := p1.onc (hc.ex (e1.trans e2)) k3
      refine sq_set (t_re rfl rfl ev_c (r := 8) (by decide) c3 p3 N (fun e v H4 k4 h4 d4 kk4 c4 x4 => ?_) (fun m hm' => hE m (st_put2 N hw hv (by rw [tl]; exact hm) (by rw [tl2]; exact hm'))))
      refine ⟨_, rfl, _, rfl, t_re rfl rfl ev_c (r := 8) (by decide) c4 (p3.onc c3 kk4) N (fun e' v' H5 k5 h5 d5 kk5 c5 x5 => ⟨sz (show 4 ≤ 1000000 by decide), fun p hp5 => ?_⟩) (fun m hm' => hE m (st_put3 N hw hv (by rw [tl]; exact hm) (by rw [tl2]; exact h4) hm'))⟩
      have kn : Kp [] H5 (upd H5 p (.tup [.str "put", .str (hdW (all.drop (k + 1))), v, v'])) := Kp.new hp5
      have hs := st_put (room := r) N hw hv (by rw [tl]; exact hm) (by rw [tl2]; exact h4) h5
      rw [tl] at hs
      exact hQ _ _ _ k5 hs (Nat.zero_le _) ⟨by omega, by omega, trivial⟩ ((kp_ex (e1.trans e2)).trans (((k3.trans kk4).trans kk5).trans kn.nil)) (c5.kp kn (by simp) (by simp)) ⟨p, v, v', [], rfl, upd_same, (x4.kp kk5).kp kn, x5.kp kn, rfl⟩
    · have he := hE _ (st_put1 hw hv (by rw [tl]; exact hm))
      rw [tl, hl1] at he
      exact he
  have n2 := dec_f n2
  have f2 := e1.trans e2
  have p2 := hp.ex f2
  have c2 := hc.ex f2
  have hword := begins_word hb
  refine sq_set (t_one rfl (ev_scf T p2 rfl .loc) c2 (SqL.of (p2.l .loc (by decide))) (N .loc) (fun hm H3 k3 c3 => ?_) (fun hm => ?_))
  case refine_2 =>
    have : ErrE K E (all.length - (all.drop k).tail.length) := by
      rcases hword with z | z | z | z | z | z | z | z | z
      · exact absurd z n1
      · exact absurd z n2
      · exact hE _ (st_lot1 z (ne_of_isEmpty (by rw [← bg_lot (room := r), ← z]; exact hb)) (by rw [tl]; exact hm))
      · exact hE _ (st_ask1 z (ne_of_isEmpty (by rw [← bg_ask (room := r), ← z]; exact hb)) (by rw [tl]; exact hm))
      · exact absurd z m3
      · exact absurd z m2
      · exact hE _ (st_let1 z (by rw [tl]; exact hm))
      · exact hE _ (st_draw1 z (by rw [tl]; exact hm))
      · exact absurd z m1
    rw [tl, hl1] at this
    exact this
  have p3 := p2.onc c2 k3
  have hl2 := dlen c3
  have k03 : Kp [cu] H H3 := (kp_ex f2).trans k3
  refine q_whenS (et_eqS (ev_var rfl) ev_c) (fun hw H4 e4 => ?_) (fun n3 H4 e4 => ?_)
  · have hw := dec_t hw
    refine ⟨_, rfl, t_num rfl ev_c ev_c (c3.ex e4) (by decide) (fun m hmn h0 h1 H5 k5 c5 => ⟨sz (show 3 ≤ 1000000 by decide), fun p hp5 => ?_⟩) (fun hno => ?_)⟩
    · have kn : Kp [] H5 (upd H5 p (.tup [.str "draw", .str (hdW (all.drop (k + 1))), .int m])) := Kp.new hp5
      have hs := st_draw (room := r) N hw (by rw [tl]; exact hm) (by rw [tl2]; exact hmn) h0 h1
      rw [tl, dtail, dtail] at hs
      exact hQ _ _ _ (k + 1 + 1 + 1) hs (Nat.zero_le _) trivial (((k03.trans (kp_ex e4)).trans k5).trans kn.nil) (c5.kp kn (by simp) (by simp)) ⟨p, [], rfl, upd_same, ⟨by omega, by omega⟩, rfl⟩
    · have he := hE _ (st_draw2 N hw (by rw [tl]; exact hm) (by rw [tl2]; exact hno))
      rw [tl2, hl2] at he
      exact he
  have n3 := dec_f n3
  refine q_whenS (et_eqS (ev_var rfl) ev_c) (fun hw H5 e5 => ?_) (fun n4 H5 e5 => ?_)
  · have hw := dec_t hw
    refine ⟨_, rfl, t_re rfl rfl ev_c (r := 8) (by decide) (c3.ex (e4.trans e5)) (p3.ex (e4.trans e5)) N (fun e v H6 k' h6 d6 kk6 c6 x6 => ⟨sz (show 3 ≤ 1000000 by decide), fun p hp6 => ?_⟩) (fun m hm' => hE m (st_let2 N hw (by rw [tl]; exact hm) (by rw [tl2]; exact hm')))⟩
    have kn : Kp [] H6 (upd H6 p (.tup [.str "let", .str (hdW (all.drop (k + 1))), v])) := Kp.new hp6
    have hs := st_let (room := r) N hw (by rw [tl]; exact hm) (by rw [tl2]; exact h6)
    rw [tl] at hs
    exact hQ _ _ _ k' hs (Nat.zero_le _) ⟨by omega, trivial⟩ (((k03.trans (kp_ex (e4.trans e5))).trans kk6).trans kn.nil) (c6.kp kn (by simp) (by simp)) ⟨by decide, p, v, [], rfl, upd_same, x6.kp kn, rfl⟩
  have n4 := dec_f n4
  have f5 := e4.trans e5
  have p5 := p3.ex f5
  have c5 := c3.ex f5
  -- lot, ask
  have htwo : ∃ tb : Tb, tb ≠ .proc ∧ (hdW (all.drop k) = "lot" ∧ tb = .lots ∨ hdW (all.drop k) = "ask" ∧ tb = .asked) ∧ hdW (all.drop k) ≠ Str.empty ∧ hdW (all.drop k) ∉ oddK ∧ ∀ kd rest, run sc (.block r kd :: rest) (all.drop k) = run sc (.one .loc :: .one tb :: .value 8 :: .block r (kdE kd) :: rest) (all.drop k).tail := by
    rcases hword with z | z | z | z | z | z | z | z | z
    · exact absurd z n1
    · exact absurd z n2
    · exact ⟨.lots, by decide, .inl ⟨z, rfl⟩, by rw [z]; decide +kernel, by rw [z]; decide +kernel, fun kd rest => rb_lot z (ne_of_isEmpty (by rw [← bg_lot (room := r), ← z]; exact hb))⟩
    · exact ⟨.asked, by decide, .inr ⟨z, rfl⟩, by rw [z]; decide +kernel, by rw [z]; decide +kernel, fun kd rest => rb_ask z (ne_of_isEmpty (by rw [← bg_ask (room := r), ← z]; exact hb))⟩
    · exact absurd z m3
    · exact absurd z m2
    · exact absurd z n4
    · exact absurd z n3
    · exact absurd z m1
  obtain ⟨tb, htp, hwt, hne, hod, hrun⟩ := htwo
  have evt : Ev (tIf (tTest (tOp rEq (tVar 2) (tC (.str "lot")))) (tFld K (tVar 1) "lots") (tFld K (tVar 1) "asked")) [some (.ref cu), some (.ref so), some (.str (hdW (all.drop k))), none, none, some (.str (hdW (all.drop (k + 1))))] H5 (.ref (f tb)) := by
    refine ev_if (et_eqS (ev_var rfl) ev_c) (fun hz => ?_) (fun hz => ?_)
    · rcases hwt with ⟨z, rfl⟩ | ⟨z, rfl⟩
      · exact ev_scf T p5 rfl .lots
      · have := dec_t hz
        rw [z] at this
        exact absurd this (by decide)
    · rcases hwt with ⟨z, rfl⟩ | ⟨z, rfl⟩
      · exact absurd z (dec_f hz)
      · exact ev_scf T p5 rfl .asked
  refine sq_set (t_one rfl evt c5 (SqL.of (p5.l tb htp)) (N tb) (fun hm2 H6 k6 c6 => ?_) (fun hm2 => ?_))
  · have p6 := p5.onc c5 k6
    refine ⟨_, rfl, _, rfl, _, rfl, t_re rfl rfl ev_c (r := 8) (by decide) c6 p6 N (fun e v H7 k' h7 d7 kk7 c7 x7 => ⟨sz (show 4 ≤ 1000000 by decide), fun p hp7 => ?_⟩) (fun m hm' => hE m (st_two2 N hrun (by rw [tl]; exact hm) (by rw [tl2]; exact hm2) (by rw [tl3]; exact hm')))⟩
    have kn : Kp [] H7 (upd H7 p (.tup [.str (hdW (all.drop k)), .str (hdW (all.drop (k + 1))), .str (hdW (all.drop (k + 1 + 1))), v])) := Kp.new hp7
    have hs := st_two (room := r) N hrun rfl hne (by rw [tl]; exact hm) (by rw [tl2]; exact hm2) (by rw [tl3]; exact h7)
    rw [tl, dtail] at hs
    exact hQ _ _ _ k' hs (Nat.zero_le _) ⟨by omega, trivial⟩ ((((k03.trans (kp_ex f5)).trans k6).trans kk7).trans kn.nil) (c7.kp kn (by simp) (by simp)) ⟨hod, p, v, [], rfl, upd_same, x7.kp kn, rfl⟩
  · have he := hE _ (st_two1 (room := r) N hrun (by rw [tl]; exact hm) (by rw [tl2]; exact hm2))
    rw [tl2, hl2] at he
    exact he
end
end K4

/-! The program: statements and blocks are read, all of them. -/
namespace K4
open PySem PySem.Spec PyProof.Rows L2 Evl
section
variable {P : Program} {w : World} {K : PySem.W.Frag} {mg : Str → Option Value} {base : Heap}
theorem begins_ne {sc : Sc} {r : Nat} {ws : List Str} (h : begins sc r (hdW ws) = true) : hdW ws ≠ Str.empty := by
  rcases begins_word h with z | z | z | z | z | z | z | z | z <;> rw [z] <;> decide +kernel
theorem fn_read_statement1 (T : Txt K mg) (h_word : MtP P w K mg base CX0 1 (He.ga K "Cursor") "word" ["self"] (spWord K)) (h_take : MtP P w K mg base (L2N.CX P w) 5 (He.ga K "Cursor") "take" ["self", "word"] (spTake K)) (h_fail : MtP P w K mg base (L2N.CX P w) 4 (He.ga K "Cursor") "fail" ["self"] (spFail K))
    (h_read_expression : FnP P w K mg base (L2N.CX P w) 14 "read_expression" ["cursor", "scope", "room"] (spRE K 9)) (h_read_plain : FnP P w K mg base (L2N.CX P w) 15 "read_plain" ["cursor", "scope", "word"] (spRP K)) {n : Nat}
    (h_read_block : FnP P w K mg base (L2N.CX P w) (16 + 2 * n) "read_block" ["cursor", "scope", "room"] (spRB K n)) : FnP P w K mg base (L2N.CX P w) (16 + 2 * n + 1) "read_statement" ["cursor", "scope", "room"] (spRS K (n + 1)) := by
  have S : FnScope ["cursor", "scope", "room", "word", "block", "test", "then", "other"] ["cursor", "scope", "room"] (defScope (top 24)) := ⟨rfl, rfl, rfl, by decide +kernel, rfl, by decide +kernel, by decide +kernel⟩
  have nd := S.nd
  refine FnP.ofX T.d_read_statement T.g_read_statement S ba_read_statement (fun vs H Q E h => ?_) (fun cdv A outer s H vs Q E hr h => ?_)
  · obtain ⟨cu, wl, all, k, so, f, sc, r, rfl, _⟩ := h
    rfl
  obtain ⟨cu, wl, all, k, so, f, sc, r, rfl, hrn, hc, hp, N, hb, hQ, hE⟩ := h
  refine ⟨_, (pss_cons (ps_set (i := 3) nd rfl (Or.inl rfl) (pe_cm0 T.c_Cursor h_word hr pass0 (pv 0)))
    (pss_cons (ps_fld (pv 0) (pe_op op_add (pe_fld (pv 0) rfl) pe_int) rfl)
    (pss_cons (ps_if (pt_cmpR op_eq (pv 3) pe_str (nomark _)) (pss_one (ps_ret (pe_tup (pa_cons pe_str pa_nil)))) pss_nil)
    (pss_cons (ps_if (pt_cmpR op_eq (pv 3) pe_str (nomark _)) (pss_cons (ps_set (i := 4) nd rfl (Or.inl rfl) (pe_cf h_read_block hr passX (pa_cons (pv 0) (pa_cons (pv 1) (pa_cons (pe_op op_sub (pv 2) pe_int) pa_nil)))))
    (pss_cons (ps_expr (pe_cm T.c_Cursor h_take hr passX (pv 0) (pa_cons pe_str pa_nil)))
    (pss_one (ps_ret (pe_tup (pa_cons pe_str (pa_cons (pv 4) pa_nil))))))) pss_nil)
    (pss_cons (ps_if (pt_cmpR op_eq (pv 3) pe_str (nomark _)) (pss_cons (ps_set (i := 5) nd rfl (Or.inl rfl) (pe_cf h_read_expression hr passX (pa_cons (pv 0) (pa_cons (pv 1) (pa_cons (pe_gk T.k_DEEPEST) pa_nil)))))
    (pss_cons (ps_set (i := 6) nd rfl (Or.inl rfl) (pe_cf h_read_block hr passX (pa_cons (pv 0) (pa_cons (pv 1) (pa_cons (pe_op op_sub (pv 2) pe_int) pa_nil)))))
    (pss_cons (ps_set (i := 7) nd rfl (Or.inl rfl) (pe_tup pa_nil))
    (C8.pss_cut (ps_if (pt_cmpR op_eq (pe_cm0 T.c_Cursor h_word hr pass0 (pv 0)) pe_str (nomark _)) (pss_cons (ps_expr (pe_cm T.c_Cursor h_take hr passX (pv 0) (pa_cons pe_str pa_nil)))
    (pss_cons (ps_set (i := 7) nd rfl (Or.inl rfl) (pe_cf h_read_block hr passX (pa_cons (pv 0) (pa_cons (pv 1) (pa_cons (pe_op op_sub (pv 2) pe_int) pa_nil)))))
    (pss_one (ps_if (pt_not (pt_truth (pv 7) (by intro _; rfl))) (pss_one (ps_expr (pe_cm0 T.c_Cursor h_fail hr passX (pv 0)))) pss_nil)))) pss_nil)
    (pss_cons (ps_expr (pe_cm T.c_Cursor h_take hr passX (pv 0) (pa_cons pe_str pa_nil)))
    (pss_one (ps_ret (pe_tup (pa_cons pe_str (pa_cons (pv 5) (pa_cons (pv 6) (pa_cons (pv 7) pa_nil)))))))))))) pss_nil)
    (pss_one (ps_ret (pe_cf h_read_plain hr passX (pa_cons (pv 0) (pa_cons (pv 1) (pa_cons (pv 3) pa_nil))))))))))), ?_⟩
  have tl := dtail (all := all) (k := k)
  have hl1 := dlen hc
  have hbw := begins_word hb
  refine q_asg (ev_word (ev_var rfl) hc) fun H1 e1 => ?_
  refine q_step T.c_Cursor T.n_Cursor_at rfl (hc.ex e1) (hd_lt (begins_ne hb)) fun H2 k2 c2 => ?_
  have k02 : Kp [cu] H H2 := (kp_ex e1).trans k2
  have p2 := hp.onc hc k02
  refine q_whenS (et_eqS (ev_var rfl) ev_c) (fun hw H3 e3 => ?_) (fun n1 H3 e3 => ?_)
  · have hw := dec_t hw
    refine ⟨sz (show 1 ≤ 1000000 by decide), fun p hp3 => ?_⟩
    have kn : Kp [] H3 (upd H3 p (.tup [.str "bad"])) := Kp.new hp3
    have hs := st_bad (sc := sc) (room := r) hw
    rw [tl] at hs
    exact hQ _ _ _ (k + 1) hs (Nat.zero_le _) trivial ((k02.trans (kp_ex e3)).trans kn.nil) ((c2.ex e3).kp kn (by simp) (by simp)) ⟨p, [], rfl, upd_same, rfl⟩
  have n1 := dec_f n1
  have er : ∀ {σ : L2.St} {H : Hp}, 0 < r → σ[2]? = some (some (.int ((r : Nat) : Int))) → Ev (tOp (rI0 fun i j => V.int (i - j)) (tVar 2) (tC (.int 1))) σ H (.int (((r - 1 : Nat)) : Int)) := fun h0 hs => ev_is (ev_op (ev_var hs) ev_c rv_I0) (congrArg V.int (by omega))
  refine q_whenS (et_eqS (ev_var rfl) ev_c) (fun hw H4 e4 => ?_) (fun n2 H4 e4 => ?_)
  · have hw := dec_t hw
    have hr0 : 0 < r := by
      rw [hw, bg_after] at hb
      exact dec_t hb
    have f4 := e3.trans e4
    refine sq_set (t_rb rfl rfl (er hr0 rfl) (by omega) (c2.ex f4) (p2.ex f4) N (fun b c ss H5 k5 h5 d5 g5 kk5 c5 hc5 hb5 => ?_) (fun m hm => hE m (st_after1 hw hr0 (by rw [tl]; exact hm))))
    refine sq_drop (t_take rfl ev_c c5 (by decide) (fun hz H6 k6 c6 => ?_) (fun hz => ?_))
    · refine ⟨_, rfl, sz (show 2 ≤ 1000000 by decide), fun p hp6 => ?_⟩
      have kn : Kp [] H6 (upd H6 p (.tup [.str "after", .ref c])) := Kp.new hp6
      have hs := st_after (room := r) hw hr0 (by rw [tl]; exact h5) hz
      rw [dtail] at hs
      exact hQ _ _ _ (k5 + 1) hs (by show max _ _ ≤ r; simp only [blkD]; omega) ⟨g5, trivial⟩ ((((k02.trans (kp_ex f4)).trans kk5).trans k6).trans kn.nil) (c6.kp kn (by simp) (by simp)) ⟨p, c, ss, [], rfl, upd_same, kn.2 _ _ (k6.2 _ _ hc5), (hb5.kp k6).kp kn, rfl⟩
    · have he := hE _ (st_after2 (room := r) hw hr0 (by rw [tl]; exact h5) hz)
      rw [dlen c5] at he
      exact he
  have n2 := dec_f n2
  have f4 := e3.trans e4
  refine q_whenS (et_eqS (ev_var rfl) ev_c) (fun hw H5 e5 => ?_) (fun n3 H5 e5 => ?_)
  · have hw := dec_t hw
    have hr0 : 0 < r := by
      rw [hw, bg_if] at hb
      exact dec_t hb
    have f5 := f4.trans e5
    have c5 := c2.ex f5
    have p5 := p2.ex f5
    have k05 : Kp [cu] H H5 := k02.trans (kp_ex f5)
    refine sq_set (t_re rfl rfl ev_c (r := 8) (by decide) c5 p5 N (fun e v H6 k6 h6 d6 kk6 c6 x6 => ?_) (fun m hm => hE m (st_if1 hw hr0 (by rw [tl]; exact hm))))
    have h6' : EOk sc 8 (all.drop k).tail e (all.drop k6) := by rw [tl]; exact h6
    have p6 := p5.onc c5 kk6
    refine sq_set (t_rb rfl rfl (er hr0 rfl) (by omega) c6 p6 N (fun b c ss H7 k7 h7 d7 g7 kk7 c7 hc7 hb7 => ?_) (fun m hm => hE m (st_if2 hw hr0 h6' hm)))
    have p7 := p6.onc c6 kk7
    refine sq_set ⟨sz (show 0 ≤ 1000000 by decide), fun z hz => ?_⟩
    have kz : Kp [] H7 (upd H7 z (.tup [])) := Kp.new hz
    have c8 := c7.kp kz (by simp) (by simp)
    have p8 := p7.kp kz (by simp) (by simp)
    have k08 := ((k05.trans kk6).trans kk7).trans kz.nil
    have x8 := (x6.kp kk7).kp kz
    have hc8 := kz.2 _ _ hc7
    have hb8 := hb7.kp kz
    have hz8 : (upd H7 z (.tup [])) z = some (.tup []) := upd_same
    generalize upd H7 z (.tup []) = H8 at kz c8 p8 k08 x8 hc8 hb8 hz8 ⊢
    refine ⟨fun σ' H' => ∃ t y ts k9, σ' = [some (.ref cu), some (.ref so), some (.int ((r : Nat) : Int)), some (.str (hdW (all.drop k))), none, some v, some (.ref c), some (.ref y)] ∧ Kp [cu] H H' ∧ Kp [cu] H8 H' ∧ CuAt K H' cu wl all k9 ∧ H' y = some (.tup ts) ∧ BlkAt H' t ts ∧ blkD t ≤ r - 1 ∧ EDB 9 t ∧
      (hdW (all.drop k9) = "end" → SOk sc r (all.drop k) (.ite e b t .nil) (all.drop k9).tail) ∧ (hdW (all.drop k9) ≠ "end" → SErr sc r (all.drop k) (all.drop k9).length), ?_, ?_⟩
    · refine s_when (et_eqS (ev_word (ev_var rfl) c8) ev_c) (fun he H9 e9 => ?_) (fun he H9 e9 => ?_)
      · have he := dec_t he
        refine sq_drop (t_take rfl ev_c (c8.ex e9) (by decide) (fun _ H10 k10 c10 => ?_) (fun z => absurd he z))
        have k810 : Kp [cu] H8 H10 := (kp_ex e9).trans k10
        have p10 := p8.onc c8 k810
        have tl7 := dtail (all := all) (k := k7)
        refine sq_set (t_rb rfl rfl (er hr0 rfl) (by omega) c10 p10 N (fun t y ts H11 k11 h11 d11 g11 kk11 c11 hy hty => ?_) (fun m hm => hE m (st_else1 hw hr0 h6' h7 he (by rw [tl7]; exact hm))))
        have h11' : BOk sc (r - 1) (all.drop k7).tail t (all.drop k11) := by rw [tl7]; exact h11
        refine s_when (b := t.isNil) (fun Hx ex Qx qx => ⟨_, rfl, _, .inr (.inl ⟨ts, SqT.of (ex _ _ hy), rfl⟩), ?_⟩) (fun ht H12 e12 => ?_) (fun ht H12 e12 => ?_)
        · have : (!(!ts.isEmpty)) = t.isNil := by rw [← hty.empty]; cases ts <;> rfl
          show Qx (!(!ts.isEmpty)) Hx
          rw [this]
          exact qx Hx (Evl.Ex.refl Hx)
        · refine s_fail (ev_var rfl) (c11.ex e12) ?_
          have := hE _ (st_else2 hw hr0 h6' h7 he h11' ht)
          rw [dlen c11] at this
          exact this
        · refine ⟨t, y, ts, k11, rfl, ((k08.trans k810).trans kk11).trans (kp_ex e12), (k810.trans kk11).trans (kp_ex e12), c11.ex e12, e12 _ _ hy, hty.ex e12, d11, g11, fun hz => st_else hw hr0 h6' h7 he h11' ht hz, fun hz => st_else3 hw hr0 h6' h7 he h11' ht hz⟩
      · have he := dec_f he
        exact ⟨.nil, z, [], k7, rfl, k08.trans (kp_ex e9), kp_ex e9, c8.ex e9, e9 _ _ hz8, rfl, Nat.zero_le _, trivial, fun hz => st_if hw hr0 h6' h7 hz, fun hz => st_if3 hw hr0 h6' h7 he hz⟩
    · rintro σ' H9 ⟨t, y, ts, k9, rfl, k09, k89, c9, hy, hty, dt, gt, hok, herr⟩
      refine sq_drop (t_take rfl ev_c c9 (by decide) (fun hz H10 k10 c10 => ?_) (fun hz => ?_))
      · refine ⟨_, rfl, _, rfl, _, rfl, sz (show 4 ≤ 1000000 by decide), fun p hp10 => ?_⟩
        have kn : Kp [] H10 (upd H10 p (.tup [.str "if", v, .ref c, .ref y])) := Kp.new hp10
        have hs := hok hz
        rw [dtail] at hs
        have k8n := (k89.trans k10).trans kn.nil
        exact hQ _ _ _ (k9 + 1) hs (by show max (max _ _ + 1) (blkD .nil) ≤ r; simp only [blkD]; omega) ⟨by omega, g7, gt, trivial⟩ ((k09.trans k10).trans kn.nil) (c10.kp kn (by simp) (by simp)) ⟨p, v, c, y, ss, ts, [], rfl, upd_same, x8.kp k8n, k8n.2 _ _ hc8, hb8.kp k8n, kn.2 _ _ (k10.2 _ _ hy), (hty.kp k10).kp kn, rfl⟩
      · have he := hE _ (herr hz)
        rw [dlen c9] at he
        exact he
  have n3 := dec_f n3
  have f5 := f4.trans e5
  have k05 : Kp [cu] H H5 := k02.trans (kp_ex f5)
  exact ⟨_, rfl, _, rfl, _, rfl, cu, wl, all, k, so, f, sc, r, rfl, c2.ex f5, p2.ex f5, N, hb, n1, n2, n3, fun b v H6 k6 h1 h2 h3 h4 h5 h6 => hQ b v H6 k6 h1 h2 h3 (k05.trans h4) h5 h6, hE⟩
theorem fn_read_block1 (T : Txt K mg) (h_word : MtP P w K mg base CX0 1 (He.ga K "Cursor") "word" ["self"] (spWord K)) (h_begins : FnP P w K mg base CX0 1 "begins" ["word", "scope", "room"] (spBeg K)) {n : Nat}
    (h_read_statement : FnP P w K mg base (L2N.CX P w) (16 + 2 * n + 1) "read_statement" ["cursor", "scope", "room"] (spRS K (n + 1))) : FnP P w K mg base (L2N.CX P w) (16 + 2 * n + 1 + 1) "read_block" ["cursor", "scope", "room"] (spRB K (n + 1)) := by
  have S : FnScope ["cursor", "scope", "room", "block"] ["cursor", "scope", "room"] (defScope (top 22)) := ⟨rfl, rfl, rfl, by decide +kernel, rfl, by decide +kernel, by decide +kernel⟩
  have nd := S.nd
  refine FnP.ofX T.d_read_block T.g_read_block S ba_read_block (fun vs H Q E h => ?_) (fun cdv A outer s H vs Q E hr h => ?_)
  · obtain ⟨cu, wl, all, k, so, f, sc, r, rfl, _⟩ := h
    rfl
  obtain ⟨cu, wl, all, k, so, f, sc, r, rfl, hrn, hc, hp, N, hQ, hE⟩ := h
  refine ⟨_, (pss_cons (ps_set (i := 3) nd rfl (Or.inl rfl) (pe_lst pa_nil))
    (pss_cons (ps_while passO (pt_val (pe_cf h_begins hr pass0 (pa_cons (pe_cm0 T.c_Cursor h_word hr pass0 (pv 0)) (pa_cons (pv 1) (pa_cons (pv 2) pa_nil))))) (pss_one (ps_expr (pe_bm PySem.F.plainAttrs_list PySem.F.slot_list_append PySem.F.type_list_append mt_append (pv 3) (pa_cons (pe_cf h_read_statement hr passX (pa_cons (pv 0) (pa_cons (pv 1) (pa_cons (pv 2) pa_nil)))) pa_nil)))))
    (pss_one (ps_ret (pe_callTy call_tuple_of (by rfl) T.f_tuple (by decide +kernel) (pa_cons (pv 3) pa_nil)))))), ?_⟩
  refine sq_set ⟨sz (show 0 ≤ 1000000 by decide), fun q hq => ?_⟩
  have kq : Kp [] H (upd H q (.lst [])) := Kp.new hq
  have hqcu : q ≠ cu := fun z => by
    obtain ⟨dx, h0⟩ := hc.ins
    rw [z, h0] at hq
    cases hq
  have hqwl : q ≠ wl := fun z => by
    have h0 := hc.ws
    rw [z, h0] at hq
    cases hq
  refine q_while (fun m σ Hc => ∃ b ss k', σ = [some (.ref cu), some (.ref so), some (.int ((r : Nat) : Int)), some (.ref q)] ∧ m = all.length - k' ∧ Kp [cu] H Hc ∧ CuAt K Hc cu wl all k' ∧ Hc q = some (.lst ss) ∧ BlkAt Hc b ss ∧ ss.length + (all.length - k') ≤ all.length ∧ PreB sc r (all.drop k) b (all.drop k') ∧ blkD b ≤ r ∧ EDB 9 b) (all.length - k)
    ⟨.nil, [], k, rfl, rfl, kq.nil, hc.kp kq (by simp) (by simp), upd_same, rfl, by show 0 + _ ≤ _; omega, preB_nil, Nat.zero_le _, trivial⟩ ?_
  rintro m σ Hc ⟨b, ss, k', rfl, rfl, kc, cc, hqc, hb, hlen, hpre, hd, he⟩
  have pc := hp.onc hc kc
  refine ⟨begins sc r (hdW (all.drop k')), et_B (ev_call (ea_cons (ev_word (ev_var rfl) cc) (ea_cons (ev_var rfl) (ea_cons (ev_var rfl) ea_nil))) fun H1 e1 Q q _ => ⟨_, so, f, sc, r, rfl, pc.ex e1, fun H2 e2 => q H2 e2⟩), fun hbg H1 e1 => ?_, fun hbg H1 e1 => ?_⟩
  · refine ⟨fun σ Hd => ∃ b ss k'', σ = [some (.ref cu), some (.ref so), some (.int ((r : Nat) : Int)), some (.ref q)] ∧ k' < k'' ∧ k'' ≤ all.length ∧ Kp [cu] H Hd ∧ CuAt K Hd cu wl all k'' ∧ Hd q = some (.lst ss) ∧ BlkAt Hd b ss ∧ ss.length + (all.length - k'') ≤ all.length ∧ PreB sc r (all.drop k) b (all.drop k'') ∧ blkD b ≤ r ∧ EDB 9 b, ?_, ?_⟩
    · rintro σ2 H2 ⟨b, ss, k'', rfl, hlt, hle, h2⟩
      exact ⟨all.length - k'', by omega, b, ss, k'', rfl, rfl, h2⟩
    · have c1 := cc.ex e1
      refine ⟨_, rfl, Or.inl ⟨rfl, _, SqL.of (e1 _ _ hqc)⟩, _, rfl, _, rfl, _, rfl, cu, wl, all, k', so, f, sc, r, rfl, hrn, c1, pc.ex e1, N, hbg, fun s v H2 k2 h1 h2 h3 h4 h5 h6 => ?_, fun m hm => hE m (preB_err hpre hm)⟩
      have hq2 : H2 q = some (.lst ss) := h4.get1 (e1 _ _ hqc) hqcu
      have hlt : k' < k2 := by
        have := h1.2.2.1
        rw [List.length_drop, List.length_drop] at this
        have := h5.le
        omega
      have hle := h5.le
      have hfew := hc.few
      have h1l := cc.le
      refine ⟨q, ss, v, rfl, rfl, hq2, szl (by omega), ?_⟩
      have ka : Kp [q] H2 (upd H2 q (.lst (ss ++ [v]))) := Kp.lst hq2 (by simp)
      refine ⟨b.app s, ss ++ [v], k2, rfl, hlt, hle, ((kc.trans (kp_ex e1)).trans h4).newer hq, h5.kp ka (by simp [hqcu.symm]) (by simp [hqwl.symm]), upd_same, (((hb.ex e1).kp h4).kp ka).app (h6.kp ka), ?_, preB_snoc hpre h1, ?_, EDB_app he h3⟩
      · rw [List.length_append, List.length_singleton]
        omega
      · rw [blkD_app]
        omega
  · refine ⟨_, rfl, q, ss, rfl, .inl ⟨SqL.of (e1 _ _ hqc), fun t ht => ?_⟩⟩
    have kt : Kp [] H1 (upd H1 t (.tup ss)) := Kp.new ht
    exact hQ b t ss _ k' ⟨hpre, hbg⟩ hd he ((kc.trans (kp_ex e1)).trans kt.nil) ((cc.ex e1).kp kt (by simp) (by simp)) upd_same ((hb.ex e1).kp kt)
theorem fn_read_block (T : Txt K mg) (h_word : MtP P w K mg base CX0 1 (He.ga K "Cursor") "word" ["self"] (spWord K)) (h_begins : FnP P w K mg base CX0 1 "begins" ["word", "scope", "room"] (spBeg K)) (h_take : MtP P w K mg base (L2N.CX P w) 5 (He.ga K "Cursor") "take" ["self", "word"] (spTake K)) (h_fail : MtP P w K mg base (L2N.CX P w) 4 (He.ga K "Cursor") "fail" ["self"] (spFail K))
    (h_read_expression : FnP P w K mg base (L2N.CX P w) 14 "read_expression" ["cursor", "scope", "room"] (spRE K 9)) (h_read_plain : FnP P w K mg base (L2N.CX P w) 15 "read_plain" ["cursor", "scope", "word"] (spRP K)) : ∀ n : Nat, FnP P w K mg base (L2N.CX P w) (16 + 2 * n) "read_block" ["cursor", "scope", "room"] (spRB K n)
  | 0 => FnP.no T.d_read_block T.g_read_block ba_read_block fun vs H Q E ⟨_, _, _, _, _, _, _, _, _, h, _⟩ => by omega
  | n + 1 => (fn_read_block1 T h_word h_begins (fn_read_statement1 T h_word h_take h_fail h_read_expression h_read_plain (fn_read_block T h_word h_begins h_take h_fail h_read_expression h_read_plain n))).mono (by omega)
end
end K4

/-! The program: instances are made; rows are read. -/
namespace K4
open PySem PySem.Spec PyProof.Rows L2 Evl
def wsT (t : Str) : List Str := if t = Str.empty then [] else Txt.split t " "
theorem wsT_join {ws : List Str} (h : ∀ x ∈ ws, 32 ∉ x.cps.toList) (h1 : ws ≠ [Str.empty]) : wsT (Txt.join " " ws) = ws := by
  unfold wsT
  by_cases hn : ws = []
  · subst hn
    rw [if_pos (by decide +kernel)]
  · have hs : Txt.split (Txt.join " " ws) " " = ws := TL.split_join (y := " ") (s := 32) (S := []) (by decide +kernel) (by decide +kernel) hn fun p hp => h p hp
    rw [if_neg]
    · exact hs
    · intro z
      rw [z] at hs
      have : Txt.split Str.empty " " = [Str.empty] := by decide +kernel
      rw [this] at hs
      exact h1 hs.symm
def spCuI (K : PySem.W.Frag) : Sp := fun vs H Q _ => ∃ x dx t, vs = [.ref x, .str t] ∧ t.length ≤ 10000000 ∧ H x = some (.ins (He.ga K "Cursor") dx []) ∧ ∀ wl H', Kp [x] H H' → H' x = some (.ins (He.ga K "Cursor") dx [("words", .ref wl), ("at", .int 0)]) → H' wl = some (.lst ((wsT t).map V.str)) → Q .non H'
def spScI (K : PySem.W.Frag) : Sp := fun vs H Q _ => ∃ x dx ak, vs = [.ref x, .ref ak] ∧ H x = some (.ins (He.ga K "Scope") dx []) ∧ ∀ v t l lo H', Kp [x] H H' → H' x = some (.ins (He.ga K "Scope") dx [("asked", .ref ak), ("variables", .ref v), ("tables", .ref t), ("lots", .ref l), ("locals", .ref lo)]) →
  H' v = some (.lst []) → H' t = some (.lst []) → H' l = some (.lst []) → H' lo = some (.lst []) → v ≠ t → v ≠ l → v ≠ lo → t ≠ l → t ≠ lo → l ≠ lo → (∀ q ∈ [v, t, l, lo], H q = none) → Q .non H'
def spGmI (K : PySem.W.Frag) : Sp := fun vs H Q _ => ∃ x dx a1 a2 a3 a4 x1 x2 x3 x4, vs = [.ref x, .ref a1, .ref a2, .ref a3, .ref a4] ∧ H x = some (.ins (He.ga K "Game") dx []) ∧ H a1 = some (.lst x1) ∧ H a2 = some (.tup x2) ∧ H a3 = some (.tup x3) ∧ H a4 = some (.lst x4) ∧
  ∀ b1 b4 H', Kp [x] H H' → H' x = some (.ins (He.ga K "Game") dx [("variables", .ref b1), ("tables", .ref a2), ("lots", .ref a3), ("procs", .ref b4)]) → H' b1 = some (.tup x1) → H' b4 = some (.tup x4) → Q .non H'
section
variable {P : Program} {w : World} {K : PySem.W.Frag} {mg : Str → Option Value} {base : Heap}
theorem fn_Cursor (T : Txt K mg) : MakP P w K mg base CX0 1 (He.ga K "Cursor") "Cursor" ["self", "text"] (spCuI K) := by
  have S : FnScope ["self", "text"] ["self", "text"] (defScope (meth 10 0)) := ⟨rfl, rfl, rfl, by decide +kernel, rfl, by decide +kernel, by decide +kernel⟩
  have nd := S.nd
  refine MakP.of0 T.d_Cursor_init T.m_Cursor T.g_Cursor S ba_Cursor_init (fun vs H Q E h => ?_) (fun cdv A outer s H vs Q E hr h => ?_)
  · obtain ⟨x, dx, t, rfl, _⟩ := h
    rfl
  obtain ⟨x, dx, t, rfl, ht, hx, hQ⟩ := h
  refine ⟨_, (pss_cons (ps_fld (pv 0) (pe_ifExp (pt_cmpR op_ne (pv 1) pe_str (nomark _)) (pe_split (pv 1) pe_str) (pe_lst pa_nil)) rfl)
    (pss_one (ps_fld (pv 0) pe_int rfl))), ?_⟩
  refine (show ∀ {D : Ends} {σ : L2.St} {tw tz : TS}, tw { D with nx := tz D } σ H → tSeq tw tz D σ H from fun h => h) ?_
  have el : EvL (tIf (tTest (tOp rNe (tVar 1) (tC (.str "")))) (tM1 (fun x xs H Q => ∃ a b, x = .str a ∧ xs = [.str b] ∧ (b.length == 0) = false ∧ a.length + 2 ≤ sizeLine ∧ rNewStrs (Txt.split a b) H Q) (tVar 1) (tC (.str " "))) (tLst tNil)) [some (.ref x), some (.str t)] H ((wsT t).map V.str) := fun H1 e1 Q1 q1 => by
    refine et_neS (ev_var rfl) ev_c H1 e1 _ fun H2 e2 => ?_
    unfold wsT at q1
    by_cases hz : t = Str.empty
    · rw [if_pos hz] at q1
      have hz' : t = (Str.ofString "") := hz
      rw [decide_eq_true hz']
      refine iteF ⟨sz (show 0 ≤ 1000000 by decide), fun p hp => q1 p _ (fresh_back e2 hp) (e2.trans (Evl.Ex.new hp)) upd_same⟩
    · rw [if_neg hz] at q1
      have hz' : ¬ t = (Str.ofString "") := hz
      rw [decide_eq_false hz']
      refine iteT ⟨_, rfl, ⟨_, rfl⟩, t, _, rfl, rfl, by decide +kernel, ?_, fun p hp => q1 p _ (fresh_back e2 hp) (e2.trans (Evl.Ex.new hp)) upd_same⟩
      rw [sizeLine_eq]
      omega
  refine el H (Evl.Ex.refl H) _ fun wl H1 hwl e1 h1 => ⟨_, rfl, x, _, dx, _, rfl, e1 _ _ hx, T.c_Cursor, T.n_Cursor_words, (show 0 < 1000 by decide), ?_⟩
  have hx1 := e1 _ _ hx
  have nx : wl ≠ x := fun z => by rw [z, hx] at hwl; cases hwl
  refine ⟨_, rfl, x, _, dx, _, rfl, upd_same, T.c_Cursor, T.n_Cursor_at, (show 1 < 1000 by decide), ?_⟩
  refine hQ wl _ ?_ upd_same (get_upd (get_upd h1 nx) nx)
  exact ((kp_ex e1).trans (Kp.ins hx1 (by simp))).trans (Kp.ins upd_same (by simp))
theorem fn_Scope (T : Txt K mg) : MakP P w K mg base CX0 1 (He.ga K "Scope") "Scope" ["self", "asked"] (spScI K) := by
  have S : FnScope ["self", "asked"] ["self", "asked"] (defScope (meth 18 0)) := ⟨rfl, rfl, rfl, by decide +kernel, rfl, by decide +kernel, by decide +kernel⟩
  have nd := S.nd
  refine MakP.of0 T.d_Scope_init T.m_Scope T.g_Scope S ba_Scope_init (fun vs H Q E h => ?_) (fun cdv A outer s H vs Q E hr h => ?_)
  · obtain ⟨x, dx, ak, rfl, _⟩ := h
    rfl
  obtain ⟨x, dx, ak, rfl, hx, hQ⟩ := h
  refine ⟨_, (pss_cons (ps_fld (pv 0) (pv 1) rfl)
    (pss_cons (ps_fld (pv 0) (pe_lst pa_nil) rfl)
    (pss_cons (ps_fld (pv 0) (pe_lst pa_nil) rfl)
    (pss_cons (ps_fld (pv 0) (pe_lst pa_nil) rfl)
    (pss_one (ps_fld (pv 0) (pe_lst pa_nil) rfl)))))), ?_⟩
  refine ⟨_, rfl, _, rfl, x, _, dx, _, rfl, hx, T.c_Scope, T.n_Scope_asked, (show 0 < 1000 by decide), ?_⟩
  have g1 := Kp.ins (S := [x]) (o := .ins (He.ga K "Scope") dx (putF "asked" (.ref ak) [])) hx (by simp)
  have s1 : (upd H x (.ins (He.ga K "Scope") dx (putF "asked" (.ref ak) []))) x = some (.ins (He.ga K "Scope") dx [("asked", .ref ak)]) := upd_same
  generalize upd H x (.ins (He.ga K "Scope") dx (putF "asked" (.ref ak) [])) = H1 at g1 s1 ⊢
  have stp : ∀ {H1 : Hp} {fs : List (Str × V)} {fd : Str} {q : Addr}, Kp [x] H H1 → H1 x = some (.ins (He.ga K "Scope") dx fs) → H1 q = none → q ≠ x ∧ H q = none ∧ Kp [x] H (upd (upd H1 q (.lst [])) x (.ins (He.ga K "Scope") dx (putF fd (.ref q) fs))) := fun {H1 fs fd q} k h hq => by
    have hqx : q ≠ x := fun z => by rw [z, h] at hq; cases hq
    refine ⟨hqx, ?_, (k.trans (Kp.new hq)).trans (Kp.ins (get_new hq h) (by simp))⟩
    cases z : H q with
    | none => rfl
    | some o => rw [k.get1 z hqx] at hq; cases hq
  refine ⟨sz (show 0 ≤ 1000000 by decide), fun v hv => ⟨_, rfl, x, _, dx, _, rfl, get_new hv s1, T.c_Scope, T.n_Scope_variables, (show 1 < 1000 by decide), ?_⟩⟩
  obtain ⟨nv, hvn, g2⟩ := stp (fd := "variables") g1 s1 hv
  have s2 : (upd (upd H1 v (.lst [])) x (.ins (He.ga K "Scope") dx (putF "variables" (.ref v) [("asked", .ref ak)]))) x = some (.ins (He.ga K "Scope") dx [("asked", .ref ak), ("variables", .ref v)]) := upd_same
  have l2 : (upd (upd H1 v (.lst [])) x (.ins (He.ga K "Scope") dx (putF "variables" (.ref v) [("asked", .ref ak)]))) v = some (.lst []) := get_upd upd_same nv
  generalize upd (upd H1 v (.lst [])) x (.ins (He.ga K "Scope") dx (putF "variables" (.ref v) [("asked", .ref ak)])) = H2 at g2 s2 l2 ⊢
  refine ⟨sz (show 0 ≤ 1000000 by decide), fun t ht => ⟨_, rfl, x, _, dx, _, rfl, get_new ht s2, T.c_Scope, T.n_Scope_tables, (show 2 < 1000 by decide), ?_⟩⟩
  obtain ⟨nt, htn, g3⟩ := stp (fd := "tables") g2 s2 ht
  have nvt := ne_of_none l2 ht
  have s3 : (upd (upd H2 t (.lst [])) x (.ins (He.ga K "Scope") dx (putF "tables" (.ref t) [("asked", .ref ak), ("variables", .ref v)]))) x = some (.ins (He.ga K "Scope") dx [("asked", .ref ak), ("variables", .ref v), ("tables", .ref t)]) := upd_same
  have l3 : (upd (upd H2 t (.lst [])) x (.ins (He.ga K "Scope") dx (putF "tables" (.ref t) [("asked", .ref ak), ("variables", .ref v)]))) v = some (.lst []) := get_upd (get_new ht l2) nv
  have m3 : (upd (upd H2 t (.lst [])) x (.ins (He.ga K "Scope") dx (putF "tables" (.ref t) [("asked", .ref ak), ("variables", .ref v)]))) t = some (.lst []) := get_upd upd_same nt
  generalize upd (upd H2 t (.lst [])) x (.ins (He.ga K "Scope") dx (putF "tables" (.ref t) [("asked", .ref ak), ("variables", .ref v)])) = H3 at g3 s3 l3 m3 ⊢
  refine ⟨sz (show 0 ≤ 1000000 by decide), fun l hl => ⟨_, rfl, x, _, dx, _, rfl, get_new hl s3, T.c_Scope, T.n_Scope_lots, (show 3 < 1000 by decide), ?_⟩⟩
  obtain ⟨nl, hln, g4⟩ := stp (fd := "lots") g3 s3 hl
  have nvl := ne_of_none l3 hl
  have ntl := ne_of_none m3 hl
  have s4 : (upd (upd H3 l (.lst [])) x (.ins (He.ga K "Scope") dx (putF "lots" (.ref l) [("asked", .ref ak), ("variables", .ref v), ("tables", .ref t)]))) x = some (.ins (He.ga K "Scope") dx [("asked", .ref ak), ("variables", .ref v), ("tables", .ref t), ("lots", .ref l)]) := upd_same
  have l4 : (upd (upd H3 l (.lst [])) x (.ins (He.ga K "Scope") dx (putF "lots" (.ref l) [("asked", .ref ak), ("variables", .ref v), ("tables", .ref t)]))) v = some (.lst []) := get_upd (get_new hl l3) nv
  have m4 : (upd (upd H3 l (.lst [])) x (.ins (He.ga K "Scope") dx (putF "lots" (.ref l) [("asked", .ref ak), ("variables", .ref v), ("tables", .ref t)]))) t = some (.lst []) := get_upd (get_new hl m3) nt
  have o4 : (upd (upd H3 l (.lst [])) x (.ins (He.ga K "Scope") dx (putF "lots" (.ref l) [("asked", .ref ak), ("variables", .ref v), ("tables", .ref t)]))) l = some (.lst []) := get_upd upd_same nl
  generalize upd (upd H3 l (.lst [])) x (.ins (He.ga K "Scope") dx (putF "lots" (.ref l) [("asked", .ref ak), ("variables", .ref v), ("tables", .ref t)])) = H4 at g4 s4 l4 m4 o4 ⊢
  refine ⟨sz (show 0 ≤ 1000000 by decide), fun lo hlo => ⟨_, rfl, x, _, dx, _, rfl, get_new hlo s4, T.c_Scope, T.n_Scope_locals, (show 4 < 1000 by decide), ?_⟩⟩
  obtain ⟨nlo, hlon, g5⟩ := stp (fd := "locals") g4 s4 hlo
  exact hQ v t l lo _ g5 upd_same (get_upd (get_new hlo l4) nv) (get_upd (get_new hlo m4) nt) (get_upd (get_new hlo o4) nl) (get_upd upd_same nlo) nvt nvl (ne_of_none l4 hlo) ntl (ne_of_none m4 hlo) (ne_of_none o4 hlo) fun q hq => by
    simp only [List.mem_cons, List.not_mem_nil, or_false] at hq
    rcases hq with rfl | rfl | rfl | rfl
    · exact hvn
    · exact htn
    · exact hln
    · exact hlon
theorem fn_Game (T : Txt K mg) : MakP P w K mg base CX0 1 (He.ga K "Game") "Game" ["self", "variables", "tables", "lots", "procs"] (spGmI K) := by
  have S : FnScope ["self", "variables", "tables", "lots", "procs"] ["self", "variables", "tables", "lots", "procs"] (defScope (meth 17 0)) := ⟨rfl, rfl, rfl, by decide +kernel, rfl, by decide +kernel, by decide +kernel⟩
  have nd := S.nd
  refine MakP.of0 T.d_Game_init T.m_Game T.g_Game S ba_Game_init (fun vs H Q E h => ?_) (fun cdv A outer s H vs Q E hr h => ?_)
  · obtain ⟨x, dx, a1, a2, a3, a4, x1, x2, x3, x4, rfl, _⟩ := h
    rfl
  obtain ⟨x, dx, a1, a2, a3, a4, x1, x2, x3, x4, rfl, hx, h1, h2, h3, h4, hQ⟩ := h
  refine ⟨_, (pss_cons (ps_fld (pv 0) (pe_callTy call_tuple_of (by rfl) T.f_tuple (by decide +kernel) (pa_cons (pv 1) pa_nil)) rfl)
    (pss_cons (ps_fld (pv 0) (pe_callTy call_tuple_of (by rfl) T.f_tuple (by decide +kernel) (pa_cons (pv 2) pa_nil)) rfl)
    (pss_cons (ps_fld (pv 0) (pe_callTy call_tuple_of (by rfl) T.f_tuple (by decide +kernel) (pa_cons (pv 3) pa_nil)) rfl)
    (pss_one (ps_fld (pv 0) (pe_callTy call_tuple_of (by rfl) T.f_tuple (by decide +kernel) (pa_cons (pv 4) pa_nil)) rfl))))), ?_⟩
  have n4 : a4 ≠ x := ne_of h4 hx (by intro z; cases z)
  refine ⟨_, rfl, a1, x1, rfl, .inl ⟨SqL.of h1, fun b1 hb1 => ⟨_, rfl, x, _, dx, _, rfl, get_new hb1 hx, T.c_Game, T.n_Game_variables, (show 0 < 1000 by decide), ?_⟩⟩⟩
  have nb1 : b1 ≠ x := fun z => by rw [z, hx] at hb1; cases hb1
  have g1 : Kp [x] H (upd (upd H b1 (.tup x1)) x (.ins (He.ga K "Game") dx (putF "variables" (.ref b1) []))) := (Kp.new hb1).trans (Kp.ins (get_new hb1 hx) (by simp))
  have s1 : (upd (upd H b1 (.tup x1)) x (.ins (He.ga K "Game") dx (putF "variables" (.ref b1) []))) x = some (.ins (He.ga K "Game") dx [("variables", .ref b1)]) := upd_same
  have l1 : (upd (upd H b1 (.tup x1)) x (.ins (He.ga K "Game") dx (putF "variables" (.ref b1) []))) b1 = some (.tup x1) := get_upd upd_same nb1
  generalize upd (upd H b1 (.tup x1)) x (.ins (He.ga K "Game") dx (putF "variables" (.ref b1) [])) = H1 at g1 s1 l1 ⊢
  refine ⟨_, rfl, a2, x2, rfl, .inr ⟨SqT.of (g1.2 _ _ h2), ⟨_, rfl, x, _, dx, _, rfl, s1, T.c_Game, T.n_Game_tables, (show 1 < 1000 by decide), ?_⟩⟩⟩
  have g2 := g1.trans (Kp.ins (S := [x]) (o := .ins (He.ga K "Game") dx (putF "tables" (.ref a2) [("variables", .ref b1)])) s1 (by simp))
  have s2 : (upd H1 x (.ins (He.ga K "Game") dx (putF "tables" (.ref a2) [("variables", .ref b1)]))) x = some (.ins (He.ga K "Game") dx [("variables", .ref b1), ("tables", .ref a2)]) := upd_same
  have l2 : (upd H1 x (.ins (He.ga K "Game") dx (putF "tables" (.ref a2) [("variables", .ref b1)]))) b1 = some (.tup x1) := get_upd l1 nb1
  generalize upd H1 x (.ins (He.ga K "Game") dx (putF "tables" (.ref a2) [("variables", .ref b1)])) = H2 at g2 s2 l2 ⊢
  refine ⟨_, rfl, a3, x3, rfl, .inr ⟨SqT.of (g2.2 _ _ h3), ⟨_, rfl, x, _, dx, _, rfl, s2, T.c_Game, T.n_Game_lots, (show 2 < 1000 by decide), ?_⟩⟩⟩
  have g3 := g2.trans (Kp.ins (S := [x]) (o := .ins (He.ga K "Game") dx (putF "lots" (.ref a3) [("variables", .ref b1), ("tables", .ref a2)])) s2 (by simp))
  have s3 : (upd H2 x (.ins (He.ga K "Game") dx (putF "lots" (.ref a3) [("variables", .ref b1), ("tables", .ref a2)]))) x = some (.ins (He.ga K "Game") dx [("variables", .ref b1), ("tables", .ref a2), ("lots", .ref a3)]) := upd_same
  have l3 : (upd H2 x (.ins (He.ga K "Game") dx (putF "lots" (.ref a3) [("variables", .ref b1), ("tables", .ref a2)]))) b1 = some (.tup x1) := get_upd l2 nb1
  generalize upd H2 x (.ins (He.ga K "Game") dx (putF "lots" (.ref a3) [("variables", .ref b1), ("tables", .ref a2)])) = H3 at g3 s3 l3 ⊢
  refine ⟨_, rfl, a4, x4, rfl, .inl ⟨SqL.of (g3.get1 h4 n4), fun b4 hb4 => ⟨_, rfl, x, _, dx, _, rfl, get_new hb4 s3, T.c_Game, T.n_Game_procs, (show 3 < 1000 by decide), ?_⟩⟩⟩
  have nb4 : b4 ≠ x := fun z => by rw [z, s3] at hb4; cases hb4
  exact hQ b1 b4 _ ((g3.trans (Kp.new hb4)).trans (Kp.ins (get_new hb4 s3) (by simp))) upd_same (get_upd (get_new hb4 l3) nb1) (get_upd upd_same nb4)
end
end K4

/-! The program: rows and procedures are read. -/
namespace K4
open PySem PySem.Spec PyProof.Rows L2 Evl
theorem run_hd {sc : Sc} {ws : List Str} {t : Tb} (ht : t = .table ∨ t = .lots) (hw : hdW ws = tbS t) (hs : sc.stage ≤ hdI t) (hl : (sc.get t).length ≤ 5) : run sc [.head] ws = run { sc with stage := hdI t } [.new t, .num 1 64, .num 1 64, .head] ws.tail := by
  rcases ht with rfl | rfl
  · exact run_table hw hs hl
  · exact run_lots hw hs hl
theorem push_get {sc : Sc} {w : Str} {t : Tb} : (sc.push w t).get t = sc.get t ++ [w] := by cases t <;> rfl
theorem push_other {sc : Sc} {w : Str} {t u : Tb} (h : u ≠ t) : (sc.push w t).get u = sc.get u := by
  cases t <;> cases u <;> first | rfl | exact absurd rfl h
theorem noE_push {sc : Sc} {w : Str} {t : Tb} (N : NoE sc) (hw : isName w = true) : NoE (sc.push w t) := fun u => by
  by_cases h : u = t
  · subst h
    rw [push_get]
    intro z
    rcases List.mem_append.mp z with z | z
    · exact N u z
    · rw [← List.mem_singleton.mp z, isName_empty] at hw
      cases hw
  · rw [push_other h]
    exact N u
theorem get_stage {sc : Sc} {j : Nat} {u : Tb} : ({ sc with stage := j } : Sc).get u = sc.get u := by cases u <;> rfl
theorem noE_stage {sc : Sc} {j : Nat} (N : NoE sc) : NoE { sc with stage := j } := fun u => by
  rw [get_stage]
  exact N u
def Rows1 (rows : List Row) : List Str := rows.map (·.1)
def spRR (K : PySem.W.Frag) : Sp := fun vs H Q E => ∃ cu wl all k l sc t, vs = [.ref cu, .str (tbS t), .ref l] ∧ (t = .table ∨ t = .lots) ∧ CuAt K H cu wl all k ∧ l ≠ wl ∧ H l = some (.lst ((sc.get t).map V.str)) ∧ sc.get t = [] ∧ sc.stage ≤ hdI t ∧ NoE sc ∧
  (∀ rows sc' k' H' c xs, all.drop k = rows.flatMap (rowW (tbS t)) ++ all.drop k' → run sc [.head] (all.drop k) = run sc' [.head] (all.drop k') → sc'.get t = Rows1 rows → (∀ u, u ≠ t → sc'.get u = sc.get u) → sc'.stage ≤ hdI t → (sc' = sc ∨ sc'.stage = hdI t) → NoE sc' →
    (hdW (all.drop k') = tbS t → ¬ (sc'.get t).length ≤ 5) → Kp [cu, l] H H' → CuAt K H' cu wl all k' → H' l = some (.lst ((sc'.get t).map V.str)) → H' c = some (.tup xs) → All2 (RowAt H') rows xs → Q (.ref c) H') ∧
  ∀ n, run sc [.head] (all.drop k) = some n → ErrE K E (all.length - n)
section
variable {P : Program} {w : World} {K : PySem.W.Frag} {mg : Str → Option Value} {base : Heap}
theorem fn_read_rows (T : Txt K mg) (h_word : MtP P w K mg base CX0 1 (He.ga K "Cursor") "word" ["self"] (spWord K)) (h_take : MtP P w K mg base (L2N.CX P w) 5 (He.ga K "Cursor") "take" ["self", "word"] (spTake K))
    (h_take_new : MtP P w K mg base (L2N.CX P w) 5 (He.ga K "Cursor") "take_new" ["self", "names"] (spNew K)) (h_take_number : MtP P w K mg base (L2N.CX P w) 5 (He.ga K "Cursor") "take_number" ["self", "least", "most"] (spTNum K)) : FnP P w K mg base (L2N.CX P w) 6 "read_rows" ["cursor", "word", "names"] (spRR K) := by
  have S : FnScope ["cursor", "word", "names", "rows", "name", "keys"] ["cursor", "word", "names"] (defScope (top 20)) := ⟨rfl, rfl, rfl, by decide +kernel, rfl, by decide +kernel, by decide +kernel⟩
  have nd := S.nd
  refine FnP.ofX T.d_read_rows T.g_read_rows S ba_read_rows (fun vs H Q E h => ?_) (fun cdv A outer s H vs Q E hr h => ?_)
  · obtain ⟨cu, wl, all, k, l, sc, t, rfl, _⟩ := h
    rfl
  obtain ⟨cu, wl, all, k, l, sc, t, rfl, ht, hc, hwl, hl, hnil, hst, N, hQ, hE⟩ := h
  refine ⟨_, (pss_cons (ps_set (i := 3) nd rfl (Or.inl rfl) (pe_lst pa_nil))
    (pss_cons (ps_while passO (PW.pt (pw_and (pt_cmpR op_eq (pe_cm0 T.c_Cursor h_word hr pass0 (pv 0)) (pv 1) (nomark _)) (pw_and1 (pt_cmpR op_lt (pe_callB call_len (by rfl) T.f_len (by decide +kernel) (pa_cons (pv 3) pa_nil)) (pe_gk T.k_MOST_NAMES) (nomark _))))) (pss_cons (ps_expr (pe_cm T.c_Cursor h_take hr passX (pv 0) (pa_cons (pv 1) pa_nil)))
    (pss_cons (ps_set (i := 4) nd rfl (Or.inl rfl) (pe_cm T.c_Cursor h_take_new hr passX (pv 0) (pa_cons (pv 2) pa_nil)))
    (pss_cons (ps_set (i := 5) nd rfl (Or.inl rfl) (pe_cm T.c_Cursor h_take_number hr passX (pv 0) (pa_cons pe_int (pa_cons (pe_gk T.k_MOST_DRAW) pa_nil))))
    (pss_cons (ps_expr (pe_bm PySem.F.plainAttrs_list PySem.F.slot_list_append PySem.F.type_list_append mt_append (pv 3) (pa_cons (pe_tup (pa_cons (pv 4) (pa_cons (pv 5) (pa_cons (pe_cm T.c_Cursor h_take_number hr passX (pv 0) (pa_cons pe_int (pa_cons (pe_gk T.k_MOST_DRAW) pa_nil))) pa_nil)))) pa_nil)))
    (pss_one (ps_expr (pe_bm PySem.F.plainAttrs_list PySem.F.slot_list_append PySem.F.type_list_append mt_append (pv 2) (pa_cons (pv 4) pa_nil)))))))))
    (pss_one (ps_ret (pe_callTy call_tuple_of (by rfl) T.f_tuple (by decide +kernel) (pa_cons (pv 3) pa_nil)))))), ?_⟩
  have hlcu : l ≠ cu := by
    obtain ⟨dx, h0⟩ := hc.ins
    exact ne_of hl h0 (by intro z; cases z)
  have htl : t ≠ .loc := by rcases ht with rfl | rfl <;> decide
  have hte : tbS t ≠ Str.empty := by rcases ht with rfl | rfl <;> decide +kernel
  refine sq_set ⟨sz (show 0 ≤ 1000000 by decide), fun q hq => ?_⟩
  have kq : Kp [] H (upd H q (.lst [])) := Kp.new hq
  have hqcu : q ≠ cu := fun z => by
    obtain ⟨dx, h0⟩ := hc.ins
    rw [z, h0] at hq
    cases hq
  have hqwl : q ≠ wl := fun z => by
    have h0 := hc.ws
    rw [z, h0] at hq
    cases hq
  have hql : q ≠ l := fun z => by rw [z, hl] at hq; cases hq
  refine q_while (fun m σ Hc => ∃ rows sc' k' xs y4 y5, σ = [some (.ref cu), some (.str (tbS t)), some (.ref l), some (.ref q), y4, y5] ∧ m = all.length - k' ∧ Kp [cu, l] H Hc ∧ CuAt K Hc cu wl all k' ∧ Hc q = some (.lst xs) ∧ All2 (RowAt Hc) rows xs ∧ Hc l = some (.lst ((sc'.get t).map V.str)) ∧
    all.drop k = rows.flatMap (rowW (tbS t)) ++ all.drop k' ∧ run sc [.head] (all.drop k) = run sc' [.head] (all.drop k') ∧ sc'.get t = Rows1 rows ∧ (∀ u, u ≠ t → sc'.get u = sc.get u) ∧ sc'.stage ≤ hdI t ∧ (sc' = sc ∨ sc'.stage = hdI t) ∧ NoE sc' ∧ rows.length ≤ 6) (all.length - k)
    ⟨[], sc, k, [], none, none, rfl, rfl, kq.nil, hc.kp kq (by simp) (by simp), upd_same, rfl, get_new hq hl, rfl, rfl, hnil, fun _ _ => rfl, hst, .inl rfl, N, by decide⟩ ?_
  rintro m σ Hc ⟨rows, sc', k', xs, y4, y5, rfl, rfl, kc, cc, hqc, hrows, hlc, hall, hrun, hget, hoth, hstg, hst2, N', hr6⟩
  have hxl : xs.length = rows.length := hrows.length
  have hgl : (sc'.get t).length = rows.length := by rw [hget]; exact List.length_map ..
  refine ⟨decide (hdW (all.drop k') = tbS t) && decide (rows.length < 6), et_and (et_eqS (ev_word (ev_var rfl) cc) (ev_var rfl)) (fun _ => et_is (et_test (ev_op (ev_lenl (ev_var rfl) (sq_of hqc)) ev_c rv_I0)) (by rw [hxl]; exact decide_eq_decide.mpr (by omega))), fun hb H1 e1 => ?_, fun hb H1 e1 => ?_⟩
  · obtain ⟨hw, hlt⟩ := and_d.mp hb
    have c1 := cc.ex e1
    have er1 := run_hd (sc := sc') ht hw hstg (by omega)
    rw [dtail] at er1
    refine ⟨fun σ Hd => ∃ rows sc' k'' xs y4 y5, σ = [some (.ref cu), some (.str (tbS t)), some (.ref l), some (.ref q), y4, y5] ∧ k' < k'' ∧ k'' ≤ all.length ∧ Kp [cu, l] H Hd ∧ CuAt K Hd cu wl all k'' ∧ Hd q = some (.lst xs) ∧ All2 (RowAt Hd) rows xs ∧ Hd l = some (.lst ((sc'.get t).map V.str)) ∧
      all.drop k = rows.flatMap (rowW (tbS t)) ++ all.drop k'' ∧ run sc [.head] (all.drop k) = run sc' [.head] (all.drop k'') ∧ sc'.get t = Rows1 rows ∧ (∀ u, u ≠ t → sc'.get u = sc.get u) ∧ sc'.stage ≤ hdI t ∧ (sc' = sc ∨ sc'.stage = hdI t) ∧ NoE sc' ∧ rows.length ≤ 6, ?_, ?_⟩
    · rintro σ2 H2 ⟨rows, sc', k'', xs, y4, y5, rfl, hlt, hle, h2⟩
      exact ⟨all.length - k'', by omega, rows, sc', k'', xs, y4, y5, rfl, rfl, h2⟩
    refine sq_drop (t_take rfl (ev_var rfl) c1 hte (fun _ H2 k2 c2 => ?_) (fun z => absurd hw z))
    have k02 : Kp [cu, l] H H2 := (kc.trans (kp_ex e1)).trans (k2.mono (by simp))
    have hl2 : H2 l = some (.lst ((sc'.get t).map V.str)) := k2.get1 (e1 _ _ hlc) hlcu
    refine sq_set (t_new rfl (ev_var rfl) c2 (SqL.of hl2) (fun hn hnm H3 k3 c3 => ?_) (fun hz => ?_))
    case refine_2 =>
      have := hE _ (hrun.trans (er1.trans (run_new_err (t := t) (by rcases hz with hz | hz; exact .inr (.inr hz); exact .inl hz))))
      rw [dlen c2] at this
      exact this
    have er2 := er1.trans (run_new_ok (t := t) (sc := { sc' with stage := hdI t }) (rest := [.num 1 64, .num 1 64, .head]) hn (by cases t <;> exact hnm) (fun z => absurd z htl))
    rw [dtail] at er2
    have hl3 : H3 l = some (.lst ((sc'.get t).map V.str)) := k3.get1 hl2 hlcu
    refine sq_set (t_num rfl ev_c ev_c c3 (by decide) (fun m1 hm1 l1 u1 H4 k4 c4 => ?_) (fun hz => ?_))
    case refine_2 =>
      have := hE _ (hrun.trans (er2.trans (run_num_err hz)))
      rw [dlen c3] at this
      exact this
    have er3 := er2.trans (run_num_ok hm1 l1 u1)
    rw [dtail] at er3
    have hl4 : H4 l = some (.lst ((sc'.get t).map V.str)) := k4.get1 hl3 hlcu
    have k24 : Kp [cu] Hc H4 := (((kp_ex e1).trans k2).trans k3).trans k4
    have hq4 : H4 q = some (.lst xs) := k24.get1 hqc hqcu
    refine ⟨_, rfl, Or.inl ⟨rfl, _, SqL.of hq4⟩, _, rfl, _, rfl, t_num rfl ev_c ev_c c4 (by decide) (fun m2 hm2 l2 u2 H5 k5 c5 => ⟨sz (show 3 ≤ 1000000 by decide), fun p hp5 => ?_⟩) (fun hz => ?_)⟩
    case refine_2 =>
      have := hE _ (hrun.trans (er3.trans (run_num_err hz)))
      rw [dlen c4] at this
      exact this
    have er4 := er3.trans (run_num_ok hm2 l2 u2)
    rw [dtail] at er4
    have kn : Kp [] H5 (upd H5 p (.tup [.str (hdW (all.drop (k' + 1))), .int m1, .int m2])) := Kp.new hp5
    have k2n : Kp [cu] Hc (upd H5 p (.tup [.str (hdW (all.drop (k' + 1))), .int m1, .int m2])) := (k24.trans k5).trans kn.nil
    have hqn := k2n.get1 hqc hqcu
    have hln := k2n.get1 hlc hlcu
    have cn := c5.kp kn (by simp) (by simp)
    have hpn : (upd H5 p (.tup [.str (hdW (all.drop (k' + 1))), .int m1, .int m2])) p = some (.tup [.str (hdW (all.drop (k' + 1))), .int m1, .int m2]) := upd_same
    generalize upd H5 p (.tup [.str (hdW (all.drop (k' + 1))), .int m1, .int m2]) = H6 at kn k2n hqn hln cn hpn ⊢
    refine ⟨q, xs, .ref p, rfl, rfl, hqn, szl (by omega), ?_⟩
    have ka : Kp [q] H6 (upd H6 q (.lst (xs ++ [.ref p]))) := Kp.lst hqn (by simp)
    have hlq : (upd H6 q (.lst (xs ++ [.ref p]))) l = some (.lst ((sc'.get t).map V.str)) := get_upd hln hql.symm
    refine ⟨_, rfl, Or.inl ⟨rfl, _, SqL.of hlq⟩, _, rfl, l, _, _, rfl, rfl, hlq, szl (by rw [List.length_map]; omega), ?_⟩
    have kb : Kp [l] (upd H6 q (.lst (xs ++ [.ref p]))) (upd (upd H6 q (.lst (xs ++ [.ref p]))) l (.lst ((sc'.get t).map V.str ++ [.str (hdW (all.drop (k' + 1)))]))) := Kp.lst hlq (by simp)
    have e2 := c4.le
    have e5 := c5.le
    refine ⟨rows ++ [(hdW (all.drop (k' + 1)), m1, m2)], ({ sc' with stage := hdI t }).push (hdW (all.drop (k' + 1))) t, k' + 1 + 1 + 1 + 1, xs ++ [.ref p], _, _, rfl, by omega, e5, ?_, (cn.kp ka (by simp [hqcu.symm]) (by simp [hqwl.symm])).kp kb (by simp [hlcu.symm]) (by simp [Ne.symm hwl]), get_upd upd_same hql, ?_, ?_, ?_, hrun.trans er4, ?_, ?_, ?_, .inr ?_, noE_push (noE_stage N') hn, ?_⟩
    · exact (((kc.trans (k2n.mono (by simp))).newer hq)).trans (kb.mono (by simp))
    · exact ((((hrows.imp fun _ _ => RowAt.kp k2n).imp fun _ _ => RowAt.kp ka)).imp fun _ _ => RowAt.kp kb).snoc ⟨p, rfl, kb.2 _ _ (ka.2 _ _ hpn), ⟨by show 0 ≤ m1; omega, by show m1 < 100000; omega⟩, by show 0 ≤ m2; omega, by show m2 < 100000; omega⟩
    · rw [upd_same, push_get]
      have : ({ sc' with stage := hdI t } : Sc).get t = sc'.get t := by cases t <;> rfl
      rw [this, List.map_append]
      rfl
    · have ew : all.drop k' = rowW (tbS t) (hdW (all.drop (k' + 1)), m1, m2) ++ all.drop (k' + 1 + 1 + 1 + 1) := by
        conv => lhs; rw [tail_of hw hte, dtail, tail_of (ws := all.drop (k' + 1)) rfl (name_ne hn), dtail, tail_of (ws := all.drop (k' + 1 + 1)) rfl (num_ne hm1), dtail, tail_of (ws := all.drop (k' + 1 + 1 + 1)) rfl (num_ne hm2), dtail]
        rw [← numOf_str hm1, ← numOf_str hm2]
        rfl
      rw [hall, ew, List.flatMap_append, List.append_assoc]
      congr 1
    · rw [push_get]
      have : ({ sc' with stage := hdI t } : Sc).get t = sc'.get t := by cases t <;> rfl
      rw [this, hget]
      unfold Rows1
      rw [List.map_append]
      rfl
    · intro u hu
      rw [push_other hu, ← hoth u hu]
      cases u <;> rfl
    · cases t <;> exact Nat.le_refl _
    · cases t <;> rfl
    · rw [List.length_append, List.length_singleton]; omega
  · refine ⟨_, rfl, q, xs, rfl, .inl ⟨SqL.of (e1 _ _ hqc), fun c hcn => ?_⟩⟩
    have kt : Kp [] H1 (upd H1 c (.tup xs)) := Kp.new hcn
    refine hQ rows sc' k' _ c xs hall hrun hget hoth hstg hst2 N' (fun hz hle => ?_) ((kc.trans (kp_ex e1)).trans kt.nil) ((cc.ex e1).kp kt (by simp) (by simp)) (get_new hcn (e1 _ _ hlc)) upd_same ((hrows.imp fun _ _ => RowAt.kp (kp_ex e1 : Kp [] _ _)).imp fun _ _ => RowAt.kp kt)
    rw [decide_eq_true hz, decide_eq_true (show rows.length < 6 by omega)] at hb
    cases hb
end
end K4

/-! The program: a procedure is read. -/
namespace K4
open PySem PySem.Spec PyProof.Rows L2 Evl
def spPr (K : PySem.W.Frag) : Sp := fun vs H Q E => ∃ cu wl all k so f sc l, vs = [.ref cu, .ref so, .ref l] ∧ CuAt K H cu wl all k ∧ PSc K H so f sc ∧ H l = some (.lst (sc.proc.map V.str)) ∧ NoE sc ∧ hdW (all.drop k) = "proc" ∧ sc.stage ≤ 3 ∧ sc.proc.length ≤ 5 ∧ sc.var.length ≤ 1000 ∧
  (∀ pr v sc' k' f' H', k < k' → all.drop k = prW pr ++ all.drop k' → run sc [.head] (all.drop k) = run sc' [.head] (all.drop k') → sc'.proc = sc.proc ++ [pr.name] → (∀ u, u ≠ .proc → u ≠ .loc → sc'.get u = sc.get u) → sc'.stage = 3 → NoE sc' → (∀ u, u ≠ .loc → f' u = f u) → H (f' .loc) = none →
    Kp [cu, so] H H' → CuAt K H' cu wl all k' → PSc K H' so f' sc' → PrAt H' pr v → blkD pr.blk < 8 ∧ EDB 9 pr.blk ∧ exD pr.res < 10 → Q v H') ∧
  ∀ n, run sc [.head] (all.drop k) = some n → ErrE K E (all.length - n)
section
variable {K : PySem.W.Frag} {H : Hp} {σ : L2.St} {cu wl l : Addr} {all : List Str} {k i : Nat} {E : XK} {te to tl : TE} {Q : VK} {ns : List Str} {D : Ends} {xs : List V}
theorem s_appT (hx : H l = some (.lst xs)) (ha : Ev to σ H (.ref l)) (k : ∀ H1, Evl.Ex H H1 → te σ H1 fun v H2 => rAppend (.ref l) [v] H2 fun _ H3 => D.nx σ H3) : tDrop (tBM K "list" rAppend to (tCons te tNil)) D σ H :=
  ha H (Evl.Ex.refl H) _ fun H1 e1 => ⟨Or.inl ⟨rfl, xs, sq_of (e1 l _ hx)⟩, k H1 e1⟩
theorem t_newW (hs : σ[i]? = some (some (.ref cu))) (hl : EvW tl σ H (ns.map V.str)) (h : CuAt K H cu wl all k) (ok : isName (hdW (all.drop k)) = true → hdW (all.drop k) ∉ ns → ∀ H', Kp [cu] H H' → CuAt K H' cu wl all (k + 1) → Q (.str (hdW (all.drop k))) H')
    (err : isName (hdW (all.drop k)) = false ∨ hdW (all.drop k) ∈ ns → ErrE K E k) : tMeth (He.ga K "Cursor") "take_new" (spNew K) [] E (tVar i) (tCons tl tNil) σ H Q := by
  obtain ⟨dx, h0⟩ := h.ins
  exact ⟨_, hs, cu, dx, _, rfl, h0, rfl, hl H (Evl.Ex.refl H) _ fun l H1 e1 hl1 => ⟨cu, wl, all, k, l, ns, rfl, h.ex e1, SqL.of hl1, fun z z' H' k' c' => ok z z' H' ((kp_ex e1).trans k') c', err⟩⟩
end
section
variable {P : Program} {w : World} {K : PySem.W.Frag} {mg : Str → Option Value} {base : Heap}
theorem fn_read_proc (T : Txt K mg) (h_word : MtP P w K mg base CX0 1 (He.ga K "Cursor") "word" ["self"] (spWord K)) (h_take : MtP P w K mg base (L2N.CX P w) 5 (He.ga K "Cursor") "take" ["self", "word"] (spTake K))
    (h_take_new : MtP P w K mg base (L2N.CX P w) 5 (He.ga K "Cursor") "take_new" ["self", "names"] (spNew K)) (h_take_number : MtP P w K mg base (L2N.CX P w) 5 (He.ga K "Cursor") "take_number" ["self", "least", "most"] (spTNum K))
    (h_read_expression : FnP P w K mg base (L2N.CX P w) 14 "read_expression" ["cursor", "scope", "room"] (spRE K 9)) (h_read_block : FnP P w K mg base (L2N.CX P w) 30 "read_block" ["cursor", "scope", "room"] (spRB K 7)) : FnP P w K mg base (L2N.CX P w) 31 "read_proc" ["cursor", "scope", "names"] (spPr K) := by
  have S : FnScope ["cursor", "scope", "names", "name", "size", "answers", "block", "result"] ["cursor", "scope", "names"] (defScope (top 21)) := ⟨rfl, rfl, rfl, by decide +kernel, rfl, by decide +kernel, by decide +kernel⟩
  have nd := S.nd
  refine FnP.ofX T.d_read_proc T.g_read_proc S ba_read_proc (fun vs H Q E h => ?_) (fun cdv A outer s H vs Q E hr h => ?_)
  · obtain ⟨cu, wl, all, k, so, f, sc, l, rfl, _⟩ := h
    rfl
  obtain ⟨cu, wl, all, k, so, f, sc, l, rfl, hc, hp, hl, N, hw, hst, hpl, hvl, hQ, hE⟩ := h
  refine ⟨_, (pss_cons (ps_expr (pe_cm T.c_Cursor h_take hr passX (pv 0) (pa_cons pe_str pa_nil)))
    (pss_cons (ps_set (i := 3) nd rfl (Or.inl rfl) (pe_cm T.c_Cursor h_take_new hr passX (pv 0) (pa_cons (pv 2) pa_nil)))
    (pss_cons (ps_set (i := 4) nd rfl (Or.inl rfl) (pe_cm T.c_Cursor h_take_number hr passX (pv 0) (pa_cons pe_int (pa_cons (pe_gk T.k_MOST_DRAW) pa_nil))))
    (pss_cons (ps_set (i := 5) nd rfl (Or.inl rfl) (pe_cm T.c_Cursor h_take_number hr passX (pv 0) (pa_cons pe_int (pa_cons (pe_gk T.k_MOST_DRAW) pa_nil))))
    (pss_cons (ps_fld (pv 1) (pe_lst (pa_cons (pe_cm T.c_Cursor h_take_new hr passX (pv 0) (pa_cons (pe_fld (pv 1) rfl) pa_nil)) pa_nil)) rfl)
    (pss_cons (ps_while passO (PW.pt (pw_and (pt_cmpR op_eq (pe_cm0 T.c_Cursor h_word hr pass0 (pv 0)) pe_str (nomark _)) (pw_and1 (pt_cmpR op_lt (pe_callB call_len (by rfl) T.f_len (by decide +kernel) (pa_cons (pe_fld (pv 1) rfl) pa_nil)) (pe_gk T.k_MOST_NAMES) (nomark _))))) (pss_cons (ps_expr (pe_cm T.c_Cursor h_take hr passX (pv 0) (pa_cons pe_str pa_nil)))
    (pss_one (ps_expr (pe_bm PySem.F.plainAttrs_list PySem.F.slot_list_append PySem.F.type_list_append mt_append (pe_fld (pv 1) rfl) (pa_cons (pe_cm T.c_Cursor h_take_new hr passX (pv 0) (pa_cons (pe_op op_cat (pe_fld (pv 1) rfl) (pe_fld (pv 1) rfl)) pa_nil)) pa_nil))))))
    (pss_cons (ps_set (i := 6) nd rfl (Or.inl rfl) (pe_cf h_read_block hr passX (pa_cons (pv 0) (pa_cons (pv 1) (pa_cons (pe_gk T.k_DEEPEST_IF) pa_nil)))))
    (pss_cons (ps_expr (pe_cm T.c_Cursor h_take hr passX (pv 0) (pa_cons pe_str pa_nil)))
    (pss_cons (ps_set (i := 7) nd rfl (Or.inl rfl) (pe_cf h_read_expression hr passX (pa_cons (pv 0) (pa_cons (pv 1) (pa_cons (pe_gk T.k_DEEPEST) pa_nil)))))
    (pss_cons (ps_expr (pe_cm T.c_Cursor h_take hr passX (pv 0) (pa_cons pe_str pa_nil)))
    (pss_one (ps_ret (pe_tup (pa_cons (pv 3) (pa_cons (pv 4) (pa_cons (pv 5) (pa_cons (pe_callTy call_tuple_of (by rfl) T.f_tuple (by decide +kernel) (pa_cons (pe_fld (pv 1) rfl) pa_nil)) (pa_cons (pv 6) (pa_cons (pv 7) pa_nil))))))))))))))))))), ?_⟩
  have hlcu : l ≠ cu := by
    obtain ⟨dx, h0⟩ := hc.ins
    exact ne_of hl h0 (by intro z; cases z)
  have hsocu := (hp.ncu hc).1
  have er0 := run_proc hw hst hpl
  rw [dtail] at er0
  refine sq_drop (t_take rfl ev_c hc (by decide) (fun _ H1 k1 c1 => ?_) (fun z => absurd hw z))
  have hl1 := k1.get1 hl hlcu
  refine sq_set (t_new rfl (ev_var rfl) c1 (SqL.of hl1) (fun hn hnm H2 k2 c2 => ?_) (fun hz => ?_))
  case refine_2 =>
    have := hE _ (er0.trans (run_new_err (t := .proc) (by rcases hz with hz | hz; exact .inr (.inr hz); exact .inl hz)))
    rw [dlen c1] at this
    exact this
  have er1 := er0.trans (run_new_ok (t := .proc) (sc := { sc with stage := 3, loc := [] }) (rest := [.num 1 64, .num 1 64, .new .loc, .locals, .head]) hn hnm (fun z => by cases z))
  rw [dtail] at er1
  refine sq_set (t_num rfl ev_c ev_c c2 (by decide) (fun m1 hm1 l1 u1 H3 k3 c3 => ?_) (fun hz => ?_))
  case refine_2 =>
    have := hE _ (er1.trans (run_num_err hz))
    rw [dlen c2] at this
    exact this
  have er2 := er1.trans (run_num_ok hm1 l1 u1)
  rw [dtail] at er2
  refine sq_set (t_num rfl ev_c ev_c c3 (by decide) (fun m2 hm2 l2 u2 H4 k4 c4 => ?_) (fun hz => ?_))
  case refine_2 =>
    have := hE _ (er2.trans (run_num_err hz))
    rw [dlen c3] at this
    exact this
  have er3 := er2.trans (run_num_ok hm2 l2 u2)
  rw [dtail] at er3
  have k04 : Kp [cu] H H4 := ((k1.trans k2).trans k3).trans k4
  have p4 := hp.onc hc k04
  -- the first local
  refine (show ∀ {D : Ends} {σ : L2.St} {tw tz : TS}, tw { D with nx := tz D } σ H4 → tSeq tw tz D σ H4 from fun h => h) ?_
  refine t_new rfl (ev_scf T p4 rfl .var) c4 (SqL.of (p4.l .var (by decide))) (fun hn1 hnm1 H5 k5 c5 => ⟨sz (show 1 ≤ 1000000 by decide), fun lo hlo => ?_⟩) (fun hz => ?_)
  case refine_2 =>
    have := hE _ (er3.trans (run_new_err (t := .loc) (by rcases hz with hz | hz; exact .inr (.inr hz); exact .inr (.inl ⟨rfl, hz⟩))))
    rw [dlen c4] at this
    exact this
  have er4 := er3.trans (run_new_ok (t := .loc) (rest := [.locals, .head]) hn1 (by intro z; cases z) (fun _ => hnm1))
  rw [dtail] at er4
  have kn : Kp [] H5 (upd H5 lo (.lst [.str (hdW (all.drop (k + 1 + 1 + 1 + 1)))])) := Kp.new hlo
  have p5 := (p4.onc c4 k5).kp kn (by simp) (by simp)
  have c5' := c5.kp kn (by simp) (by simp)
  have hlo' : (upd H5 lo (.lst [.str (hdW (all.drop (k + 1 + 1 + 1 + 1)))])) lo = some (.lst [.str (hdW (all.drop (k + 1 + 1 + 1 + 1)))]) := upd_same
  have k05 : Kp [cu] H (upd H5 lo (.lst [.str (hdW (all.drop (k + 1 + 1 + 1 + 1)))])) := (k04.trans k5).trans kn.nil
  have hloH : H lo = none := by
    cases z : H lo with
    | none => rfl
    | some o =>
      by_cases e : lo = cu
      · obtain ⟨dx, h0⟩ := c5.ins
        rw [e, h0] at hlo
        cases hlo
      · rw [(k04.trans k5).get1 z e] at hlo
        cases hlo
  generalize upd H5 lo (.lst [.str (hdW (all.drop (k + 1 + 1 + 1 + 1)))]) = H6 at kn p5 c5' hlo' k05 ⊢
  obtain ⟨dx, hso⟩ := p5.ins
  refine ⟨_, rfl, so, _, dx, _, rfl, hso, T.c_Scope, T.n_Scope_locals, (show 5 < 1000 by decide), ?_⟩
  have ks : Kp [so] H6 (upd H6 so (.ins (He.ga K "Scope") dx (putF "locals" (.ref lo) [("asked", .ref (f .asked)), ("variables", .ref (f .var)), ("tables", .ref (f .table)), ("lots", .ref (f .lots)), ("locals", .ref (f .loc))]))) := Kp.ins hso (by simp)
  have hlso : lo ≠ so := ne_of hlo' hso (by intro z; cases z)
  have hcu6 := c5'.ins
  have k06 : Kp [cu, so] H (upd H6 so (.ins (He.ga K "Scope") dx (putF "locals" (.ref lo) [("asked", .ref (f .asked)), ("variables", .ref (f .var)), ("tables", .ref (f .table)), ("lots", .ref (f .lots)), ("locals", .ref (f .loc))]))) := (k05.mono (by simp)).trans (ks.mono (by simp))
  have p6 : PSc K (upd H6 so (.ins (He.ga K "Scope") dx (putF "locals" (.ref lo) [("asked", .ref (f .asked)), ("variables", .ref (f .var)), ("tables", .ref (f .table)), ("lots", .ref (f .lots)), ("locals", .ref (f .loc))]))) so (fL f lo) ((({ sc with stage := 3, loc := [] } : Sc).push (hdW (all.drop (k + 1))) .proc).push (hdW (all.drop (k + 1 + 1 + 1 + 1))) .loc) := by
    refine ⟨⟨dx, upd_same⟩, fun u hu => ?_⟩
    have hfs : ∀ u, u ≠ .proc → f u ≠ so := fun u hu => ne_of (p5.l u hu) hso (by intro z; cases z)
    cases u with
    | var => exact get_upd (p5.l .var (by decide)) (hfs .var (by decide))
    | table => exact get_upd (p5.l .table (by decide)) (hfs .table (by decide))
    | lots => exact get_upd (p5.l .lots (by decide)) (hfs .lots (by decide))
    | proc => exact absurd rfl hu
    | loc => exact get_upd hlo' hlso
    | asked => exact get_upd (p5.l .asked (by decide)) (hfs .asked (by decide))
  have c6 := c5'.kp ks (by simp [hsocu.symm]) (by
    obtain ⟨_, _⟩ := hc.ins
    simp only [List.mem_singleton]
    exact ne_of c5'.ws hso (by intro z; cases z))
  have hlo6 : (upd H6 so (.ins (He.ga K "Scope") dx (putF "locals" (.ref lo) [("asked", .ref (f .asked)), ("variables", .ref (f .var)), ("tables", .ref (f .table)), ("lots", .ref (f .lots)), ("locals", .ref (f .loc))]))) lo = some (.lst [.str (hdW (all.drop (k + 1 + 1 + 1 + 1)))]) := get_upd hlo' hlso
  generalize upd H6 so (.ins (He.ga K "Scope") dx (putF "locals" (.ref lo) [("asked", .ref (f .asked)), ("variables", .ref (f .var)), ("tables", .ref (f .table)), ("lots", .ref (f .lots)), ("locals", .ref (f .loc))])) = H7 at k06 p6 c6 hlo6 ⊢
  generalize hsc1 : (({ sc with stage := 3, loc := [] } : Sc).push (hdW (all.drop (k + 1))) .proc) = sc1 at er3 er4 p6
  have N1 : NoE sc1 := by
    rw [← hsc1]
    refine noE_push (fun u => ?_) hn
    cases u with
    | loc => exact fun z => by cases z
    | var => exact N .var
    | table => exact N .table
    | lots => exact N .lots
    | proc => exact N .proc
    | asked => exact N .asked
  have hs1 : sc1.loc = [] ∧ sc1.var = sc.var ∧ sc1.table = sc.table ∧ sc1.lots = sc.lots ∧ sc1.asked = sc.asked ∧ sc1.proc = sc.proc ++ [hdW (all.drop (k + 1))] ∧ sc1.stage = 3 := by
    rw [← hsc1]
    exact ⟨rfl, rfl, rfl, rfl, rfl, rfl, rfl⟩
  -- further locals
  refine nx_ ?_
  refine q_while (fun m σ Hc => ∃ ls sc2 k', σ = [some (.ref cu), some (.ref so), some (.ref l), some (.str (hdW (all.drop (k + 1)))), some (.int m1), some (.int m2), none, none] ∧ m = all.length - k' ∧ Kp [cu, so] H Hc ∧ CuAt K Hc cu wl all k' ∧ PSc K Hc so (fL f lo) sc2 ∧
    all.drop (k + 1 + 1 + 1 + 1 + 1) = ls.flatMap (fun x => [("local" : Str), x]) ++ all.drop k' ∧ run sc [.head] (all.drop k) = run sc2 [.locals, .head] (all.drop k') ∧ sc2.loc = hdW (all.drop (k + 1 + 1 + 1 + 1)) :: ls ∧ (∀ u, u ≠ .loc → sc2.get u = sc1.get u) ∧ sc2.stage = 3 ∧ NoE sc2 ∧ ls.length ≤ 5 ∧ k + 1 + 1 + 1 + 1 + 1 ≤ k') (all.length - (k + 1 + 1 + 1 + 1 + 1))
    ⟨[], _, _, rfl, rfl, k06, c6, p6, rfl, er4, by show sc1.loc ++ _ = _; rw [hs1.1]; rfl, fun u hu => push_other hu, hs1.2.2.2.2.2.2, noE_push N1 hn1, by decide, Nat.le_refl _⟩ ?_
  rintro m σ Hc ⟨ls, sc2, k', rfl, rfl, kc, cc, pc, hall, hrun, hloc, hoth, hstg, N2, hls, hkk⟩
  have hvar2 : sc2.var = sc.var := (hoth .var (by decide)).trans hs1.2.1
  have plo : Hc lo = some (.lst (sc2.loc.map V.str)) := pc.l .loc (by decide)
  refine ⟨decide (hdW (all.drop k') = "local") && decide (sc2.loc.length < 6), et_and (et_eqS (ev_word (ev_var rfl) cc) ev_c) (fun _ => et_is (et_test (ev_op (ev_lenl (ev_scf T pc rfl .loc) (sq_of plo)) ev_c rv_I0)) (by rw [List.length_map]; exact decide_eq_decide.mpr (by omega))), fun hb Ha ea => ?_, fun hb Ha ea => ?_⟩
  · obtain ⟨hwl, hlt⟩ := and_d.mp hb
    have ca := cc.ex ea
    have pa := pc.ex ea
    have fr1 := run_local (rest := [.head]) hwl hlt
    rw [dtail] at fr1
    refine ⟨fun σ Hd => ∃ ls sc2 k'', σ = [some (.ref cu), some (.ref so), some (.ref l), some (.str (hdW (all.drop (k + 1)))), some (.int m1), some (.int m2), none, none] ∧ k' < k'' ∧ k'' ≤ all.length ∧ Kp [cu, so] H Hd ∧ CuAt K Hd cu wl all k'' ∧ PSc K Hd so (fL f lo) sc2 ∧
      all.drop (k + 1 + 1 + 1 + 1 + 1) = ls.flatMap (fun x => [("local" : Str), x]) ++ all.drop k'' ∧ run sc [.head] (all.drop k) = run sc2 [.locals, .head] (all.drop k'') ∧ sc2.loc = hdW (all.drop (k + 1 + 1 + 1 + 1)) :: ls ∧ (∀ u, u ≠ .loc → sc2.get u = sc1.get u) ∧ sc2.stage = 3 ∧ NoE sc2 ∧ ls.length ≤ 5 ∧ k + 1 + 1 + 1 + 1 + 1 ≤ k'', ?_, ?_⟩
    · rintro σ2 H2 ⟨ls, sc2, k'', rfl, hlt, hle, h2⟩
      exact ⟨all.length - k'', by omega, ls, sc2, k'', rfl, rfl, h2⟩
    refine sq_drop (t_take rfl ev_c ca (by decide) (fun _ Hb kb cb => ?_) (fun z => absurd hwl z))
    have pb := pa.onc ca kb
    have plb : Hb lo = some (.lst (sc2.loc.map V.str)) := pb.l .loc (by decide)
    refine s_appT plb (ev_scf T pb rfl .loc) fun Hb2 eb2 => ?_
    have cb2 := cb.ex eb2
    have pb2 := pb.ex eb2
    have hv2l : (sc2.var ++ sc2.loc).map V.str = sc2.var.map V.str ++ sc2.loc.map V.str := List.map_append
    refine t_newW (ns := sc2.var ++ sc2.loc) rfl (by
      rw [hv2l]
      exact ew_cat (ew_R (ev_scf T pb2 rfl .var) (pb2.l .var (by decide))) (ew_R (ev_scf T pb2 rfl .loc) (pb2.l .loc (by decide))) (by rw [List.length_map, List.length_map]; show sc2.var.length + sc2.loc.length ≤ _; rw [hvar2]; omega)) cb2 (fun hn2 hnm2 Hd kd cd => ?_) (fun hz => ?_)
    case refine_2 =>
      have hz' : hdW (all.drop (k' + 1)) ∈ sc2.get .loc ∨ ((Tb.loc = .loc) ∧ hdW (all.drop (k' + 1)) ∈ sc2.var) ∨ isName (hdW (all.drop (k' + 1))) = false := by
        rcases hz with hz | hz
        · exact .inr (.inr hz)
        · rcases List.mem_append.mp hz with hz | hz
          · exact .inr (.inl ⟨rfl, hz⟩)
          · exact .inl hz
      have := hE _ (hrun.trans (fr1.trans (run_new_err (t := .loc) hz')))
      rw [dlen cb] at this
      exact this
    have hnl : hdW (all.drop (k' + 1)) ∉ sc2.loc := fun z => hnm2 (List.mem_append_right _ z)
    have hnv : hdW (all.drop (k' + 1)) ∉ sc2.var := fun z => hnm2 (List.mem_append_left _ z)
    have fr2 := fr1.trans (run_new_ok (t := .loc) (rest := [.locals, .head]) hn2 hnl (fun _ => hnv))
    rw [dtail] at fr2
    have kcd : Kp [cu] Hc Hd := (((kp_ex ea).trans kb).trans (kp_ex eb2)).trans kd
    have hlocu : lo ≠ cu := by
      obtain ⟨dxc, hcc⟩ := cc.ins
      exact ne_of plo hcc (by intro z; cases z)
    have hlowl : lo ≠ wl := fun z => by
      have := hc.ws
      rw [← z, hloH] at this
      cases this
    have pld : Hd lo = some (.lst (sc2.loc.map V.str)) := kcd.get1 plo hlocu
    refine ⟨lo, _, _, rfl, rfl, pld, szl (by rw [List.length_map]; omega), ?_⟩
    have ka : Kp [lo] Hd (upd Hd lo (.lst (sc2.loc.map V.str ++ [.str (hdW (all.drop (k' + 1)))]))) := Kp.lst pld (by simp)
    have pd := pc.onc cc kcd
    refine ⟨ls ++ [hdW (all.drop (k' + 1))], sc2.push (hdW (all.drop (k' + 1))) .loc, k' + 1 + 1, rfl, by omega, cd.le, ?_, cd.kp ka (by simp [hlocu.symm]) (by simp [hlowl.symm]), ?_, ?_, hrun.trans fr2, ?_, ?_, hstg, noE_push N2 hn2, ?_, by omega⟩
    · exact (kc.trans (kcd.mono (by simp))).newer hloH
    · obtain ⟨dxd, hsd⟩ := pd.ins
      have hloso : lo ≠ so := ne_of pld hsd (by intro z; cases z)
      refine ⟨⟨dxd, get_upd hsd hloso.symm⟩, fun u hu => ?_⟩
      have hfu : ∀ v, v ≠ .loc → v ≠ .proc → f v ≠ lo := fun v hv hv2 z => by
        have := hp.l v hv2
        rw [z, hloH] at this
        cases this
      cases u with
      | loc =>
        show (upd Hd lo _) lo = _
        rw [upd_same]
        show some (HO.lst (List.map V.str sc2.loc ++ [V.str _])) = some (HO.lst (List.map V.str (sc2.loc ++ [_])))
        rw [List.map_append]
        rfl
      | var => exact get_upd (pd.l .var (by decide)) (hfu .var (by decide) (by decide))
      | table => exact get_upd (pd.l .table (by decide)) (hfu .table (by decide) (by decide))
      | lots => exact get_upd (pd.l .lots (by decide)) (hfu .lots (by decide) (by decide))
      | proc => exact absurd rfl hu
      | asked => exact get_upd (pd.l .asked (by decide)) (hfu .asked (by decide) (by decide))
    · have ew : all.drop k' = [("local" : Str), hdW (all.drop (k' + 1))] ++ all.drop (k' + 1 + 1) := by
        conv => lhs; rw [tail_of hwl (by decide), dtail, tail_of (ws := all.drop (k' + 1)) rfl (name_ne hn2), dtail]
        rfl
      rw [hall, ew, List.flatMap_append, List.append_assoc]
      congr 1
    · show sc2.loc ++ [_] = _
      rw [hloc]
      rfl
    · intro u hu
      rw [push_other hu, hoth u hu]
    · rw [hloc, List.length_cons] at hlt
      rw [List.length_append, List.length_singleton]
      omega
  · have hbl : ¬ (hdW (all.drop k') = "local" ∧ sc2.loc.length < 6) := nand_d hb
    have er5 := hrun.trans (run_locals (rest := [.head]) hbl)
    have ca := cc.ex ea
    have pa := pc.ex ea
    refine sq_set (t_rb rfl rfl ev_c (r := 6) (by decide) ca pa N2 (fun b c ss Hb kb hbk hbd hbe kkb cb hcb hbb => ?_) (fun m hm => hE m (er5.trans (hm _ _))))
    have er6 := er5.trans (hbk.1.2 _ _)
    rw [proc_kd] at er6
    refine sq_drop (t_take rfl ev_c cb (by decide) (fun hz Hd kd cd => ?_) (fun hz => ?_))
    case refine_2 =>
      have := hE _ (er6.trans (run_block_no hbk.2 (fun z => hz z.1) (fun z => by rcases z.2 with q | q | q <;> cases q) (fun z => by cases z.2)))
      rw [dlen cb] at this
      exact this
    have er7 := er6.trans (run_block_answer hz)
    rw [dtail] at er7
    have pb := pa.onc ca kkb
    have pd := pb.onc cb kd
    refine sq_set (t_re rfl rfl ev_c (r := 8) (by decide) cd pd N2 (fun e v He ke hek hed kke ce xe => ?_) (fun m hm => hE m (er7.trans (hm _))))
    have er8 := er7.trans (hek.2 _)
    refine sq_drop (t_take rfl ev_c ce (by decide) (fun hz2 Hf kf cf => ?_) (fun hz2 => ?_))
    case refine_2 =>
      have := hE _ (er8.trans (run_word_err hz2))
      rw [dlen ce] at this
      exact this
    have er9 := er8.trans (run_word_ok hz2 (by decide))
    rw [dtail] at er9
    have pf := (pd.onc cd kke).onc ce kf
    have plf : Hf lo = some (.lst (sc2.loc.map V.str)) := pf.l .loc (by decide)
    refine ⟨_, rfl, _, rfl, _, rfl, ?_⟩
    refine ev_scf T pf rfl .loc Hf (Evl.Ex.refl Hf) _ fun Hg eg => ⟨lo, _, rfl, .inl ⟨SqL.of (eg _ _ plf), fun lt hlt => ⟨_, rfl, _, rfl, sz (show 6 ≤ 1000000 by decide), fun p hp => ?_⟩⟩⟩
    have klt : Kp [] Hg (upd Hg lt (.tup (sc2.loc.map V.str))) := Kp.new hlt
    have kp' : Kp [] (upd Hg lt (.tup (sc2.loc.map V.str))) (upd (upd Hg lt (.tup (sc2.loc.map V.str))) p (.tup [.str (hdW (all.drop (k + 1))), .int m1, .int m2, .ref lt, .ref c, v])) := Kp.new hp
    have kfg : Kp [] Hf _ := ((kp_ex eg).trans klt).trans kp'
    have kbg : Kp [cu] Hb _ := ((kd.trans kke).trans kf).trans kfg.nil
    have keg : Kp [cu] He _ := kf.trans kfg.nil
    have kcg : Kp [cu] Hc _ := (((kp_ex ea).trans kkb).trans kbg)
    refine hQ ⟨hdW (all.drop (k + 1)), m1, m2, hdW (all.drop (k + 1 + 1 + 1 + 1)), ls, b, e⟩ _ sc2 (ke + 1) (fL f lo) _ ?_ ?_ er9 ?_ ?_ hstg N2 ?_ hloH ?_ (cf.kp kfg (by simp) (by simp)) (pf.kp kfg (by simp) (by simp)) ?_ ⟨by show blkD b < 8; omega, hbe, by show exD e < 10; omega⟩
    · have q1 := congrArg List.length hbk.1.1
      have q2 := congrArg List.length hek.1
      rw [List.length_append, List.length_drop, List.length_drop] at q1 q2
      have := ce.le
      have := cb.le
      have := cc.le
      have := cd.le
      omega
    · have e0 : all.drop k = [("proc" : Str), hdW (all.drop (k + 1)), strI m1, strI m2, hdW (all.drop (k + 1 + 1 + 1 + 1))] ++ all.drop (k + 1 + 1 + 1 + 1 + 1) := by
        conv => lhs; rw [tail_of hw (by decide), dtail, tail_of (ws := all.drop (k + 1)) rfl (name_ne hn), dtail, tail_of (ws := all.drop (k + 1 + 1)) rfl (num_ne hm1), dtail, tail_of (ws := all.drop (k + 1 + 1 + 1)) rfl (num_ne hm2), dtail, tail_of (ws := all.drop (k + 1 + 1 + 1 + 1)) rfl (name_ne hn1), dtail]
        rw [← numOf_str hm1, ← numOf_str hm2]
        rfl
      have e1 : all.drop kb = ("answer" : Str) :: all.drop (kb + 1) := by
        conv => lhs; rw [tail_of hz (by decide), dtail]
      have e2 : all.drop ke = ("end" : Str) :: all.drop (ke + 1) := by
        conv => lhs; rw [tail_of hz2 (by decide), dtail]
      rw [e0, hall, hbk.1.1, e1, hek.1, e2]
      unfold prW
      simp only [List.cons_append, List.append_assoc, List.nil_append]
    · exact (hoth .proc (by decide)).trans hs1.2.2.2.2.2.1
    · intro u hu1 hu2
      rw [hoth u hu2]
      cases u with
      | var => exact hs1.2.1
      | table => exact hs1.2.2.1
      | lots => exact hs1.2.2.2.1
      | proc => exact absurd rfl hu1
      | loc => exact absurd rfl hu2
      | asked => exact hs1.2.2.2.2.1
    · intro u hu
      cases u <;> first | rfl | exact absurd rfl hu
    · exact kc.trans (kcg.mono (by simp))
    · refine ⟨p, lt, c, v, ss, rfl, upd_same, ?_, kbg.2 _ _ hcb, hbb.kp kbg, xe.kp keg, ⟨by show 0 ≤ m1; omega, by show m1 < 100000; omega⟩, by show 0 ≤ m2; omega, by show m2 < 100000; omega⟩
      rw [← hloc]
      exact kp'.2 _ _ upd_same
end
end K4

/-! The program: a game is read. -/
namespace K4
open PySem PySem.Spec PyProof.Rows L2 Evl
def spRG (K : PySem.W.Frag) : Sp := fun vs H Q E => ∃ t ta asked, vs = [.str t, .ref ta] ∧ t.length ≤ 10000000 ∧ H ta = some (.tup ((asked : List Str).map V.str)) ∧ NoE (sc0 asked) ∧ (wsT t).length ≤ 5000 ∧ (∀ x ∈ wsT t, x.length ≤ 1000) ∧
  (∀ g v H', gameW g = wsT t → run (sc0 asked) [.head] (wsT t) = none → WdOk g → GmIns K H' g v → Kp [] H H' → Q v H') ∧ ∀ n, run (sc0 asked) [.head] (wsT t) = some n → ErrE K E ((wsT t).length - n)
section
variable {K : PySem.W.Frag} {mg : Str → Option Value} {H H' : Hp} {σ : L2.St} {so : Addr} {f : Tb → Addr} {sc : Sc} {i : Nat}
theorem PSc.push (h : PSc K H so f sc) (hin : ∀ t u, t ≠ .proc → u ≠ .proc → f t = f u → t = u) {t : Tb} (ht : t ≠ .proc) {w : Str} : PSc K (upd H (f t) (.lst ((sc.get t).map V.str ++ [.str w]))) so f (sc.push w t) := by
  obtain ⟨dx, h0⟩ := h.ins
  refine ⟨⟨dx, get_upd h0 (ne_of h0 (h.l t ht) (by intro z; cases z))⟩, fun u hu => ?_⟩
  by_cases e : u = t
  · subst e
    rw [upd_same, push_get, List.map_append]
    rfl
  · rw [push_other e]
    exact get_upd (h.l u hu) fun z => e (hin u t hu ht z)
theorem PSc.same {sc' : Sc} (h : PSc K H so f sc) (e : ∀ u, u ≠ .proc → sc'.get u = sc.get u) : PSc K H so f sc' := ⟨h.ins, fun u hu => by rw [e u hu]; exact h.l u hu⟩
theorem PSc.rows {sc' : Sc} {cu : Addr} {t : Tb} (h : PSc K H so f sc) (k : Kp [cu, f t] H H') (n1 : so ≠ cu) (n2 : ∀ u, u ≠ .proc → f u ≠ cu) (hin : ∀ t u, t ≠ .proc → u ≠ .proc → f t = f u → t = u) (ht : t ≠ .proc) (hl : H' (f t) = some (.lst ((sc'.get t).map V.str))) (ho : ∀ u, u ≠ t → sc'.get u = sc.get u) : PSc K H' so f sc' := by
  obtain ⟨dx, h0⟩ := h.ins
  refine ⟨⟨dx, k.get h0 (by simp [n1, ne_of h0 (h.l t ht) (by intro z; cases z)])⟩, fun u hu => ?_⟩
  by_cases e : u = t
  · subst e; exact hl
  · rw [ho u e]
    exact k.get (h.l u hu) (by simp [n2 u hu]; exact fun z => e (hin u t hu ht z))
theorem given_true {n : Nat} {v : Nat → V} : given n (fun _ => true) v = (List.range n).map v := by
  unfold given
  rw [List.filter_eq_self.mpr fun _ _ => rfl]
theorem names_given {prs : List Pr} : given prs.length (fun _ => true) (fun i => V.str ((prs.map (·.name)).getD i Str.empty)) = (prs.map (·.name)).map V.str := by
  rw [given_true]
  refine List.ext_getElem (by simp) fun i h1 h2 => ?_
  simp at h1
  simp [h1]
theorem Kp.of (a : Kp S H H') (hS : ∀ q ∈ S, H q = none) : Kp [] H H' := Kp.offs Kp.refl a hS
end
section
variable {P : Program} {w : World} {K : PySem.W.Frag} {mg : Str → Option Value} {base : Heap}
/-- a def whose parameters all have values here, some of them defaults -/
theorem FnP.ofD {x : Str} {st : Stmt} {f : Addr} {N ps : List Str} {k : Nat} {sp : Sp} {dvs : List V} (F : ∃ fd, FunD K x x (defArgs st) (defBody st) (defScope st) dvs [] f fd) (hd : dvs ≠ []) (hg : mg x = some (.ref f)) (S : FnScope N ps (defScope st))
    (hb : ∀ (T : Addr) (kV doc pm : Value) (an : Option Addr) (cdv ct : Value) (us its : List Value), us.length = ps.length → its.length = dvs.length →
      ∃ k, bindArgs (PySem.W.fnOf x x (defArgs st) (defBody st) (defScope st) (.ref T) kV doc pm an cdv ct) ⟨us, []⟩ = seqItems? (.ref T) >>= k ∧ k (some its.toArray) = pure (ps.zip (us ++ its.drop dvs.length))) (len : ∀ vs H Q E, sp vs H Q E → vs.length = ps.length)
    (hbody : ∀ (cdv : Value) (A : Around) (outer : List Env) (s : Shared) (H : Hp) (vs : List V) (Q : VK) (E : XK), Room k (A.deeper (envOfC x (defScope st) s.heap.objs.size f cdv)) → sp vs H Q E →
      ∃ t, PSs (cxOf (L2N.CX P w) P w K mg base N x (defScope st) f cdv A outer s H E) (defBody st) t ∧ t { nx := fun _ H' => Q .non H', rt := Q } (start N vs) H) : FnP P w K mg base (L2N.CX P w) (k + 1) x ps sp := by
  obtain ⟨fd, F⟩ := F
  obtain ⟨ds, hds, hbd⟩ := F.binds1 ps.length dvs.length hd (by omega) hb
  rw [List.drop_length] at hds
  cases hds
  exact ⟨f, fd, F.ok S len hbody, hg, F.kp, hbd⟩
theorem Txt.d_read_game (T : Txt K mg) : ∃ fd, FunD K "read_game" "read_game" (defArgs (top 19)) (defBody (top 19)) (defScope (top 19)) [.ref (He.dflAt ("read_game", none) 0 K)] [] (He.ga K "read_game") fd := T.says.def_ 47 rfl
theorem fn_read_game (T : Txt K mg) (h_Cursor : MakP P w K mg base CX0 1 (He.ga K "Cursor") "Cursor" ["self", "text"] (spCuI K)) (h_Scope : MakP P w K mg base CX0 1 (He.ga K "Scope") "Scope" ["self", "asked"] (spScI K)) (h_Game : MakP P w K mg base CX0 1 (He.ga K "Game") "Game" ["self", "variables", "tables", "lots", "procs"] (spGmI K))
    (h_word : MtP P w K mg base CX0 1 (He.ga K "Cursor") "word" ["self"] (spWord K)) (h_fail : MtP P w K mg base (L2N.CX P w) 4 (He.ga K "Cursor") "fail" ["self"] (spFail K)) (h_take : MtP P w K mg base (L2N.CX P w) 5 (He.ga K "Cursor") "take" ["self", "word"] (spTake K))
    (h_take_new : MtP P w K mg base (L2N.CX P w) 5 (He.ga K "Cursor") "take_new" ["self", "names"] (spNew K)) (h_take_number : MtP P w K mg base (L2N.CX P w) 5 (He.ga K "Cursor") "take_number" ["self", "least", "most"] (spTNum K))
    (h_read_rows : FnP P w K mg base (L2N.CX P w) 6 "read_rows" ["cursor", "word", "names"] (spRR K)) (h_read_proc : FnP P w K mg base (L2N.CX P w) 31 "read_proc" ["cursor", "scope", "names"] (spPr K)) : FnP P w K mg base (L2N.CX P w) 32 "read_game" ["text", "asked"] (spRG K) := by
  have S : FnScope ["text", "asked", "cursor", "scope", "variables", "name", "size", "tables", "lots", "procs", "proc"] ["text", "asked"] (defScope (top 19)) := ⟨rfl, rfl, rfl, by decide +kernel, rfl, by decide +kernel, by decide +kernel⟩
  have nd := S.nd
  refine FnP.ofD T.d_read_game (by intro z; cases z) T.g_read_game S (fun T kV doc pm an cdv ct us its h1 h2 => ?_) (fun vs H Q E h => ?_) (fun cdv A outer s H vs Q E hr h => ?_)
  · match us, its, h1, h2 with
    | [_, _], [_], _, _ => exact ⟨_, rfl, rfl⟩
  · obtain ⟨t, ta, asked, rfl, _⟩ := h
    rfl
  obtain ⟨t, ta, asked, rfl, htl, hta, N, hfew, hsh, hQ, hE⟩ := h
  refine ⟨_, (pss_cons (ps_set (i := 2) nd rfl (Or.inl rfl) (pe_mk h_Cursor hr pass0 (pa_cons (pv 0) pa_nil)))
    (pss_cons (ps_set (i := 3) nd rfl (Or.inl rfl) (pe_mk h_Scope hr pass0 (pa_cons (pe_callTy call_list_of (by rfl) T.f_list (by decide +kernel) (pa_cons (pv 1) pa_nil)) pa_nil)))
    (pss_cons (ps_set (i := 4) nd rfl (Or.inl rfl) (pe_lst pa_nil))
    (pss_cons (ps_while passO (PW.pt (pw_and (pt_cmpR op_eq (pe_cm0 T.c_Cursor h_word hr pass0 (pv 2)) pe_str (nomark _)) (pw_and1 (pt_cmpR op_lt (pe_callB call_len (by rfl) T.f_len (by decide +kernel) (pa_cons (pv 4) pa_nil)) (pe_gk T.k_MOST_NAMES) (nomark _))))) (pss_cons (ps_expr (pe_cm T.c_Cursor h_take hr passX (pv 2) (pa_cons pe_str pa_nil)))
    (pss_cons (ps_set (i := 5) nd rfl (Or.inl rfl) (pe_cm T.c_Cursor h_take_new hr passX (pv 2) (pa_cons (pe_fld (pv 3) rfl) pa_nil)))
    (pss_cons (ps_set (i := 6) nd rfl (Or.inl rfl) (pe_cm T.c_Cursor h_take_number hr passX (pv 2) (pa_cons pe_int (pa_cons (pe_gk T.k_GREATEST) pa_nil))))
    (pss_cons (ps_expr (pe_bm PySem.F.plainAttrs_list PySem.F.slot_list_append PySem.F.type_list_append mt_append (pv 4) (pa_cons (pe_tup (pa_cons (pv 5) (pa_cons (pv 6) (pa_cons (pe_cm T.c_Cursor h_take_number hr passX (pv 2) (pa_cons pe_int (pa_cons (pe_op op_sub (pv 6) pe_int) pa_nil))) pa_nil)))) pa_nil)))
    (pss_one (ps_expr (pe_bm PySem.F.plainAttrs_list PySem.F.slot_list_append PySem.F.type_list_append mt_append (pe_fld (pv 3) rfl) (pa_cons (pv 5) pa_nil)))))))))
    (pss_cons (ps_set (i := 7) nd rfl (Or.inl rfl) (pe_cf h_read_rows hr passX (pa_cons (pv 2) (pa_cons pe_str (pa_cons (pe_fld (pv 3) rfl) pa_nil)))))
    (pss_cons (ps_set (i := 8) nd rfl (Or.inl rfl) (pe_cf h_read_rows hr passX (pa_cons (pv 2) (pa_cons pe_str (pa_cons (pe_fld (pv 3) rfl) pa_nil)))))
    (pss_cons (ps_set (i := 9) nd rfl (Or.inl rfl) (pe_lst pa_nil))
    (pss_cons (ps_while passO (PW.pt (pw_and (pt_cmpR op_eq (pe_cm0 T.c_Cursor h_word hr pass0 (pv 2)) pe_str (nomark _)) (pw_and1 (pt_cmpR op_lt (pe_callB call_len (by rfl) T.f_len (by decide +kernel) (pa_cons (pv 9) pa_nil)) (pe_gk T.k_MOST_NAMES) (nomark _))))) (pss_one (ps_expr (pe_bm PySem.F.plainAttrs_list PySem.F.slot_list_append PySem.F.type_list_append mt_append (pv 9) (pa_cons (pe_cf h_read_proc hr passX (pa_cons (pv 2) (pa_cons (pv 3) (pa_cons (pe_lc (own := [("proc", 10)]) (g := gName 10) (tt := tYes) rfl nd (pi_list (pv 9)) (blkOk_by (by kernel_rfl)) (fun _ _ _ _ _ => pg_name (i := 10) nd rfl (Or.inl rfl)) (fun _ _ _ _ _ => pts_nil) (fun _ _ _ _ _ => (pe_ix (show IxR _ (rIxT K) from ix_tup) (pv 10) pe_int (fun _ _ => rfl)))) pa_nil)))) pa_nil)))))
    (C8.pss_cut (ps_if (pt_cmpR op_lt (pe_fld (pv 2) rfl) (pe_callB call_len (by rfl) T.f_len (by decide +kernel) (pa_cons (pe_fld (pv 2) rfl) pa_nil)) (nomark _)) (pss_one (ps_expr (pe_cm0 T.c_Cursor h_fail hr passX (pv 2)))) pss_nil)
    (pss_one (ps_ret (pe_mk h_Game hr pass0 (pa_cons (pv 4) (pa_cons (pv 7) (pa_cons (pv 8) (pa_cons (pv 9) pa_nil)))))))))))))))), ?_⟩
  generalize hall : wsT t = all at hfew hsh hQ hE
  -- the cursor
  refine sq_set ⟨_, rfl, fun cu dx hcu hdx hdc => ⟨cu, dx, t, rfl, htl, upd_same, fun wl H1 k1 h1 hw1 => ⟨rfl, ?_⟩⟩⟩
  have kA : Kp [] H H1 := ((Kp.new hdx).trans (Kp.new (show (upd H dx (.own cu)) cu = none by rw [upd_ne hdc.symm]; exact hcu))).offs k1 (fun q hq => by rw [List.mem_singleton.mp hq]; exact hcu)
  rw [hall] at hw1
  have c1 : CuAt K H1 cu wl all 0 := ⟨⟨dx, h1⟩, hw1, Nat.zero_le _, by omega, hsh⟩
  -- the scope
  refine sq_set ⟨_, rfl, ta, _, rfl, .inr (SqT.of (kA.2 _ _ hta)), fun ak hak => ?_⟩
  have kak : Kp [] H1 (upd H1 ak (.lst (asked.map V.str))) := Kp.new hak
  have c2 := c1.kp kak (by simp) (by simp)
  have hakl : (upd H1 ak (.lst (asked.map V.str))) ak = some (.lst (asked.map V.str)) := upd_same
  have kB : Kp [] H (upd H1 ak (.lst (asked.map V.str))) := kA.trans kak
  have hakH : H ak = none := kA.free hak
  generalize upd H1 ak (.lst (asked.map V.str)) = H2 at kak c2 hakl kB ⊢
  refine fun so dx2 hso hdx2 hds => ⟨so, dx2, ak, rfl, upd_same, fun v tb l lo H3 k3 h3 hv ht hl hlo nvt nvl nvo ntl nto nlo hfree => ⟨rfl, ?_⟩⟩
  have kso : Kp [] H2 (upd (upd H2 dx2 (.own so)) so (.ins (He.ga K "Scope") dx2 [])) := (Kp.new hdx2).trans (Kp.new (by rw [upd_ne hds.symm]; exact hso))
  have hsoH : H so = none := kB.free hso
  have hcuso : cu ≠ so := by
    obtain ⟨d, h0⟩ := c2.ins
    exact ne_of_none h0 hso
  have k23 : Kp [] H2 H3 := kso.offs k3 (fun q hq => by rw [List.mem_singleton.mp hq]; exact hso)
  have c3 := c2.kp k23 (by simp) (by simp)
  have hfr : ∀ q ∈ [v, tb, l, lo], H2 q = none := fun q hq => kso.free (hfree q hq)
  let f : Tb → Addr := fun u => match u with
    | .var => v
    | .table => tb
    | .lots => l
    | .loc => lo
    | _ => ak
  have p3 : PSc K H3 so f (sc0 asked) := ⟨⟨dx2, h3⟩, fun u hu => by
    cases u with
    | var => exact hv
    | table => exact ht
    | lots => exact hl
    | loc => exact hlo
    | asked => exact k23.get0 hakl
    | proc => exact absurd rfl hu⟩
  have nak : ∀ q ∈ [v, tb, l, lo], ak ≠ q := fun q hq => ne_of_none hakl (hfr q hq)
  have nwl : ∀ q ∈ [v, tb, l, lo], q ≠ wl := fun q hq => (ne_of_none c2.ws (hfr q hq)).symm
  have hin : ∀ t u, t ≠ .proc → u ≠ .proc → f t = f u → t = u := fun t u h1 h2 z => by
    have a1 := nak v (by simp)
    have a2 := nak tb (by simp)
    have a3 := nak l (by simp)
    have a4 := nak lo (by simp)
    cases t <;> cases u <;> first | rfl | exact absurd rfl h1 | exact absurd rfl h2 | exact absurd z nvt | exact absurd z nvl | exact absurd z nvo | exact absurd z ntl | exact absurd z nto | exact absurd z nlo | exact absurd z a1 | exact absurd z a2 | exact absurd z a3 | exact absurd z a4 | exact absurd z.symm nvt | exact absurd z.symm nvl | exact absurd z.symm nvo | exact absurd z.symm ntl | exact absurd z.symm nto | exact absurd z.symm nlo | exact absurd z.symm a1 | exact absurd z.symm a2 | exact absurd z.symm a3 | exact absurd z.symm a4
  have hfH : ∀ u, u ≠ .proc → u ≠ .asked → H (f u) = none := fun u h1 h2 => by
    cases u with
    | var => exact kB.free (hfr v (by simp))
    | table => exact kB.free (hfr tb (by simp))
    | lots => exact kB.free (hfr l (by simp))
    | loc => exact kB.free (hfr lo (by simp))
    | asked => exact absurd rfl h2
    | proc => exact absurd rfl h1
  have hfwl : ∀ u, u ≠ .proc → u ≠ .asked → f u ≠ wl := fun u h1 h2 => by
    cases u with
    | var => exact nwl v (by simp)
    | table => exact nwl tb (by simp)
    | lots => exact nwl l (by simp)
    | loc => exact nwl lo (by simp)
    | asked => exact absurd rfl h2
    | proc => exact absurd rfl h1
  have kC : Kp [] H H3 := kB.trans k23
  -- the variables
  refine sq_set ⟨sz (show 0 ≤ 1000000 by decide), fun q hq => ?_⟩
  have kq : Kp [] H3 (upd H3 q (.lst [])) := Kp.new hq
  have c4 := c3.kp kq (by simp) (by simp)
  have p4 := p3.kp kq (by simp) (by simp)
  have hqH : H q = none := kC.free hq
  have hqf : ∀ u, u ≠ .proc → f u ≠ q := fun u hu => ne_of_none (p3.l u hu) hq
  have hqcu : cu ≠ q := by
    obtain ⟨d, h0⟩ := c3.ins
    exact ne_of_none h0 hq
  have hqwl : wl ≠ q := ne_of_none c3.ws hq
  have hqso : so ≠ q := by
    obtain ⟨d, h0⟩ := p3.ins
    exact ne_of_none h0 hq
  have fcu : ∀ u, u ≠ .proc → f u ≠ cu := (p3.ncu c3).2
  have fso : ∀ u, u ≠ .proc → f u ≠ so := fun u hu => by
    obtain ⟨d, h0⟩ := p3.ins
    exact ne_of (p3.l u hu) h0 (by intro z; cases z)
  have hd0 : all.drop 0 = all := rfl
  refine q_while (fun m σ Hc => ∃ rows sc k xs y5 y6, σ = [some (.str t), some (.ref ta), some (.ref cu), some (.ref so), some (.ref q), y5, y6, none, none, none, none] ∧ m = all.length - k ∧ Kp [] H Hc ∧ CuAt K Hc cu wl all k ∧ PSc K Hc so f sc ∧ Hc q = some (.lst xs) ∧ All2 (RowAt Hc) rows xs ∧
    all = rows.flatMap (rowW "var") ++ all.drop k ∧ run (sc0 asked) [.head] all = run sc [.head] (all.drop k) ∧ sc.var = Rows1 rows ∧ sc.table = [] ∧ sc.lots = [] ∧ sc.proc = [] ∧ sc.stage = 0 ∧ NoE sc ∧ rows.length ≤ 6) all.length
    ⟨[], sc0 asked, 0, [], none, none, rfl, rfl, kC.trans kq, c4, p4, upd_same, rfl, rfl, rfl, rfl, rfl, rfl, rfl, rfl, N, by decide⟩ ?_
  rintro m σ Hc ⟨rows, sc, k, xs, y5, y6, rfl, rfl, kc, cc, pc, hqc, hrows, hdec, hrun, hvar, htab, hlot, hprc, hstg, N1, hr6⟩
  have hxl : xs.length = rows.length := hrows.length
  have hvl : sc.var.length = rows.length := by rw [hvar]; exact List.length_map ..
  refine ⟨decide (hdW (all.drop k) = "var") && decide (rows.length < 6), et_and (et_eqS (ev_word (ev_var rfl) cc) ev_c) (fun _ => et_is (et_test (ev_op (ev_lenl (ev_var rfl) (sq_of hqc)) ev_c rv_I0)) (by rw [hxl]; exact decide_eq_decide.mpr (by omega))), fun hb Ha ea => ?_, fun hb Ha ea => ?_⟩
  · obtain ⟨hw, hlt⟩ := and_d.mp hb
    have ca := cc.ex ea
    have pa := pc.ex ea
    have er1 := run_var (sc := sc) hw (by omega) (by omega)
    rw [dtail] at er1
    refine ⟨fun σ Hd => ∃ rows sc k'' xs y5 y6, σ = [some (.str t), some (.ref ta), some (.ref cu), some (.ref so), some (.ref q), y5, y6, none, none, none, none] ∧ k < k'' ∧ k'' ≤ all.length ∧ Kp [] H Hd ∧ CuAt K Hd cu wl all k'' ∧ PSc K Hd so f sc ∧ Hd q = some (.lst xs) ∧ All2 (RowAt Hd) rows xs ∧
      all = rows.flatMap (rowW "var") ++ all.drop k'' ∧ run (sc0 asked) [.head] all = run sc [.head] (all.drop k'') ∧ sc.var = Rows1 rows ∧ sc.table = [] ∧ sc.lots = [] ∧ sc.proc = [] ∧ sc.stage = 0 ∧ NoE sc ∧ rows.length ≤ 6, ?_, ?_⟩
    · rintro σ2 H2 ⟨rows, sc, k'', xs, y5, y6, rfl, hlt, hle, h2⟩
      exact ⟨all.length - k'', by omega, rows, sc, k'', xs, y5, y6, rfl, rfl, h2⟩
    refine sq_drop (t_take rfl ev_c ca (by decide) (fun _ Hb kb cb => ?_) (fun z => absurd hw z))
    have pb := pa.onc ca kb
    refine sq_set (t_new rfl (ev_scf T pb rfl .var) cb (SqL.of (pb.l .var (by decide))) (fun hn hnm He ke ce => ?_) (fun hz => ?_))
    case refine_2 =>
      have := hE _ (hrun.trans (er1.trans (run_new_err (t := .var) (by rcases hz with hz | hz; exact .inr (.inr hz); exact .inl hz))))
      rw [dlen cb] at this
      exact this
    have er2 := er1.trans (run_new_ok (t := .var) (sc := { sc with stage := 0 }) (rest := [.size, .first, .head]) hn hnm (fun z => by cases z))
    rw [dtail] at er2
    refine sq_set (t_num rfl ev_c ev_c ce (by decide) (fun m1 hm1 l1 u1 Hf kf cf => ?_) (fun hz => ?_))
    case refine_2 =>
      have := hE _ (hrun.trans (er2.trans (run_size_err hz)))
      rw [dlen ce] at this
      exact this
    have er3 := er2.trans (run_size_ok hm1 l1 u1)
    rw [dtail] at er3
    have kcf : Kp [cu] Hc Hf := (((kp_ex ea).trans kb).trans ke).trans kf
    have hqf' : Hf q = some (.lst xs) := kcf.get1 hqc hqcu.symm
    refine ⟨_, rfl, Or.inl ⟨rfl, _, SqL.of hqf'⟩, _, rfl, _, rfl, t_num rfl ev_c (ev_op (ev_var rfl) ev_c rv_I0) cf (by omega) (fun m2 hm2 l2 u2 Hg kg cg => ⟨sz (show 3 ≤ 1000000 by decide), fun p hp => ?_⟩) (fun hz => ?_)⟩
    case refine_2 =>
      have := hE _ (hrun.trans (er3.trans (run_first_err hz)))
      rw [dlen cf] at this
      exact this
    have er4 := er3.trans (run_first_ok hm2 l2 u2)
    rw [dtail] at er4
    have kn : Kp [] Hg (upd Hg p (.tup [.str (hdW (all.drop (k + 1))), .int m1, .int m2])) := Kp.new hp
    have kcn : Kp [cu] Hc (upd Hg p (.tup [.str (hdW (all.drop (k + 1))), .int m1, .int m2])) := (kcf.trans kg).trans kn.nil
    have hqn := kcn.get1 hqc hqcu.symm
    have cn := cg.kp kn (by simp) (by simp)
    have pn := pc.onc cc kcn
    have hpn : (upd Hg p (.tup [.str (hdW (all.drop (k + 1))), .int m1, .int m2])) p = some (.tup [.str (hdW (all.drop (k + 1))), .int m1, .int m2]) := upd_same
    generalize upd Hg p (.tup [.str (hdW (all.drop (k + 1))), .int m1, .int m2]) = Hn at kn kcn hqn cn pn hpn ⊢
    refine ⟨q, xs, .ref p, rfl, rfl, hqn, szl (by omega), ?_⟩
    have ka : Kp [q] Hn (upd Hn q (.lst (xs ++ [.ref p]))) := Kp.lst hqn (by simp)
    have pq := pn.kp ka (by simp [hqso]) (fun u hu => by simp [hqf u hu])
    have cq := cn.kp ka (by simp [hqcu]) (by simp [hqwl])
    refine s_appT (pq.l .var (by decide)) (ev_scf T pq rfl .var) fun Hr er => ⟨_, rfl, f .var, _, _, rfl, rfl, er _ _ (pq.l .var (by decide)), szl (by rw [List.length_map]; show sc.var.length < _; omega), ?_⟩
    have pr := (pq.ex er).push hin (t := .var) (by decide) (w := hdW (all.drop (k + 1)))
    have kv : Kp [f .var] Hr (upd Hr (f .var) (.lst ((sc.get .var).map V.str ++ [.str (hdW (all.drop (k + 1)))]))) := Kp.lst ((pq.ex er).l .var (by decide)) (by simp)
    have cr := (cq.ex er).kp kv (by simp [(fcu .var (by decide)).symm]) (by simp [(hfwl .var (by decide) (by decide)).symm])
    refine ⟨rows ++ [(hdW (all.drop (k + 1)), m1, m2)], ({ (({ sc with stage := 0 } : Sc).push (hdW (all.drop (k + 1))) .var) with upper := m1 - 1 } : Sc), k + 1 + 1 + 1 + 1, xs ++ [.ref p], _, _, rfl, by omega, cg.le, ?_, cr, pr.same (fun u _ => by cases u <;> rfl), ?_, ?_, ?_, hrun.trans er4, ?_, htab, hlot, hprc, rfl, ?_, by rw [List.length_append, List.length_singleton]; omega⟩
    · have h1 : Kp [] H Hn := kc.offs kcn (fun z hz => by rw [List.mem_singleton.mp hz]; exact hcu)
      have h2 : Kp [] H (upd Hn q (.lst (xs ++ [.ref p]))) := h1.newer hqH
      exact (h2.trans (kp_ex er)).newer (hfH .var (by decide) (by decide))
    · exact get_upd (er _ _ upd_same) (hqf .var (by decide)).symm
    · exact ((((hrows.imp fun _ _ => RowAt.kp kcn).imp fun _ _ => RowAt.kp ka).imp fun _ _ => RowAt.kp (kp_ex er : Kp [] _ _)).imp fun _ _ => RowAt.kp kv).snoc ⟨p, rfl, kv.2 _ _ (er _ _ (ka.2 _ _ hpn)), ⟨by show 0 ≤ m1; omega, by show m1 < 100000; omega⟩, by show 0 ≤ m2; omega, by show m2 < 100000; omega⟩
    · have ew : all.drop k = rowW "var" (hdW (all.drop (k + 1)), m1, m2) ++ all.drop (k + 1 + 1 + 1 + 1) := by
        conv => lhs; rw [tail_of hw (by decide), dtail, tail_of (ws := all.drop (k + 1)) rfl (name_ne hn), dtail, tail_of (ws := all.drop (k + 1 + 1)) rfl (num_ne hm1), dtail, tail_of (ws := all.drop (k + 1 + 1 + 1)) rfl (num_ne hm2), dtail]
        rw [← numOf_str hm1, ← numOf_str hm2]
        rfl
      rw [List.flatMap_append, List.append_assoc]
      conv => lhs; rw [hdec, ew]
      congr 1
    · show sc.var ++ [_] = _
      rw [hvar]
      unfold Rows1
      rw [List.map_append]
      rfl
    · have N2 := noE_push (sc := ({ sc with stage := 0 } : Sc)) (t := .var) (noE_stage N1) hn
      intro u
      have := N2 u
      cases u <;> exact this
  have ca := cc.ex ea
  have pa := pc.ex ea
  have hsocu : so ≠ cu := hcuso.symm
  have hD0 : hdW (all.drop k) = "var" → ¬ (sc.stage ≤ 0 ∧ sc.var.length ≤ 5) := fun z1 z2 => by
    rw [decide_eq_true z1, decide_eq_true (show rows.length < 6 by omega)] at hb
    cases hb
  -- tables
  refine sq_set ⟨_, rfl, ev_scf T pa rfl .table Ha (Evl.Ex.refl Ha) _ fun Hb eb => ⟨cu, wl, all, k, f .table, sc, .table, rfl, .inl rfl, ca.ex eb, hfwl .table (by decide) (by decide), (pa.ex eb).l .table (by decide), htab, by rw [hstg]; decide, N1, fun trows sc2 k2 H2 t2 x2 hall2 hrun2 hget2 hoth2 hstg2 hsame2 N2 hD1 kk2 cc2 hl2 ht2 hx2 => ?_, fun n hn => hE n (hrun.trans hn)⟩⟩
  have k0b : Kp [] H Hb := (kc.trans (kp_ex ea)).trans (kp_ex eb)
  have k02 : Kp [] H H2 := k0b.offs kk2 (fun z hz => by
    simp only [List.mem_cons, List.not_mem_nil, or_false] at hz
    rcases hz with rfl | rfl
    · exact hcu
    · exact hfH .table (by decide) (by decide))
  have p2 := (pa.ex eb).rows kk2 hsocu fcu hin (t := .table) (by decide) hl2 hoth2
  have hq2 : H2 q = some (.lst xs) := kk2.get (eb _ _ (ea _ _ hqc)) (by simp [hqcu.symm]; exact (hqf .table (by decide)).symm)
  have hrows2 : All2 (RowAt H2) rows xs := ((hrows.imp fun _ _ => RowAt.kp (kp_ex (ea.trans eb) : Kp [] _ _)).imp fun _ _ => RowAt.kp kk2)
  have nil1 : ∀ {rs : List Row}, Rows1 rs = [] → rs = [] := fun {rs} z => List.map_eq_nil_iff.mp z
  have hk2 : sc2 = sc → all.drop k = all.drop k2 := fun z => by
    have : trows = [] := nil1 (by rw [← hget2, z]; exact htab)
    rw [this] at hall2
    exact hall2
  have hD0' : hdW (all.drop k2) = "var" → ¬ (sc2.stage ≤ 0 ∧ sc2.var.length ≤ 5) := fun z1 z2 => by
    rcases hsame2 with e | e
    · exact hD0 (by rw [hk2 e]; exact z1) (by rw [← e]; exact z2)
    · rw [e] at z2; exact absurd z2.1 (by decide)
  have hD1' : hdW (all.drop k2) = "table" → ¬ (sc2.stage ≤ 1 ∧ sc2.table.length ≤ 5) := fun z1 z2 => hD1 z1 z2.2
  -- lots
  refine ⟨_, rfl, ev_scf T p2 rfl .lots H2 (Evl.Ex.refl H2) _ fun Hd ed => ⟨cu, wl, all, k2, f .lots, sc2, .lots, rfl, .inr rfl, cc2.ex ed, hfwl .lots (by decide) (by decide), (p2.ex ed).l .lots (by decide), (hoth2 .lots (by decide)).trans hlot, Nat.le_trans hstg2 (by decide), N2, fun lrows sc3 k3 H3 t3 x3 hall3 hrun3 hget3 hoth3 hstg3 hsame3 N3 hD2 kk3 cc3 hl3 ht3 hx3 => ?_, fun n hn => hE n (hrun.trans (hrun2.trans hn))⟩⟩
  have k03 : Kp [] H H3 := (k02.trans (kp_ex ed)).offs kk3 (fun z hz => by
    simp only [List.mem_cons, List.not_mem_nil, or_false] at hz
    rcases hz with rfl | rfl
    · exact hcu
    · exact hfH .lots (by decide) (by decide))
  have p3' := (p2.ex ed).rows kk3 hsocu fcu hin (t := .lots) (by decide) hl3 hoth3
  have hq3 : H3 q = some (.lst xs) := kk3.get (ed _ _ hq2) (by simp [hqcu.symm]; exact (hqf .lots (by decide)).symm)
  have hrows3 : All2 (RowAt H3) rows xs := ((hrows2.imp fun _ _ => RowAt.kp (kp_ex ed : Kp [] _ _)).imp fun _ _ => RowAt.kp kk3)
  have ht23 : H3 t2 = some (.tup x2) := kk3.2 _ _ (ed _ _ ht2)
  have hx23 : All2 (RowAt H3) trows x2 := ((hx2.imp fun _ _ => RowAt.kp (kp_ex ed : Kp [] _ _)).imp fun _ _ => RowAt.kp kk3)
  have hk3 : sc3 = sc2 → all.drop k2 = all.drop k3 := fun z => by
    have : lrows = [] := nil1 (by rw [← hget3, z]; exact (hoth2 .lots (by decide)).trans hlot)
    rw [this] at hall3
    exact hall3
  have hD0'' : hdW (all.drop k3) = "var" → ¬ (sc3.stage ≤ 0 ∧ sc3.var.length ≤ 5) := fun z1 z2 => by
    rcases hsame3 with e | e
    · exact hD0' (by rw [hk3 e]; exact z1) (by rw [← e]; exact z2)
    · rw [e] at z2; exact absurd z2.1 (by decide)
  have hD1'' : hdW (all.drop k3) = "table" → ¬ (sc3.stage ≤ 1 ∧ sc3.table.length ≤ 5) := fun z1 z2 => by
    rcases hsame3 with e | e
    · exact hD1' (by rw [hk3 e]; exact z1) (by rw [← e]; exact z2)
    · rw [e] at z2; exact absurd z2.1 (by decide)
  have hD2'' : hdW (all.drop k3) = "lots" → ¬ (sc3.stage ≤ 2 ∧ sc3.lots.length ≤ 5) := fun z1 z2 => hD2 z1 z2.2
  have hprc3 : sc3.proc = [] := (hoth3 .proc (by decide)).trans ((hoth2 .proc (by decide)).trans hprc)
  have hvar3 : sc3.var = sc.var := (hoth3 .var (by decide)).trans (hoth2 .var (by decide))
  have hrunA : run (sc0 asked) [.head] all = run sc3 [.head] (all.drop k3) := hrun.trans (hrun2.trans hrun3)
  -- procedures
  refine nx_ ?_
  refine sq_set ⟨sz (show 0 ≤ 1000000 by decide), fun r hr => ?_⟩
  have kr : Kp [] H3 (upd H3 r (.lst [])) := Kp.new hr
  have hrH : H r = none := k03.free hr
  have hrcu : r ≠ cu := by
    obtain ⟨d, h0⟩ := cc3.ins
    exact (ne_of_none h0 hr).symm
  have hrwl : r ≠ wl := (ne_of_none cc3.ws hr).symm
  have hrso : r ≠ so := by
    obtain ⟨d, h0⟩ := p3'.ins
    exact (ne_of_none h0 hr).symm
  have hrf : ∀ u, u ≠ .proc → f u ≠ r := fun u hu => ne_of_none (p3'.l u hu) hr
  have hrq : q ≠ r := ne_of_none hq3 hr
  refine q_while (fun m σ Hc => ∃ prs sc k ys f' y10, σ = [some (.str t), some (.ref ta), some (.ref cu), some (.ref so), some (.ref q), y5, y6, some (.ref t2), some (.ref t3), some (.ref r), y10] ∧ m = all.length - k ∧ Kp [] H Hc ∧ Kp [cu, so, r] H3 Hc ∧ CuAt K Hc cu wl all k ∧ PSc K Hc so f' sc ∧ (∀ u, u ≠ .loc → f' u = f u) ∧ Hc r = some (.lst ys) ∧ All2 (PrAt Hc) prs ys ∧
    all.drop k3 = prs.flatMap prW ++ all.drop k ∧ run (sc0 asked) [.head] all = run sc [.head] (all.drop k) ∧ sc.proc = prs.map (·.name) ∧ sc.var = sc3.var ∧ sc.stage ≤ 3 ∧ NoE sc ∧ prs.length ≤ 6 ∧ (∀ p ∈ prs, blkD p.blk < 8 ∧ EDB 9 p.blk ∧ exD p.res < 10) ∧
    (hdW (all.drop k) = "var" → ¬ (sc.stage ≤ 0 ∧ sc.var.length ≤ 5)) ∧ (hdW (all.drop k) = "table" → ¬ (sc.stage ≤ 1 ∧ sc.table.length ≤ 5)) ∧ (hdW (all.drop k) = "lots" → ¬ (sc.stage ≤ 2 ∧ sc.lots.length ≤ 5))) (all.length - k3)
    ⟨[], sc3, k3, [], f, none, rfl, rfl, k03.trans kr, kr.nil, cc3.kp kr (by simp) (by simp), p3'.kp kr (by simp) (by simp), fun _ _ => rfl, upd_same, rfl, rfl, hrunA, hprc3, rfl, Nat.le_trans hstg3 (by decide), N3, by decide, (fun p hp => by cases hp), hD0'', hD1'', hD2''⟩ ?_
  rintro m σ Hg ⟨prs, sc4, k4, ys, f', y10, rfl, rfl, kg, kg3, cg, pg, hf', hrg, hys, hdec4, hrun4, hproc4, hvar4, hst4, N4, hpl4, hgood, hE0, hE1, hE2⟩
  have hyl : ys.length = prs.length := hys.length
  have hpl : sc4.proc.length = prs.length := by rw [hproc4]; exact List.length_map ..
  refine ⟨decide (hdW (all.drop k4) = "proc") && decide (prs.length < 6), et_and (et_eqS (ev_word (ev_var rfl) cg) ev_c) (fun _ => et_is (et_test (ev_op (ev_lenl (ev_var rfl) (sq_of hrg)) ev_c rv_I0)) (by rw [hyl]; exact decide_eq_decide.mpr (by omega))), fun hb Hh eh => ?_, fun hb Hh eh => ?_⟩
  · obtain ⟨hw, hlt⟩ := and_d.mp hb
    refine ⟨fun σ Hd => ∃ prs sc k'' ys f' y10, σ = [some (.str t), some (.ref ta), some (.ref cu), some (.ref so), some (.ref q), y5, y6, some (.ref t2), some (.ref t3), some (.ref r), y10] ∧ k4 < k'' ∧ k'' ≤ all.length ∧ Kp [] H Hd ∧ Kp [cu, so, r] H3 Hd ∧ CuAt K Hd cu wl all k'' ∧ PSc K Hd so f' sc ∧ (∀ u, u ≠ .loc → f' u = f u) ∧ Hd r = some (.lst ys) ∧ All2 (PrAt Hd) prs ys ∧
      all.drop k3 = prs.flatMap prW ++ all.drop k'' ∧ run (sc0 asked) [.head] all = run sc [.head] (all.drop k'') ∧ sc.proc = prs.map (·.name) ∧ sc.var = sc3.var ∧ sc.stage ≤ 3 ∧ NoE sc ∧ prs.length ≤ 6 ∧ (∀ p ∈ prs, blkD p.blk < 8 ∧ EDB 9 p.blk ∧ exD p.res < 10) ∧
      (hdW (all.drop k'') = "var" → ¬ (sc.stage ≤ 0 ∧ sc.var.length ≤ 5)) ∧ (hdW (all.drop k'') = "table" → ¬ (sc.stage ≤ 1 ∧ sc.table.length ≤ 5)) ∧ (hdW (all.drop k'') = "lots" → ¬ (sc.stage ≤ 2 ∧ sc.lots.length ≤ 5)), ?_, ?_⟩
    · rintro σ2 H2 ⟨prs, sc, k'', ys, f', y10, rfl, hlt, hle, h2⟩
      exact ⟨all.length - k'', by omega, prs, sc, k'', ys, f', y10, rfl, rfl, h2⟩
    refine s_appT (eh _ _ hrg) (ev_var rfl) fun Hi ei => ?_
    have ehi := eh.trans ei
    refine ⟨_, rfl, _, rfl, el_lcL (xs := ys) (fun _ => true) (fun i => V.str ((prs.map (·.name)).getD i Str.empty)) (ev_var rfl) (sq_of (ehi _ _ hrg)) (by omega) (fun x => rfl) (fun i x H1 _ _ H2 e2 Q2 q2 => q2 H2 (Evl.Ex.refl H2)) (fun i x H1 e1 hx _ => ?_) Hi (Evl.Ex.refl Hi) _ fun ln Hj hln ej hlj => ?_⟩
    · obtain ⟨pr, hpr, b, lo', bb, ve, ss, rfl, hb', _⟩ := hys.get hx
      refine ev_ixT (ev_var rfl) ev_c (st_of (e1 _ _ (ehi _ _ hb'))) ?_
      refine atI_nat (j := 0) ?_
      have : (prs.map (·.name)).getD i Str.empty = pr.name := by
        rw [List.getD_eq_getElem?_getD, List.getElem?_map, hpr]
        rfl
      rw [this]
      rfl
    rw [hyl, names_given, ← hproc4] at hlj
    have ehj := ehi.trans ej
    refine ⟨cu, wl, all, k4, so, f', sc4, ln, rfl, cg.ex ehj, pg.ex ehj, hlj, N4, hw, hst4, by omega, by rw [hvar4, hvar3, hvl]; omega, fun pr v sc5 k5 f5 Hk hlt5 hdec5 hrun5 hproc5 hoth5 hstg5 N5 hf5 hf5n kk5 cc5 pp5 hpr5 hgd5 => ?_, fun n hn => hE n (hrun4.trans hn)⟩
    have hrk : Hk r = some (.lst ys) := kk5.get (ehj _ _ hrg) (by simp [hrcu, hrso])
    refine ⟨r, ys, v, rfl, rfl, hrk, szl (by omega), ?_⟩
    have ka : Kp [r] Hk (upd Hk r (.lst (ys ++ [v]))) := Kp.lst hrk (by simp)
    have hf5r : ∀ u, u ≠ .proc → f5 u ≠ r := fun u hu => by
      intro z
      by_cases e : u = .loc
      · subst e
        rw [z, ehj _ _ hrg] at hf5n
        cases hf5n
      · rw [hf5 u e, hf' u e] at z
        exact hrf u hu z
    refine ⟨prs ++ [pr], sc5, k5, ys ++ [v], f5, _, rfl, hlt5, cc5.le, ?_, ?_, cc5.kp ka (by simp [hrcu.symm]) (by simp [hrwl.symm]), pp5.kp ka (by simp [hrso.symm]) (fun u hu => by simp [hf5r u hu]), fun u hu => (hf5 u hu).trans (hf' u hu), upd_same, ?_, ?_, hrun4.trans hrun5, ?_, ?_, by omega, N5, by rw [List.length_append, List.length_singleton]; omega, ?_, fun _ z => by rw [hstg5] at z; exact absurd z.1 (by decide), fun _ z => by rw [hstg5] at z; exact absurd z.1 (by decide), fun _ z => by rw [hstg5] at z; exact absurd z.1 (by decide)⟩
    · exact ((kg.trans (kp_ex ehj)).offs kk5 (fun z hz => by
        simp only [List.mem_cons, List.not_mem_nil, or_false] at hz
        rcases hz with rfl | rfl
        · exact hcu
        · exact hsoH)).newer hrH
    · exact ((kg3.trans (kp_ex ehj)).trans (kk5.mono (by simp))).trans (ka.mono (by simp))
    · exact (((hys.imp fun _ _ => PrAt.kp (kp_ex ehj : Kp [] _ _)).imp fun _ _ => PrAt.kp kk5).imp fun _ _ => PrAt.kp ka).snoc (hpr5.kp ka)
    · rw [hdec4, hdec5, List.flatMap_append, List.append_assoc]
      congr 1
      simp [List.flatMap_cons]
    · rw [hproc5, hproc4, List.map_append]
      rfl
    · exact (hoth5 .var (by decide) (by decide)).trans hvar4
    · intro p hp
      rcases List.mem_append.mp hp with hp | hp
      · exact hgood p hp
      · rw [List.mem_singleton.mp hp]; exact hgd5
  · -- the end
    have ch := cg.ex eh
    obtain ⟨dxc, hic⟩ := ch.ins
    have hE3 : hdW (all.drop k4) = "proc" → ¬ (sc4.stage ≤ 3 ∧ sc4.proc.length ≤ 5) := fun z1 z2 => by
      rw [decide_eq_true z1, decide_eq_true (show prs.length < 6 by omega)] at hb
      cases hb
    refine ⟨fun σ' H' => σ' = [some (.str t), some (.ref ta), some (.ref cu), some (.ref so), some (.ref q), y5, y6, some (.ref t2), some (.ref t3), some (.ref r), y10] ∧ Evl.Ex Hh H' ∧ k4 = all.length, ?_, ?_⟩
    · refine s_when (b := decide (k4 < all.length)) (et_is (et_test (ev_op (ev_fld (ev_var rfl) hic T.c_Cursor T.n_Cursor_at rfl) (ev_lenl (ev_fld (ev_var rfl) hic T.c_Cursor T.n_Cursor_words rfl) (sq_of ch.ws)) rv_I0)) (by rw [List.length_map]; exact decide_eq_decide.mpr (by omega))) (fun hz H5 e5 => ?_) (fun hz H5 e5 => ?_)
      · have hlt := dec_t hz
        refine s_fail (ev_var rfl) (ch.ex e5) ?_
        have := hE _ (hrun4.trans (run_head_no (fun z => by
          have := congrArg List.length z
          rw [List.length_drop] at this
          simp at this
          omega) hE0 hE1 hE2 hE3))
        rw [dlen cg] at this
        exact this
      · exact ⟨rfl, e5, by have := dec_f hz; have := cg.le; omega⟩
    · rintro σ' H5 ⟨rfl, e5, hkend⟩
      have e35 : Kp [cu, so, r] H3 H5 := kg3.trans (kp_ex (eh.trans e5))
      have hq5 : H5 q = some (.lst xs) := e35.get hq3 (by simp [hqcu.symm, hqso.symm, hrq])
      have hr5 : H5 r = some (.lst ys) := e5 _ _ (eh _ _ hrg)
      refine ⟨_, rfl, _, rfl, _, rfl, _, rfl, fun x dx hx hdx hd => ⟨x, dx, q, t2, t3, r, xs, x2, x3, ys, rfl, upd_same, ?_, ?_, ?_, ?_, fun b1 b4 H6 k6 h6 hb1 hb4 => ⟨rfl, ?_⟩⟩⟩
      all_goals have knew : Kp [] H5 (upd (upd H5 dx (.own x)) x (.ins (He.ga K "Game") dx [])) := (Kp.new hdx).trans (Kp.new (by rw [upd_ne hd.symm]; exact hx))
      · exact knew.get0 hq5
      · exact knew.2 _ _ (e35.2 _ _ ht23)
      · exact knew.2 _ _ (e35.2 _ _ ht3)
      · exact knew.get0 hr5
      have k36 : Kp [cu, so, r, x] H3 H6 := ((e35.mono (by simp)).trans knew.nil).trans (k6.mono (by simp))
      have k56 : Kp [x] H5 H6 := (knew.nil).trans k6
      have hend : all.drop k4 = [] := List.drop_eq_nil_of_le (by omega)
      refine hQ ⟨rows, trows, lrows, prs⟩ _ H6 ?_ ?_ ⟨hgood, ?_⟩ ⟨x, dx, b1, t2, t3, b4, xs, x2, x3, ys, rfl, h6, hb1, hrows3.imp fun _ _ => RowAt.kp k36, k36.2 _ _ ht23, hx23.imp fun _ _ => RowAt.kp k36, k36.2 _ _ ht3, hx3.imp fun _ _ => RowAt.kp k36, hb4, ((hys.imp fun _ _ => PrAt.kp (kp_ex (eh.trans e5) : Kp [] _ _)).imp fun _ _ => PrAt.kp k56)⟩ ?_
      · have hG : all = gameW ⟨rows, trows, lrows, prs⟩ := by
          show all = rows.flatMap (rowW "var") ++ (trows.flatMap (rowW "table") ++ (lrows.flatMap (rowW "lots") ++ prs.flatMap prW))
          conv => lhs; rw [hdec]
          have h2 : all.drop k = trows.flatMap (rowW "table") ++ all.drop k2 := hall2
          have h3 : all.drop k2 = lrows.flatMap (rowW "lots") ++ all.drop k3 := hall3
          rw [h2, h3, hdec4, hend, List.append_nil]
        exact hG.symm
      · rw [hrun4, hend]
        exact if_pos rfl
      · have hG : all = gameW ⟨rows, trows, lrows, prs⟩ := by
          show all = rows.flatMap (rowW "var") ++ (trows.flatMap (rowW "table") ++ (lrows.flatMap (rowW "lots") ++ prs.flatMap prW))
          conv => lhs; rw [hdec]
          have h2 : all.drop k = trows.flatMap (rowW "table") ++ all.drop k2 := hall2
          have h3 : all.drop k2 = lrows.flatMap (rowW "lots") ++ all.drop k3 := hall3
          rw [h2, h3, hdec4, hend, List.append_nil]
        rw [← hG]
        exact hfew
      · have hxH : H x = none := (kg.trans (kp_ex (eh.trans e5))).free hx
        exact ((kg.trans (kp_ex (eh.trans e5))).trans knew).offs k6 (fun z hz => by rw [List.mem_singleton.mp hz]; exact hxH)
end
end K4

set_option maxHeartbeats 4000000
/-! BadText is made: super().__init__(..) of an own exception over an own exception over ValueError, then a field. -/
namespace PySem
namespace BadX
open PySem.W PySem.Calls PyProof.Rows PySem.HandSPX
def iA : Arguments := L2.defArgs (K4.meth 2 0)
def iB : List Stmt := L2.defBody (K4.meth 2 0)
def iS : Scope := L2.defScope (K4.meth 2 0)
/-- what the written part says of BadText, at C, of its __init__, at fI, of that one's cell, at cc, and code, at cda -/
structure BadTxt (P : Program) (K : Frag) (mg : Str → Option Value) (C fI cc cda : Addr) : Prop where
  gC : mg "BadText" = some (.ref C)
  cls : ∃ nm q N bs bm sn sub ab col dd k0 k1 k2 k3 k5, K.lookup C = some (excClassObj nm q C N bs bm true sn sub ab col dd k0 k1 k2 k3 k5 "ValueError.__new__") ∧ refsVE bm = true
  sa : findIn K (.ref C) "__setattr__" = some (some (.builtin "object.__setattr__"))
  noN : findIn K (.ref C) "at" = some none
  iC : findIn K (.ref C) "__init__" = some (some (.ref fI))
  tC : typeIn K (.ref fI) = some (.type "function")
  kC : keepIn K (.ref C) = true
  exC : subIn K (.ref C) (.type "BaseException") = some true
  tyC : typeIn K (.ref C) = some (.type "type")
  vE : subIn K (.ref C) (.type "ValueError") = some true
  mro : mroIn K C (.ref C) = some true
  sup : ks_superIn K C C "__init__" = some (some (.builtin "ValueError.__init__"))
  any : nsIn K cStatics "thirdparty.any" = some none
  nosup : mg "super" = none
  htop : (P.main.scope.names.lookup ("super" : Str)).isSome = false
  fn : ∃ (oc : Value) (od : Option Addr) (doc pm : Value) (an : Option Addr) (ct : Value) (osl : Array (Option Value)),
    K.lookup fI = some ⟨oc, od, .func (ksFn "__init__" "BadText.__init__" iA iB iS .none .none doc pm an (.ref cda) ct cc), osl⟩ ∧ codeIn K (.ref cda) "BadText.__init__" = true
  code : ∃ (ccl : Value) (cdd : Option Addr) (vs : Array Value) (ccs : Array (Option Value)) (file : Str) (tf : Tok), K.lookup cda = some ⟨ccl, cdd, .fields vs, ccs⟩ ∧ vs[2]? = some (.str file tf) ∧ ((P.main.file : Str) == file) = true
  cell : ∃ (cl : Value) (cld : Option Addr) (csl : Array (Option Value)), K.lookup cc = some ⟨cl, cld, .cell (some (.ref C)), csl⟩
structure InitEnd (h h' : Heap) (x C dx t1 : Addr) (v : Value) : Prop where
  keep : ∀ b o, b ≠ x → h.get? b = some o → h'.get? b = some o
  obj : h'.get? x = some { cls := .ref C, dict := some dx, data := .fields #[.ref t1, .none, .none, .none, .bool false, .none] }
  dbig : h.objs.size ≤ dx
  dne : dx ≠ x
  ns : h'.Ns1 dx (fun y => if y = "at" then some v else none)
structure OwnMade (h h' : Heap) (e C d : Addr) (v : Value) : Prop where
  keep : ∀ b o, h.get? b = some o → h'.get? b = some o
  new : h.objs.size ≤ e
  obj : ∃ oe vs, h'.get? e = some oe ∧ oe.cls = .ref C ∧ oe.dict = some d ∧ oe.data = .fields vs ∧ vs[1]? = some .none ∧ vs[2]? = some .none
  dbig : h.objs.size ≤ d
  dne : d ≠ e
  ns : h'.Ns1 d (fun y => if y = "at" then some v else none)
section
variable {P : Program} {w : World} {A : Around} {E : Value → Shared → Prop} {R : Result → Shared → Prop} {s : Shared} {K : Frag} {mg : Str → Option Value} {C fI cc cda : Addr}
theorem ns_but {h h' : Heap} {L x : Addr} {m : Str → Option Value} (n : h.Ns L m) (hx : L ≠ x) (k : ∀ b o, b ≠ x → h.get? b = some o → h'.get? b = some o) : h'.Ns L m := by
  obtain ⟨oL, es, ep, hL, r⟩ := n
  exact ⟨oL, es, ep, k _ _ hx hL, r⟩
theorem bad_init (T : BadTxt P K mg C fI cc cda) {x t0 : Addr} {v : Value} (X : K.In s.heap) (hlim : s.heap.NoLimit) (hg : s.heap.Ns mainGlobals mg) (hb : ∃ mb, s.heap.Ns builtinsNs mb ∧ ∀ x : Str, x ≠ "__name__" → mb x = bootBuiltins x)
    (hx : s.heap.get? x = some (excO C t0)) (hnx : K.lookup x = none) (hroom : A.depth < recursionLimit) (hq : ∀ h' tk dx t1, InitEnd s.heap h' x C dx t1 v → R (.ok (.ret .none)) { s with heap := h', toks := tk }) :
    codeAny (model P w) A (.call (.ref fI) ⟨[.ref x, v], []⟩) R s := by
  obtain ⟨oc, od, doc, pm, an, ct, osl, ho, hcd⟩ := T.fn
  obtain ⟨nm, q, N, bs, bm, sn, sub, ab, col, dd, k0, k1, k2, k3, k5, hC, hbm⟩ := T.cls
  obtain ⟨ccl, cdd, vs, ccs, file, tf, hcode, hvs, hfile⟩ := T.code
  obtain ⟨cl, cld, csl, hcell⟩ := T.cell
  obtain ⟨mb, hb1, hb2⟩ := hb
  have hcl : clsIn K C = some { name := nm, bases := bs, mro := .ref C :: bm, ns := N, qualname := q, hasDict := true, slotNames := sn, subclasses := sub, abstract := ab, collection := col, hasDel := false } := by unfold clsIn; rw [hC] <;> rfl
  refine ks_codeAny_call_defAt (fd := ksFn "__init__" "BadText.__init__" iA iB iS .none .none doc pm an (.ref cda) ct cc) (body := iB) (binds := [("self", .ref x), ("at", v)]) hroom (X _ _ ho) rfl hlim (codeRec_of X hcd) rfl (BindsTo.of_eq (by first | rfl | with_unfolding_all rfl)) (show ∀ x ∈ iS.names, x.2 ≠ .cell from by decide +kernel) (fun y hy => ?_) (fun h₀ hns kk => ?_) rfl rfl rfl
  · have hy1 : y.1 = "self" ∨ y.1 = "at" := by
      rcases List.mem_cons.mp hy with e | hy
      · exact .inl (by rw [e])
      · exact .inr (by rw [List.mem_singleton.mp hy])
    rcases hy1 with e | e <;> rw [e] <;> rfl
  have hxL : s.heap.objs.size ≠ x := Nat.ne_of_gt (Heap.lt_size hx)
  have X₀ : K.In h₀ := X.keeps kk
  have hx₀ := kk _ _ hx
  have hC₀ := X₀ _ _ hC
  -- super().__init__('..')
  refine ks_wpAt_execs_cons (ks_wpAt_Expr_any (ks_wpAt_MethodCall (ks_wpAt_super_base (env := ksEnv "BadText.__init__" iS s.heap.objs.size fI (.ref cda) cc) (by rfl) (by rfl) (by decide +kernel) rfl (X₀ _ _ ho) rfl rfl rfl (X₀ _ _ hcode) rfl hvs hfile T.htop ?_)))
  refine ks_loadName_global rfl (by rfl) (loadGlobal_builtin (env := ksEnv "BadText.__init__" iS s.heap.objs.size fI (.ref cda) cc) (hg.keeps kk) T.nosup (hb1.keeps kk) ((hb2 _ (by decide)).trans (by rfl)) ⟨rfl, ?_⟩)
  refine wpAny_loadName_free rfl (by rfl) rfl ⟨_, X₀ _ _ hcell, rfl⟩ ?_
  refine wpAny_loadName_local rfl (by rfl) hns (by first | rfl | with_unfolding_all rfl) ?_
  refine ks_wpAny_isType_cls hC₀ rfl ⟨rfl, ?_⟩
  refine ks_wpAny_call_super hC₀ rfl hx₀ rfl (fun c e => by cases e) (looks_mroIn X₀ T.mro) (fun h' hso k1' => ?_)
  have X1 : K.In h' := X₀.keeps k1'
  have hx1 := k1' _ _ hx₀
  have I1 : InstAt h' x (excO C t0) C none := ⟨hx1, rfl, rfl, trivial⟩
  have hsup : alongIn K "__init__" (((.ref C :: bm : List Value).dropWhile (· != .ref C)).drop 1) = some (some (.builtin "ValueError.__init__")) := by
    have := T.sup
    unfold ks_superIn at this
    rw [hcl] at this
    exact this
  refine kxs_getMethod kxs_ValueError hso (looks_opaque X1 T.any) (l₀ := .ref C :: bm) ?_ rfl X1 hsup (I1.type.andThen (looks_subIn X1 T.vE)) (ks_ne X1 I1 hcl) (by decide +kernel) ?_
  · exact fun A Q E s k q => wpAny_bind ((looks_clsIn X1 hcl) A _ E s k (wpAny_pure q))
  have k2' : ∀ b o, h'.get? b = some o → (h'.push (kxs_mw "ValueError.__init__" x)).get? b = some o := fun b o e => Heap.get?_push_of_some _ e
  have hu : (h'.push (kxs_mw "ValueError.__init__" x)).get? h'.objs.size = some (kxs_mw "ValueError.__init__" x) := Heap.get?_push_at rfl rfl
  have hx2 := k2' _ _ hx1
  have hC2 := k2' _ _ (k1' _ _ hC₀)
  have X2 := X1.keeps k2'
  have kk2 : ∀ b o, s.heap.get? b = some o → (h'.push (kxs_mw "ValueError.__init__" x)).get? b = some o := fun b o e => k2' _ _ (k1' _ _ (kk _ _ e))
  have hns2 : (h'.push (kxs_mw "ValueError.__init__" x)).Ns s.heap.objs.size (fun y => [(("self" : Str), Value.ref x), (("at" : Str), v)].reverse.lookup y) := (hns.keeps k1').keeps k2'
  generalize h'.push (kxs_mw "ValueError.__init__" x) = h2 at k2' hu hx2 hC2 X2 kk2 hns2 ⊢
  refine kxs_callWith (i := "ValueError.__init__") (x := x) (by rfl) (evalArgs_plain ?_)
  refine spliced_cons (x := eval (.Constant (.str "unexpected word or end of text") 0 ⟨7, 25, 7, 57⟩) _) (rest := []) ?_
  refine wpAny_Constant_str (spliced_nil ⟨hu, ?_⟩)
  refine wpAny_call (codeAny_of_tree ?_)
  show wpAny _ _ (callAny (.ref h'.objs.size) ⟨[.str "unexpected word or end of text" _], []⟩) _ _ _
  simp only [callAny]
  refine wpAny_bind (wpAny_load hu ?_)
  simp only [kxs_mw, show (Value.type "method-wrapper" == Value.type "method" || Value.type "method-wrapper" == Value.type "builtin_function_or_method" || Value.type "method-wrapper" == Value.type "method-wrapper") = true by decide, if_true]
  refine KFB.if_so (by decide) ?_
  refine wpAny_bind (check_bound_init F.excBase_ValueError.toExcCallFacts hC2 hx2 rfl ?_)
  refine wpAny_bind (wpAny_pure (wpAny_pure ?_))
  refine ⟨plainId_quiet F.excBase_ValueError.init.plain _, codeAny_builtin F.excBase_ValueError.initEntry ?_⟩
  refine exc_init_tree (cls := .ref C) (t0 := t0) (dv := none) (c2 := .none) (c3 := .none) (b4 := .bool false) hx2 (by rw [sizeLine_eq]; exact (by decide : 1 ≤ 16777216)) fun h3 k3 e3 t3 => ?_
  have n3 : h3.Ns s.heap.objs.size (fun y => [(("self" : Str), Value.ref x), (("at" : Str), v)].reverse.lookup y) := ns_but hns2 hxL k3
  have X3 : K.In h3 := fun a o e => k3 a o (fun z => by rw [z, hnx] at e; cases e) (X2 a o e)
  -- self.at = at
  show wpAt _ _ _ (execs _ _) _ _ _
  refine wpAt_of_wpAny (wpAny_execs_cons (plainObj_wpAny_Assign_Attribute ?_))
  refine wpAny_Name (wpAny_loadName_local rfl (by rfl) n3 (by first | rfl | with_unfolding_all rfl | kernel_rfl) (wpAny_Name (wpAny_loadName_local rfl (by rfl) n3 (by first | rfl | with_unfolding_all rfl | kernel_rfl) ?_))) (by decide)
  refine set_plain X3 (ox := excO C h2.objs.size) (od := none) ⟨e3, rfl, rfl, trivial⟩ T.sa ?_
  refine exc_osa X3 e3 hcl (show refsVE (.ref C :: bm) = true from hbm) rfl T.noN (fun h4 tk4 dx k4 dn dne hx4 hn4 => ?_)
  show wpAny _ _ (execs _ _) _ _ _
  have z : s.heap.objs.size < h3.objs.size := n3.lt
  exact wpAny_execs_nil (hq h4 tk4 dx h2.objs.size ⟨fun b o hb e => k4 b o hb (k3 b o hb (kk2 b o e)), hx4, Nat.le_of_lt (Nat.lt_of_lt_of_le z dn), dne, hn4⟩)
theorem bad_made (T : BadTxt P K mg C fI cc cda) {v : Value} (X : K.In s.heap) (hlim : s.heap.NoLimit) (hg : s.heap.Ns mainGlobals mg) (hb : ∃ mb, s.heap.Ns builtinsNs mb ∧ ∀ x : Str, x ≠ "__name__" → mb x = bootBuiltins x) (hroom : A.depth + 1 < recursionLimit)
    (hq : ∀ h' tk e d, OwnMade s.heap h' e C d v → R (.ok (.ret (.ref e))) { s with heap := h', toks := tk }) :
    codeAny (model P w) A (.call (.ref C) ⟨[v], []⟩) R s := by
  obtain ⟨nm, q, N, bs, bm, sn, sub, ab, col, dd, k0, k1, k2, k3, k5, hC, hbm⟩ := T.cls
  obtain ⟨hp, g, dr, tk, os⟩ := s
  have k : ∀ b o, hp.get? b = some o → ((hp.push (kdv_tup [v])).push (excO C hp.objs.size)).get? b = some o := fun b o e => Heap.get?_push_of_some _ (Heap.get?_push_of_some _ e)
  have hget : ((hp.push (kdv_tup [v])).push (excO C hp.objs.size)).get? (hp.objs.size + 1) = some (excO C hp.objs.size) := by heap_get
  have hnx : K.lookup (hp.objs.size + 1) = none := by
    cases e : K.lookup (hp.objs.size + 1) with
    | none => rfl
    | some o =>
      have z : hp.get? (hp.objs.size + 1) = some o := X _ _ e
      exact absurd (Nat.lt_of_succ_lt (Heap.lt_size z)) (Nat.lt_irrefl _)
  obtain ⟨mb, hb1, hb2⟩ := hb
  refine call_own F.excBase_ValueError (fun X => refsVE_contains X bm hbm) (X _ _ hC) (looks_findIn X T.iC) (fun self => bind_fn X self T.tC) (by rw [sizeLine_eq]; exact (by decide : 1 ≤ 16777216)) ?_
  refine bad_init (s := ⟨(hp.push (kdv_tup [v])).push (excO C hp.objs.size), g, dr, tk, os⟩) T (X.keeps k) (hlim.keeps k) (hg.keeps k) ⟨mb, hb1.keeps k, hb2⟩ hget hnx ?_ fun h' tk' dx t1 ⟨k', hx, dn, dne, hns⟩ => ?_
  · show A.depth + 1 < recursionLimit
    exact hroom
  · have old : ∀ b o, hp.get? b = some o → h'.get? b = some o := fun b o e => k' b o (Nat.ne_of_lt (Nat.lt_succ_of_lt (Heap.lt_size e))) (k b o e)
    have z : hp.objs.size + 1 + 1 ≤ dx := by
      first
        | (simpa only [Heap.size_push] using dn)
        | exact dn
        | (have q := dn; rw [Heap.size_push, Heap.size_push] at q; exact q)
    exact ⟨rfl, hq h' tk' (hp.objs.size + 1) dx ⟨old, Nat.le_succ _, ⟨_, _, hx, rfl, rfl, rfl, rfl, rfl⟩, Nat.le_trans (Nat.le_trans (Nat.le_succ _) (Nat.le_succ _)) z, dne, hns⟩⟩
end
end BadX
end PySem
namespace K4
open PySem PySem.Spec PyProof.Rows L2
theorem relO_at {v : V} {v' : Value} (r : RelV v v') (f : Str) : RelO (List.lookup f [(("at" : Str), v)]) (if f = "at" then some v' else none) := by
  by_cases hw : f = "at"
  · subst hw
    rw [if_pos rfl]
    have q : List.lookup ("at" : Str) [(("at" : Str), v)] = some v := by simp [List.lookup]
    rw [q]
    exact r
  · rw [if_neg hw]
    have qw : (f == ("at" : Str)) = false := by simpa using hw
    have q2 : List.lookup f [(("at" : Str), v)] = none := by simp [List.lookup, qw]
    rw [q2]
    trivial
/-- BadText(e) -/
def tMkBad (C : Addr) (ta : TA) : L2.St → Hp → XK → Prop := fun σ H Q => ta σ H fun vs H1 => ∃ v, vs = [v] ∧ ∀ d, H1 d = none → Q (.ref C) (some d) (upd H1 d (.xd [(("at" : Str), v)]))
theorem pmk_bad {X : Cx} {C fI cc cda : Addr} {a : Expr} {ta : TA} {p pos : Pos} {k : Nat} (T : PySem.BadX.BadTxt X.prog X.K X.mg C fI cc cda) (hr : Room (k + 1) X.A) (ha : PA X [a] ta) (hg : Gl X "BadText" := by rfl)
    (he : starEach (a :: []) X.env = (false, eval a X.env) :: starEach [] X.env := by rfl) (hpl : (backTo pos (starEach [] X.env)).any (·.1) = false := by rfl) :
    L2N.PMk X (.Call (.Name "BadText" p) [a] [] pos) (tMkBad C ta) := by
  intro pins s σ H Q I h
  refine wpAny_Call_Name_kw (ld_glob I hg T.gC ?_)
  refine PySem.W.callWith_K (h₀ := X.base) I.ok.mod.kin T.kC (thn (ha.run pos pins s σ H _ I h) fun us s1 hh => ?_) he hpl
  obtain ⟨vs, H1, I1, r1, v, ev, q1⟩ := hh
  subst ev
  refine ⟨I1.kIn, ?_⟩
  cases r1 with
  | cons rv rn =>
    rename_i v' us'
    cases rn
    show wpAny _ _ (call (.ref C) [v']) _ _ _
    have hlim := I1.nolimit
    have hg1 := I1.mod.glob.keeps I1.bk
    obtain ⟨mb, hb1, hb2⟩ := I1.mod.blt
    have hb1 := hb1.keeps I1.bk
    obtain ⟨hp, g, dr, tk, os⟩ := s1
    refine wpAny_call (PySem.BadX.bad_made T I1.kIn hlim hg1 ⟨mb, hb1, hb2⟩ (by have := hr.dp; omega) fun h' tk' e d M => ?_)
    show L2N.MkP X pins σ Q (.ref e) ⟨h', g, dr, tk', os⟩
    obtain ⟨oe, fv, hoe, hc, hd, hdat, h1, h2⟩ := M.obj
    have hns := M.ns
    obtain ⟨G', g1, g2⟩ := restrict h' fun b => decide (b ≠ e)
    have gk : ∀ b, b ≠ e → G'.get? b = h'.get? b := fun b hb => g1 b (decide_eq_true hb)
    have ge : G'.get? e = none := g2 e (by simp)
    have old : ∀ b o, hp.get? b = some o → G'.get? b = some o := fun b o q => (gk b (Nat.ne_of_lt (Nat.lt_of_lt_of_le (Heap.lt_size q) M.new))).trans (M.keep b o q)
    have ob : ObjOk X.prog X.w (upd H1 d (.xd [(("at" : Str), v)])) G' d (.xd [(("at" : Str), v)]) :=
      ⟨_, hns.at (fun o q => (gk d M.dne).trans q), fun f => relO_at rv f⟩
    have J : Inv X pins σ (upd H1 d (.xd [(("at" : Str), v)])) ⟨G', g, dr, tk', os⟩ := I1.laid (t' := tk') old M.dbig ob
    refine ⟨e, oe, fv, ⟨G', g, dr, tk', os⟩, _, .ref C, some d, rfl, J, fun b o q => ?_, ge, hoe, ⟨hc, hd, fun vs ev => ?_⟩, hdat, h1, ?_, rfl, I1.bare, raises_own T.exC T.tyC, q1 d (I1.hok.fresh M.dbig)⟩
    · by_cases hb : b = e
      · have q' : G'.get? b = some o := q
        rw [hb, ge] at q'; cases q'
      · exact (gk b hb).symm.trans q
    · rw [hdat] at ev
      cases ev
      exact h2
    · rw [upd_ne (Ne.symm M.dne)]
      exact I1.hok.fresh M.new
end K4

set_option maxHeartbeats 8000000
/-! The program: the cursor fails. -/
namespace K4
open PySem PySem.Spec PyProof.Rows L2 Evl
section
variable {P : Program} {w : World} {K : PySem.W.Frag} {mg : Str → Option Value} {base : Heap} {fI cc cda : Addr}
theorem fn_fail (T : Txt K mg) (B : PySem.BadX.BadTxt P K mg (He.ga K "BadText") fI cc cda) : MtP P w K mg base (L2N.CX P w) 4 (He.ga K "Cursor") "fail" ["self"] (spFail K) := by
  have S : FnScope ["self"] ["self"] (defScope (meth 10 2)) := ⟨rfl, rfl, rfl, by decide +kernel, rfl, by decide +kernel, by decide +kernel⟩
  have nd := S.nd
  refine MtP.ofX T.d_Cursor_fail T.t_Cursor_fail S ba_Cursor_fail (fun vs H Q E h => ?_) (fun cdv A outer s H vs Q E hr h => ?_)
  · obtain ⟨cu, wl, all, k, rfl, _⟩ := h
    rfl
  obtain ⟨cu, wl, all, k, rfl, hc, hE⟩ := h
  obtain ⟨dx, h0⟩ := hc.ins
  refine ⟨_, pss_one (L2N.ps_raise rfl takesC (pmk_bad B hr (pa_cons (pe_fld (pv 0) rfl) pa_nil))), ?_⟩
  exact ⟨_, rfl, cu, _, dx, _, _, rfl, h0, T.c_Cursor, T.n_Cursor_at, rfl, _, rfl, fun d hd => hE d _ upd_same⟩
end
end K4

/-! The law: two values are the same; also called while an exception is handled. -/
namespace K4
open PySem PySem.Spec PyProof.Rows L2 Evl
def spSame : Sp := fun vs H Q _ => ∃ v, vs = [v, v] ∧ ((∃ n, v = V.int n) ∨ ∃ x : Str, v = V.str x) ∧ RetV (.bl true) H Q
section
variable {K : PySem.W.Frag} {σ : L2.St} {H : Hp} {te : TE} {x : V} {n c : String} {b : Bool}
theorem ev_isi (h : Ev te σ H x) (ty : ∀ H', TyX K H' x (.type n)) (hk : kitB n c = some b) : Ev (tCB (rIsi K) (tCons te (tCons (tC (.ty c)) tNil))) σ H (.bl b) :=
  ev_cb (ea_cons h (ea_cons ev_c ea_nil)) fun H1 _ _ q => ⟨x, .ty c, _, _, b, rfl, .ty c, ty H1, kit_ty hk, q H1 (Evl.Ex.refl H1)⟩
theorem ty_int {i : Int} : ∀ H', TyX K H' (.int i) (.type "int") := fun _ => .base (.int i)
theorem ty_str {i : Str} : ∀ H', TyX K H' (.str i) (.type "str") := fun _ => .base (.str i)
end
section
variable {P : Program} {w : World} {K : PySem.W.Frag} {mg : Str → Option Value} {base : Heap}
/-- a def that is called while an exception is handled -/
structure FnHP (P : Program) (w : World) (K : PySem.W.Frag) (mg : Str → Option Value) (base : Heap) (CX : CXT) (k : Nat) (x : Str) (ps : List Str) (sp : Sp) : Prop where
  ex : ∃ (f : Addr) (fd : FuncData), L2H.FnH P w K mg base CX k f fd ps sp ∧ mg x = some (.ref f) ∧ PySem.W.keepIn K (.ref f) = true ∧ Binds K fd ps []
theorem FnHP.of {CX : CXT} {x : Str} {st : Stmt} {f : Addr} {N ps : List Str} {k : Nat} {sp : Sp} (F : FD K x x st f) (hg : mg x = some (.ref f)) (S : FnScope N ps (defScope st)) (hb : BA x x st ps) (len : ∀ vs H Q E, sp vs H Q E → vs.length = ps.length)
    (hbody : ∀ (cdv : Value) (A : Around) (outer : List Env) (s : Shared) (H : Hp) (vs : List V) (Q : VK) (E : XK) (p : Addr × Obj), L2H.Hot1 A p → sp vs H Q E →
      ∃ t, PSs (L2H.cxH CX P w K mg base N x (defScope st) f cdv A outer s H E p) (defBody st) t ∧ t { nx := fun _ H' => Q .non H', rt := Q } (start N vs) H) : FnHP P w K mg base CX (k + 1) x ps sp := by
  obtain ⟨fd, F⟩ := F
  obtain ⟨oc, od, dV, kV, doc, pm, an, cdv, ct, osl, e, lk, hcd, _, _⟩ := F.ex
  subst e
  exact ⟨f, _, L2H.fn_ofH lk hcd S len (fun A outer s H vs Q E p hp _ h => hbody cdv A outer s H vs Q E p hp h), hg, F.kp, F.bindsN hb⟩
theorem pe_cfH {X : Cx} {CX : CXT} {j k : Nat} {x : Str} {ps : List Str} {sp : Sp} {E : L2.St → XK} {e : Expr} {es : List Expr} {t : TA} {p pos : Pos} (F : FnHP X.prog X.w X.K X.mg X.base CX j x ps sp) (hr : L2H.RoomH k X.A) (hc : L2H.HotC X) (hx : ∀ σ, PassesAt CX X σ (E σ)) (ha : PA X (e :: es) t) (hjk : j ≤ k := by omega) (hg : Gl X x := by rfl) (hdb : (x == ("__debug__" : Str)) = false := by decide)
    (he : starEach (e :: es) X.env = (false, eval e X.env) :: starEach es X.env := by rfl) (hpl : (backTo pos (starEach es X.env)).any (·.1) = false := by rfl) : PE X (.Call (.Name x p) (e :: es) [] pos) (tCallS sp E t) := by
  obtain ⟨f, fd, F1, h1, h2, h3⟩ := F.ex
  exact L2H.pe_callH F1 (hr.mono hjk) hc hg h1 h2 h3 hx ha hdb he hpl
theorem sc_same : FnScope ["_law_actual", "_law_due", "_law_k"] ["_law_actual", "_law_due"] (defScope (top 36)) := ⟨rfl, rfl, rfl, by decide +kernel, rfl, by decide +kernel, by decide +kernel⟩
theorem fn_law_same (T : Txt K mg) : FnP P w K mg base CX0 1 "_law_same" ["_law_actual", "_law_due"] spSame := by
  have S : FnScope ["_law_actual", "_law_due", "_law_k"] ["_law_actual", "_law_due"] (defScope (top 36)) := ⟨rfl, rfl, rfl, by decide +kernel, rfl, by decide +kernel, by decide +kernel⟩
  have nd := S.nd
  refine FnP.of0 T.d_law_same T.g_law_same S ba_law_same (fun vs H Q E h => ?_) (fun cdv A outer s H vs Q E hr h => ?_)
  · obtain ⟨v, rfl, _⟩ := h
    rfl
  obtain ⟨v, rfl, hv, hQ⟩ := h
  refine ⟨_, (pss_cons (ps_if (PW.pt (pw_or (pt_val (pe_callB call_isi (by rfl) T.f_isinstance (by decide +kernel) (pa_cons (pv 1) (pa_cons (pe_bltn (v := .ty "tuple") (u := .type "tuple") (by rfl) T.f_tuple (by decide +kernel) rfl) pa_nil)))) (pw_or1 (pt_val (pe_callB call_isi (by rfl) T.f_isinstance (by decide +kernel) (pa_cons (pv 1) (pa_cons (pe_bltn (v := .ty "list") (u := .type "list") (by rfl) T.f_list (by decide +kernel) rfl) pa_nil))))))) pss_never pss_nil)
    (pss_cons (ps_if (PW.pt (pw_or (pt_cmpR op_isN (pv 1) pe_non (nomark _)) (pw_or1 (pt_val (pe_callB call_isi (by rfl) T.f_isinstance (by decide +kernel) (pa_cons (pv 1) (pa_cons (pe_bltn (v := .ty "bool") (u := .type "bool") (by rfl) T.f_bool (by decide +kernel) rfl) pa_nil))))))) (pss_one (ps_ret (pe_and (pe_cmpR op_eq (pe_cmpR op_isN (pv 0) pe_non (nomark _)) (pe_cmpR op_isN (pv 1) pe_non (nomark _)) (nomark _)) (pe_and (pe_or (pe_cmpR op_isN (pv 1) pe_non (nomark _)) (pe_one (pe_callB call_isi (by rfl) T.f_isinstance (by decide +kernel) (pa_cons (pv 0) (pa_cons (pe_bltn (v := .ty "bool") (u := .type "bool") (by rfl) T.f_bool (by decide +kernel) rfl) pa_nil))))) (pe_one (pe_cmpR op_eq (pv 0) (pv 1) (nomark _))))))) pss_nil)
    (pss_cons (ps_if (pt_val (pe_callB call_isi (by rfl) T.f_isinstance (by decide +kernel) (pa_cons (pv 1) (pa_cons (pe_bltn (v := .ty "int") (u := .type "int") (by rfl) T.f_int (by decide +kernel) rfl) pa_nil)))) (pss_one (ps_ret (pe_and (pe_callB call_isi (by rfl) T.f_isinstance (by decide +kernel) (pa_cons (pv 0) (pa_cons (pe_bltn (v := .ty "int") (u := .type "int") (by rfl) T.f_int (by decide +kernel) rfl) pa_nil))) (pe_and (pe_not (pe_callB call_isi (by rfl) T.f_isinstance (by decide +kernel) (pa_cons (pv 0) (pa_cons (pe_bltn (v := .ty "bool") (u := .type "bool") (by rfl) T.f_bool (by decide +kernel) rfl) pa_nil)))) (pe_one (pe_cmpR op_eq (pv 0) (pv 1) (nomark _))))))) pss_nil)
    (pss_one (ps_ret (pe_and (pe_callB call_isi (by rfl) T.f_isinstance (by decide +kernel) (pa_cons (pv 0) (pa_cons (pe_bltn (v := .ty "str") (u := .type "str") (by rfl) T.f_str (by decide +kernel) rfl) pa_nil))) (pe_one (pe_cmpR op_eq (pv 0) (pv 1) (nomark _))))))))), ?_⟩
  rcases hv with ⟨n, rfl⟩ | ⟨x, rfl⟩
  · refine q_whenS (b := false) (et_or (a := false) (b := false) (et_B (ev_isi (ev_var rfl) ty_int (by decide +kernel))) fun _ => et_B (ev_isi (ev_var rfl) ty_int (by decide +kernel))) (fun z => by cases z) (fun _ H1 x1 => ?_)
    refine q_whenS (b := false) (et_or (a := false) (b := false) (et_test (ev_op (ev_var rfl) ev_c fun H2 _ Q q => ⟨rfl, q H2 (Evl.Ex.refl H2)⟩)) fun _ => et_B (ev_isi (ev_var rfl) ty_int (by decide +kernel))) (fun z => by cases z) (fun _ H2 x2 => ?_)
    refine q_whenS (b := true) (et_B (ev_isi (ev_var rfl) ty_int (by decide +kernel))) (fun _ H3 x3 => ?_) (fun z => by cases z)
    exact s_ret (ev_is (ev_andV (a := true) (b := true) (ev_isi (ev_var rfl) ty_int (by decide +kernel)) fun _ => ev_andV (a := true) (b := true) (ev_notV (a := false) (ev_isi (ev_var rfl) ty_int (by decide +kernel))) fun _ => ev_is (ev_op (ev_var rfl) (ev_var rfl) (rv_eq rfl)) (congrArg V.bl (decide_eq_true rfl))) rfl) fun H4 x4 => hQ H4 (((x1.trans x2).trans x3).trans x4)
  · refine q_whenS (b := false) (et_or (a := false) (b := false) (et_B (ev_isi (ev_var rfl) ty_str (by decide +kernel))) fun _ => et_B (ev_isi (ev_var rfl) ty_str (by decide +kernel))) (fun z => by cases z) (fun _ H1 x1 => ?_)
    refine q_whenS (b := false) (et_or (a := false) (b := false) (et_test (ev_op (ev_var rfl) ev_c fun H2 _ Q q => ⟨rfl, q H2 (Evl.Ex.refl H2)⟩)) fun _ => et_B (ev_isi (ev_var rfl) ty_str (by decide +kernel))) (fun z => by cases z) (fun _ H2 x2 => ?_)
    refine q_whenS (b := false) (et_B (ev_isi (ev_var rfl) ty_str (by decide +kernel))) (fun z => by cases z) (fun _ H3 x3 => ?_)
    exact s_ret (ev_is (ev_andV (a := true) (b := true) (ev_isi (ev_var rfl) ty_str (by decide +kernel)) fun _ => ev_is (ev_op (ev_var rfl) (ev_var rfl) (rv_eq rfl)) (congrArg V.bl (decide_eq_true rfl))) rfl) fun H4 x4 => hQ H4 (((x1.trans x2).trans x3).trans x4)
theorem fnH_law_same (T : Txt K mg) : FnHP P w K mg base CX0 1 "_law_same" ["_law_actual", "_law_due"] spSame := by
  have S := sc_same
  have nd := S.nd
  refine FnHP.of T.d_law_same T.g_law_same S ba_law_same (fun vs H Q E h => ?_) (fun cdv A outer s H vs Q E p hp h => ?_)
  · obtain ⟨v, rfl, _⟩ := h
    rfl
  obtain ⟨v, rfl, hv, hQ⟩ := h
  refine ⟨_, (pss_cons (ps_if (PW.pt (pw_or (pt_val (pe_callB call_isi (by rfl) T.f_isinstance (by decide +kernel) (pa_cons (pv 1) (pa_cons (pe_bltn (v := .ty "tuple") (u := .type "tuple") (by rfl) T.f_tuple (by decide +kernel) rfl) pa_nil)))) (pw_or1 (pt_val (pe_callB call_isi (by rfl) T.f_isinstance (by decide +kernel) (pa_cons (pv 1) (pa_cons (pe_bltn (v := .ty "list") (u := .type "list") (by rfl) T.f_list (by decide +kernel) rfl) pa_nil))))))) pss_never pss_nil)
    (pss_cons (ps_if (PW.pt (pw_or (pt_cmpR op_isN (pv 1) pe_non (nomark _)) (pw_or1 (pt_val (pe_callB call_isi (by rfl) T.f_isinstance (by decide +kernel) (pa_cons (pv 1) (pa_cons (pe_bltn (v := .ty "bool") (u := .type "bool") (by rfl) T.f_bool (by decide +kernel) rfl) pa_nil))))))) (pss_one (ps_ret (pe_and (pe_cmpR op_eq (pe_cmpR op_isN (pv 0) pe_non (nomark _)) (pe_cmpR op_isN (pv 1) pe_non (nomark _)) (nomark _)) (pe_and (pe_or (pe_cmpR op_isN (pv 1) pe_non (nomark _)) (pe_one (pe_callB call_isi (by rfl) T.f_isinstance (by decide +kernel) (pa_cons (pv 0) (pa_cons (pe_bltn (v := .ty "bool") (u := .type "bool") (by rfl) T.f_bool (by decide +kernel) rfl) pa_nil))))) (pe_one (pe_cmpR op_eq (pv 0) (pv 1) (nomark _))))))) pss_nil)
    (pss_cons (ps_if (pt_val (pe_callB call_isi (by rfl) T.f_isinstance (by decide +kernel) (pa_cons (pv 1) (pa_cons (pe_bltn (v := .ty "int") (u := .type "int") (by rfl) T.f_int (by decide +kernel) rfl) pa_nil)))) (pss_one (ps_ret (pe_and (pe_callB call_isi (by rfl) T.f_isinstance (by decide +kernel) (pa_cons (pv 0) (pa_cons (pe_bltn (v := .ty "int") (u := .type "int") (by rfl) T.f_int (by decide +kernel) rfl) pa_nil))) (pe_and (pe_not (pe_callB call_isi (by rfl) T.f_isinstance (by decide +kernel) (pa_cons (pv 0) (pa_cons (pe_bltn (v := .ty "bool") (u := .type "bool") (by rfl) T.f_bool (by decide +kernel) rfl) pa_nil)))) (pe_one (pe_cmpR op_eq (pv 0) (pv 1) (nomark _))))))) pss_nil)
    (pss_one (ps_ret (pe_and (pe_callB call_isi (by rfl) T.f_isinstance (by decide +kernel) (pa_cons (pv 0) (pa_cons (pe_bltn (v := .ty "str") (u := .type "str") (by rfl) T.f_str (by decide +kernel) rfl) pa_nil))) (pe_one (pe_cmpR op_eq (pv 0) (pv 1) (nomark _))))))))), ?_⟩
  rcases hv with ⟨n, rfl⟩ | ⟨x, rfl⟩
  · refine q_whenS (b := false) (et_or (a := false) (b := false) (et_B (ev_isi (ev_var rfl) ty_int (by decide +kernel))) fun _ => et_B (ev_isi (ev_var rfl) ty_int (by decide +kernel))) (fun z => by cases z) (fun _ H1 x1 => ?_)
    refine q_whenS (b := false) (et_or (a := false) (b := false) (et_test (ev_op (ev_var rfl) ev_c fun H2 _ Q q => ⟨rfl, q H2 (Evl.Ex.refl H2)⟩)) fun _ => et_B (ev_isi (ev_var rfl) ty_int (by decide +kernel))) (fun z => by cases z) (fun _ H2 x2 => ?_)
    refine q_whenS (b := true) (et_B (ev_isi (ev_var rfl) ty_int (by decide +kernel))) (fun _ H3 x3 => ?_) (fun z => by cases z)
    exact s_ret (ev_is (ev_andV (a := true) (b := true) (ev_isi (ev_var rfl) ty_int (by decide +kernel)) fun _ => ev_andV (a := true) (b := true) (ev_notV (a := false) (ev_isi (ev_var rfl) ty_int (by decide +kernel))) fun _ => ev_is (ev_op (ev_var rfl) (ev_var rfl) (rv_eq rfl)) (congrArg V.bl (decide_eq_true rfl))) rfl) fun H4 x4 => hQ H4 (((x1.trans x2).trans x3).trans x4)
  · refine q_whenS (b := false) (et_or (a := false) (b := false) (et_B (ev_isi (ev_var rfl) ty_str (by decide +kernel))) fun _ => et_B (ev_isi (ev_var rfl) ty_str (by decide +kernel))) (fun z => by cases z) (fun _ H1 x1 => ?_)
    refine q_whenS (b := false) (et_or (a := false) (b := false) (et_test (ev_op (ev_var rfl) ev_c fun H2 _ Q q => ⟨rfl, q H2 (Evl.Ex.refl H2)⟩)) fun _ => et_B (ev_isi (ev_var rfl) ty_str (by decide +kernel))) (fun z => by cases z) (fun _ H2 x2 => ?_)
    refine q_whenS (b := false) (et_B (ev_isi (ev_var rfl) ty_str (by decide +kernel))) (fun z => by cases z) (fun _ H3 x3 => ?_)
    exact s_ret (ev_is (ev_andV (a := true) (b := true) (ev_isi (ev_var rfl) ty_str (by decide +kernel)) fun _ => ev_is (ev_op (ev_var rfl) (ev_var rfl) (rv_eq rfl)) (congrArg V.bl (decide_eq_true rfl))) rfl) fun H4 x4 => hQ H4 (((x1.trans x2).trans x3).trans x4)
end
end K4

/-! What a made game's words are. -/
namespace K4
open PySem PySem.Spec PyProof.Rows L2 Evl
theorem EDB.mono {m n : Nat} (h : m ≤ n) : ∀ {b : Blk}, EDB m b → EDB n b
  | .nil, _ => trivial
  | .bad r, k => EDB.mono h (b := r) k
  | .after s r, k => ⟨EDB.mono h (b := s) k.1, EDB.mono h (b := r) k.2⟩
  | .ite e s t r, k => ⟨Nat.le_trans k.1 h, EDB.mono h (b := s) k.2.1, EDB.mono h (b := t) k.2.2.1, EDB.mono h (b := r) k.2.2.2⟩
  | .draw _ _ r, k => EDB.mono h (b := r) k
  | .put _ e f r, k => ⟨Nat.le_trans k.1 h, Nat.le_trans k.2.1 h, EDB.mono h (b := r) k.2.2⟩
  | .gen _ _ e r, k => ⟨Nat.le_trans k.1 h, EDB.mono h (b := r) k.2⟩
theorem flat_len {α : Type} {f : α → List Str} {c : Nat} : ∀ {l : List α} {n : Nat}, l.length ≤ n → (∀ x ∈ l, (f x).length ≤ c) → (l.flatMap f).length ≤ n * c
  | [], n, _, _ => Nat.zero_le _
  | x :: l, 0, h, _ => absurd h (by simp)
  | x :: l, n + 1, h, k => by
    rw [List.flatMap_cons, List.length_append, Nat.succ_mul]
    have h1 := k x (by simp)
    have h2 := flat_len (f := f) (c := c) (l := l) (n := n) (by simpa using h) fun y hy => k y (by simp [hy])
    omega
theorem row_ok {k : Str} {r : Row} (hk : OkW 12 k) (h : RowG r) : ∀ x ∈ rowW k r, OkW 12 x := by
  intro x hx
  simp only [rowW, List.mem_cons, List.not_mem_nil, or_false] at hx
  rcases hx with rfl | rfl | rfl | rfl
  · exact hk
  · exact h.1
  · exact (ok_num h.2.1.1 h.2.1.2).mono (by decide)
  · exact (ok_num h.2.2.1 h.2.2.2).mono (by decide)
theorem pr_ok {p : Pr} (h : PrG p) : ∀ x ∈ prW p, OkW 12 x := by
  intro x hx
  simp only [prW, List.mem_cons, List.mem_append, List.mem_flatMap, List.not_mem_nil, or_false] at hx
  rcases hx with rfl | rfl | rfl | rfl | rfl | ⟨l, hl, rfl | rfl⟩ | hx | rfl | hx | rfl
  · decide +kernel
  · exact h.name
  · exact (ok_num h.size.1 h.size.2).mono (by decide)
  · exact (ok_num h.ans.1 h.ans.2).mono (by decide)
  · exact h.locs _ (by simp)
  · decide +kernel
  · exact h.locs _ (by simp [hl])
  · exact h.blk.ok _ hx
  · decide +kernel
  · exact h.res.ok _ hx
  · decide +kernel
theorem pr_len {p : Pr} (h : PrG p) : (prW p).length ≤ 300 := by
  have h1 := flat_len (f := fun l => [("local" : Str), l]) (c := 2) h.few (fun x _ => Nat.le_refl 2)
  have h2 := h.len
  have h3 : (exW p.res).length ≤ 15 := h.res.len
  simp only [prW, List.length_cons, List.length_append, List.length_nil]
  omega
theorem game_ok {g : Gm} (h : GmG g) : ∀ x ∈ gameW g, OkW 12 x := by
  intro x hx
  simp only [gameW, List.mem_append, List.mem_flatMap] at hx
  rcases hx with ⟨r, hr, hx⟩ | ⟨r, hr, hx⟩ | ⟨r, hr, hx⟩ | ⟨p, hp, hx⟩
  · exact row_ok (by decide +kernel) (h.vars.2 r hr) x hx
  · exact row_ok (by decide +kernel) (h.tabs.2 r hr) x hx
  · exact row_ok (by decide +kernel) (h.lots.2 r hr) x hx
  · exact pr_ok (h.procs.2 p hp) x hx
theorem game_len {g : Gm} (h : GmG g) : (gameW g).length ≤ 700 := by
  have h1 := flat_len (f := rowW "var") (c := 4) h.vars.1 fun _ _ => Nat.le_refl 4
  have h2 := flat_len (f := rowW "table") (c := 4) h.tabs.1 fun _ _ => Nat.le_refl 4
  have h3 := flat_len (f := rowW "lots") (c := 4) h.lots.1 fun _ _ => Nat.le_refl 4
  have h4 := flat_len (f := prW) (c := 300) h.procs.1 fun p hp => pr_len (h.procs.2 p hp)
  simp only [gameW, List.length_append]
  omega
theorem game_wd {g : Gm} (h : GmG g) : WdOk g := ⟨fun p hp => by
  have k := h.procs.2 p hp
  exact ⟨Nat.lt_of_le_of_lt k.blk.dep (by decide), k.blk.exs.mono (by decide), Nat.lt_of_le_of_lt k.res.dep (by decide)⟩, Nat.le_trans (game_len h) (by decide)⟩
end K4

/-! The law: the error it catches. -/
namespace PySem.W
open PySem PySem.Spec PySem.Calls PyProof.Rows
section
variable {K : Frag} {x D : Addr} {ox od : Obj}
/-- an own class's object -/
theorem lk_cls (hd : hasDictIn K D = true) : ∃ oc oo cd sl, K.lookup D = some ⟨oc, oo, .cls cd, sl⟩ := by
  obtain ⟨z, hz, _⟩ := any_some hd
  unfold clsIn at hz
  cases q : K.lookup D with
  | none =>
    rw [q] at hz
    cases hz
  | some u =>
    obtain ⟨oc, oo, dt, sl⟩ := u
    rw [q] at hz
    cases dt with
    | cls cd => exact ⟨oc, oo, cd, sl, rfl⟩
    | _ => cases hz
theorem isType_own {M : Model} {h : Heap} (hd : hasDictIn K D = true) (X : K.In h) : Looks M h (isType (.ref D)) true := by
  obtain ⟨oc, oo, cd, sl, e⟩ := lk_cls hd
  intro A P E s keep q
  have e2 := keep _ _ (X _ _ e)
  unfold isType loadHead
  refine wpAny_bind ?_
  exact wpAny_loadPart e2 (wpAny_pure q)
/-- an error of an own class, with a dict: what isinstance asks -/
theorem kitx_excD (C : L2.ExcC K D) : KitX K (.ref x) (.ref D) (fun g => InstAt g x ox D (some od)) := by
  refine ⟨fun M h _ J => J.type, fun M h X _ => isType_own C.hd X, fun h tp dd its n sl X e => ?_, fun X J q => ?_⟩
  · obtain ⟨oc, oo, cd, sl', e1⟩ := lk_cls C.hd
    rw [Bool.eq_false_iff]
    intro z
    cases beq_iff_eq.mp z
    have e3 := X _ _ e1
    rw [e] at e3
    cases e3
  · obtain ⟨oc, oo, cd, sl', e1⟩ := lk_cls C.hd
    have hs : (clsIn K D).isSome = true := by
      obtain ⟨z, hz, _⟩ := any_some C.hd
      rw [hz]
      rfl
    exact kx_classE X J C.hg C.hk C.hs (findObj_dataE hs C.ha C.hn C.ht) C.hm q
end
end PySem.W
namespace K4
open PySem PySem.Spec PyProof.Rows L2 Evl
/-- isinstance(e, c), e the exception that the suite holds, d its dict -/
def rIsD (K : PySem.W.Frag) (D a : Addr) (d : Option Addr) : List V → Hp → VK → Prop := fun xs H Q => ∃ (c : Addr) (b : Bool) (dd : Addr) (fs : List (Str × V)), xs = [.ref a, .ref c] ∧ d = some dd ∧ H dd = some (.xd fs) ∧ PySem.W.kitOne K (.ref D) (.ref c) = some b ∧ Q (.bl b) H
/-- the reading, whatever the class: it says that the class is D -/
def rIsE2 (K : PySem.W.Frag) (D a : Addr) (cls : Value) (d : Option Addr) : List V → Hp → VK → Prop := fun xs H Q => cls = .ref D ∧ rIsD K D a d xs H Q
theorem call_isD {X : Cx} {a D : Addr} {oe : Obj} {cls : Value} {d : Option Addr} {pn : List (Addr × Obj)} (C : ExcC X.K D) (hz : Zc cls d oe) (hf : ∃ vs, oe.data = .fields vs) : CallR (X.suite a ((a, oe) :: pn)) (.builtin "isinstance") (rIsE2 X.K D a cls d) := by
  intro pins s σ H xs us R I r hr
  obtain ⟨ec, c, b, dd, fs, rfl, ed, hdd, e, q⟩ := hr
  subst ec ed
  cases r with
  | cons rx rr =>
    cases rr with
    | cons rt rr =>
      cases rr
      cases rx
      cases rt
      have hget := (I.pin (a, oe) (List.mem_append_left _ List.mem_cons_self)).1
      obtain ⟨vs, hv⟩ := hf
      obtain ⟨mA, hns, _⟩ := (show ObjOk X.prog X.w H s.heap dd (.xd fs) from I.hok dd _ hdd)
      obtain ⟨od, ho, _⟩ := lookIn_ns hns
      have J : PySem.W.InstAt s.heap a oe D (some od) := ⟨hget, hz.1, by unfold PySem.W.notCls; rw [hv] <;> rfl, by rw [hz.2]; exact ho⟩
      exact PySem.W.kia_one (PySem.W.kitx_excD C) I.kIn J e (fun z => nomatch z) fun tk => ⟨.bl b, H, I.kept (t' := tk) fun _ _ z => z, rfl, q⟩
/-- what the law needs of BadText -/
structure ErrB (P : Program) (K : PySem.W.Frag) (mg : Str → Option Value) (fI cc cda : Addr) : Prop where
  bad : PySem.BadX.BadTxt P K mg (He.ga K "BadText") fI cc cda
  xf : XfC K (He.ga K "BadText")
  ec : ExcC K (He.ga K "BadText")
  isP : PySem.W.kitOne K (.ref (He.ga K "BadText")) (.ref (He.ga K "PlayError")) = some true
  exm : PySem.W.exmOne K (.ref (He.ga K "BadText")) (.ref (He.ga K "BadText")) = some true
theorem Txt.k_PlayError {K : PySem.W.Frag} {mg : Str → Option Value} (T : Txt K mg) : ∃ u, mg "PlayError" = some u ∧ RelV (.ref (He.ga K "PlayError")) u := ⟨_, T.g_PlayError, rfl⟩
theorem hot_of {X : Cx} {a : Addr} {oe : Obj} {cls : Value} {d : Option Addr} {pn : List (Addr × Obj)} (hz : L2N.Zn cls d oe) (hf : ∃ vs, oe.data = .fields vs) : L2H.HotC (X.suite a ((a, oe) :: pn)) := by
  obtain ⟨vs, hv⟩ := hf
  exact ⟨(a, oe), ⟨rfl, vs, hv, hz.2.2 vs hv⟩, List.mem_cons_self⟩
theorem hrH {X : Cx} {a : Addr} {k : Nat} {pn : List (Addr × Obj)} (hr : Room k X.A) : L2H.RoomH k (X.suite a pn).A := ⟨hr.dp, hr.un⟩
theorem takes0N {X : Cx} : L2N.Takes X (fun _ _ _ _ => False) := fun _ _ x => by
  obtain ⟨_, _, _, _, _, _, _, _, _, _, _, _, _, _, _, _, z⟩ := x
  exact z.elim
theorem passS {X : Cx} {E : L2.St → XK} : ∀ σ, PassesAt CX0 X σ (E σ) := fun _ _ _ _ _ _ _ h => h.elim
section
variable {X : Cx} {CX : CXT} {j k : Nat} {x : Str} {ps : List Str} {sp : Sp} {E : L2.St → XK} {e : Expr} {es : List Expr} {t : TA} {p pos : Pos}
theorem pe_cfS (F : FnP X.prog X.w X.K X.mg X.base CX j x ps sp) (hr : Room k X.A) (hx : ∀ σ, PassesAt CX X σ (E σ)) (ha : PA X (e :: es) t) (hjk : j ≤ k := by omega) (hg : Gl X x := by rfl) (hdb : (x == ("__debug__" : Str)) = false := by decide)
    (he : starEach (e :: es) X.env = (false, eval e X.env) :: starEach es X.env := by rfl) (hpl : (backTo pos (starEach es X.env)).any (·.1) = false := by rfl) : PE X (.Call (.Name x p) (e :: es) [] pos) (tCallS sp E t) := by
  obtain ⟨f, fd, F1, h1, h2, h3⟩ := F.ex
  exact pe_callS F1 (hr.mono hjk) hg h1 h2 h3 hx ha hdb he hpl
end
theorem join_len : ∀ ws : List Str, (Txt.join " " ws).length ≤ (ws.map (·.length)).sum + ws.length := by
  intro ws
  rw [TL.join_eq]
  induction ws with
  | nil => exact Nat.zero_le _
  | cons x r ih =>
    cases r with
    | nil => show x.length ≤ _; simp
    | cons y r =>
      show (x ++ (" " : Str) ++ Str.join " " (y :: r)).length ≤ _
      rw [strLen_append, strLen_append, List.map_cons, List.sum_cons, List.length_cons]
      have h : (" " : Str).length = 1 := by decide +kernel
      omega
theorem sum_len {n : Nat} : ∀ {ws : List Str}, (∀ x ∈ ws, x.length ≤ n) → (ws.map (·.length)).sum ≤ n * ws.length
  | [], _ => Nat.zero_le _
  | x :: r, h => by
    rw [List.map_cons, List.sum_cons, List.length_cons, Nat.mul_succ]
    have h1 := h x (by simp)
    have h2 := sum_len (n := n) (ws := r) fun y hy => h y (by simp [hy])
    omega
end K4

/-! The law's end: the text is read, or an error is caught. -/
namespace K4
open PySem PySem.Spec PyProof.Rows L2 Evl
/-- ' '.join(l) -/
def rJn (K : PySem.W.Frag) : V → List V → Hp → VK → Prop := fun x xs H Q => ∃ a p, ∃ ys : List Str, x = .str a ∧ xs = [.ref p] ∧ (SqL K H p (ys.map V.str) ∨ SqT K H p (ys.map V.str)) ∧ (ys.map (·.length)).sum + ys.length * a.length ≤ 16777216 ∧ Q (.str (Txt.join a ys)) H
def rTupOf (K : PySem.W.Frag) : List V → Hp → VK → Prop := fun xs H Q => ∃ p ys, xs = [.ref p] ∧ ((SqL K H p ys ∧ ∀ l, H l = none → Q (.ref l) (upd H l (.tup ys))) ∨ (SqT K H p ys ∧ Q (.ref p) H))
def tTryB (K : PySem.W.Frag) (W : WX) : TS := tAsg (tCall (spGText K) [] E0 (tCons (tCallS (spRG K) (WE W) (tCons (tM1 (rJn K) (tC (.str " ")) (tVar 3)) (tCons (tCB (rTupOf K) (tCons (tVar 2) tNil)) tNil))) tNil)) (gName 8)
def tTryS (K : PySem.W.Frag) (a : Addr) (cls : Value) (d : Option Addr) : TS := tRet (tAndV (tOp (fun x y H Q => y = .non ∧ Q (.bl (!decide (x = .non))) H) (tVar 7) (tC .non)) (tAndV (tCallS spSame (fun _ _ _ _ => False) (tCons (tXf a cls d (He.ga K "BadText") "at" (tVar 9)) (tCons (tVar 7) tNil)))
  (tCB (rIsE2 K (He.ga K "BadText") a cls d) (tCons (tVar 9) (tCons (tC (.ref (He.ga K "PlayError"))) tNil)))))
def tEnd (K : PySem.W.Frag) : TS := tSeq (fun D σ H => tTryB K (wAs K (.ref (He.ga K "BadText")) 9 (tTryS K) (fun _ _ _ _ => False) D) D σ H) (tRet (tAndV (tOp (fun x y H Q => y = .non ∧ Q (.bl (decide (x = .non))) H) (tVar 7) (tC .non)) (tCall spSame [] E0 (tCons (tVar 8) (tCons (tM1 (rJn K) (tC (.str " ")) (tVar 3)) tNil)))))
def AskOk (asked : List Str) : Prop := asked = [] ∨ asked = [("p" : Str), ("n" : Str)]
theorem ask_noE {asked : List Str} (h : AskOk asked) : NoE (sc0 asked) := by
  intro t
  rcases h with rfl | rfl <;> cases t <;> decide +kernel
theorem ask_len {asked : List Str} (h : AskOk asked) : asked.length ≤ 100 := by
  rcases h with rfl | rfl <;> decide
section
variable {P : Program} {K : PySem.W.Frag} {mg : Str → Option Value} {fI cc cda : Addr}
theorem ev_join {K : PySem.W.Frag} {σ : L2.St} {H : Hp} {i : Nat} {wl : Addr} {ws : List Str} (h : σ[i]? = some (some (.ref wl))) (hl : H wl = some (.lst (ws.map V.str))) (hz : (ws.map (·.length)).sum + ws.length ≤ 10000000) : Ev (tM1 (rJn K) (tC (.str " ")) (tVar i)) σ H (.str (Txt.join " " ws)) := fun H1 e Q q =>
  ⟨⟨_, rfl⟩, _, h, _, wl, ws, rfl, rfl, Or.inl (SqL.of (e _ _ hl)), by
    have e1 : (" " : Str).length = 1 := by decide +kernel
    rw [e1]
    omega, q H1 (Evl.Ex.refl H1)⟩
theorem end_law (B : ErrB P K mg fI cc cda) {σ : L2.St} {H : Hp} {sa p al wl : Addr} {y4 y5 y6 y10 : Option V} {ws asked : List Str} {D : Ends} (hσ : σ = [some (.ref sa), some (.ref p), some (.ref al), some (.ref wl), y4, y5, y6, some (optV (wrong asked ws)), none, none, y10])
    (hwl : H wl = some (.lst (ws.map V.str))) (hal : H al = some (.lst (asked.map V.str))) (hask : AskOk asked) (hne : ws ≠ [Str.empty]) (hok : ∀ x ∈ ws, OkW 207 x) (hlen : ws.length ≤ 3012) (hD : ∀ H', D.rt (.bl true) H') : tEnd K D σ H := by
  subst hσ
  have hsum : (ws.map (·.length)).sum ≤ 207 * ws.length := sum_len fun x hx => (hok x hx).1
  have hz : (ws.map (·.length)).sum + ws.length ≤ 10000000 := by omega
  have hws : wsT (Txt.join " " ws) = ws := wsT_join (fun x hx => (hok x hx).2) hne
  refine ev_join rfl hwl hz H (Evl.Ex.refl H) _ fun H1 e1 => ⟨_, rfl, al, _, rfl, Or.inl ⟨SqL.of (e1 _ _ hal), fun ta hta => ?_⟩⟩
  have hwl1 := e1 _ _ hwl
  have e2 : Evl.Ex H (upd H1 ta (.tup (asked.map V.str))) := e1.trans (Evl.Ex.new hta)
  refine ⟨_, ta, asked, rfl, Nat.le_trans (join_len ws) hz, upd_same, ask_noE hask, by rw [hws]; omega, fun x hx => ?_, fun g v H3 hg hrun hwd hgm k3 => ?_, fun n hrun d H3 hd => ?_⟩
  · rw [hws] at hx
    exact Nat.le_trans (hok x hx).1 (by decide)
  · rw [hws] at hg hrun
    have hw : wrong asked ws = none := by
      unfold wrong
      rw [hrun]
      rfl
    refine ⟨v, g, rfl, hgm, hwd, by rw [hg]; omega, fun H4 e4 => ?_⟩
    rw [hg]
    have hwl4 := e4 _ _ (k3.get0 (e2 _ _ hwl))
    refine nx_ ?_
    refine s_ret (v := .bl true) (ev_andV (a := true) (b := true) (ev_is (ev_op (ev_var (v := .non) ?_) ev_c fun H5 _ Q q => ⟨rfl, q H5 (Evl.Ex.refl H5)⟩) (congrArg V.bl (decide_eq_true rfl))) fun _ => ?_) fun H5 _ => hD H5
    · rw [hw]
      rfl
    · exact ev_call (vs := [.str (Txt.join " " ws), .str (Txt.join " " ws)]) (ea_cons (ev_var rfl) (ea_cons (ev_join rfl hwl4 hz) ea_nil)) fun H5 _ Q q _ => ⟨_, rfl, Or.inr ⟨_, rfl⟩, q⟩
  · rw [hws] at hrun hd
    have hw : wrong asked ws = some (ws.length - n) := by
      unfold wrong
      rw [hrun]
      rfl
    refine ⟨true, B.exm, fun _ a na => ?_, fun z => by cases z⟩
    rw [hw]
    refine ⟨_, rfl, rfl, true, rfl, iteT ⟨_, rfl, rfl, rfl, d, _, _, rfl, hd, rfl, _, rfl, _, rfl, Or.inl ⟨_, rfl⟩, fun H4 e4 => ⟨true, rfl, iteT ⟨_, rfl, rfl, _, true, d, _, rfl, rfl, e4 _ _ hd, B.isP, hD _⟩⟩⟩⟩
end
end K4

/-! The law: words are renamed. -/
namespace K4
open PySem PySem.Spec PyProof.Rows L2 Evl
/-- every value is a short text -/
def NmOk (kvs : List (Key × V)) : Prop := ∀ k v, valV kvs k = some v → ∃ x, v = .str x ∧ OkW 12 x
theorem NmOk.put {kvs : List (Key × V)} (h : NmOk kvs) {k : Key} {x : Str} (hx : OkW 12 x) : NmOk (putK kvs k (.str x)) := by
  intro j v e
  rw [valV_put] at e
  by_cases hj : j = k
  · rw [if_pos hj] at e
    exact ⟨x, (Option.some.inj e).symm, hx⟩
  · rw [if_neg hj] at e
    exact h j v e
section
variable {K : PySem.W.Frag} {H : Hp} {p a : Addr} {b : Int} {σ : L2.St} {D : Ends} {tu tw tz : TS} {E : XK} {i : Nat} {n c : Int}
theorem s_ifP (h0 : σ[i]? = some (some (.ref p))) (h1 : 1 ≤ n) (h2 : n < 1073741824) (hp : Pool H p a b) (k1 : ∀ H1, Kp [p] H H1 → Pool H1 p a b → tu D σ H1) (k2 : ∀ H1, Kp [p] H H1 → Pool H1 p a b → tw D σ H1) :
    tIfS (tTest (tOp rEq (tCall spDraw [] E (tCons (tVar i) (tCons (tC (.int n)) tNil))) (tC (.int c)))) tu tw D σ H := by
  refine ep_draw (n := n) h0 ep_int h1 h2 H Kp.refl hp _ fun v H1 k3 p1 ⟨r, e, _, _⟩ => ?_
  subst e
  refine ⟨rfl, _, rfl, ?_⟩
  cases hd : decide (V.int r = V.int c) with
  | true => exact iteT (k1 H1 k3 p1)
  | false => exact iteF (k2 H1 k3 p1)
def isAsk (p : Addr) : V → Hp → Prop := fun v H => ∃ al asked, v = .ref al ∧ AskOk asked ∧ al ≠ p ∧ H al = some (.lst ((asked : List Str).map V.str))
theorem ep_ask (h1 : σ[i]? = some (some (.ref p))) : EvP p a b (tOp (rIxL K) (tLst (tCons (tLst tNil) (tCons (tLst (tCons (tC (.str "p")) (tCons (tC (.str "n")) tNil))) tNil))) (tCall spDraw [] E (tCons (tVar i) (tCons (tC (.int 2)) tNil)))) σ H (isAsk p) := by
  intro H1 k1 p1 Q q
  refine ⟨sz (show 0 ≤ 1000000 by decide), fun l0 hl0 => ⟨sz (show 2 ≤ 1000000 by decide), fun l1 hl1 => ⟨sz (show 2 ≤ 1000000 by decide), fun l hl => ?_⟩⟩⟩
  have p2 := pool_new (o := .lst []) p1 hl0
  have p3 := pool_new (o := .lst [.str "p", .str "n"]) p2 hl1
  have p4 := pool_new (o := .lst [.ref l0, .ref l1]) p3 hl
  refine ep_draw (n := 2) h1 ep_int (by decide) (by decide) _ Kp.refl p4 _ fun v H2 k2 p5 ⟨r, e, r0, r1⟩ => ?_
  subst e
  have kk : Kp [p] H1 H2 := (((Kp.new hl0).trans (Kp.new hl1)).trans (Kp.new hl)).trans k2
  have n0 := pool_ne p1 hl0
  have n1 := pool_ne p2 hl1
  have nl := pool_ne p3 hl
  refine ⟨l, [.ref l0, .ref l1], r, ?_⟩
  rcases (show r = 0 ∨ r = 1 by omega) with rfl | rfl
  · refine ⟨.ref l0, rfl, rfl, SqL.of (k2.get1 upd_same nl), rfl, q _ H2 kk p5 ⟨l0, [], rfl, .inl rfl, n0, k2.get1 (get_new hl (get_new hl1 upd_same)) n0⟩⟩
  · refine ⟨.ref l1, rfl, rfl, SqL.of (k2.get1 upd_same nl), rfl, q _ H2 kk p5 ⟨l1, [("p" : Str), ("n" : Str)], rfl, .inr rfl, n1, k2.get1 (get_new hl upd_same) n1⟩⟩
theorem lc_get {v0 v1 v2 y5 y6 y7 y8 y9 y10 : Option V} {wl dp : Addr} {ws : List Str} {kvs : List (Key × V)} {Q : VK} (hl : H wl = some (.lst (ws.map V.str))) (hd : H dp = some (.dK kvs)) (hv : NmOk kvs) (hok : ∀ x ∈ ws, OkW 12 x) (hlen : ws.length ≤ 1000)
    (q : ∀ r ws' H', Evl.Ex H H' → H r = none → H' r = some (.lst ((ws' : List Str).map V.str)) → (∀ x ∈ ws', OkW 12 x) → ws'.length ≤ 1000 → Q (.ref r) H') :
    tLc (iList K (tVar 3)) (gName 10) tYes (tDGet2 (tVar 4) (tVar 10) (tVar 10)) [10] [v0, v1, v2, some (.ref wl), some (.ref dp), y5, y6, y7, y8, y9, y10] H Q := by
  refine ⟨_, rfl, wl, rfl, ⟨_, SqL.of hl⟩, fun Dl hD => ?_⟩
  refine lc_list (xs := ws.map V.str) (fun i H' => Evl.Ex H H' ∧ ∃ ws' : List Str, H' Dl = some (.lst (ws'.map V.str)) ∧ ws'.length = i ∧ ∀ x ∈ ws', OkW 12 x) ⟨Evl.Ex.new hD, [], upd_same, rfl, fun x hx => by cases hx⟩ (fun i H' _ h => SqL.of (h.1 _ _ hl)) (fun i x H' hx ⟨e1, ws', h1, h2, h3⟩ => ?_) (fun H' ⟨e1, ws', h1, h2, h3⟩ => q Dl ws' H' e1 hD h1 h3 (by rw [h2, List.length_map]; exact hlen))
  obtain ⟨y, hy, rfl⟩ : ∃ y, y ∈ ws ∧ x = V.str y := by
    have := List.mem_of_getElem? hx
    obtain ⟨y, hy, e⟩ := List.mem_map.mp this
    exact ⟨y, hy, e.symm⟩
  have hil : i < ws.length := by
    have : i < (ws.map V.str).length := by
      rcases Nat.lt_or_ge i (ws.map V.str).length with z | z
      · exact z
      · rw [List.getElem?_eq_none z] at hx; cases hx
    rwa [List.length_map] at this
  have hd' := e1 _ _ hd
  refine ⟨rfl, yes_if ?_⟩
  refine ⟨_, rfl, dp, rfl, .inl ⟨kvs, Rd.of hd'⟩, _, rfl, _, rfl, _, DGet.k (k := .inr y) hd', ?_⟩
  obtain ⟨z, ez, hz⟩ : ∃ z, (valV kvs (.inr y)).getD (V.str y) = V.str z ∧ OkW 12 z := by
    cases hvk : valV kvs (.inr y) with
    | none => exact ⟨y, rfl, hok y hy⟩
    | some v =>
      obtain ⟨z, e, hz⟩ := hv _ v hvk
      exact ⟨z, e, hz⟩
  rw [ez]
  refine ⟨_, h1, ?_, Evl.Ex.mut e1 hD, ws' ++ [z], ?_, ?_, ?_⟩
  · rw [List.length_map]
    exact szl (by omega)
  · rw [upd_same, List.map_append]
    rfl
  · rw [List.length_append, h2]
    rfl
  · intro x hx
    rcases List.mem_append.mp hx with hx | hx
    · exact h3 x hx
    · rw [List.mem_singleton.mp hx]; exact hz
abbrev tPr2 (q : Str × Str) : TE := tTup (tCons (tC (.str q.1)) (tCons (tC (.str q.2)) tNil))
def tPrs : List (Str × Str) → TA
  | [] => tNil
  | q :: l => tCons (tPr2 q) (tPrs l)
theorem prs_ev : ∀ {l : List (Str × Str)} {H : Hp} {Q : List V → Hp → Prop}, (∀ xs H', Kp [] H H' → xs.length = l.length → (∀ x ∈ xs, ∃ t q, x = .ref t ∧ q ∈ l ∧ H' t = some (.tup [.str q.1, .str q.2])) → Q xs H') → tPrs l σ H Q
  | [], H, Q, h => h [] H Kp.refl rfl fun x hx => by cases hx
  | q :: l, H, Q, h => ⟨sz (show 2 ≤ 1000000 by decide), fun t ht => prs_ev (l := l) fun xs H' k hl hx => h (.ref t :: xs) H' ((Kp.new ht).trans k) (by rw [List.length_cons, List.length_cons, hl]) fun x hx' => by
      rcases List.mem_cons.mp hx' with rfl | hx'
      · exact ⟨t, q, rfl, List.mem_cons_self, k.get0 upd_same⟩
      · obtain ⟨t', q', e, hq, ht'⟩ := hx x hx'
        exact ⟨t', q', e, List.mem_cons_of_mem _ hq, ht'⟩⟩
theorem ren_loop {v0 v1 v2 v3 y5 y6 y7 y8 y9 y10 : Option V} {dp : Addr} {kvs : List (Key × V)} {l : List (Str × Str)} (hl : l.length ≤ 10) (hok : ∀ q ∈ l, OkW 12 q.2) (hd : H dp = some (.dK kvs)) (hn : NmOk kvs) (h7 : kvs.length ≤ 10)
    (k : ∀ H8 y5 y6 kvs', Kp [dp] H H8 → H8 dp = some (.dK kvs') → NmOk kvs' → D.nx [v0, v1, v2, v3, some (.ref dp), y5, y6, y7, y8, y9, y10] H8) :
    tFor (iTup K (tTup (tPrs l))) (gTup K 2 (gCons (gName 5) (gCons (gName 6) gNil))) (sDPut (tVar 4) (tVar 5) (tVar 6)) D [v0, v1, v2, v3, some (.ref dp), y5, y6, y7, y8, y9, y10] H := by
  refine prs_ev fun xs HT kT hlx hx => ⟨sz (by omega), fun tp htp => ⟨tp, rfl, ⟨_, st_of upd_same⟩, ?_⟩⟩
  have kU : Kp [] H (upd HT tp (.tup xs)) := kT.trans (Kp.new htp)
  refine for_tup (xs := xs) (fun i σ' H' => ∃ y5 y6 kvs', σ' = [v0, v1, v2, v3, some (.ref dp), y5, y6, y7, y8, y9, y10] ∧ Kp [dp] (upd HT tp (.tup xs)) H' ∧ H' dp = some (.dK kvs') ∧ NmOk kvs' ∧ kvs'.length ≤ 10 + i) ?_ ?_ ?_ ?_
  · exact ⟨y5, y6, kvs, rfl, Kp.refl, kU.get0 hd, hn, by omega⟩
  · rintro i σ' H' hi ⟨_, _, _, _, kk, _⟩
    exact st_of (kk.2 _ _ upd_same)
  · rintro i x σ' H' hix ⟨z5, z6, kv, rfl, kk, hdk, hnk, hlk⟩
    obtain ⟨t, q, rfl, hq, ht⟩ := hx x (List.mem_of_getElem? hix)
    have hi : i < xs.length := by
      rcases Nat.lt_or_ge i xs.length with z | z
      · exact z
      · rw [List.getElem?_eq_none z] at hix; cases hix
    refine ⟨t, _, rfl, st_of (kk.2 _ _ (get_new htp ht)), rfl, _, _, rfl, _, _, rfl, rfl, ?_⟩
    refine ⟨_, rfl, _, rfl, _, rfl, dp, _, rfl, DPut.k (k := .inr q.1) hdk (szl (by omega)), ?_⟩
    exact ⟨_, _, _, rfl, kk.trans (Kp.dK hdk (by simp)), upd_same, hnk.put (hok q hq), by have := length_putK kv (.inr q.1) (V.str q.2); omega⟩
  · rintro σ' H' ⟨z5, z6, kv, rfl, kk, hdk, hnk, _⟩
    exact k H' z5 z6 kv (kU.nil.trans kk) hdk hnk
end
def nm0 : List (Str × Str) := [("x", "secret0key"), ("y", "secret0kez"), ("z", "modx"), ("t", "tablelets12"), ("m", "tablelets1"), ("s", "cells"), ("o", "ends")]
def nm1 : List (Str × Str) := [("k", "endsz789"), ("p", "procfijlw"), ("r", "letter"), ("g", "given"), ("a", "answer1"), ("b", "bads")]
def nmK : List (Key × V) := nm0.map fun q => (.inr q.1, .str q.2)
theorem nmOk_of : ∀ {l : List (Str × Str)}, (∀ q ∈ l, OkW 12 q.2) → NmOk (l.map fun q => ((.inr q.1 : Key), V.str q.2))
  | [], _ => fun k v e => by cases e
  | q :: l, h => fun k v e => by
    rw [List.map_cons] at e
    by_cases hk : (.inr q.1 : Key) = k
    · rw [valV_pos (p := ((.inr q.1 : Key), V.str q.2)) hk] at e
      exact ⟨q.2, (Option.some.inj e).symm, h q List.mem_cons_self⟩
    · rw [valV_neg (p := ((.inr q.1 : Key), V.str q.2)) hk] at e
      exact nmOk_of (fun q hq => h q (List.mem_cons_of_mem _ hq)) k v e
end K4

/-! The law itself. -/
namespace K4
open PySem PySem.Spec PyProof.Rows L2 Evl
def spLaw (K : PySem.W.Frag) : Sp := fun vs H Q _ => ∃ (s : Addr) (ns : List Int), vs = [.ref s] ∧ SqL K H s (ns.map V.int) ∧ ∀ H', Q (.bl true) H'
section
variable {P : Program} {w : World} {K : PySem.W.Frag} {mg : Str → Option Value} {base : Heap} {fI cc cda : Addr}
theorem FnO_of0 {x : Str} {st : Stmt} {N ps : List Str} {k : Nat} {sp : Sp} {f : Addr} {fd : FuncData} (F : FunD K x x (defArgs st) (defBody st) (defScope st) [] [] f fd) (S : FnScope N ps (defScope st)) (len : ∀ vs H Q E, sp vs H Q E → vs.length = ps.length)
    (hbody : ∀ (cdv : Value) (A : Around) (outer : List Env) (s : Shared) (H : Hp) (vs : List V) (Q : VK) (E : XK), Room k (A.deeper (envOfC x (defScope st) s.heap.objs.size f cdv)) → sp vs H Q E →
      ∃ t, PSs (cxOf CX0 P w K mg base N x (defScope st) f cdv A outer s H E).nox (defBody st) t ∧ t { nx := fun _ H' => Q .non H', rt := Q } (start N vs) H) : FnOk P w K mg base CX0 (k + 1) f fd ps sp :=
  F.ok S len fun cdv A outer s H vs Q E hr h => by
    obtain ⟨t, h1, h2⟩ := hbody cdv A outer s H vs Q E hr h
    exact ⟨t, h1.nox, h2⟩
theorem fn_law {fd : FuncData} (F : FunD K "law" "law" (defArgs (top 56)) (defBody (top 56)) (defScope (top 56)) [] [] (He.ga K "law") fd) (T : Txt K mg) (B : ErrB P K mg fI cc cda) (hH : FnHP P w K mg base CX0 1 "_law_same" ["_law_actual", "_law_due"] spSame) (h_law_same : FnP P w K mg base CX0 1 "_law_same" ["_law_actual", "_law_due"] spSame) (h_law_pool : FnP P w K mg base CX0 1 "_law_pool" ["_law_script", "_law_budget"] (spPool K)) (h_law_draw : FnP P w K mg base CX0 1 "_law_draw" ["_law_pool_here", "_law_size"] spDraw)
    (h_law_walked : FnP P w K mg base CX0 5 "_law_walked" ["_law_pool_here", "_law_asked"] spWalked) (h_law_words : FnP P w K mg base CX0 20 "_law_words" ["_law_game_here"] spWords) (h_law_game : FnP P w K mg base CX0 21 "_law_game" ["_law_pool_here", "_law_wide", "_law_ways"] spGame) (h_law_changed : FnP P w K mg base CX0 3 "_law_changed" ["_law_pool_here", "_law_words_here"] spChanged)
    (h_law_wrong : FnP P w K mg base CX0 4 "_law_wrong" ["_law_words_here", "_law_asked"] (spWrong K)) (h_game_text : FnP P w K mg base CX0 28 "game_text" ["game"] (spGText K)) (h_read_game : FnP P w K mg base (L2N.CX P w) 32 "read_game" ["text", "asked"] (spRG K)) :
    FnOk P w K mg base CX0 33 (He.ga K "law") fd ["_law_script"] (spLaw K) := by
  have S : FnScope ["_law_script", "_law_pool_here", "_law_asked", "_law_words_here", "_law_names", "_law_key", "_law_name", "_law_wrong_here", "_law_actual", "e", "_law_word"] ["_law_script"] (defScope (top 56)) := ⟨rfl, rfl, rfl, by decide +kernel, rfl, by decide +kernel, by decide +kernel⟩
  have nd := S.nd
  refine FnO_of0 F S (fun vs H Q E h => ?_) (fun cdv A outer s H vs Q E hr h => ?_)
  · obtain ⟨s, ns, rfl, _⟩ := h
    rfl
  obtain ⟨sa, ns, rfl, hs, hQ⟩ := h
  have hrX : Room 32 _ := hr
  refine ⟨_, (pss_cons (ps_set (i := 1) nd rfl (Or.inl rfl) (pe_cf h_law_pool hr pass0 (pa_cons (pv 0) (pa_cons pe_int pa_nil))))
    (pss_cons (ps_set (i := 2) nd rfl (Or.inl rfl) (pe_ix ix_list (pe_lst (pa_cons (pe_lst pa_nil) (pa_cons (pe_lst (pa_cons pe_str (pa_cons pe_str pa_nil))) pa_nil))) (pe_cf h_law_draw hr pass0 (pa_cons (pv 1) (pa_cons pe_int pa_nil))) (fun _ _ => rfl)))
    (C8.pss_cut (ps_if (pt_cmpR op_eq (pe_cf h_law_draw hr pass0 (pa_cons (pv 1) (pa_cons pe_int pa_nil))) pe_int (nomark _)) (pss_one (ps_set (i := 3) nd rfl (Or.inl rfl) (pe_cf h_law_walked hr pass0 (pa_cons (pv 1) (pa_cons (pv 2) pa_nil))))) (pss_cons (ps_set (i := 3) nd rfl (Or.inl rfl) (pe_cf h_law_words hr pass0 (pa_cons (pe_cf h_law_game hr pass0 (pa_cons (pv 1) (pa_cons pe_bl (pa_cons pe_int pa_nil)))) pa_nil)))
    (C8.pss_cut (ps_if (pt_cmpR op_eq (pe_cf h_law_draw hr pass0 (pa_cons (pv 1) (pa_cons pe_int pa_nil))) pe_int (nomark _)) (pss_cons (ps_set (i := 4) nd rfl (Or.inr rfl) (pe_disp (pps_cons pe_str pe_str (pps_cons pe_str pe_str (pps_cons pe_str pe_str (pps_cons pe_str pe_str (pps_cons pe_str pe_str (pps_cons pe_str pe_str (pps_cons pe_str pe_str pps_nil))))))) (by rfl) (by rfl) (fun z => by cases z) (by decide)))
    (pss_cons (ps_for PassesOwn.never rfl (pi_tup (pe_tup (pa_cons (pe_tup (pa_cons pe_str (pa_cons pe_str pa_nil))) (pa_cons (pe_tup (pa_cons pe_str (pa_cons pe_str pa_nil))) (pa_cons (pe_tup (pa_cons pe_str (pa_cons pe_str pa_nil))) (pa_cons (pe_tup (pa_cons pe_str (pa_cons pe_str pa_nil))) (pa_cons (pe_tup (pa_cons pe_str (pa_cons pe_str pa_nil))) (pa_cons (pe_tup (pa_cons pe_str (pa_cons pe_str pa_nil))) pa_nil)))))))) (pg_tup rfl (pgs_cons (pg_name (i := 5) nd rfl (Or.inl rfl)) (pgs_cons (pg_name (i := 6) nd rfl (Or.inl rfl)) pgs_nil))) (pss_one (ps_dput (hu_of hr) (pv 4) (pv 5) (pv 6) rfl)))
    (pss_one (ps_setLc (i := 3) (own := [("_law_word", 10)]) (g := gName 10) (tt := tYes) rfl nd rfl rfl (sw_true rfl rfl rfl (by decide +kernel)) (pi_list (pv 3)) (blkOk_by (by kernel_rfl)) (fun _ _ _ _ _ => pg_name (i := 10) nd rfl (Or.inl rfl)) (fun _ _ _ _ _ => pts_nil) (fun _ _ _ _ _ => (pe_dget2 (hu_of hr) (pv 4) (pv 10) (pv 10) ⟨rfl, rfl, rfl, rfl⟩)))))) pss_nil)
    (pss_one (ps_set (i := 3) nd rfl (Or.inl rfl) (pe_cf h_law_changed hr pass0 (pa_cons (pv 1) (pa_cons (pv 3) pa_nil))))))))
    (C8.pss_cut (ps_if (PW.pt (pw_and (pt_cmpR op_eq (pe_callB call_len (by rfl) T.f_len (by decide +kernel) (pa_cons (pv 3) pa_nil)) pe_int (nomark _)) (pw_and1 (pt_cmpR op_eq (pe_ix ix_list (pv 3) pe_int (fun _ _ => rfl)) pe_str (nomark _))))) (pss_one (ps_set (i := 3) nd rfl (Or.inl rfl) (pe_lst pa_nil))) pss_nil)
    (pss_cons (ps_set (i := 7) nd rfl (Or.inl rfl) (pe_cf h_law_wrong hr pass0 (pa_cons (pv 3) (pa_cons (pv 2) pa_nil))))
    (pss_cons (L2N.ps_try_as (i := 9) (tb := tTryB K) (ts := tTryS K) (Wout := fun _ _ _ _ => False) rfl rfl nd rfl rfl ⟨rfl, by decide, Or.inl B.bad.gC⟩ takes0N
      (fun W pn xe tk _ => by
        refine pss_one (ps_set (i := 8) nd rfl (Or.inl rfl) ?_)
        refine pe_cf (E := E0) h_game_text hrX pass0 ?_
        refine pa_cons ?_ pa_nil
        refine pe_cfS (E := WE W) h_read_game hrX (fun σ => L2N.passAt tk σ) ?_
        exact (pa_cons (pe_join pe_str (pv 3)) (pa_cons (pe_callTy call_tuple_of (by rfl) T.f_tuple (by decide +kernel) (pa_cons (pv 2) pa_nil)) pa_nil)))
      (fun a oe cls d pn hz hf => by
        refine pss_one (ps_ret ?_)
        refine pe_and (pe_cmpR op_notN (pv 7) pe_non (nomark _)) ?_
        refine pe_and (pe_cfH (E := fun _ _ _ _ => False) hH (hrH hrX) (hot_of hz hf) passS ?_) (pe_one ?_)
        · exact (pa_cons (pe_xf B.xf B.bad.noN hz.zc hf (pv 9)) (pa_cons (pv 7) pa_nil))
        · exact (pe_callB (call_isD B.ec hz.zc hf) (by rfl) T.f_isinstance (by decide +kernel) (pa_cons (pv 9) (pa_cons (pe_gk T.k_PlayError) pa_nil)))))
    (pss_one (ps_ret (pe_and (pe_cmpR op_isN (pv 7) pe_non (nomark _)) (pe_one (pe_cf h_law_same hr pass0 (pa_cons (pv 8) (pa_cons (pe_join pe_str (pv 3)) pa_nil))))))))))))), ?_⟩
  refine ⟨_, rfl, sa, 0, ns, rfl, hs, fun p a H1 k1 p1 => ?_⟩
  refine q_asgP (ep_ask rfl) p1 fun v H2 k2 p2 ⟨al, asked, ea, hask, nal, hal⟩ => ?_
  subst ea
  refine ⟨fun σ' H' => ∃ wl ws y4 y5 y6, σ' = [some (.ref sa), some (.ref p), some (.ref al), some (.ref wl), y4, y5, y6, none, none, none, none] ∧ H' wl = some (.lst ((ws : List Str).map V.str)) ∧ H' al = some (.lst (asked.map V.str)) ∧ (∀ x ∈ ws, OkW 207 x) ∧ ws.length ≤ 3012, ?_, ?_⟩
  · refine s_ifP rfl (by decide) (by decide) p2 (fun H3 k3 p3 => ?_) (fun H3 k3 p3 => ?_)
    · refine ⟨_, rfl, _, rfl, p, a, 0, al, asked, rfl, p3, nal, k3.get1 hal nal, ask_len hask, fun r ws' H4 k4 p4 nr hr hok hlen => ?_⟩
      exact ⟨r, ws', none, none, none, rfl, hr, (k3.trans k4).get1 hal nal, fun x hx => (hok x hx).mono (by decide), by omega⟩
    · refine ⟨_, rfl, p, a, 0, rfl, p3, fun g x H4 b4 k4 p4 hat hgd => ⟨x, g, rfl, hat, game_wd hgd, fun wl H5 hwl e5 h5 => ?_⟩⟩
      have hal5 := e5 _ _ ((k3.trans k4).get1 hal nal)
      have p5 : Pool H5 p a b4 := p4.kp (kp_ex e5 : Kp [] _ _) (by simp) (by simp)
      have nwl : wl ≠ p := pool_ne p4 hwl
      refine nx_ ?_
      refine ⟨fun σ' H' => ∃ wl ws y4 y5 y6, σ' = [some (.ref sa), some (.ref p), some (.ref al), some (.ref wl), y4, y5, y6, none, none, none, none] ∧ wl ≠ p ∧ Pool H' p a b4 ∧ H' wl = some (.lst ((ws : List Str).map V.str)) ∧ H' al = some (.lst (asked.map V.str)) ∧ (∀ x ∈ ws, OkW 12 x) ∧ ws.length ≤ 1000, ?_, ?_⟩
      · refine s_ifP rfl (by decide) (by decide) p5 (fun H6 k6 p6 => ?_) (fun H6 k6 p6 => ?_)
        · have hal6 := k6.get1 hal5 nal
          have hwl6 := k6.get1 h5 nwl
          refine fun dp hdp => ⟨upd_same, nmK, rfl, by decide, ?_⟩
          have em : mergeK [] nmK = nmK := by kernel_rfl
          rw [em]
          have kd : Kp [] H6 (upd (upd H6 dp (.dK [])) dp (.dK nmK)) := (Kp.new hdp : Kp [] _ _).newer hdp
          refine nx_ ?_
          refine ren_loop (l := nm1) (by decide) (by decide +kernel) upd_same (nmOk_of (by decide +kernel)) (by decide) fun H8 y5 y6 kvs' k8 hd8 hn8 => ?_
          have hk8 : ∀ {q : Addr} {o : HO}, H6 q = some o → H8 q = some o := fun h => k8.get1 (kd.get0 h) (ne_of_none h hdp)
          refine nx_ ?_
          refine lc_get (hk8 hwl6) hd8 hn8 (game_ok hgd) (Nat.le_trans (game_len hgd) (by decide)) fun r ws' H9 e9 hr h9 hok9 hlen9 => ?_
          have p8 : Pool H8 p a b4 := by
            obtain ⟨i, j, m, l, ns, g1, g2, g3⟩ := p6
            exact ⟨i, j, m, l, ns, hk8 g1, hk8 g2, g3⟩
          exact ⟨r, ws', _, _, _, rfl, pool_ne p8 hr, p8.kp (kp_ex e9 : Kp [] _ _) (by simp) (by simp), h9, e9 _ _ (hk8 hal6), hok9, hlen9⟩
        · exact ⟨wl, gameW g, none, none, none, rfl, nwl, p6, k6.get1 h5 nwl, k6.get1 hal5 nal, game_ok hgd, Nat.le_trans (game_len hgd) (by decide)⟩
      · rintro σ' H' ⟨wl, ws, y4, y5, y6, rfl, nw, pp, hw, ha, hok, hlen⟩
        refine ⟨_, rfl, _, rfl, p, a, b4, wl, ws, rfl, pp, nw, hw, hok, by omega, fun r ws' H'' k'' p'' nr hr hok' hlen' => ?_⟩
        exact ⟨r, ws', y4, y5, y6, rfl, hr, k''.get1 ha nal, hok', hlen'⟩
  · rintro σ' H' ⟨wl, ws, y4, y5, y6, rfl, hw, ha, hok, hlen⟩
    refine ⟨fun σ' H' => ∃ wl ws, σ' = [some (.ref sa), some (.ref p), some (.ref al), some (.ref wl), y4, y5, y6, none, none, none, none] ∧ H' wl = some (.lst ((ws : List Str).map V.str)) ∧ H' al = some (.lst (asked.map V.str)) ∧ (∀ x ∈ ws, OkW 207 x) ∧ ws.length ≤ 3012 ∧ ws ≠ [Str.empty], ?_, ?_⟩
    · have hen : ∀ {y : Str}, ws = [y] → y = Str.empty ∨ ws ≠ [Str.empty] := fun {y} e => by
        by_cases hy : y = Str.empty
        · exact .inl hy
        · exact .inr fun z => hy (by rw [e] at z; injection z)
      by_cases h1 : ws.length = 1
      · obtain ⟨y, rfl⟩ : ∃ y, ws = [y] := List.length_eq_one_iff.mp h1
        refine s_when (b := decide (y = ("" : Str))) (et_is (et_and (a := true) (et_is (et_eq (ev_lenl (ev_var rfl) (SqL.of hw)) ev_c rfl) (decide_eq_true rfl)) fun _ => et_eqS (ev_op (ev_var rfl) ev_c (rv_ixL (SqL.of hw) rfl)) ev_c) (Bool.true_and _)) (fun hb H5 e5 => ?_) (fun hb H5 e5 => ?_)
        · refine ⟨sz (show 0 ≤ 1000000 by decide), fun l hl => ?_⟩
          exact ⟨l, [], rfl, upd_same, get_new hl (e5 _ _ ha), fun x hx => (by cases hx), Nat.zero_le _, fun z => by cases z⟩
        · exact ⟨wl, [y], rfl, e5 _ _ hw, e5 _ _ ha, hok, hlen, fun z => dec_f hb (by injection z)⟩
      · refine s_when (b := false) (et_andF (et_is (et_eq (ev_lenl (ev_var rfl) (SqL.of hw)) ev_c rfl) ?_)) (fun hb => by cases hb) (fun hb H5 e5 => ?_)
        · refine decide_eq_false fun z => h1 ?_
          have := V.int.inj z
          rw [List.length_map] at this
          omega
        · exact ⟨wl, ws, rfl, e5 _ _ hw, e5 _ _ ha, hok, hlen, fun z => h1 (by rw [z]; rfl)⟩
    · rintro σ' H'' ⟨wl, ws, rfl, hw, ha, hok, hlen, hne⟩
      refine ⟨_, rfl, _, rfl, wl, al, ws, asked, rfl, SqL.of hw, ha, ask_len hask, by omega, fun x hx => Nat.le_trans (hok x hx).1 (by decide), fun H3 e3 => ?_⟩
      exact end_law B rfl (e3 _ _ hw) (e3 _ _ ha) hask hne hok hlen hQ
theorem law_all {fd : FuncData} (F : FunD K "law" "law" (defArgs (top 56)) (defBody (top 56)) (defScope (top 56)) [] [] (He.ga K "law") fd) (T : Txt K mg) (B : ErrB P K mg fI cc cda) : FnOk P w K mg base CX0 33 (He.ga K "law") fd ["_law_script"] (spLaw K) := by
  have h_draw : FnP P w K mg base CX0 1 "_law_draw" ["_law_pool_here", "_law_size"] spDraw := fn_law_draw T
  have h_number := fn_law_number (P := P) (w := w) (base := base) T h_draw
  have h_e6 : FnP P w K mg base CX0 6 "_law_expression" ["_law_pool_here", "_law_scope", "_law_deep"] (spE 3) := fn_law_expression T h_draw h_number 3
  have h_e7 : FnP P w K mg base CX0 7 "_law_expression" ["_law_pool_here", "_law_scope", "_law_deep"] (spE 4) := fn_law_expression T h_draw h_number 4
  have h_b20 : FnP P w K mg base CX0 20 "_law_block" ["_law_pool_here", "_law_scope", "_law_room", "_law_most"] (spBl 7) := fn_law_block T h_draw (fn_law_spend T) h_e6 7
  have h_game := fn_law_game T h_draw h_number h_e7 h_b20
  have h_vw : FnP P w K mg base CX0 11 "_law_value_words" ["_law_due"] (spVW 10) := fn_law_value_words T 10
  have h_bw : FnP P w K mg base CX0 19 "_law_block_words" ["_law_block_here"] (spBW 8) := fn_law_block_words T h_vw 8
  have h_words := fn_law_words T h_vw h_bw
  have h_isnum : FnP P w K mg base CX0 1 "_law_is_number" ["_law_word", "_law_least", "_law_most"] spIsNum := fn_law_is_number T
  have h_next := fn_law_next T h_isnum (fn_law_is_name T) (fn_law_values T h_isnum) (fn_law_blocks T (fn_law_begins T)) (fn_law_heads T)
  have h_wrong := fn_law_wrong T h_next
  have h_menu := fn_law_menu T h_draw
  have h_changed := fn_law_changed T h_draw h_menu (fn_law_signed T h_draw)
  have h_walked := fn_law_walked T h_draw h_menu h_wrong
  have h_ew : FnP P w K mg base CX0 11 "expression_words" ["expression"] (spVW 10) := fn_expression_words T 10
  have h_bw27 : FnP P w K mg base CX0 27 "block_words" ["block"] (spBW 8) := fn_block_words T h_ew 8
  have h_text := fn_game_text T h_ew h_bw27
  have h_word : MtP P w K mg base CX0 1 (He.ga K "Cursor") "word" ["self"] (spWord K) := fn_word T
  have h_fail : MtP P w K mg base (L2N.CX P w) 4 (He.ga K "Cursor") "fail" ["self"] (spFail K) := fn_fail T B.bad
  have h_take := fn_take T h_word h_fail
  have h_one := fn_take_one T h_word h_fail
  have h_new := fn_take_new T (fn_is_name T) h_word h_fail
  have h_num := fn_take_number T (fn_number_of T) h_word h_fail
  have h_re : FnP P w K mg base (L2N.CX P w) 14 "read_expression" ["cursor", "scope", "room"] (spRE K 9) := fn_read_expression T h_word h_take h_one h_num 9
  have h_rp := fn_read_plain T h_one h_num h_re
  have h_rb : FnP P w K mg base (L2N.CX P w) 30 "read_block" ["cursor", "scope", "room"] (spRB K 7) := fn_read_block T h_word (fn_begins T) h_take h_fail h_re h_rp 7
  have h_rows := fn_read_rows T h_word h_take h_new h_num
  have h_proc := fn_read_proc T h_word h_take h_new h_num h_re h_rb
  have h_rg := fn_read_game T (fn_Cursor T) (fn_Scope T) (fn_Game T) h_word h_fail h_take h_new h_num h_rows h_proc
  exact fn_law F T B (fnH_law_same T) (fn_law_same T) (fn_law_pool T) h_draw h_walked h_words h_game h_changed h_wrong h_text h_rg
end
end K4

/-! What the head tells: the facts of BadText, the tables; the Hook. -/
namespace K4
open PySem PySem.Spec PyProof.Rows L2
abbrev kFile : Str := PySem.Challenge.pw_tellsnone_k04_whole_texts_are_read_exact.main.file
def btC (K : PySem.W.Frag) : Addr := He.ga K "BadText"
def btI (K : PySem.W.Frag) : Addr := He.ma K (btC K) "__init__"
def btCc (K : PySem.W.Frag) : Addr := match K.lookup (btI K) with
  | some ⟨_, _, .func fd, _⟩ => (match fd.closure with
    | [(_, c)] => c
    | _ => 0)
  | _ => 0
def btCd (K : PySem.W.Frag) : Addr := match K.lookup (btI K) with
  | some ⟨_, _, .func fd, _⟩ => (match fd.code with
    | .ref c => c
    | _ => 0)
  | _ => 0
/-- C is its own first, ValueError's makers stand behind it -/
def clsB (K : PySem.W.Frag) (C : Addr) : Bool := match K.lookup C with
  | some ⟨.type t, _, .cls k, z⟩ => decide (t = "type") && (k.hasDict && (!k.hasDel && (match k.mro with
    | .ref a :: tl => decide (a = C) && HandSPX.refsVE tl
    | _ => false) && (match z.toList with
    | [_, _, _, _, some (.builtin m), _] => decide (m = "ValueError.__new__")
    | _ => false)))
  | _ => false
theorem clsB_ok {K : PySem.W.Frag} {C : Addr} (q : clsB K C = true) : ∃ nm q N bs bm sn sub ab col dd k0 k1 k2 k3 k5, K.lookup C = some (excClassObj nm q C N bs bm true sn sub ab col dd k0 k1 k2 k3 k5 "ValueError.__new__") ∧ HandSPX.refsVE bm = true := by
  unfold clsB at q
  split at q
  case h_2 => cases q
  case h_1 t dd k z hl =>
    obtain ⟨q1, q⟩ := He.ba q
    obtain ⟨q2, q⟩ := He.ba q
    obtain ⟨q, q5⟩ := He.ba q
    obtain ⟨q3, q4⟩ := He.ba q
    have e1 := of_decide_eq_true q1
    obtain ⟨c1, c2, c3, c4, c5, c6, c7, c8, c9, c10, c11⟩ := k
    have e2 : c6 = true := q2
    have e3 : c11 = false := by simpa using q3
    subst e1 e2 e3
    cases c3 with
    | nil => cases q4
    | cons b tl =>
      cases b with
      | ref a =>
        obtain ⟨e4, e5⟩ := He.ba (show (decide (a = C) && HandSPX.refsVE tl) = true from q4)
        have e6 := of_decide_eq_true e4
        subst e6
        obtain ⟨l⟩ := z
        dsimp only at q5
        split at q5
        · have e7 := of_decide_eq_true q5
          subst e7
          exact ⟨_, _, _, _, tl, _, _, _, _, dd, _, _, _, _, _, hl, e5⟩
        · cases q5
      | _ => cases q4
abbrev FnI : Type := Option (Str × Str × Arguments × FuncBody × Scope × Addr × List Str × Addr × Value × Value)
def fnI (K : PySem.W.Frag) : FnI := match K.lookup (btI K) with
  | some ⟨_, _, .func fd, _⟩ => some (fd.name, fd.qualname, fd.params, fd.body, fd.scope, fd.globals, fd.closure.map (·.1), fd.builtins, fd.defaults, fd.kwdefaults)
  | _ => none
def valI : FnI := some ("__init__", "BadText.__init__", BadX.iA, .stmts BadX.iB, BadX.iS, mainGlobals, ["__class__"], builtinsNs, .none, .none)
def codeB (K : PySem.W.Frag) : Bool := match K.lookup (btI K) with
  | some ⟨_, _, .func fd, _⟩ => (match fd.code with
    | .ref c => PySem.W.codeIn K (.ref c) "BadText.__init__"
    | _ => false)
  | _ => false
def fileB (K : PySem.W.Frag) : Bool := match K.lookup (btCd K) with
  | some ⟨_, _, .fields vs, _⟩ => (match vs[2]? with
    | some (Value.str z _) => kFile == z
    | _ => false)
  | _ => false
def cellB (K : PySem.W.Frag) : Bool := match K.lookup (btCc K) with
  | some ⟨_, _, .cell (some (.ref c)), _⟩ => c == btC K
  | _ => false
theorem fileB_ok {K : PySem.W.Frag} (h : fileB K = true) : ∃ (ccl : Value) (cdd : Option Addr) (vs : Array Value) (ccs : Array (Option Value)) (file : Str) (tf : Tok), K.lookup (btCd K) = some ⟨ccl, cdd, .fields vs, ccs⟩ ∧ vs[2]? = some (.str file tf) ∧ (kFile == file) = true := by
  unfold fileB at h
  split at h
  · rename_i a b vs c e
    split at h
    · rename_i z t e2
      exact ⟨_, _, vs, _, z, t, e, e2, h⟩
    · cases h
  · cases h
theorem cellB_ok {K : PySem.W.Frag} (h : cellB K = true) : ∃ (cl : Value) (cld : Option Addr) (csl : Array (Option Value)), K.lookup (btCc K) = some ⟨cl, cld, .cell (some (.ref (btC K))), csl⟩ := by
  unfold cellB at h
  split at h
  · rename_i a b c d e
    have e3 : c = btC K := beq_iff_eq.mp h
    subst e3
    exact ⟨_, _, _, e⟩
  · cases h
theorem fnI_ok {K : PySem.W.Frag} (e : fnI K = valI) (c : codeB K = true) : ∃ (oc : Value) (od : Option Addr) (doc pm : Value) (an : Option Addr) (ct : Value) (osl : Array (Option Value)),
    K.lookup (btI K) = some ⟨oc, od, .func (PySem.W.ksFn "__init__" "BadText.__init__" BadX.iA BadX.iB BadX.iS .none .none doc pm an (.ref (btCd K)) ct (btCc K)), osl⟩ ∧ PySem.W.codeIn K (.ref (btCd K)) "BadText.__init__" = true := by
  have e0 : fnI K = valI := e
  have c0 : codeB K = true := c
  unfold fnI at e
  unfold codeB at c
  cases q : K.lookup (btI K) with
  | none =>
    rw [q] at e
    cases e
  | some o =>
    obtain ⟨oc, od, dt, osl⟩ := o
    rw [q] at e c
    cases dt with
    | func fd =>
      obtain ⟨n1, n2, n3, n4, n5, n6, n7, n8, n9, n10, n11, n12, n13, n14, n15⟩ := fd
      have e2 : (some (n1, n2, n3, n4, n5, n6, n7.map (·.1), n15, n8, n9) : FnI) = (some (("__init__" : Str), ("BadText.__init__" : Str), BadX.iA, FuncBody.stmts BadX.iB, BadX.iS, mainGlobals, [("__class__" : Str)], builtinsNs, Value.none, Value.none) : FnI) := e
      simp only [Option.some.injEq, Prod.mk.injEq] at e2
      obtain ⟨h1, h2, h3, h4, h5, h6, h7, h8, h9, h10⟩ := e2
      subst h1 h2 h3 h4 h5 h6 h8 h9 h10
      have hcd : ∃ a, n13 = .ref a := by
        cases n13 with
        | ref a => exact ⟨a, rfl⟩
        | _ => cases c
      obtain ⟨a, rfl⟩ := hcd
      have hcl : ∃ cc : Addr, n7 = [(("__class__" : Str), cc)] := by
        cases n7 with
        | nil => cases h7
        | cons p r =>
          obtain ⟨px, pc⟩ := p
          rw [List.map_cons] at h7
          injection h7 with h7a h7b
          cases r with
          | nil =>
            have h7a' : px = "__class__" := h7a
            subst h7a'
            exact ⟨pc, rfl⟩
          | cons _ _ => cases h7b
      obtain ⟨cc, rfl⟩ := hcl
      have ecc : btCc K = cc := by
        unfold btCc
        rw [q]
      have ecd : btCd K = a := by
        unfold btCd
        rw [q]
      rw [ecc, ecd]
      exact ⟨oc, od, n10, n11, n12, n14, osl, rfl, c⟩
    | _ => cases e
/-- all that is looked at, but the defs -/
def errBs (K : PySem.W.Frag) : List Bool := [clsB K (btC K), He.eqO (PySem.W.findIn K (.ref (btC K)) "__setattr__") (some (some (.builtin "object.__setattr__"))), He.eqO (PySem.W.findIn K (.ref (btC K)) "at") (some none), He.eqO (PySem.W.findIn K (.ref (btC K)) "__init__") (some (some (.ref (btI K)))),
  decide (PySem.W.typeIn K (.ref (btI K)) = some (.type "function")), PySem.W.keepIn K (.ref (btC K)), decide (PySem.W.subIn K (.ref (btC K)) (.type "BaseException") = some true), decide (PySem.W.typeIn K (.ref (btC K)) = some (.type "type")), decide (PySem.W.subIn K (.ref (btC K)) (.type "ValueError") = some true),
  decide (PySem.W.mroIn K (btC K) (.ref (btC K)) = some true), He.eqO (PySem.W.ks_superIn K (btC K) (btC K) "__init__") (some (some (.builtin "ValueError.__init__"))), He.eqO (PySem.W.nsIn K cStatics "thirdparty.any") (some none), He.eqO (PySem.W.nsIn K mainGlobals "super") (some none), codeB K, fileB K, cellB K,
  xfB K (btC K), He.eqO (PySem.W.findIn K (.ref (btC K)) "__class__") (some (some (.builtin "object.__class__"))), He.eqO (PySem.W.specialIn K (.builtin "object.__class__") "__get__") (some (some (.builtin "getset_descriptor.__get__"))), decide (PySem.W.takesIn K (.builtin "object.__class__") = some true), decide (PySem.W.mroIn K (btC K) (.type "object") = some true),
  decide (PySem.W.kitOne K (.ref (btC K)) (.ref (He.ga K "PlayError")) = some true), decide (PySem.W.exmOne K (.ref (btC K)) (.ref (btC K)) = some true), He.tupB K "KEYWORDS" (kws.map He.Dv.str), He.tupB K "SIGNS" (signs.map He.Dv.str)]
def errB (K : PySem.W.Frag) : Bool := (errBs K).all id
theorem errB_at {K : PySem.W.Frag} (h : errB K = true) (i : Nat) {b : Bool} (e : (errBs K)[i]? = some b) : b = true := List.all_eq_true.mp h b (List.mem_of_getElem? e)
section
variable {P : Program} {K : PySem.W.Frag} {mg : Str → Option Value}
theorem errB_ok (T : Txt K mg) (h : errB K = true) (e : fnI K = valI) (hP : P.main.file = kFile) (htop : (P.main.scope.names.lookup ("super" : Str)).isSome = false) : ErrB P K mg (btI K) (btCc K) (btCd K) where
  bad :=
    { gC := T.g_BadText
      cls := clsB_ok (errB_at h 0 rfl)
      sa := He.eqO_ok (errB_at h 1 rfl)
      noN := He.eqO_ok (errB_at h 2 rfl)
      iC := He.eqO_ok (errB_at h 3 rfl)
      tC := of_decide_eq_true (errB_at h 4 rfl)
      kC := errB_at h 5 rfl
      exC := of_decide_eq_true (errB_at h 6 rfl)
      tyC := of_decide_eq_true (errB_at h 7 rfl)
      vE := of_decide_eq_true (errB_at h 8 rfl)
      mro := of_decide_eq_true (errB_at h 9 rfl)
      sup := He.eqO_ok (errB_at h 10 rfl)
      any := He.eqO_ok (errB_at h 11 rfl)
      nosup := T.mgs _ _ (He.eqO_ok (errB_at h 12 rfl))
      htop := htop
      fn := fnI_ok e (errB_at h 13 rfl)
      code := by
        rw [hP]
        exact fileB_ok (errB_at h 14 rfl)
      cell := cellB_ok (errB_at h 15 rfl) }
  xf := xfB_ok (errB_at h 16 rfl)
  ec :=
    { hg := (xfB_ok (errB_at h 16 rfl) : XfC K (btC K)).ga
      hk := (xfB_ok (errB_at h 16 rfl) : XfC K (btC K)).gg
      hs := of_decide_eq_true (errB_at h 6 rfl)
      hd := (xfB_ok (errB_at h 16 rfl) : XfC K (btC K)).hdC
      ha := He.eqO_ok (errB_at h 17 rfl)
      hn := He.eqO_ok (errB_at h 18 rfl)
      ht := of_decide_eq_true (errB_at h 19 rfl)
      hm := of_decide_eq_true (errB_at h 20 rfl) }
  isP := of_decide_eq_true (errB_at h 21 rfl)
  exm := of_decide_eq_true (errB_at h 22 rfl)
end
/-! ### the Hook -/
abbrev AlK : Type := Bool × List He.FnW × FnI
def obsK (K : PySem.W.Frag) : AlK := (((faL.all fun f => f.ok K) && fnL.all fun d => d.ok K) && errB K, fnL.map fun d => He.fnW K d.at_, fnI K)
def valK : AlK := (true, fnL.map He.DefD.val, valI)
def obsKG (g : Addr → Option Obj) : AlK := obsK (He.frG g (cStatics :: He.asD g 5))
def hookK : PySem.W.Hook where
  α := AlK
  obs := fun s => obsKG s.heap.get?
  val := fun _ => valK
  says := fun _ h => ∃ K : PySem.W.Frag, K.In h ∧ obsK K = valK
  of := fun _ _ e => ⟨_, He.frG_in, e⟩
  keeps := fun _ _ _ ⟨K, hK, c⟩ k => ⟨K, PySem.W.Frag.In.keeps hK k, c⟩
theorem obsKG_eq {g : Addr → Option Obj} {s : Shared} (h : ∀ a, g a = s.heap.get? a) : obsKG g = hookK.obs s := by
  have e : g = s.heap.get? := funext h
  rw [e] <;> rfl
theorem txt_of {K : PySem.W.Frag} {h : Heap} {mg : Str → Option Value} (X : K.In h) (G : h.Ns mainGlobals mg) (c : obsK K = valK) : Txt K mg ∧ errB K = true ∧ fnI K = valI := by
  have c1 : (((faL.all fun f => f.ok K) && fnL.all fun d => d.ok K) && errB K) = true := congrArg (fun z : AlK => z.1) c
  have c2 : fnL.map (fun d => He.fnW K d.at_) = fnL.map He.DefD.val := congrArg (fun z : AlK => z.2.1) c
  have c3 : fnI K = valI := congrArg (fun z : AlK => z.2.2) c
  obtain ⟨c4, c5⟩ := He.ba c1
  refine ⟨⟨?_, fun x r e => ?_, fun H => ?_, fun H => ?_⟩, c5, c3⟩
  · show He.obsD faL fnL K = He.valD fnL
    unfold He.obsD He.valD
    rw [c4, c2]
  · cases r with
    | none => exact PySem.W.mg_none_of X G e
    | some v => exact PySem.W.mg_of X G e
  · have t := He.tupB_ok (errB_at c5 23 rfl) H
    rw [List.map_map] at t
    exact t
  · have t := He.tupB_ok (errB_at c5 24 rfl) H
    rw [List.map_map] at t
    exact t
end K4

set_option maxHeartbeats 0
namespace K4
open PySem PySem.W PySem.Calls PyProof.Rows
abbrev Rw : OpenRow := OpenLaw.row PySem.Challenge.rw_tellsnone_k04_whole_texts_are_read_exact
def loose0 : List PySem.Str := ["PlayError", "BadText", "KEYWORDS", "GREATEST", "DIGITS", "LETTERS", "is_name", "number_of", "Cursor", "SIGNS", "MOST_DRAW", "MOST_NAMES", "DEEPEST", "DEEPEST_IF", "Game", "Scope", "read_game", "read_rows", "read_proc", "read_block", "begins", "read_statement", "read_plain", "read_expression", "expression_words", "statement_words", "block_words", "game_text"]
def loose1 : List PySem.Str := ["_law_pool", "_law_draw", "_law_spend", "_law_number", "_law_same", "_law_expression", "_law_statement", "_law_block", "_law_game", "_law_value_words", "_law_block_words", "_law_words", "_law_is_name", "_law_is_number", "_law_values", "_law_begins", "_law_blocks", "_law_heads", "_law_next", "_law_wrong", "_law_menu", "_law_signed", "_law_changed", "_law_walked"]
def looseN : List PySem.Str := loose0 ++ loose1
def obT (s : SharedT) : AlK := obsKG (HandSHeadRun.getT s)
theorem obT_eq (s : SharedT) : obT s = hookK.obs s.abs := obsKG_eq (HandSHeadRun.getT_eq s)
theorem runH (w : World) : HandSHeadRun.RunEq Rw (view Rw.prog [56]) hookK obT 20000 looseN w := by
  intro os
  kernel_rfl
end K4

namespace K4
open PySem PySem.Spec PyProof.Rows L2
theorem facts {w : World} {K : PySem.W.Frag} {h : Heap} {mg : Str → Option Value} {f : Addr} (X : K.In h) (G : h.Ns mainGlobals mg) (hfa : mg ("law" : Str) = some (.ref f)) (c : obsK K = valK) :
    ∃ fd : FuncData, (∀ (s : Shared) (v : Value), BindsTo s fd ⟨[v], []⟩ [("_law_script", v)]) ∧ ∀ base : Heap, K.In base → base.Ns mainGlobals mg → FnOk Rw.prog w K mg base CX0 33 f fd ["_law_script"] (spLaw K) := by
  obtain ⟨T, h1, h2⟩ := txt_of X G c
  have B : ErrB Rw.prog K mg (btI K) (btCc K) (btCd K) := errB_ok T h1 h2 rfl (by decide +kernel)
  obtain ⟨fd, F⟩ := T.d_law
  have e := hfa.symm.trans T.g_law
  cases e
  have b := FunD.bindsA (ps := ["_law_script"]) F fun _ _ _ _ _ _ us hl => match us, hl with | [_], _ => rfl
  exact ⟨fd, fun s v => b s [v] rfl, fun base _ _ => law_all F T B⟩
end K4
open PySem PySem.W PySem.Calls PyProof.Rows
theorem PySem.Challenge.cw_tellsnone_k04_whole_texts_are_read_exact_holds : PySem.Challenge.rw_tellsnone_k04_whole_texts_are_read_exact.Holds := by
  w_on; o_law
  refine HandSHeadRun.head_any (r := OpenLaw.row PySem.Challenge.rw_tellsnone_k04_whole_texts_are_read_exact) (q := view (OpenLaw.row PySem.Challenge.rw_tellsnone_k04_whole_texts_are_read_exact).prog [56]) (H := K4.hookK) (ob := K4.obT) (M := 20000) (loose := K4.looseN) (d := HandSHeadRun.topDef (OpenLaw.row PySem.Challenge.rw_tellsnone_k04_whole_texts_are_read_exact).prog 56) (kwd := []) K4.obT_eq
    (by kernel_rfl) (fun s => by kernel_rfl) K4.runH (by kernel_rfl) (by kernel_rfl) (by kernel_rfl) (by rfl) (by first | assumption | decide +kernel) (by decide +kernel) ⟨rfl, rfl, rfl, rfl, rfl, by decide +kernel⟩ ?hw ?hc
  case hw => w_witness2
  case hc =>
    refine L2.walk_ofE (l := PySem.Challenge.rw_tellsnone_k04_whole_texts_are_read_exact) (n := 63) (k := 33) (x := "_law_script") (CX := L2.CX0) rfl (by decide) (by kernel_rfl) ⟨rfl, by decide, by decide⟩ ?F (fun _ _ _ _ z => z)
    intro w mg fa h Y G hmg0
    obtain ⟨K, KX, c⟩ := Y
    have hmg : mg ("law" : PySem.Str) = some (.ref fa) := by
      have e : (HandSHeadRun.topDef (OpenLaw.row PySem.Challenge.rw_tellsnone_k04_whole_texts_are_read_exact).prog 56).name = ("law" : PySem.Str) := by kernel_rfl
      rw [← e]
      exact hmg0
    obtain ⟨fd, hb, hF⟩ := K4.facts (w := w) KX G hmg c
    exact ⟨K, fd, K4.spLaw K, KX, hb, fun H a ns hl _ hS => ⟨a, ns, rfl, hS, fun _ => rfl⟩, hF⟩
